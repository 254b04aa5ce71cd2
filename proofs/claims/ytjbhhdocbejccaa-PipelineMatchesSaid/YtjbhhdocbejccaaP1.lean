/- Chapter 43: pipelines as data; shader, shaders, linked, Validate of package pipeline. No condition beyond those that each theorem states. -/
import Derived.Test.YtjbhhdocbejccaaVb
import Derived.Test.YtjbhhdocbejccaaF
namespace Go.Proofs.Ytjbhhdocbejccaa.Pl
open Go Go.RowKit Go.Proofs.Ytjbhhdocbejccaa.Am
open Go.Proofs.Ytjbhhdocbejccaa.Am renaming ex_nil → κa,ex_cons → κb,exK_some → κc,st_n → κd,st_g → κe,gd_b → κf,gd_u → κg,rn_v → κh,rn_m → κi,rn_s → κj,rn_a → κk,think → κl,prep → κm,mkDsts → κn,ev → κp,upd → κq,init → κr,forgetBox → κu,pvs → κx,fillX → κy,chunks → κz,binV → κa1,xints → κb1,ldX → κc1,baseOk → κe1,fg_p → κf1,fg_tk → κg1,mkG → κh1,tab → κj1,c3 → κa3
open Go.Proofs.Ytjbhhdocbejccaa.Am.St renaming clear → κo,put → κt,of → κk1
open Go.Proofs.Ytjbhhdocbejccaa.Am.PV renaming av → κs
open Go.Proofs.Ytjbhhdocbejccaa.Am.AV renaming cells → κv,pv → κw,plain → κd1
open Go.Proofs.Ytjbhhdocbejccaa.Am.Sig renaming spec → κi1
open List renaming getElem?_cons_zero → κl1,getElem?_cons_succ → κm1,getElem?_nil → κn1,map_cons → κu1,map_nil → κv1,drop_succ_cons → κw1,drop_zero → κx1,take_succ_cons → κy1,take_zero → κz1,length_cons → κa2,length_nil → κb2,length_append → κc2,cons_append → κd2,nil_append → κe2,append_nil → κf2
open Option renaming map_some → κo1,map_none → κp1,bind_some → κq1,isSome_some → κr1,isSome_none → κs1
open Nat renaming reduceEqDiff → κt1,reduceAdd → κg2,reduceMul → κh2,reduceLeDiff → κi2,reduceBEq → κj2,zero_le → κk2,le_refl → κl2,zero_add → κm2,add_zero → κn2
open Bool renaming not_true → κo2,not_false → κp2,false_eq_true → κq2,true_eq_false → κc3
open Int renaming reduceBEq → κr2,reduceBNe → κs2,reduceLT → κt2,reduceLE → κu2,reduceAdd → κv2,reduceToNat → κw2,toNat_zero → κx2,reduceEq → κy2,toNat_natCast → κz2,le_refl → κb3
set_option linter.unusedVariables false
set_option linter.unusedSimpArgs false
set_option maxHeartbeats 16000000
set_option maxRecDepth 100000
structure Pl where
  v : Pg
  g : Pg
  f : Pg
  ats : List At
  hg : Bool
  fc : Bool
  dt : Bool
  dw : Bool
  se : Bool
  be : Bool
  topo : Int
  cull : Int
  vx : Int
  vy : Int
  vw : Int
  vh : Int
  vn : Int
  vm : Int
  dc : Int
  db : Int
  f1 : Int
  f2 : Int
  f3 : Int
  f4 : Int
  b1 : Int
  b2 : Int
  b3 : Int
  b4 : Int
  sr : Int
  sm : Int
  sw : Int
  c1 : Int
  c2 : Int
  c3 : Int
  c4 : Int
  c5 : Int
  c6 : Int
  bm : Int
  smp : Int
  fmt : Int
  dfm : Int
def Pl.cs (p : Pl) : List CV := [.int .i64 p.v.st,.int .i64 p.v.rg,.int .i64 p.v.inp,.int .i64 p.v.out,.int .i64 p.v.un,.int .i64 p.v.tx,.int .i64 p.v.bf,.sl 6 (p.v.code.map Ins.cs),.int .i64 p.g.st,.int .i64 p.g.rg,.int .i64 p.g.inp,.int .i64 p.g.out,.int .i64 p.g.un,.int .i64 p.g.tx,.int .i64 p.g.bf,.sl 6 (p.g.code.map Ins.cs),.int .i64 p.f.st,.int .i64 p.f.rg,.int .i64 p.f.inp,.int .i64 p.f.out,.int .i64 p.f.un,.int .i64 p.f.tx,.int .i64 p.f.bf,.sl 6 (p.f.code.map Ins.cs),.bool p.hg,.sl 4 (p.ats.map At.cs),.int .i64 p.topo,.int .i64 p.cull,.bool p.fc,.int .i64 p.vx,.int .i64 p.vy,.int .i64 p.vw,.int .i64 p.vh,.int .i64 p.vn,.int .i64 p.vm,.bool p.dt,.bool p.dw,.int .i64 p.dc,.int .i64 p.db,.bool p.se,.int .i64 p.f1,.int .i64 p.f2,.int .i64 p.f3,.int .i64 p.f4,.int .i64 p.b1,.int .i64 p.b2,.int .i64 p.b3,.int .i64 p.b4,.int .i64 p.sr,.int .i64 p.sm,.int .i64 p.sw,.bool p.be,.int .i64 p.c1,.int .i64 p.c2,.int .i64 p.c3,.int .i64 p.c4,.int .i64 p.c5,.int .i64 p.c6,.int .i64 p.bm,.int .i64 p.smp,.int .i64 p.fmt,.int .i64 p.dfm]
def Pl.xs (p : Pl) : List XV := [.p (.int .i64 p.v.st),.p (.int .i64 p.v.rg),.p (.int .i64 p.v.inp),.p (.int .i64 p.v.out),.p (.int .i64 p.v.un),.p (.int .i64 p.v.tx),.p (.int .i64 p.v.bf),.p (.sl 6 (p.v.code.map Ins.cs)),.p (.int .i64 p.g.st),.p (.int .i64 p.g.rg),.p (.int .i64 p.g.inp),.p (.int .i64 p.g.out),.p (.int .i64 p.g.un),.p (.int .i64 p.g.tx),.p (.int .i64 p.g.bf),.p (.sl 6 (p.g.code.map Ins.cs)),.p (.int .i64 p.f.st),.p (.int .i64 p.f.rg),.p (.int .i64 p.f.inp),.p (.int .i64 p.f.out),.p (.int .i64 p.f.un),.p (.int .i64 p.f.tx),.p (.int .i64 p.f.bf),.p (.sl 6 (p.f.code.map Ins.cs)),.p (.bool p.hg),.p (.sl 4 (p.ats.map At.cs)),.p (.int .i64 p.topo),.p (.int .i64 p.cull),.p (.bool p.fc),.p (.int .i64 p.vx),.p (.int .i64 p.vy),.p (.int .i64 p.vw),.p (.int .i64 p.vh),.p (.int .i64 p.vn),.p (.int .i64 p.vm),.p (.bool p.dt),.p (.bool p.dw),.p (.int .i64 p.dc),.p (.int .i64 p.db),.p (.bool p.se),.p (.int .i64 p.f1),.p (.int .i64 p.f2),.p (.int .i64 p.f3),.p (.int .i64 p.f4),.p (.int .i64 p.b1),.p (.int .i64 p.b2),.p (.int .i64 p.b3),.p (.int .i64 p.b4),.p (.int .i64 p.sr),.p (.int .i64 p.sm),.p (.int .i64 p.sw),.p (.bool p.be),.p (.int .i64 p.c1),.p (.int .i64 p.c2),.p (.int .i64 p.c3),.p (.int .i64 p.c4),.p (.int .i64 p.c5),.p (.int .i64 p.c6),.p (.int .i64 p.bm),.p (.int .i64 p.smp),.p (.int .i64 p.fmt),.p (.int .i64 p.dfm)]
theorem pg_inj8 {a b : Pg} (h1 : a.st = b.st) (h2 : a.rg = b.rg) (h3 : a.inp = b.inp) (h4 : a.out = b.out) (h5 : a.un = b.un) (h6 : a.tx = b.tx) (h7 : a.bf = b.bf) (h8 : a.code.map Ins.cs = b.code.map Ins.cs) : a = b := by
  have h9 := map_inj Ins.cs_inj h8
  cases a; cases b; simp only at h1 h2 h3 h4 h5 h6 h7 h9
  subst h1 h2 h3 h4 h5 h6 h7 h9; rfl
theorem Pl.cs_inj (a b : Pl) (h : a.cs = b.cs) : a = b := by
  simp only [Pl.cs,List.cons.injEq,CV.int.injEq,CV.sl.injEq,CV.bool.injEq,true_and,and_true] at h
  obtain ⟨h0,h1,h2,h3,h4,h5,h6,h7,h8,h9,h10,h11,h12,h13,h14,h15,h16,h17,h18,h19,h20,h21,h22,h23,h24,h25,h26,h27,h28,h29,h30,h31,h32,h33,h34,h35,h36,h37,h38,h39,h40,h41,h42,h43,h44,h45,h46,h47,h48,h49,h50,h51,h52,h53,h54,h55,h56,h57,h58,h59,h60,h61⟩ := h
  have e1 := pg_inj8 h0 h1 h2 h3 h4 h5 h6 h7
  have e2 := pg_inj8 h8 h9 h10 h11 h12 h13 h14 h15
  have e3 := pg_inj8 h16 h17 h18 h19 h20 h21 h22 h23
  have e4 := map_inj At.cs_inj h25
  cases a; cases b
  simp only at e1 e2 e3 e4 h24 h26 h27 h28 h29 h30 h31 h32 h33 h34 h35 h36 h37 h38 h39 h40 h41 h42 h43 h44 h45 h46 h47 h48 h49 h50 h51 h52 h53 h54 h55 h56 h57 h58 h59 h60 h61
  subst e1 e2 e3 e4 h24 h26 h27 h28 h29 h30 h31 h32 h33 h34 h35 h36 h37 h38 h39 h40 h41 h42 h43 h44 h45 h46 h47 h48 h49 h50 h51 h52 h53 h54 h55 h56 h57 h58 h59 h60 h61
  rfl
def encPl (p : Pl) : List PV := [.agg p.cs]
theorem encPl_inj (a b : Pl) (h : encPl a = encPl b) : a = b := by
  simp only [encPl,List.cons.injEq,PV.agg.injEq,and_true] at h
  exact Pl.cs_inj _ _ h
/-! ### programs of a stage -/
def shB (p : Pg) (s : Int) : Bool := decide (p.st = s ∧ validS p = 0)
def encSh (a : Pg × Int) : List PV := [.agg a.1.cs,.c (.int .i64 a.2)]
theorem encSh_inj (a b : Pg × Int) (h : encSh a = encSh b) : a = b := by
  obtain ⟨a1,a2⟩ := a; obtain ⟨b1,b2⟩ := b
  simp only [encSh,List.cons.injEq,PV.agg.injEq,PV.c.injEq,CV.int.injEq,true_and,and_true] at h
  rw [Pg.cs_inj _ _ h.1,h.2]
noncomputable def pl_shader.S : Am.Spec := cSpec encSh fun a => some (rBool (shB a.1 a.2))
theorem shS_eq (p : Pg) (s : Int) : pl_shader.S [.agg [.int .i64 p.st,.int .i64 p.rg,.int .i64 p.inp,.int .i64 p.out,.int .i64 p.un,.int .i64 p.tx,.int .i64 p.bf,.sl 6 (p.code.map Ins.cs)],.c (.int .i64 s)] = some (rBool (shB p s)) := cSpec_eq encSh_inj (p,s)
theorem pl_shader.ok : SpecOK Try.prog 40 pl_shader.S := cSpec_ok fun a r h => by
  obtain ⟨p,s⟩ := a
  cases h
  refine runC_law (n := 0) Try.func40 pl_shader.tr rfl hE (ok_cons isa_Validate.ok ok_nil) ?_
  have hV := validS_eq p
  by_cases h1 : p.st = s
  · have g1 : (p.st == s) = true := by simpa using h1
    by_cases h2 : validS p = 0
    · have g2 : (validS p == 0) = true := by simpa using h2
      have hp : shB p s = true := decide_eq_true ⟨h1,h2⟩
      simp only [hp]
      simp -implicitDefEqProofs only [runC,mrun,result,AV.fin,XV.fin,Option.bind,Option.map,pl_shader.r0,pl_shader.r1,pl_shader.m,κa,κb,κc,κd,κe,κf,κg,κh,κi,κj,κk,κl,κm,κn,κo,κp,κq,κr,κs,κt,κu,κv,κw,κx,κy,κz,κa1,κb1,κc1,κd1,κe1,κf1,κg1,κh1,κi1,κj1,κk1,κl1,κm1,κn1,κo1,κp1,κq1,κr1,κs1,if_true,if_false,reduceIte,κt1,κu1,κv1,κw1,κx1,κy1,κz1,κa2,κb2,κc2,κd2,κe2,κf2,κg2,κh2,κi2,κj2,κk2,κl2,κm2,κn2,κo2,κp2,κq2,reduceCtorEq,κr2,κs2,κt2,κu2,κv2,κw2,κx2,κy2,κz2,κa3,eq_self,κb3,κc3,zL,encSh,Pg.cs,rBool,rInt,hV,g1,g2]
    · have g2 : (validS p == 0) = false := by simpa using h2
      have hp : shB p s = false := decide_eq_false (fun h => h2 h.2)
      simp only [hp]
      simp -implicitDefEqProofs only [runC,mrun,result,AV.fin,XV.fin,Option.bind,Option.map,pl_shader.r0,pl_shader.r1,pl_shader.m,κa,κb,κc,κd,κe,κf,κg,κh,κi,κj,κk,κl,κm,κn,κo,κp,κq,κr,κs,κt,κu,κv,κw,κx,κy,κz,κa1,κb1,κc1,κd1,κe1,κf1,κg1,κh1,κi1,κj1,κk1,κl1,κm1,κn1,κo1,κp1,κq1,κr1,κs1,if_true,if_false,reduceIte,κt1,κu1,κv1,κw1,κx1,κy1,κz1,κa2,κb2,κc2,κd2,κe2,κf2,κg2,κh2,κi2,κj2,κk2,κl2,κm2,κn2,κo2,κp2,κq2,reduceCtorEq,κr2,κs2,κt2,κu2,κv2,κw2,κx2,κy2,κz2,κa3,eq_self,κb3,κc3,zL,encSh,Pg.cs,rBool,rInt,hV,g1,g2]
  · have g1 : (p.st == s) = false := by simpa using h1
    have hp : shB p s = false := decide_eq_false (fun h => h1 h.1)
    simp only [hp]
    simp -implicitDefEqProofs only [runC,mrun,result,AV.fin,XV.fin,Option.bind,Option.map,pl_shader.r0,pl_shader.r1,pl_shader.m,κa,κb,κc,κd,κe,κf,κg,κh,κi,κj,κk,κl,κm,κn,κo,κp,κq,κr,κs,κt,κu,κv,κw,κx,κy,κz,κa1,κb1,κc1,κd1,κe1,κf1,κg1,κh1,κi1,κj1,κk1,κl1,κm1,κn1,κo1,κp1,κq1,κr1,κs1,if_true,if_false,reduceIte,κt1,κu1,κv1,κw1,κx1,κy1,κz1,κa2,κb2,κc2,κd2,κe2,κf2,κg2,κh2,κi2,κj2,κk2,κl2,κm2,κn2,κo2,κp2,κq2,reduceCtorEq,κr2,κs2,κt2,κu2,κv2,κw2,κx2,κy2,κz2,κa3,eq_self,κb3,κc3,zL,encSh,Pg.cs,rBool,rInt,hV,g1]
def zeroB (p : Pg) : Bool := decide (p.st = 0 ∧ p.rg = 0 ∧ p.inp = 0 ∧ p.out = 0 ∧ p.un = 0 ∧ p.tx = 0 ∧ p.bf = 0 ∧ p.code.length = 0)
def encEq (p : Pg) : List PV := [.agg p.cs,.agg [.int .i64 0,.int .i64 0,.int .i64 0,.int .i64 0,.int .i64 0,.int .i64 0,.int .i64 0,.sl 0 []]]
theorem encEq_inj (a b : Pg) (h : encEq a = encEq b) : a = b := by
  simp only [encEq,List.cons.injEq,PV.agg.injEq,and_true] at h
  exact Pg.cs_inj _ _ h
noncomputable def isa_Equal.S : Am.Spec := cSpec encEq fun p => some (rBool (zeroB p))
theorem eqS_eq (p : Pg) : isa_Equal.S [.agg [.int .i64 p.st,.int .i64 p.rg,.int .i64 p.inp,.int .i64 p.out,.int .i64 p.un,.int .i64 p.tx,.int .i64 p.bf,.sl 6 (p.code.map Ins.cs)],.agg [.int .i64 0,.int .i64 0,.int .i64 0,.int .i64 0,.int .i64 0,.int .i64 0,.int .i64 0,.sl 0 []]] = some (rBool (zeroB p)) := cSpec_eq encEq_inj p
theorem isa_Equal.ok : SpecOK Try.prog 37 isa_Equal.S := cSpec_ok fun p r h => by
  cases h
  refine fnLaw Try.func37 isa_Equal.tr rfl hE ok_nil ?_
  unfold isa_Equal.m
  refine seq_reg (σ' := ?_) ?_ ?_
  rotate_left
  · simp -implicitDefEqProofs only [isa_Equal.r0,κa,κb,κc,κd,κe,κf,κg,κh,κi,κj,κk,κl,κm,κn,κo,κp,κq,κr,κs,κt,κu,κv,κw,κx,κy,κz,κa1,κb1,κc1,κd1,κe1,κf1,κg1,κh1,κi1,κj1,κk1,κl1,κm1,κn1,κo1,κp1,κq1,κr1,κs1,if_true,if_false,reduceIte,κt1,κu1,κv1,κw1,κx1,κy1,κz1,κa2,κb2,κc2,κd2,κe2,κf2,κg2,κh2,κi2,κj2,κk2,κl2,κm2,κn2,κo2,κp2,κq2,reduceCtorEq,κr2,κs2,κt2,κu2,κv2,κw2,κx2,κy2,κz2,κa3,eq_self,κb3,κc3,zL,encEq,Pg.cs]; rfl
  refine seq_ (seq_ ?_)
  by_cases e0 : p.st = 0
  case neg =>
    have g0 : (p.st != 0) = true := bne_iff_ne.2 (by omega)
    have hp : zeroB p = false := decide_eq_false (fun h => e0 (h.1))
    simp only [hp]
    refine seq_reg (σ' := ?_) ?_ ?_
    rotate_left
    · simp -implicitDefEqProofs only [isa_Equal.r1,κa,κb,κc,κd,κe,κf,κg,κh,κi,κj,κk,κl,κm,κn,κo,κp,κq,κr,κs,κt,κu,κv,κw,κx,κy,κz,κa1,κb1,κc1,κd1,κe1,κf1,κg1,κh1,κi1,κj1,κk1,κl1,κm1,κn1,κo1,κp1,κq1,κr1,κs1,if_true,if_false,reduceIte,κt1,κu1,κv1,κw1,κx1,κy1,κz1,κa2,κb2,κc2,κd2,κe2,κf2,κg2,κh2,κi2,κj2,κk2,κl2,κm2,κn2,κo2,κp2,κq2,reduceCtorEq,κr2,κs2,κt2,κu2,κv2,κw2,κx2,κy2,κz2,κa3,eq_self,κb3,κc3,zL,List.length_map,Int.natCast_zero,g0]; rfl
    refine cond_ rfl (fun _ => ?_) (fun h => by cases h)
    refine seq_reg (σ' := ?_) ?_ ?_
    rotate_left
    · simp -implicitDefEqProofs only [isa_Equal.r2,κa,κb,κc,κd,κe,κf,κg,κh,κi,κj,κk,κl,κm,κn,κo,κp,κq,κr,κs,κt,κu,κv,κw,κx,κy,κz,κa1,κb1,κc1,κd1,κe1,κf1,κg1,κh1,κi1,κj1,κk1,κl1,κm1,κn1,κo1,κp1,κq1,κr1,κs1,if_true,if_false,reduceIte,κt1,κu1,κv1,κw1,κx1,κy1,κz1,κa2,κb2,κc2,κd2,κe2,κf2,κg2,κh2,κi2,κj2,κk2,κl2,κm2,κn2,κo2,κp2,κq2,reduceCtorEq,κr2,κs2,κt2,κu2,κv2,κw2,κx2,κy2,κz2,κa3,eq_self,κb3,κc3,zL]; rfl
    exact ret_ ⟨.inl rfl,_,rfl,AVle.refl _⟩
  have g0 : (p.st != 0) = false := by rw [e0]; rfl
  by_cases e1 : p.rg = 0
  case neg =>
    have g1 : (p.rg != 0) = true := bne_iff_ne.2 (by omega)
    have hp : zeroB p = false := decide_eq_false (fun h => e1 (h.2.1))
    simp only [hp]
    refine seq_reg (σ' := ?_) ?_ ?_
    rotate_left
    · simp -implicitDefEqProofs only [isa_Equal.r1,κa,κb,κc,κd,κe,κf,κg,κh,κi,κj,κk,κl,κm,κn,κo,κp,κq,κr,κs,κt,κu,κv,κw,κx,κy,κz,κa1,κb1,κc1,κd1,κe1,κf1,κg1,κh1,κi1,κj1,κk1,κl1,κm1,κn1,κo1,κp1,κq1,κr1,κs1,if_true,if_false,reduceIte,κt1,κu1,κv1,κw1,κx1,κy1,κz1,κa2,κb2,κc2,κd2,κe2,κf2,κg2,κh2,κi2,κj2,κk2,κl2,κm2,κn2,κo2,κp2,κq2,reduceCtorEq,κr2,κs2,κt2,κu2,κv2,κw2,κx2,κy2,κz2,κa3,eq_self,κb3,κc3,zL,List.length_map,Int.natCast_zero,g0,g1]; rfl
    refine cond_ rfl (fun _ => ?_) (fun h => by cases h)
    refine seq_reg (σ' := ?_) ?_ ?_
    rotate_left
    · simp -implicitDefEqProofs only [isa_Equal.r2,κa,κb,κc,κd,κe,κf,κg,κh,κi,κj,κk,κl,κm,κn,κo,κp,κq,κr,κs,κt,κu,κv,κw,κx,κy,κz,κa1,κb1,κc1,κd1,κe1,κf1,κg1,κh1,κi1,κj1,κk1,κl1,κm1,κn1,κo1,κp1,κq1,κr1,κs1,if_true,if_false,reduceIte,κt1,κu1,κv1,κw1,κx1,κy1,κz1,κa2,κb2,κc2,κd2,κe2,κf2,κg2,κh2,κi2,κj2,κk2,κl2,κm2,κn2,κo2,κp2,κq2,reduceCtorEq,κr2,κs2,κt2,κu2,κv2,κw2,κx2,κy2,κz2,κa3,eq_self,κb3,κc3,zL]; rfl
    exact ret_ ⟨.inl rfl,_,rfl,AVle.refl _⟩
  have g1 : (p.rg != 0) = false := by rw [e1]; rfl
  by_cases e2 : p.inp = 0
  case neg =>
    have g2 : (p.inp != 0) = true := bne_iff_ne.2 (by omega)
    have hp : zeroB p = false := decide_eq_false (fun h => e2 (h.2.2.1))
    simp only [hp]
    refine seq_reg (σ' := ?_) ?_ ?_
    rotate_left
    · simp -implicitDefEqProofs only [isa_Equal.r1,κa,κb,κc,κd,κe,κf,κg,κh,κi,κj,κk,κl,κm,κn,κo,κp,κq,κr,κs,κt,κu,κv,κw,κx,κy,κz,κa1,κb1,κc1,κd1,κe1,κf1,κg1,κh1,κi1,κj1,κk1,κl1,κm1,κn1,κo1,κp1,κq1,κr1,κs1,if_true,if_false,reduceIte,κt1,κu1,κv1,κw1,κx1,κy1,κz1,κa2,κb2,κc2,κd2,κe2,κf2,κg2,κh2,κi2,κj2,κk2,κl2,κm2,κn2,κo2,κp2,κq2,reduceCtorEq,κr2,κs2,κt2,κu2,κv2,κw2,κx2,κy2,κz2,κa3,eq_self,κb3,κc3,zL,List.length_map,Int.natCast_zero,g0,g1,g2]; rfl
    refine cond_ rfl (fun _ => ?_) (fun h => by cases h)
    refine seq_reg (σ' := ?_) ?_ ?_
    rotate_left
    · simp -implicitDefEqProofs only [isa_Equal.r2,κa,κb,κc,κd,κe,κf,κg,κh,κi,κj,κk,κl,κm,κn,κo,κp,κq,κr,κs,κt,κu,κv,κw,κx,κy,κz,κa1,κb1,κc1,κd1,κe1,κf1,κg1,κh1,κi1,κj1,κk1,κl1,κm1,κn1,κo1,κp1,κq1,κr1,κs1,if_true,if_false,reduceIte,κt1,κu1,κv1,κw1,κx1,κy1,κz1,κa2,κb2,κc2,κd2,κe2,κf2,κg2,κh2,κi2,κj2,κk2,κl2,κm2,κn2,κo2,κp2,κq2,reduceCtorEq,κr2,κs2,κt2,κu2,κv2,κw2,κx2,κy2,κz2,κa3,eq_self,κb3,κc3,zL]; rfl
    exact ret_ ⟨.inl rfl,_,rfl,AVle.refl _⟩
  have g2 : (p.inp != 0) = false := by rw [e2]; rfl
  by_cases e3 : p.out = 0
  case neg =>
    have g3 : (p.out != 0) = true := bne_iff_ne.2 (by omega)
    have hp : zeroB p = false := decide_eq_false (fun h => e3 (h.2.2.2.1))
    simp only [hp]
    refine seq_reg (σ' := ?_) ?_ ?_
    rotate_left
    · simp -implicitDefEqProofs only [isa_Equal.r1,κa,κb,κc,κd,κe,κf,κg,κh,κi,κj,κk,κl,κm,κn,κo,κp,κq,κr,κs,κt,κu,κv,κw,κx,κy,κz,κa1,κb1,κc1,κd1,κe1,κf1,κg1,κh1,κi1,κj1,κk1,κl1,κm1,κn1,κo1,κp1,κq1,κr1,κs1,if_true,if_false,reduceIte,κt1,κu1,κv1,κw1,κx1,κy1,κz1,κa2,κb2,κc2,κd2,κe2,κf2,κg2,κh2,κi2,κj2,κk2,κl2,κm2,κn2,κo2,κp2,κq2,reduceCtorEq,κr2,κs2,κt2,κu2,κv2,κw2,κx2,κy2,κz2,κa3,eq_self,κb3,κc3,zL,List.length_map,Int.natCast_zero,g0,g1,g2,g3]; rfl
    refine cond_ rfl (fun _ => ?_) (fun h => by cases h)
    refine seq_reg (σ' := ?_) ?_ ?_
    rotate_left
    · simp -implicitDefEqProofs only [isa_Equal.r2,κa,κb,κc,κd,κe,κf,κg,κh,κi,κj,κk,κl,κm,κn,κo,κp,κq,κr,κs,κt,κu,κv,κw,κx,κy,κz,κa1,κb1,κc1,κd1,κe1,κf1,κg1,κh1,κi1,κj1,κk1,κl1,κm1,κn1,κo1,κp1,κq1,κr1,κs1,if_true,if_false,reduceIte,κt1,κu1,κv1,κw1,κx1,κy1,κz1,κa2,κb2,κc2,κd2,κe2,κf2,κg2,κh2,κi2,κj2,κk2,κl2,κm2,κn2,κo2,κp2,κq2,reduceCtorEq,κr2,κs2,κt2,κu2,κv2,κw2,κx2,κy2,κz2,κa3,eq_self,κb3,κc3,zL]; rfl
    exact ret_ ⟨.inl rfl,_,rfl,AVle.refl _⟩
  have g3 : (p.out != 0) = false := by rw [e3]; rfl
  by_cases e4 : p.un = 0
  case neg =>
    have g4 : (p.un != 0) = true := bne_iff_ne.2 (by omega)
    have hp : zeroB p = false := decide_eq_false (fun h => e4 (h.2.2.2.2.1))
    simp only [hp]
    refine seq_reg (σ' := ?_) ?_ ?_
    rotate_left
    · simp -implicitDefEqProofs only [isa_Equal.r1,κa,κb,κc,κd,κe,κf,κg,κh,κi,κj,κk,κl,κm,κn,κo,κp,κq,κr,κs,κt,κu,κv,κw,κx,κy,κz,κa1,κb1,κc1,κd1,κe1,κf1,κg1,κh1,κi1,κj1,κk1,κl1,κm1,κn1,κo1,κp1,κq1,κr1,κs1,if_true,if_false,reduceIte,κt1,κu1,κv1,κw1,κx1,κy1,κz1,κa2,κb2,κc2,κd2,κe2,κf2,κg2,κh2,κi2,κj2,κk2,κl2,κm2,κn2,κo2,κp2,κq2,reduceCtorEq,κr2,κs2,κt2,κu2,κv2,κw2,κx2,κy2,κz2,κa3,eq_self,κb3,κc3,zL,List.length_map,Int.natCast_zero,g0,g1,g2,g3,g4]; rfl
    refine cond_ rfl (fun _ => ?_) (fun h => by cases h)
    refine seq_reg (σ' := ?_) ?_ ?_
    rotate_left
    · simp -implicitDefEqProofs only [isa_Equal.r2,κa,κb,κc,κd,κe,κf,κg,κh,κi,κj,κk,κl,κm,κn,κo,κp,κq,κr,κs,κt,κu,κv,κw,κx,κy,κz,κa1,κb1,κc1,κd1,κe1,κf1,κg1,κh1,κi1,κj1,κk1,κl1,κm1,κn1,κo1,κp1,κq1,κr1,κs1,if_true,if_false,reduceIte,κt1,κu1,κv1,κw1,κx1,κy1,κz1,κa2,κb2,κc2,κd2,κe2,κf2,κg2,κh2,κi2,κj2,κk2,κl2,κm2,κn2,κo2,κp2,κq2,reduceCtorEq,κr2,κs2,κt2,κu2,κv2,κw2,κx2,κy2,κz2,κa3,eq_self,κb3,κc3,zL]; rfl
    exact ret_ ⟨.inl rfl,_,rfl,AVle.refl _⟩
  have g4 : (p.un != 0) = false := by rw [e4]; rfl
  by_cases e5 : p.tx = 0
  case neg =>
    have g5 : (p.tx != 0) = true := bne_iff_ne.2 (by omega)
    have hp : zeroB p = false := decide_eq_false (fun h => e5 (h.2.2.2.2.2.1))
    simp only [hp]
    refine seq_reg (σ' := ?_) ?_ ?_
    rotate_left
    · simp -implicitDefEqProofs only [isa_Equal.r1,κa,κb,κc,κd,κe,κf,κg,κh,κi,κj,κk,κl,κm,κn,κo,κp,κq,κr,κs,κt,κu,κv,κw,κx,κy,κz,κa1,κb1,κc1,κd1,κe1,κf1,κg1,κh1,κi1,κj1,κk1,κl1,κm1,κn1,κo1,κp1,κq1,κr1,κs1,if_true,if_false,reduceIte,κt1,κu1,κv1,κw1,κx1,κy1,κz1,κa2,κb2,κc2,κd2,κe2,κf2,κg2,κh2,κi2,κj2,κk2,κl2,κm2,κn2,κo2,κp2,κq2,reduceCtorEq,κr2,κs2,κt2,κu2,κv2,κw2,κx2,κy2,κz2,κa3,eq_self,κb3,κc3,zL,List.length_map,Int.natCast_zero,g0,g1,g2,g3,g4,g5]; rfl
    refine cond_ rfl (fun _ => ?_) (fun h => by cases h)
    refine seq_reg (σ' := ?_) ?_ ?_
    rotate_left
    · simp -implicitDefEqProofs only [isa_Equal.r2,κa,κb,κc,κd,κe,κf,κg,κh,κi,κj,κk,κl,κm,κn,κo,κp,κq,κr,κs,κt,κu,κv,κw,κx,κy,κz,κa1,κb1,κc1,κd1,κe1,κf1,κg1,κh1,κi1,κj1,κk1,κl1,κm1,κn1,κo1,κp1,κq1,κr1,κs1,if_true,if_false,reduceIte,κt1,κu1,κv1,κw1,κx1,κy1,κz1,κa2,κb2,κc2,κd2,κe2,κf2,κg2,κh2,κi2,κj2,κk2,κl2,κm2,κn2,κo2,κp2,κq2,reduceCtorEq,κr2,κs2,κt2,κu2,κv2,κw2,κx2,κy2,κz2,κa3,eq_self,κb3,κc3,zL]; rfl
    exact ret_ ⟨.inl rfl,_,rfl,AVle.refl _⟩
  have g5 : (p.tx != 0) = false := by rw [e5]; rfl
  by_cases e6 : p.bf = 0
  case neg =>
    have g6 : (p.bf != 0) = true := bne_iff_ne.2 (by omega)
    have hp : zeroB p = false := decide_eq_false (fun h => e6 (h.2.2.2.2.2.2.1))
    simp only [hp]
    refine seq_reg (σ' := ?_) ?_ ?_
    rotate_left
    · simp -implicitDefEqProofs only [isa_Equal.r1,κa,κb,κc,κd,κe,κf,κg,κh,κi,κj,κk,κl,κm,κn,κo,κp,κq,κr,κs,κt,κu,κv,κw,κx,κy,κz,κa1,κb1,κc1,κd1,κe1,κf1,κg1,κh1,κi1,κj1,κk1,κl1,κm1,κn1,κo1,κp1,κq1,κr1,κs1,if_true,if_false,reduceIte,κt1,κu1,κv1,κw1,κx1,κy1,κz1,κa2,κb2,κc2,κd2,κe2,κf2,κg2,κh2,κi2,κj2,κk2,κl2,κm2,κn2,κo2,κp2,κq2,reduceCtorEq,κr2,κs2,κt2,κu2,κv2,κw2,κx2,κy2,κz2,κa3,eq_self,κb3,κc3,zL,List.length_map,Int.natCast_zero,g0,g1,g2,g3,g4,g5,g6]; rfl
    refine cond_ rfl (fun _ => ?_) (fun h => by cases h)
    refine seq_reg (σ' := ?_) ?_ ?_
    rotate_left
    · simp -implicitDefEqProofs only [isa_Equal.r2,κa,κb,κc,κd,κe,κf,κg,κh,κi,κj,κk,κl,κm,κn,κo,κp,κq,κr,κs,κt,κu,κv,κw,κx,κy,κz,κa1,κb1,κc1,κd1,κe1,κf1,κg1,κh1,κi1,κj1,κk1,κl1,κm1,κn1,κo1,κp1,κq1,κr1,κs1,if_true,if_false,reduceIte,κt1,κu1,κv1,κw1,κx1,κy1,κz1,κa2,κb2,κc2,κd2,κe2,κf2,κg2,κh2,κi2,κj2,κk2,κl2,κm2,κn2,κo2,κp2,κq2,reduceCtorEq,κr2,κs2,κt2,κu2,κv2,κw2,κx2,κy2,κz2,κa3,eq_self,κb3,κc3,zL]; rfl
    exact ret_ ⟨.inl rfl,_,rfl,AVle.refl _⟩
  have g6 : (p.bf != 0) = false := by rw [e6]; rfl
  by_cases e7 : p.code.length = 0
  case neg =>
    have g7 : ((p.code.length : Int) != 0) = true := bne_iff_ne.2 (by omega)
    have hp : zeroB p = false := decide_eq_false (fun h => e7 (h.2.2.2.2.2.2.2))
    simp only [hp]
    refine seq_reg (σ' := ?_) ?_ ?_
    rotate_left
    · simp -implicitDefEqProofs only [isa_Equal.r1,κa,κb,κc,κd,κe,κf,κg,κh,κi,κj,κk,κl,κm,κn,κo,κp,κq,κr,κs,κt,κu,κv,κw,κx,κy,κz,κa1,κb1,κc1,κd1,κe1,κf1,κg1,κh1,κi1,κj1,κk1,κl1,κm1,κn1,κo1,κp1,κq1,κr1,κs1,if_true,if_false,reduceIte,κt1,κu1,κv1,κw1,κx1,κy1,κz1,κa2,κb2,κc2,κd2,κe2,κf2,κg2,κh2,κi2,κj2,κk2,κl2,κm2,κn2,κo2,κp2,κq2,reduceCtorEq,κr2,κs2,κt2,κu2,κv2,κw2,κx2,κy2,κz2,κa3,eq_self,κb3,κc3,zL,List.length_map,Int.natCast_zero,g0,g1,g2,g3,g4,g5,g6,g7]; rfl
    refine cond_ rfl (fun _ => ?_) (fun h => by cases h)
    refine seq_reg (σ' := ?_) ?_ ?_
    rotate_left
    · simp -implicitDefEqProofs only [isa_Equal.r2,κa,κb,κc,κd,κe,κf,κg,κh,κi,κj,κk,κl,κm,κn,κo,κp,κq,κr,κs,κt,κu,κv,κw,κx,κy,κz,κa1,κb1,κc1,κd1,κe1,κf1,κg1,κh1,κi1,κj1,κk1,κl1,κm1,κn1,κo1,κp1,κq1,κr1,κs1,if_true,if_false,reduceIte,κt1,κu1,κv1,κw1,κx1,κy1,κz1,κa2,κb2,κc2,κd2,κe2,κf2,κg2,κh2,κi2,κj2,κk2,κl2,κm2,κn2,κo2,κp2,κq2,reduceCtorEq,κr2,κs2,κt2,κu2,κv2,κw2,κx2,κy2,κz2,κa3,eq_self,κb3,κc3,zL]; rfl
    exact ret_ ⟨.inl rfl,_,rfl,AVle.refl _⟩
  have g7 : ((p.code.length : Int) != 0) = false := by rw [e7]; rfl
  have hp : zeroB p = true := decide_eq_true ⟨e0,e1,e2,e3,e4,e5,e6,e7⟩
  simp only [hp]
  refine seq_reg (σ' := ?_) ?_ ?_
  rotate_left
  · simp -implicitDefEqProofs only [isa_Equal.r1,κa,κb,κc,κd,κe,κf,κg,κh,κi,κj,κk,κl,κm,κn,κo,κp,κq,κr,κs,κt,κu,κv,κw,κx,κy,κz,κa1,κb1,κc1,κd1,κe1,κf1,κg1,κh1,κi1,κj1,κk1,κl1,κm1,κn1,κo1,κp1,κq1,κr1,κs1,if_true,if_false,reduceIte,κt1,κu1,κv1,κw1,κx1,κy1,κz1,κa2,κb2,κc2,κd2,κe2,κf2,κg2,κh2,κi2,κj2,κk2,κl2,κm2,κn2,κo2,κp2,κq2,reduceCtorEq,κr2,κs2,κt2,κu2,κv2,κw2,κx2,κy2,κz2,κa3,eq_self,κb3,κc3,zL,List.length_map,Int.natCast_zero,g0,g1,g2,g3,g4,g5,g6,g7]; rfl
  refine cond_ rfl (fun h => by cases h) (fun _ => skip_ (norm_ ?_))
  refine seq_ (seq_ ?_)
  refine seq_ex (σ'' := St.of [(64,rInt 0),(65,rInt 0)] [] [] (0)) ⟨_,by simp -implicitDefEqProofs only [isa_Equal.r3,κa,κb,κc,κd,κe,κf,κg,κh,κi,κj,κk,κl,κm,κn,κo,κp,κq,κr,κs,κt,κu,κv,κw,κx,κy,κz,κa1,κb1,κc1,κd1,κe1,κf1,κg1,κh1,κi1,κj1,κk1,κl1,κm1,κn1,κo1,κp1,κq1,κr1,κs1,if_true,if_false,reduceIte,κt1,κu1,κv1,κw1,κx1,κy1,κz1,κa2,κb2,κc2,κd2,κe2,κf2,κg2,κh2,κi2,κj2,κk2,κl2,κm2,κn2,κo2,κp2,κq2,reduceCtorEq,κr2,κs2,κt2,κu2,κv2,κw2,κx2,κy2,κz2,κa3,eq_self,κb3,κc3,zL,List.length_map,e7,Int.natCast_zero]; rfl,sub_of (all_cons rfl (all_cons rfl all_nil)) all_nil all_nil (Nat.le_refl _)⟩ ?_
  refine block_ (peel_ 1 ?_)
  refine show mwp _ isa_Equal.b9 _ _ from ?_
  unfold isa_Equal.b9
  refine seq_reg (σ' := ?_) ?_ ?_
  rotate_left
  · simp -implicitDefEqProofs only [isa_Equal.r4,κa,κb,κc,κd,κe,κf,κg,κh,κi,κj,κk,κl,κm,κn,κo,κp,κq,κr,κs,κt,κu,κv,κw,κx,κy,κz,κa1,κb1,κc1,κd1,κe1,κf1,κg1,κh1,κi1,κj1,κk1,κl1,κm1,κn1,κo1,κp1,κq1,κr1,κs1,if_true,if_false,reduceIte,κt1,κu1,κv1,κw1,κx1,κy1,κz1,κa2,κb2,κc2,κd2,κe2,κf2,κg2,κh2,κi2,κj2,κk2,κl2,κm2,κn2,κo2,κp2,κq2,reduceCtorEq,κr2,κs2,κt2,κu2,κv2,κw2,κx2,κy2,κz2,κa3,eq_self,κb3,κc3,zL,rInt,Int.lt_irrefl]; rfl
  refine seq_ (cond_ rfl (fun h => by cases h) (fun _ => exit_ (norm_ ?_)))
  refine seq_reg (σ' := ?_) ?_ ?_
  rotate_left
  · simp -implicitDefEqProofs only [isa_Equal.r10,κa,κb,κc,κd,κe,κf,κg,κh,κi,κj,κk,κl,κm,κn,κo,κp,κq,κr,κs,κt,κu,κv,κw,κx,κy,κz,κa1,κb1,κc1,κd1,κe1,κf1,κg1,κh1,κi1,κj1,κk1,κl1,κm1,κn1,κo1,κp1,κq1,κr1,κs1,if_true,if_false,reduceIte,κt1,κu1,κv1,κw1,κx1,κy1,κz1,κa2,κb2,κc2,κd2,κe2,κf2,κg2,κh2,κi2,κj2,κk2,κl2,κm2,κn2,κo2,κp2,κq2,reduceCtorEq,κr2,κs2,κt2,κu2,κv2,κw2,κx2,κy2,κz2,κa3,eq_self,κb3,κc3,zL]; rfl
  exact ret_ ⟨.inl rfl,_,rfl,AVle.refl _⟩
end Go.Proofs.Ytjbhhdocbejccaa.Pl
