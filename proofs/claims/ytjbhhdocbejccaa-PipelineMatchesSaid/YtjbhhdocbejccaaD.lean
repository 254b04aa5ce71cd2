/- Chapter 43: data: attributes, instructions, programs; contracts told by an encoding. No condition beyond those that each theorem states. -/
import Derived.Test.YtjbhhdocbejccaaV3
namespace Go.Proofs.Ytjbhhdocbejccaa.Pl
open Go Go.RowKit Go.Proofs.Ytjbhhdocbejccaa.Am
open Go.Proofs.Ytjbhhdocbejccaa.Am renaming ex_nil → κa,ex_cons → κb,exK_some → κc,st_n → κd,st_g → κe,gd_b → κf,gd_u → κg,rn_v → κh,rn_m → κi,rn_s → κj,rn_a → κk,think → κl,prep → κm,mkDsts → κn,ev → κp,upd → κq,init → κr,forgetBox → κu,pvs → κx,fillX → κy,chunks → κz,binV → κa1,xints → κb1,ldX → κc1,baseOk → κe1,fg_p → κf1,fg_tk → κg1,mkG → κh1,tab → κj1,c3 → κa3
open Go.Proofs.Ytjbhhdocbejccaa.Am.St renaming clear → κo,put → κt,of → κk1
open Go.Proofs.Ytjbhhdocbejccaa.Am.PV renaming av → κs
open Go.Proofs.Ytjbhhdocbejccaa.Am.AV renaming cells → κv,pv → κw,plain → κd1
open Go.Proofs.Ytjbhhdocbejccaa.Am.Sig renaming spec → κi1
open List renaming getElem?_cons_zero → κl1,getElem?_cons_succ → κm1,getElem?_nil → κn1,map_cons → κu1,map_nil → κv1,drop_succ_cons → κw1,drop_zero → κx1,take_succ_cons → κy1,take_zero → κz1,length_cons → κa2,length_nil → κb2,length_append → κc2,cons_append → κd2,nil_append → κe2,append_nil → κf2
open Option renaming map_some → κo1,map_none → κp1,bind_some → κq1,isSome_some → κr1,isSome_none → κs1
open Nat renaming reduceEqDiff → κt1,reduceAdd → κg2,reduceMul → κh2,reduceLeDiff → κi2,reduceBEq → κj2,zero_le → κk2,le_refl → κl2,zero_add → κm2,add_zero → κn2
open Bool renaming not_true → κo2,not_false → κp2,false_eq_true → κq2,true_eq_false → κc3
open Int renaming reduceBEq → κr2,reduceBNe → κs2,reduceLT → κt2,reduceLE → κu2,reduceAdd → κv2,reduceToNat → κw2,toNat_zero → κx2,reduceEq → κy2,toNat_natCast → κz2,le_refl → κb3
set_option linter.unusedVariables false
set_option linter.unusedSimpArgs false
/-- A contract told by an encoding of the arguments. -/
noncomputable def cSpec {α : Type} (enc : α → List PV) (res : α → Option AV) : Am.Spec := fun args => match Classical.propDecidable (∃ a,enc a = args) with
  | .isTrue h => res (Classical.choose h)
  | .isFalse _ => none
theorem cSpec_eq {α : Type} {enc : α → List PV} {res : α → Option AV} (hi : ∀ a b,enc a = enc b → a = b) (a : α) : cSpec enc res (enc a) = res a := by
  unfold cSpec
  split
  · rename_i h _
    rw [hi _ _ (Classical.choose_spec h)]
  · rename_i h _
    exact absurd ⟨a,rfl⟩ h
theorem cSpec_ok {α : Type} {enc : α → List PV} {res : α → Option AV} {P : Program} {f : FuncId} (h : ∀ a r,res a = some r → CA P f (enc a) r) : SpecOK P f (cSpec enc res) := fun args r hr => by
  unfold cSpec at hr
  split at hr
  · rename_i hx _
    have := h _ r hr
    rw [Classical.choose_spec hx] at this
    exact this
  · cases hr
structure At where
  b : Int
  o : Int
  s : Int
  f : Int
def At.cs (a : At) : List CV := [.int .i64 a.b,.int .i64 a.o,.int .i64 a.s,.int .i64 a.f]
structure Ins where
  op : Int
  d : Int
  a : Int
  b : Int
  c : Int
  m : Int
def Ins.cs (i : Ins) : List CV := [.int .i64 i.op,.int .i64 i.d,.int .i64 i.a,.int .i64 i.b,.int .i64 i.c,.int .i64 i.m]
structure Pg where
  st : Int
  rg : Int
  inp : Int
  out : Int
  un : Int
  tx : Int
  bf : Int
  code : List Ins
def Pg.cs (p : Pg) : List CV := [.int .i64 p.st,.int .i64 p.rg,.int .i64 p.inp,.int .i64 p.out,.int .i64 p.un,.int .i64 p.tx,.int .i64 p.bf,.sl 6 (p.code.map Ins.cs)]
theorem map_inj {α β : Type} {f : α → β} (hf : ∀ a b,f a = f b → a = b) : ∀ {l m : List α},l.map f = m.map f → l = m
  | [],[],_ => rfl
  | a :: l,b :: m,h => by
    simp only [List.map_cons,List.cons.injEq] at h
    rw [hf _ _ h.1,map_inj hf h.2]
  | [],_ :: _,h => by simp at h
  | _ :: _,[],h => by simp at h
theorem At.cs_inj (a b : At) (h : a.cs = b.cs) : a = b := by
  cases a; cases b; simp only [At.cs,List.cons.injEq,CV.int.injEq,true_and,and_true] at h
  obtain ⟨rfl,rfl,rfl,rfl⟩ := h; rfl
theorem Ins.cs_inj (a b : Ins) (h : a.cs = b.cs) : a = b := by
  cases a; cases b; simp only [Ins.cs,List.cons.injEq,CV.int.injEq,true_and,and_true] at h
  obtain ⟨rfl,rfl,rfl,rfl,rfl,rfl⟩ := h; rfl
theorem Pg.cs_inj (a b : Pg) (h : a.cs = b.cs) : a = b := by
  cases a; cases b; simp only [Pg.cs,List.cons.injEq,CV.int.injEq,CV.sl.injEq,true_and,and_true] at h
  obtain ⟨rfl,rfl,rfl,rfl,rfl,rfl,rfl,hc⟩ := h
  rw [map_inj Ins.cs_inj hc]
def encAts (l : List At) : List PV := [.c (.sl 4 (l.map At.cs))]
theorem encAts_inj (a b : List At) (h : encAts a = encAts b) : a = b := by
  simp only [encAts,List.cons.injEq,PV.c.injEq,CV.sl.injEq,true_and,and_true] at h
  exact map_inj At.cs_inj h
theorem i64_w' {n : Int} (h0 : -9223372036854775808 ≤ n) (h1 : n < 9223372036854775808) : IntKind.i64.wrap n = n := by rw [IntKind.wrap_i64]; omega
end Go.Proofs.Ytjbhhdocbejccaa.Pl
