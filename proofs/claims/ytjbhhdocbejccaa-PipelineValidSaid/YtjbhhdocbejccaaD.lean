/- Chapter 43: data: attributes, instructions, programs; contracts told by an encoding. No condition beyond those that each theorem states. -/
import Derived.Test.YtjbhhdocbejccaaV3
namespace Go.Proofs.Ytjbhhdocbejccaa.Pl
open Go Go.RowKit Go.Proofs.Ytjbhhdocbejccaa.Am
open List renaming getElem?_cons_zero → κa, getElem?_cons_succ → κb, getElem?_nil → κc, map_cons → κj, map_nil → κk, drop_succ_cons → κl, drop_zero → κm, take_succ_cons → κn, take_zero → κo, length_cons → κp, length_nil → κq, length_append → κr, cons_append → κs, nil_append → κt, append_nil → κu
open Option renaming map_some → κd, map_none → κe, bind_some → κf, isSome_some → κg, isSome_none → κh
open Nat renaming reduceEqDiff → κi, reduceAdd → κv, reduceMul → κw, reduceLeDiff → κx, reduceBEq → κy, zero_le → κz, le_refl → κa1, zero_add → κb1, add_zero → κc1
open Bool renaming not_true → κd1, not_false → κe1, false_eq_true → κf1, true_eq_false → κq1
open Int renaming reduceBEq → κg1, reduceBNe → κh1, reduceLT → κi1, reduceLE → κj1, reduceAdd → κk1, reduceToNat → κl1, toNat_zero → κm1, reduceEq → κn1, toNat_natCast → κo1, le_refl → κp1
set_option linter.unusedVariables false
set_option linter.unusedSimpArgs false
/-- A contract told by an encoding of the arguments. -/
noncomputable def cSpec {α : Type} (enc : α → List PV) (res : α → Option AV) : Am.Spec := fun args => match Classical.propDecidable (∃ a, enc a = args) with
  | .isTrue h => res (Classical.choose h)
  | .isFalse _ => none
theorem cSpec_eq {α : Type} {enc : α → List PV} {res : α → Option AV} (hi : ∀ a b, enc a = enc b → a = b) (a : α) : cSpec enc res (enc a) = res a := by
  unfold cSpec
  split
  · rename_i h _
    rw [hi _ _ (Classical.choose_spec h)]
  · rename_i h _
    exact absurd ⟨a, rfl⟩ h
theorem cSpec_ok {α : Type} {enc : α → List PV} {res : α → Option AV} {P : Program} {f : FuncId} (h : ∀ a r, res a = some r → CA P f (enc a) r) : SpecOK P f (cSpec enc res) := fun args r hr => by
  unfold cSpec at hr
  split at hr
  · rename_i hx _
    have := h _ r hr
    rw [Classical.choose_spec hx] at this
    exact this
  · cases hr
structure At where
  b : Int
  o : Int
  s : Int
  f : Int
def At.cs (a : At) : List CV := [.int .i64 a.b, .int .i64 a.o, .int .i64 a.s, .int .i64 a.f]
structure Ins where
  op : Int
  d : Int
  a : Int
  b : Int
  c : Int
  m : Int
def Ins.cs (i : Ins) : List CV := [.int .i64 i.op, .int .i64 i.d, .int .i64 i.a, .int .i64 i.b, .int .i64 i.c, .int .i64 i.m]
structure Pg where
  st : Int
  rg : Int
  inp : Int
  out : Int
  un : Int
  tx : Int
  bf : Int
  code : List Ins
def Pg.cs (p : Pg) : List CV := [.int .i64 p.st, .int .i64 p.rg, .int .i64 p.inp, .int .i64 p.out, .int .i64 p.un, .int .i64 p.tx, .int .i64 p.bf, .sl 6 (p.code.map Ins.cs)]
theorem map_inj {α β : Type} {f : α → β} (hf : ∀ a b, f a = f b → a = b) : ∀ {l m : List α}, l.map f = m.map f → l = m
  | [], [], _ => rfl
  | a :: l, b :: m, h => by
    simp only [List.map_cons, List.cons.injEq] at h
    rw [hf _ _ h.1, map_inj hf h.2]
  | [], _ :: _, h => by simp at h
  | _ :: _, [], h => by simp at h
theorem At.cs_inj (a b : At) (h : a.cs = b.cs) : a = b := by
  cases a; cases b; simp only [At.cs, List.cons.injEq, CV.int.injEq, true_and, and_true] at h
  obtain ⟨rfl, rfl, rfl, rfl⟩ := h; rfl
theorem Ins.cs_inj (a b : Ins) (h : a.cs = b.cs) : a = b := by
  cases a; cases b; simp only [Ins.cs, List.cons.injEq, CV.int.injEq, true_and, and_true] at h
  obtain ⟨rfl, rfl, rfl, rfl, rfl, rfl⟩ := h; rfl
theorem Pg.cs_inj (a b : Pg) (h : a.cs = b.cs) : a = b := by
  cases a; cases b; simp only [Pg.cs, List.cons.injEq, CV.int.injEq, CV.sl.injEq, true_and, and_true] at h
  obtain ⟨rfl, rfl, rfl, rfl, rfl, rfl, rfl, hc⟩ := h
  rw [map_inj Ins.cs_inj hc]
def encAts (l : List At) : List PV := [.c (.sl 4 (l.map At.cs))]
theorem encAts_inj (a b : List At) (h : encAts a = encAts b) : a = b := by
  simp only [encAts, List.cons.injEq, PV.c.injEq, CV.sl.injEq, true_and, and_true] at h
  exact map_inj At.cs_inj h
theorem i64_w' {n : Int} (h0 : -9223372036854775808 ≤ n) (h1 : n < 9223372036854775808) : IntKind.i64.wrap n = n := by rw [IntKind.wrap_i64]; omega
end Go.Proofs.Ytjbhhdocbejccaa.Pl
