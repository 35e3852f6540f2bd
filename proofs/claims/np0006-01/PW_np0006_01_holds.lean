import PyProof.Rows.All
import Wide.All
import OpenK.AllK
import Wide.FinOn
import PySem.Challenge.RW_np0006_01
open PySem PySem.W PyProof.Rows
set_option Elab.async false
namespace Mine
local macro_rules | `(tactic| walk_at "call ref") => `(tactic| k_extra "gap call")
local macro_rules | `(tactic| walk_at "execs cons") => `(tactic| k_extra "gap execs")
local macro_rules | `(tactic| walk_at "setItem ref ref") => `(tactic| k_extra "gap set")
local macro_rules | `(tactic| walk_at "compareOp NotEq ref ref") => `(tactic| k_extra "gap noteq")
local macro_rules | `(tactic| walk_at "compareOp Eq ref ref") => `(tactic| k_extra "gap eq")
local macro_rules | `(tactic| walk_at "call builtin:list.pop") => `(tactic| k_extra "gap pop")
local macro_rules | `(tactic| walk_at "call type:range") => `(tactic| k_extra "gap range")
set_option maxRecDepth 100000 in
set_option maxHeartbeats 8000000 in
open_top hd for PySem.Challenge.rw_np0006_01
abbrev Led := List (Addr × Obj)

/-- a call of the def at f upon the arguments vs, over the ledger news, comes back; Post says with what, and over which ledger -/
def Ct (lv : Nat) (w : World) (mean : ExcName → Option Value) (mg mb : Str → Option Value) (f : Addr) (vs : List Value) (news : Led) (Post : Value → Led → Prop) : Prop :=
  ∀ (dp un : Nat) (gd : Option (List Code)) (cn : Str) (cs : Scope) (a : Addr) (ccd : Value) (cl : List (Str × Addr)) (outer : List Env) (A₀ : Around) (base h₀ : Heap) (L : Addr) (m : Str → Option Value) (s : Shared) (Q E : Value → Shared → Prop),
    Below A₀ base outer h₀ → Fr h₀ L s.heap m → (hd.heap_39 w.params).In h₀ → News h₀ L s.heap news → Top hd.view_39 (looseW hd.view_39 []) mean mg mb h₀ → cs.kind = .function → dp + (8 * lv + 8) < recursionLimit → un + (64 * lv + 256) < cLine →
    (∀ (r : Value) (news' : Led) (h' : Heap) (tk' : Nat), Post r news' → Fr h₀ L h' m → News h₀ L h' news' → Q r { s with heap := h', toks := tk' }) →
    wpAny (model PySem.Challenge.rw_np0006_01.row.prog w) (ktrTop dp un gd cn cs L a ccd cl outer) (call (.ref f) vs) Q E s

structure Keys where
  h1 : Int
  h2 : Int
  h3 : Int
  h4 : Int
  k1 : Nat
  k2 : Nat
  k3 : Nat
  k4 : Nat
abbrev gapD (G : Keys) (room gs ge : Int) (t1 t3 t4 : Nat) (c : Addr) : Obj :=
  dictOf [⟨G.h1, .str (Str.ofString "room") G.k1, .int room t1⟩, ⟨G.h2, .str (Str.ofString "cells") G.k2, .ref c⟩, ⟨G.h3, .str (Str.ofString "gap_start") G.k3, .int gs t3⟩, ⟨G.h4, .str (Str.ofString "gap_end") G.k4, .int ge t4⟩] 4
/-- the cells with their gap bear this text -/
structure GapIs (cells : List Int) (gs ge : Int) (simple : List Int) : Prop where
  h0 : 0 ≤ gs
  h1 : gs ≤ ge
  h2 : ge ≤ cells.length
  eq : simple = cells.take gs.toNat ++ cells.drop ge.toNat

theorem to_nat {x : Int} (h : 0 ≤ x) : ∃ p : Nat, x = p := ⟨x.toNat, (Int.toNat_of_nonneg h).symm⟩
theorem nat_sub {p q : Nat} : ((p : Int) - q).toNat = p - q := Int.toNat_sub p q
theorem nat_add {p q : Nat} : ((p : Int) + q).toNat = p + q := rfl
theorem nat_of {p : Nat} : ((p : Int)).toNat = p := rfl
theorem put_len (l nw : List Int) (a b : Nat) (ha : a ≤ l.length) : (l.take a ++ nw ++ l.drop b).length = a + nw.length + (l.length - b) := by
  rw [List.length_append, List.length_append, List.length_take, List.length_drop, Nat.min_eq_left ha]
theorem run_len (l : List Int) {a n : Nat} (h : a + n ≤ l.length) : ((l.drop a).take n).length = n := by
  rw [List.length_take, List.length_drop]; omega

namespace GapIs
variable {cells simple : List Int} {gs ge : Int}
theorem len (g : GapIs cells gs ge simple) : (simple.length : Int) = cells.length - ge + gs := by
  have h0 := g.h0; have h1 := g.h1; have h2 := g.h2
  have e := g.eq
  clear g
  obtain ⟨p, rfl⟩ := to_nat h0
  obtain ⟨q, rfl⟩ := to_nat (Int.le_trans h0 h1)
  rw [e, List.length_append, List.length_take, List.length_drop, nat_of, nat_of]; clear e; omega

/-- all of it in naturals -/
theorem nat (g : GapIs cells gs ge simple) : ∃ p q : Nat, gs = p ∧ ge = q ∧ p ≤ q ∧ q ≤ cells.length ∧ simple.length + q = cells.length + p ∧
    ∀ i : Nat, simple[i]? = if i < p then cells[i]? else cells[i + (q - p)]? := by
  have h0 := g.h0; have h1 := g.h1; have h2 := g.h2; have hl := g.len
  have e := g.eq
  clear g
  obtain ⟨p, rfl⟩ := to_nat h0
  obtain ⟨q, rfl⟩ := to_nat (Int.le_trans h0 h1)
  rw [nat_of, nat_of] at e
  have h1 : p ≤ q := by omega
  have h2 : q ≤ cells.length := by omega
  refine ⟨p, q, rfl, rfl, h1, h2, by omega, fun i => ?_⟩
  clear hl h0
  rw [e]
  by_cases h : i < p
  · rw [if_pos h, List.getElem?_append_left (by rw [List.length_take]; omega), List.getElem?_take_of_lt h]
  · rw [if_neg h, List.getElem?_append_right (by rw [List.length_take]; omega), List.length_take, List.getElem?_drop, Nat.min_eq_left (Nat.le_trans h1 h2)]
    congr 1; omega
theorem of_nat {p q : Nat} (h1 : p ≤ q) (h2 : q ≤ cells.length) (hl : simple.length + q = cells.length + p) (h : ∀ i : Nat, i < simple.length → simple[i]? = if i < p then cells[i]? else cells[i + (q - p)]?) : GapIs cells p q simple := by
  refine ⟨Int.natCast_nonneg p, Int.ofNat_le.mpr h1, Int.ofNat_le.mpr h2, ?_⟩
  have g : GapIs cells p q (cells.take p ++ cells.drop q) := ⟨Int.natCast_nonneg p, Int.ofNat_le.mpr h1, Int.ofNat_le.mpr h2, rfl⟩
  obtain ⟨p', q', ep, eq', h1', h2', hl', hg⟩ := g.nat
  obtain rfl : p = p' := Int.ofNat.inj ep
  obtain rfl : q = q' := Int.ofNat.inj eq'
  rw [nat_of, nat_of]
  apply List.ext_getElem?
  intro i
  by_cases hi : i < simple.length
  · rw [h i hi, hg i]
  · rw [List.getElem?_eq_none (Nat.le_of_not_lt hi), List.getElem?_eq_none (by omega)]

theorem code_lo (g : GapIs cells gs ge simple) {a : Int} (h3 : 0 ≤ a) (h : a < gs) : cells.getD a.toNat 0 = simple.getD a.toNat 0 := by
  obtain ⟨p, q, rfl, rfl, h1, h2, hl, hg⟩ := g.nat
  obtain ⟨a, rfl⟩ := to_nat h3
  rw [nat_of, List.getD_eq_getElem?_getD, List.getD_eq_getElem?_getD, hg, if_pos (Int.ofNat_lt.mp h)]
theorem code_hi (g : GapIs cells gs ge simple) {a : Int} (h3 : 0 ≤ a) (h : ¬ a < gs) : cells.getD (a - gs + ge).toNat 0 = simple.getD a.toNat 0 := by
  obtain ⟨p, q, rfl, rfl, h1, h2, hl, hg⟩ := g.nat
  obtain ⟨a, rfl⟩ := to_nat h3
  have e : ((a : Int) - p + q).toNat = a + (q - p) := by clear g hg; omega
  rw [e, nat_of, List.getD_eq_getElem?_getD, List.getD_eq_getElem?_getD, hg, if_neg (fun x => h (Int.ofNat_lt.mpr x))]
end GapIs

/-- place by place: take, drop, append -/
theorem slice_get (l : List Int) (a b i : Nat) : ((l.drop a).take b)[i]? = if i < b then l[a + i]? else none := by
  rw [List.getElem?_take]
  split
  · rw [List.getElem?_drop]
  · rfl

namespace GapIs
variable {cells simple : List Int} {gs ge a b : Int}
theorem codes_lo (g : GapIs cells gs ge simple) (h3 : 0 ≤ a) (h4 : a ≤ b) (h : b ≤ gs) : (cells.drop a.toNat).take (min b.toNat cells.length - a.toNat) = (simple.drop a.toNat).take (b - a).toNat := by
  obtain ⟨p, q, rfl, rfl, h1, h2, hl, hg⟩ := g.nat
  obtain ⟨a, rfl⟩ := to_nat h3
  obtain ⟨b, rfl⟩ := to_nat (Int.le_trans h3 h4)
  clear g h3
  replace h4 := Int.ofNat_le.mp h4; replace h := Int.ofNat_le.mp h
  rw [nat_of, nat_of, nat_sub, Nat.min_eq_left (Nat.le_trans h (Nat.le_trans h1 h2))]
  apply List.ext_getElem?
  intro i
  rw [slice_get, slice_get, hg]
  clear hg
  by_cases hi : i < b - a
  · rw [if_pos hi, if_pos hi, if_pos (by omega)]
  · rw [if_neg hi, if_neg hi]
theorem codes_hi (g : GapIs cells gs ge simple) (h3 : 0 ≤ a) (h4 : a ≤ b) (h5 : b ≤ simple.length) (h : gs ≤ a) :
    (cells.drop (a + (ge - gs)).toNat).take (min (b + (ge - gs)).toNat cells.length - (a + (ge - gs)).toNat) = (simple.drop a.toNat).take (b - a).toNat := by
  obtain ⟨p, q, rfl, rfl, h1, h2, hl, hg⟩ := g.nat
  obtain ⟨a, rfl⟩ := to_nat h3
  obtain ⟨b, rfl⟩ := to_nat (Int.le_trans h3 h4)
  clear g h3
  replace h4 := Int.ofNat_le.mp h4; replace h := Int.ofNat_le.mp h; replace h5 := Int.ofNat_le.mp h5
  obtain ⟨d, rfl⟩ := Nat.exists_eq_add_of_le h1
  have e1 : ((a : Int) + (((p + d : Nat) : Int) - p)).toNat = a + d := by clear hg; omega
  have e2 : ((b : Int) + (((p + d : Nat) : Int) - p)).toNat = b + d := by clear hg; omega
  rw [e1, e2, nat_of, nat_sub, Nat.min_eq_left (by clear hg; omega), Nat.add_sub_add_right]
  rw [Nat.add_sub_cancel_left] at hg
  apply List.ext_getElem?
  intro i
  rw [slice_get, slice_get, hg]
  clear hg
  by_cases hi : i < b - a
  · rw [if_pos hi, if_pos hi, if_neg (by omega)]
    congr 1; omega
  · rw [if_neg hi, if_neg hi]
theorem codes_mid (g : GapIs cells gs ge simple) (h3 : 0 ≤ a) (h5 : b ≤ simple.length) (h : a ≤ gs) (h' : gs ≤ b) :
    (cells.drop a.toNat).take (min gs.toNat cells.length - a.toNat) ++ (cells.drop ge.toNat).take (min (b + (ge - gs)).toNat cells.length - ge.toNat) = (simple.drop a.toNat).take (b - a).toNat := by
  obtain ⟨p, q, rfl, rfl, h1, h2, hl, hg⟩ := g.nat
  obtain ⟨a, rfl⟩ := to_nat h3
  obtain ⟨b, rfl⟩ := to_nat (Int.le_trans (Int.le_trans h3 h) h')
  clear g h3
  replace h' := Int.ofNat_le.mp h'; replace h := Int.ofNat_le.mp h; replace h5 := Int.ofNat_le.mp h5
  obtain ⟨d, rfl⟩ := Nat.exists_eq_add_of_le h1
  rw [Nat.add_sub_cancel_left] at hg
  have e2 : ((b : Int) + (((p + d : Nat) : Int) - p)).toNat = b + d := by clear hg; omega
  rw [e2, nat_of, nat_of, nat_of, nat_sub, Nat.min_eq_left (Nat.le_trans h1 h2), Nat.min_eq_left (by clear hg; omega), Nat.add_sub_add_right]
  have l1 := run_len cells (a := a) (n := p - a) (by clear hg; omega)
  apply List.ext_getElem?
  intro i
  rw [slice_get, hg]
  clear hg
  by_cases hi : i < p - a
  · rw [List.getElem?_append_left (by rw [l1]; exact hi), slice_get, if_pos hi, if_pos (by clear l1; omega), if_pos (by clear l1; omega)]
  · rw [List.getElem?_append_right (by rw [l1]; exact Nat.le_of_not_lt hi), l1, slice_get]
    clear l1
    by_cases hb : i < b - a
    · rw [if_pos (by omega), if_pos hb, if_neg (by omega)]
      congr 1; omega
    · rw [if_neg (by omega), if_neg hb]
end GapIs

/-- a run put in the place of a run, place by place -/
theorem put_get (l nw : List Int) (a b i : Nat) (ha : a ≤ l.length) :
    (l.take a ++ nw ++ l.drop b)[i]? = if i < a then l[i]? else if i < a + nw.length then nw[i - a]? else l[i - a - nw.length + b]? := by
  have e : min a l.length = a := Nat.min_eq_left ha
  by_cases h : i < a
  · rw [if_pos h, List.append_assoc, List.getElem?_append_left (by rw [List.length_take, e]; exact h), List.getElem?_take_of_lt h]
  · rw [if_neg h, List.append_assoc, List.getElem?_append_right (by rw [List.length_take, e]; exact Nat.le_of_not_lt h), List.length_take, e]
    by_cases h2 : i < a + nw.length
    · rw [if_pos h2, List.getElem?_append_left (Nat.sub_lt_left_of_lt_add (Nat.le_of_not_lt h) h2)]
    · rw [if_neg h2, List.getElem?_append_right (by omega), List.getElem?_drop, Nat.add_comm]

namespace GapIs
variable {cells simple : List Int} {gs ge a : Int}
/-- the gap moved to the left: the run [a, gs) is laid ahead of ge -/
theorem move_lo (g : GapIs cells gs ge simple) (h3 : 0 ≤ a) (h : a < gs) :
    GapIs (cells.take (ge - (gs - a)).toNat ++ (cells.drop a.toNat).take (gs - a).toNat ++ cells.drop ge.toNat) a (ge - (gs - a)) simple := by
  obtain ⟨p, q, rfl, rfl, h1, h2, hl, hg⟩ := g.nat
  obtain ⟨a, rfl⟩ := to_nat h3
  clear g h3
  replace h := Int.ofNat_lt.mp h
  obtain ⟨r, e⟩ : ∃ r : Nat, (q : Int) - ((p : Int) - a) = r := to_nat (by clear hg; omega)
  rw [e, nat_of, nat_of, nat_of, nat_sub]
  have e : r + (p - a) = q := by clear hg; omega
  have l1 := run_len cells (a := a) (n := p - a) (by clear hg; omega)
  refine of_nat (by clear hg; omega) ?_ ?_ fun i hi => ?_
  · rw [put_len _ _ _ _ (by clear hg; omega), l1]; clear hg; omega
  · rw [put_len _ _ _ _ (by clear hg; omega), l1]; clear hg; omega
  · rw [put_get _ _ _ _ _ (by clear hg; omega), put_get _ _ _ _ _ (by clear hg; omega), l1, hg]
    clear hg l1
    rw [slice_get, slice_get]
    by_cases c1 : i < a
    · rw [if_pos c1, if_pos (by omega), if_pos (by omega)]
    · rw [if_neg c1]
      by_cases c2 : i < p
      · rw [if_pos c2, if_neg (by omega), if_pos (by omega), if_pos (by omega)]
        congr 1; omega
      · rw [if_neg c2, if_neg (by omega), if_neg (by omega)]
        congr 1; omega
/-- and to the right: the run [ge, ge + a - gs) is laid behind gs -/
theorem move_hi (g : GapIs cells gs ge simple) (h5 : a ≤ simple.length) (h : gs ≤ a) :
    GapIs (cells.take gs.toNat ++ (cells.drop ge.toNat).take (a - gs).toNat ++ cells.drop a.toNat) a (ge + (a - gs)) simple := by
  obtain ⟨p, q, rfl, rfl, h1, h2, hl, hg⟩ := g.nat
  obtain ⟨a, rfl⟩ := to_nat (Int.le_trans g.h0 h)
  clear g
  replace h := Int.ofNat_le.mp h; replace h5 := Int.ofNat_le.mp h5
  obtain ⟨r, e⟩ : ∃ r : Nat, (q : Int) + ((a : Int) - p) = r := to_nat (by clear hg; omega)
  rw [e, nat_of, nat_of, nat_of, nat_sub]
  have e : r + p = q + a := by clear hg; omega
  have l1 := run_len cells (a := q) (n := a - p) (by clear hg; omega)
  refine of_nat (by clear hg; omega) ?_ ?_ fun i hi => ?_
  · rw [put_len _ _ _ _ (by clear hg; omega), l1]; clear hg; omega
  · rw [put_len _ _ _ _ (by clear hg; omega), l1]; clear hg; omega
  · rw [put_get _ _ _ _ _ (by clear hg; omega), put_get _ _ _ _ _ (by clear hg; omega), l1, hg]
    clear hg l1
    by_cases c1 : i < p
    · rw [if_pos c1, if_pos (by omega), if_pos c1]
    · rw [if_neg c1]
      by_cases c2 : i < a
      · rw [if_pos c2, if_neg c1, if_pos (by omega), slice_get, if_pos (by omega)]
        congr 1; omega
      · rw [if_neg c2, if_neg (by omega), if_neg (by omega)]
        congr 1; omega
/-- cells laid into the gap's end -/
theorem widen (g : GapIs cells gs ge simple) (nw : List Int) {k : Int} (hk : (nw.length : Int) = k) : GapIs (cells.take ge.toNat ++ nw ++ cells.drop ge.toNat) gs (ge + k) simple := by
  obtain ⟨p, q, rfl, rfl, h1, h2, hl, hg⟩ := g.nat
  clear g
  subst hk
  rw [nat_of, ← Int.natCast_add]
  refine of_nat (by clear hg; omega) ?_ ?_ fun i hi => ?_
  · rw [put_len _ _ _ _ h2]; clear hg; omega
  · rw [put_len _ _ _ _ h2]; clear hg; omega
  · rw [put_get _ _ _ _ _ h2, put_get _ _ _ _ _ h2, hg]
    clear hg
    by_cases c1 : i < p
    · rw [if_pos c1, if_pos c1, if_pos (by omega)]
    · rw [if_neg c1, if_neg c1, if_neg (by omega), if_neg (by omega)]
      congr 1; omega
/-- cells taken out of the gap's end -/
theorem narrow (g : GapIs cells gs ge simple) {k : Int} (hk : gs ≤ k) (hk' : k ≤ ge) : GapIs (cells.take k.toNat ++ [] ++ cells.drop ge.toNat) gs k simple := by
  obtain ⟨p, q, rfl, rfl, h1, h2, hl, hg⟩ := g.nat
  obtain ⟨k, rfl⟩ := to_nat (Int.le_trans g.h0 hk)
  clear g
  replace hk := Int.ofNat_le.mp hk; replace hk' := Int.ofNat_le.mp hk'
  rw [nat_of, nat_of]
  have hc := Nat.le_trans hk' h2
  refine of_nat hk ?_ ?_ fun i hi => ?_
  · rw [put_len _ _ _ _ hc]; clear hg; simp only [List.length_nil]; omega
  · rw [put_len _ _ _ _ hc]; clear hg; simp only [List.length_nil]; omega
  · rw [put_get _ _ _ _ _ hc, put_get _ _ _ _ _ hc, hg]
    clear hg
    simp only [List.length_nil]
    by_cases c1 : i < p
    · rw [if_pos c1, if_pos c1, if_pos (by omega)]
    · rw [if_neg c1, if_neg c1, if_neg (by omega), if_neg (by omega)]
      congr 1; omega
/-- signs laid at the gap's start -/
theorem fill (g : GapIs cells gs ge simple) (nw : List Int) (hk : gs + nw.length ≤ ge) :
    GapIs (cells.take gs.toNat ++ nw ++ cells.drop (gs + nw.length).toNat) (gs + nw.length) ge (simple.take gs.toNat ++ nw ++ simple.drop gs.toNat) := by
  obtain ⟨p, q, rfl, rfl, h1, h2, hl, hg⟩ := g.nat
  clear g
  rw [← Int.natCast_add] at hk ⊢
  replace hk := Int.ofNat_le.mp hk
  rw [nat_of, nat_of]
  have hc : p ≤ cells.length := Nat.le_trans h1 h2
  have hs : p ≤ simple.length := by clear hg; omega
  refine of_nat hk ?_ ?_ fun i hi => ?_
  · rw [put_len _ _ _ _ hc]; clear hg; omega
  · rw [put_len _ _ _ _ hc, put_len _ _ _ _ hs]; clear hg; omega
  · rw [put_get _ _ _ _ _ hc, put_get _ _ _ _ _ hc, put_get _ _ _ _ _ hs, hg, hg]
    clear hg hi
    by_cases c1 : i < p
    · rw [if_pos c1, if_pos c1, if_pos (by omega), if_pos c1]
    · rw [if_neg c1]
      by_cases c2 : i < p + nw.length
      · rw [if_pos c2, if_pos c2, if_neg c1, if_pos c2]
      · rw [if_neg c2, if_neg c2, if_neg (by omega), if_neg (by omega), if_neg (by omega)]
        congr 1; omega
/-- the gap made wider over signs on both sides -/
theorem gone (g : GapIs cells gs ge simple) {b : Int} (h3 : 0 ≤ a) (h4 : a ≤ gs) (h5 : gs ≤ b) (h6 : b ≤ simple.length) :
    GapIs cells a (ge + b - gs) (simple.take a.toNat ++ simple.drop b.toNat) := by
  obtain ⟨p, q, rfl, rfl, h1, h2, hl, hg⟩ := g.nat
  obtain ⟨a, rfl⟩ := to_nat h3
  obtain ⟨b, rfl⟩ := to_nat (Int.le_trans g.h0 h5)
  clear g h3
  replace h4 := Int.ofNat_le.mp h4; replace h5 := Int.ofNat_le.mp h5; replace h6 := Int.ofNat_le.mp h6
  obtain ⟨r, e⟩ : ∃ r : Nat, (q : Int) + b - p = r := to_nat (by clear hg; omega)
  rw [e, nat_of, nat_of]
  have e : r + p = q + b := by clear hg; omega
  have hs : a ≤ simple.length := by clear hg; omega
  have z := put_len simple [] a b hs
  rw [List.append_nil] at z
  refine of_nat (by clear hg z; omega) (by clear hg z; omega) ?_ fun i hi => ?_
  · rw [z]; clear hg z; simp only [List.length_nil]; omega
  · have y := put_get simple [] a b i hs
    rw [List.append_nil] at y
    rw [y, hg, hg]
    clear hg hi y z
    simp only [List.length_nil]
    by_cases c1 : i < a
    · rw [if_pos c1, if_pos (by omega), if_pos c1]
    · rw [if_neg c1, if_neg (by omega), if_neg (by omega), if_neg c1]
      congr 1; omega
theorem put_lo (g : GapIs cells gs ge simple) {v : Int} (h3 : 0 ≤ a) (h : a < gs) : GapIs (cells.set a.toNat v) gs ge (simple.set a.toNat v) := by
  obtain ⟨p, q, rfl, rfl, h1, h2, hl, hg⟩ := g.nat
  obtain ⟨a, rfl⟩ := to_nat h3
  clear g h3
  replace h := Int.ofNat_lt.mp h
  rw [nat_of]
  have hs : a < simple.length := by clear hg; omega
  have hc : a < cells.length := by clear hg; omega
  refine of_nat h1 (by rw [List.length_set]; exact h2) (by rw [List.length_set, List.length_set]; exact hl) fun i _ => ?_
  rw [List.getElem?_set, List.getElem?_set, List.getElem?_set, hg]
  clear hg
  by_cases c2 : a = i
  · rw [if_pos c2, if_pos hs, if_pos (by omega), if_pos c2, if_pos hc]
  · rw [if_neg c2, if_neg c2]
    by_cases c4 : i < p
    · rw [if_pos c4, if_pos c4]
    · rw [if_neg c4, if_neg c4, if_neg (by omega)]
theorem put_hi (g : GapIs cells gs ge simple) {v : Int} (h5 : a < simple.length) (h : ¬ a < gs) : GapIs (cells.set (a - gs + ge).toNat v) gs ge (simple.set a.toNat v) := by
  obtain ⟨p, q, rfl, rfl, h1, h2, hl, hg⟩ := g.nat
  obtain ⟨a, rfl⟩ := to_nat (Int.le_trans g.h0 (Int.not_lt.mp h))
  clear g
  replace h : ¬ a < p := fun x => h (Int.ofNat_lt.mpr x)
  replace h5 := Int.ofNat_lt.mp h5
  obtain ⟨r, e⟩ : ∃ r : Nat, (a : Int) - p + q = r := to_nat (by clear hg; omega)
  rw [e, nat_of, nat_of]
  have e : r + p = a + q := by clear hg; omega
  have hc : r < cells.length := by clear hg; omega
  refine of_nat h1 (by rw [List.length_set]; exact h2) (by rw [List.length_set, List.length_set]; exact hl) fun i _ => ?_
  rw [List.getElem?_set, List.getElem?_set, List.getElem?_set, hg]
  clear hg
  by_cases c2 : a = i
  · rw [if_pos c2, if_pos h5, if_neg (by omega), if_pos (by omega), if_pos hc]
  · rw [if_neg c2]
    by_cases c4 : i < p
    · rw [if_pos c4, if_pos c4, if_neg (by omega)]
    · rw [if_neg c4, if_neg c4, if_neg (by omega)]
end GapIs
section
variable {prog : Program} {w : World} {A : Around} {E : Value → Shared → Prop} {s : Shared} {h₀ : Heap} {L c D : Addr} {m : Str → Option Value} {news : Led} {g : Obj → Led}

theorem letGo_all {Q : Unit → Shared → Prop} (l keep : List Value) (h : Q () s) : wpAny (model prog w) A (letGo l keep) Q E s := wpAny_letGo h

/-- a list's run is put in the place of a run -/
theorem set_slice_at {items new : Array Value} {n : Nat} {sl : Addr} {vl vu : Value} {lo hi : Option Int} {Q : Unit → Shared → Prop}
    (ho : s.heap.get? c = some (listOf items n)) (hD : s.heap.IsList D new) (hs : s.heap.IsSliceOf sl vl vu .none) (pl : IsPart vl lo) (pu : IsPart vu hi)
    (hz : items.size + new.size ≤ sizeLine)
    (hQ : Q () { s with heap := s.heap.update c (Obj.mapSeq fun xs => xs.extract 0 (sliceBounds lo hi none items.size).1.toNat ++ new ++ xs.extract (max (sliceBounds lo hi none items.size).1 (sliceBounds lo hi none items.size).2.1).toNat xs.size) }) :
    wpAny (model prog w) A (setItem (.ref c) (.ref sl) (.ref D)) Q E s := by
  have hl : s.heap.IsList c items := PySem.IsL.isList (n := n) ho
  obtain ⟨oD, hoD, hcD, nD, hdD⟩ := id hD
  obtain ⟨os, hos, hcs, hds⟩ := id hs
  have hTs : s.TypeIs (.ref sl) "slice" := ⟨os, hos, hcs⟩
  unfold setItem
  try with_reducible refine wpAny_holding ?_
  first | refine wpAny_bind (wpAny_pure ?_) | skip
  refine wpAny_bind (wpAny_sequenceKey hl.typeIs (by decide) ?_)
  refine wpAny_bind (wpAny_callSpecial?_slot (name := Str.ofString "__setitem__") hl.typeIs slot_list_setitem
    (wpAny_call_entry slot_list_setitem hl.typeIs entry_list_setitem ?_ (args_list_setitem _ _ _)))
  show wpAny _ _ (Builtin.List.listSubscript? (.ref sl) >>= _) _ _ s
  refine wpAny_bind ?_
  unfold Builtin.List.listSubscript?
  refine wpAny_bind (wpAny_specialOf hTs slice_no_index ?_)
  simp only [Option.isNone_none, if_true]
  refine wpAny_pure ?_
  show wpAny _ _ (typeOf (.ref sl) >>= _) _ _ s
  refine wpAny_bind (wpAny_typeOf hTs ?_)
  rw [if_neg (by decide)]
  rw [listSliceParts_eq]
  refine wpAny_bind (wpAny_bind (wpAny_field hos hds (x := .none) rfl (wpAny_bind (wpAny_listPart IsPart.none ?_))))
  rw [if_neg (show ¬ ((rawPart none == rawInt 0) = true) from Bool.false_ne_true)]
  refine wpAny_bind (wpAny_field hos hds (x := vl) rfl (wpAny_bind (wpAny_listPart pl ?_)))
  refine wpAny_bind (wpAny_field hos hds (x := vu) rfl (wpAny_bind (wpAny_listPart pu (wpAny_pure ?_))))
  have rest : wpAny (model prog w) A.in1 (Builtin.List.listItems (.ref D)) (fun r s' => r = new ∧ s' = s) (fun _ _ => False) s := by
    unfold Builtin.List.listItems
    exact wpAny_bind (wpAny_seqItems hoD hdD (wpAny_pure ⟨rfl, rfl⟩))
  have all : wpAny (model prog w) A.in1 (Builtin.List.listAllItems (.ref D) "must assign iterable to extended slice") (fun r s' => r = new ∧ s' = s) (fun _ _ => False) s := by
    unfold Builtin.List.listAllItems
    refine wpAny_bind (wpAny_typeOf hD.typeIs ?_)
    rw [if_pos (by decide)]
    exact rest
  split
  all_goals
    first
      | refine wpAny_bind (wpAny_mono rest (fun r s' hr => ?_) fun _ _ e => e.elim)
      | refine wpAny_bind (wpAny_mono all (fun r s' hr => ?_) fun _ _ e => e.elim)
    obtain ⟨rfl, rfl⟩ := hr
    refine wpAny_bind (m := Builtin.List.listItems (.ref c)) ?_
    unfold Builtin.List.listItems
    refine wpAny_bind (wpAny_seqItems ho rfl (wpAny_pure ?_))
    refine wpAny_bind (wpAny_of_eq (sliceIndices_raw lo hi none items.size (by simp)) ?_)
    rw [if_pos (show ((sliceBounds lo hi none items.size).2.2 == 1) = true from rfl)]
    refine wpAny_bind (wpAny_rule ?_)
    rw [if_neg (show ¬ (Builtin.List.listTooLong (items.size + r.size) = true) by unfold Builtin.List.listTooLong; simp; omega)]
    have hle : ((items.extract 0 (sliceBounds lo hi none items.size).1.toNat ++ r ++ items.extract (max (sliceBounds lo hi none items.size).1 (sliceBounds lo hi none items.size).2.1).toNat items.size)).size ≤ sizeLine + 1 := by
      have e := kms_bounds lo hi items.size
      rw [e]
      simp only [Array.size_append, Array.size_extract]
      have : kms_lo lo items.size ≤ items.size := by unfold kms_lo; split <;> (try split) <;> omega
      omega
    refine wpAny_bind (m := Builtin.List.listUpdate (.ref c) _) ?_
    refine wpAny_updateSeq ho rfl ?_ (by omega) hle
    refine wpAny_bind (wpAny_letGo ?_)
    exact wpAny_pure ⟨.none, rfl, wpAny_pure hQ⟩

theorem slice_lo (x : Int) (n : Nat) (hx : 0 ≤ x) : kms_lo (some x) n = min x.toNat n := by unfold kms_lo; simp only; rw [if_neg (by omega)]
theorem slice_hi (x : Int) (n : Nat) (hx : 0 ≤ x) : kms_hi (some x) n = min x.toNat n := by unfold kms_hi; simp only; rw [if_neg (by omega)]

theorem cut_eq (vs new : List Value) (x y : Int) (hx : 0 ≤ x) (hy : 0 ≤ y) :
    (vs.toArray.extract 0 (sliceBounds (some x) (some y) none vs.toArray.size).1.toNat ++ new.toArray ++ vs.toArray.extract (max (sliceBounds (some x) (some y) none vs.toArray.size).1 (sliceBounds (some x) (some y) none vs.toArray.size).2.1).toNat vs.toArray.size)
      = (vs.take x.toNat ++ new ++ vs.drop (max x.toNat y.toNat)).toArray := by
  rw [kms_bounds]
  simp only [slice_lo _ _ hx, slice_hi _ _ hy]
  apply Array.toList_inj.mp
  simp only [Array.toList_append, Array.toList_extract, List.size_toArray, List.extract_eq_take_drop, List.drop_zero, Nat.sub_zero]
  have e1 : ((min x.toNat vs.length : Nat) : Int).toNat = min x.toNat vs.length := by omega
  have e2 : (max ((min x.toNat vs.length : Nat) : Int) ((min y.toNat vs.length : Nat) : Int)).toNat = min (max x.toNat y.toNat) vs.length := by omega
  rw [e1, e2, kmk_take_min, kmk_drop_min, List.take_of_length_le (l := vs.drop _) (by rw [List.length_drop]; omega)]

theorem set_slice_ints {vs new : List Value} {cells nw : List Int} {n : Nat} {vl vu : Value} {x y : Int} {Q : Unit → Shared → Prop}
    (F : Fr h₀ L s.heap m) (N : News h₀ L s.heap news) (U : UpdF c (listOf vs.toArray n) news g) (hD : s.heap.IsList D new.toArray)
    (pl : IsPart vl (some x)) (pu : IsPart vu (some y)) (hI : IntsAre vs cells) (hJ : IntsAre new nw) (hx : 0 ≤ x) (hy : 0 ≤ y) (hz : cells.length + nw.length ≤ sizeLine)
    (h : ∀ h' ws n', Fr h₀ L h' m → News h₀ L h' (g (listOf (List.toArray ws) n')) → IntsAre ws (cells.take x.toNat ++ nw ++ cells.drop (max x.toNat y.toNat)) → Q () { s with heap := h' }) :
    wpAny (model prog w) A (setItem (.ref c) (.ref s.heap.objs.size) (.ref D)) Q E { s with heap := s.heap.push { cls := .type "slice", data := .fields #[vl, vu, .none] } } := by
  obtain ⟨pre, post, rfl, hg, a, b⟩ := U.split
  have z := N (c, listOf vs.toArray n) (List.mem_append.mpr (.inr (.head _)))
  have F₁ := F.push { cls := .type "slice", data := .fields #[vl, vu, .none] }
  have N₁ : News h₀ L (s.heap.push { cls := .type "slice", data := .fields #[vl, vu, .none] }) (pre ++ (c, listOf vs.toArray n) :: post) := N.grown fun _ _ e => Heap.get?_push_of_some _ e
  refine set_slice_at (n := n) (lo := some x) (hi := some y) (Heap.get?_push_of_some _ z.1) (hD.push _) (Heap.IsSliceOf.new ..) pl pu (by rw [List.size_toArray, List.size_toArray, hI.length, hJ.length]; exact hz) ?_
  refine h _ (vs.take x.toNat ++ new ++ vs.drop (max x.toNat y.toNat)) (if (vs.take x.toNat ++ new ++ vs.drop (max x.toNat y.toNat)).toArray.size == vs.toArray.size then n else n + 1) (F₁.change (Heap.SameBut.update ..) z.2.1 z.2.2) ?_ ?_
  · rw [hg]
    exact ki_turn _ N₁ a b (cut_eq vs new x y hx hy) rfl
  · exact ((hI.take _).append hJ).append (hI.drop _)
end
local macro_rules | `(tactic| walk_at "compareChain") => `(tactic| ((with_reducible show wpAny _ _ (compareChain _ _ (_ :: _ :: _) _) _ _ _); with_unfolding_all refine chain_link ?_))
section
variable {prog : Program} {w : World} {A : Around} {E : Value → Shared → Prop} {s : Shared} {h₀ : Heap} {L c D : Addr} {m : Str → Option Value} {news news' : Led} {n : Nat}
theorem pop_first {v : Value} {vs : List Value} {u : Tok} {Q : Value → Shared → Prop} (F : Fr h₀ L s.heap m) (N : News h₀ L s.heap news)
    (U : Upd D (listOf (v :: vs).toArray n) (listOf vs.toArray (n + 1)) news news') (hz : (v :: vs).length ≤ sizeLine) (h : ∀ h', Fr h₀ L h' m → News h₀ L h' news' → Q v { s with heap := h' }) :
    wpAny (model prog w) A (call (.builtin "list.pop") [.ref D, .int 0 u]) Q E s :=
  kl_popAt (k := 0) (p := []) (y := v) (q := vs) F N (by decide) (seqIndex_of (k := 0) (by decide) (by rw [List.size_toArray, List.length_cons]; omega)) rfl U hz h
end
abbrev gapL (G : Keys) (x dx c : Addr) (room gs ge : Int) (t1 t3 t4 : Nat) (vs : List Value) (n : Nat) (own : Led) : Led :=
  (x, instObj 101 dx) :: (dx, gapD G room gs ge t1 t3 t4 c) :: (c, listOf vs.toArray n) :: own

set_option maxRecDepth 100000 in
set_option maxHeartbeats 8000000 in
theorem ct_size {w : World} {mean : ExcName → Option Value} {mg mb : Str → Option Value} (G : Keys) (x dx c : Addr) (room gs ge : Int) (t1 t3 t4 : Nat) (vs : List Value) (cells simple : List Int) (n : Nat) (own : Led)
   (hI : IntsAre vs cells) (hlen : cells.length ≤ 1000) (g : GapIs cells gs ge simple) :
   Ct 0 w mean mg mb 35 [.ref x] (gapL G x dx c room gs ge t1 t3 t4 vs n own)
     (fun r news' => (∃ t, r = .int simple.length t) ∧ news' = gapL G x dx c room gs ge t1 t3 t4 vs n own) := by
  unfold Ct
  w_top off
  k_with_none
  k_fill
  intro dp un gd cn cs a ccd cl outer A₀ base h₀ L m s Q E B F X N T hk hdp hun hret
  dsimp only [gapL, gapD] at N
  refine wpAny_call ?_
  k_dflt cell_enter
  k_steps
  rw [← g.len]
  exact hret _ _ _ _ ⟨⟨_, rfl⟩, rfl⟩ (by k_asm) (by k_asm)

set_option maxRecDepth 100000 in
set_option maxHeartbeats 8000000 in
theorem ct_code {w : World} {mean : ExcName → Option Value} {mg mb : Str → Option Value} (G : Keys) (x dx c : Addr) (room gs ge at' : Int) (t1 t3 t4 ta : Nat) (vs : List Value) (cells simple : List Int) (n : Nat) (own : Led)
   (hI : IntsAre vs cells) (hlen : cells.length ≤ 1000) (g : GapIs cells gs ge simple) (h3 : 0 ≤ at') (h4 : at' < simple.length) :
   Ct 0 w mean mg mb 42 [.ref x, .int at' ta] (gapL G x dx c room gs ge t1 t3 t4 vs n own)
     (fun r news' => (∃ t, r = .int (simple.getD at'.toNat 0) t) ∧ news' = gapL G x dx c room gs ge t1 t3 t4 vs n own) := by
  unfold Ct
  w_top off
  k_with_none
  k_fill
  intro dp un gd cn cs a ccd cl outer A₀ base h₀ L m s Q E B F X N T hk hdp hun hret
  dsimp only [gapL, gapD] at N
  have g0 := g.h0; have g1 := g.h1; have g2 := g.h2; have gl := g.len
  refine wpAny_call ?_
  k_dflt cell_enter
  k_steps
  · rw [g.code_lo h3 (by assumption)]
    exact hret _ _ _ _ ⟨⟨_, rfl⟩, rfl⟩ (by k_asm) (by k_asm)
  · rw [g.code_hi h3 (by assumption)]
    exact hret _ _ _ _ ⟨⟨_, rfl⟩, rfl⟩ (by k_asm) (by k_asm)

set_option maxRecDepth 100000 in
set_option maxHeartbeats 8000000 in
theorem ct_is_whole {w : World} {mean : ExcName → Option Value} {mg mb : Str → Option Value} (G : Keys) (x dx c : Addr) (room gs ge : Int) (t1 t3 t4 : Nat) (vs : List Value) (cells simple : List Int) (n : Nat) (own : Led)
   (hI : IntsAre vs cells) (hlen : cells.length ≤ 1000) (g : GapIs cells gs ge simple) :
   Ct 0 w mean mg mb 98 [.ref x] (gapL G x dx c room gs ge t1 t3 t4 vs n own)
     (fun r news' => r = .bool true ∧ news' = gapL G x dx c room gs ge t1 t3 t4 vs n own) := by
  unfold Ct
  w_top off
  k_with_none
  k_fill
  intro dp un gd cn cs a ccd cl outer A₀ base h₀ L m s Q E B F X N T hk hdp hun hret
  dsimp only [gapL, gapD] at N
  have g0 := g.h0; have g1 := g.h1; have g2 := g.h2; have gl := g.len
  refine wpAny_call ?_
  k_dflt cell_enter
  k_steps
  rw [decide_eq_true g.h2]
  exact hret _ _ _ _ ⟨rfl, rfl⟩ (by k_asm) (by k_asm)
set_option maxRecDepth 100000 in
set_option maxHeartbeats 8000000 in
theorem ct_codes {w : World} {mean : ExcName → Option Value} {mg mb : Str → Option Value} (G : Keys) (x dx c : Addr) (room gs ge a' b' : Int) (t1 t3 t4 ta tb : Nat) (vs : List Value) (cells simple : List Int) (n : Nat) (own : Led)
   (hI : IntsAre vs cells) (hlen : cells.length ≤ 1000) (g : GapIs cells gs ge simple) (h3 : 0 ≤ a') (h4 : a' ≤ b') (h5 : b' ≤ simple.length) :
   Ct 0 w mean mg mb 49 [.ref x, .int a' ta, .int b' tb] (gapL G x dx c room gs ge t1 t3 t4 vs n own)
     (fun r news' => ∃ D ws k, r = .ref D ∧ news' = (D, listOf (List.toArray ws) k) :: gapL G x dx c room gs ge t1 t3 t4 vs n own ∧ IntsAre ws ((simple.drop a'.toNat).take (b' - a').toNat) ∧ @LT.lt Nat _ x D ∧ @LT.lt Nat _ dx D ∧ @LT.lt Nat _ c D ∧ AllLt D own) := by
  unfold Ct
  w_top off
  k_with_none
  k_fill
  intro dp un gd cn cs a ccd cl outer A₀ base h₀ L m s Q E B F X N T hk hdp hun hret
  dsimp only [gapL, gapD] at N
  have g0 := g.h0; have g1 := g.h1; have g2 := g.h2; have gl := g.len
  refine wpAny_call ?_
  k_dflt cell_enter
  k_steps
  · (rename IntsAre _ _ => hI'); (rename (_ < _ ∧ _) => l1)
    rw [g.codes_lo h3 h4 (by assumption)] at hI'
    exact hret _ _ _ _ ⟨_, _, _, rfl, rfl, hI', l1⟩ (by k_asm) (by k_asm)
  · (rename IntsAre _ _ => hI'); (rename (_ < _ ∧ _) => l1)
    rw [g.codes_hi h3 h4 h5 (by omega)] at hI'
    exact hret _ _ _ _ ⟨_, _, _, rfl, rfl, hI', l1⟩ (by k_asm) (by k_asm)
  · (rename IntsAre _ _ => hI'); (rename (_ < _ ∧ _) => l1); (rename News _ _ _ _ => N')
    rw [g.codes_mid h3 h5 (by omega) (by omega)] at hI'
    exact hret _ _ _ _ ⟨_, _, _, rfl, rfl, hI', l1.2.2⟩ (by k_asm) (kst_newsOf N' fun p hp => by
      rcases List.mem_cons.mp hp with rfl | hp
      · exact List.Mem.head _
      · exact .tail _ (.tail _ (.tail _ hp)))
set_option maxRecDepth 100000 in
set_option maxHeartbeats 8000000 in
theorem ct_move {w : World} {mean : ExcName → Option Value} {mg mb : Str → Option Value} (G : Keys) (x dx c : Addr) (room gs ge a' : Int) (t1 t3 t4 ta : Nat) (vs : List Value) (cells simple : List Int) (n : Nat) (own : Led)
   (hI : IntsAre vs cells) (hlen : cells.length ≤ 1000) (g : GapIs cells gs ge simple) (h3 : 0 ≤ a') (h5 : a' ≤ simple.length)
   (x1 : @LT.lt Nat _ dx x) (x2 : @LT.lt Nat _ x c) (xo : OwnOff own [x, dx, c]) :
   Ct 0 w mean mg mb 56 [.ref x, .int a' ta] (gapL G x dx c room gs ge t1 t3 t4 vs n own)
     (fun r news' => r = .none ∧ ∃ ge' t3' t4' ws k cells', news' = gapL G x dx c room a' ge' t1 t3' t4' ws k own ∧ IntsAre ws cells' ∧ GapIs cells' a' ge' simple ∧ cells'.length = cells.length ∧ ge' - a' = ge - gs) := by
  unfold Ct
  w_top off
  k_with_none
  k_with "gap set" => (
  k_here; (with_reducible show wpAny _ _ (setItem (Value.ref _) (Value.ref _) (Value.ref _)) _ _ _); k_dflt (refine' set_slice_ints ?gapF ?gapN ?gapU ?gapl ?gapp ?gapq ?gapi ?gapj ?gapx ?gapy ?gapz ?_; (case gapF => k_asm); (case gapN => k_asm); (case gapU => k_updF); (case gapl => kmk_list); (case gapp => kmk_part); (case gapq => kmk_part); (case gapi => l_ints); (case gapj => l_ints); (case gapx => first | omega | kmk_sign); (case gapy => first | omega | kmk_sign); (case gapz => ((try simp only [List.length_append, List.length_take, List.length_drop, List.length_cons, List.length_nil, List.length_replicate]); (try rw [sizeLine_eq]); omega)); k_whole); intro h' ws' n' F' N' hI'; (try dsimp only at N'); (try k_sweep))
  k_fill
  intro dp un gd cn cs a ccd cl outer A₀ base h₀ L m s Q E B F X N T hk hdp hun hret
  dsimp only [gapL, gapD] at N
  have g0 := g.h0; have g1 := g.h1; have g2 := g.h2; have gl := g.len
  refine wpAny_call ?_
  k_dflt cell_enter
  k_steps
  · (rename News _ _ _ _ => N'); (rename IntsAre _ _ => hI')
    have e0 : min gs.toNat cells.length - a'.toNat = (gs - a').toNat := by omega
    have el : (((cells.drop a'.toNat).take (gs - a').toNat).length : Int) = gs - a' := by rw [List.length_take, List.length_drop]; omega
    rw [e0] at hI' N'
    rw [el] at hI' N'
    rw [show max (ge - (gs - a')).toNat ge.toNat = ge.toNat by omega] at hI'
    exact hret _ _ _ _ ⟨rfl, _, _, _, _, _, _, rfl, hI', g.move_lo h3 (by assumption), by rw [put_len _ _ _ _ (by omega)]; omega, by omega⟩ (by k_asm) (kst_newsOf N' fun p hp => List.Mem.tail _ hp)
  · (rename News _ _ _ _ => N'); (rename IntsAre _ _ => hI')
    have e0 : min (ge + a' - gs).toNat cells.length - ge.toNat = (a' - gs).toNat := by omega
    have el : (((cells.drop ge.toNat).take (a' - gs).toNat).length : Int) = a' - gs := by rw [List.length_take, List.length_drop]; omega
    rw [e0] at hI' N'
    rw [el] at hI' N'
    rw [show max gs.toNat (gs + (a' - gs)).toNat = a'.toNat by omega] at hI'
    exact hret _ _ _ _ ⟨rfl, _, _, _, _, _, _, rfl, hI', g.move_hi h5 (by omega), by rw [put_len _ _ _ _ (by omega)]; omega, by omega⟩ (by k_asm) (kst_newsOf N' fun p hp => List.Mem.tail _ hp)
theorem set_cut (l : List Int) (v : Int) {a : Int} (h3 : 0 ≤ a) (h : a < l.length) : l.set a.toNat v = l.take a.toNat ++ [v] ++ l.drop (a + 1).toNat := by
  rw [List.set_eq_take_append_cons_drop, if_pos (by omega), show (a + 1).toNat = a.toNat + 1 by omega, List.append_assoc]
  rfl
set_option maxRecDepth 100000 in
set_option maxHeartbeats 8000000 in
theorem ct_widen {w : World} {mean : ExcName → Option Value} {mg mb : Str → Option Value} (G : Keys) (x dx c : Addr) (room gs ge a' : Int) (t1 t3 t4 ta : Nat) (vs : List Value) (cells simple : List Int) (n : Nat) (own : Led)
   (hI : IntsAre vs cells) (hlen : cells.length ≤ 1000) (g : GapIs cells gs ge simple) (h3 : 0 ≤ a') (h5 : a' ≤ 100) (hr : 0 ≤ room) (hr' : room ≤ 100)
   (x1 : @LT.lt Nat _ dx x) (x2 : @LT.lt Nat _ x c) (xo : OwnOff own [x, dx, c]) :
   Ct 0 w mean mg mb 63 [.ref x, .int a' ta] (gapL G x dx c room gs ge t1 t3 t4 vs n own)
     (fun r news' => r = .none ∧ ∃ ge' t4' ws k cells', news' = gapL G x dx c room gs ge' t1 t3 t4' ws k own ∧ IntsAre ws cells' ∧ GapIs cells' gs ge' simple ∧ (cells'.length : Int) ≤ cells.length + a' + room ∧ a' ≤ ge' - gs) := by
  unfold Ct
  w_top off
  k_with_none
  k_with "gap set" => (
  k_here; (with_reducible show wpAny _ _ (setItem (Value.ref _) (Value.ref _) (Value.ref _)) _ _ _); k_dflt (refine' set_slice_ints ?gapF ?gapN ?gapU ?gapl ?gapp ?gapq ?gapi ?gapj ?gapx ?gapy ?gapz ?_; (case gapF => k_asm); (case gapN => k_asm); (case gapU => k_updF); (case gapl => kmk_list); (case gapp => kmk_part); (case gapq => kmk_part); (case gapi => l_ints); (case gapj => l_ints); (case gapx => first | omega | kmk_sign); (case gapy => first | omega | kmk_sign); (case gapz => ((try simp only [List.length_append, List.length_take, List.length_drop, List.length_cons, List.length_nil, List.length_replicate]); (try rw [sizeLine_eq]); omega)); k_whole); intro h' ws' n' F' N' hI'; (try dsimp only at N'); (try k_sweep))
  k_fill
  intro dp un gd cn cs a ccd cl outer A₀ base h₀ L m s Q E B F X N T hk hdp hun hret
  dsimp only [gapL, gapD] at N
  have g0 := g.h0; have g1 := g.h1; have g2 := g.h2; have gl := g.len
  refine wpAny_call ?_
  k_dflt cell_enter
  k_steps
  · (rename News _ _ _ _ => N'); (rename IntsAre _ _ => hI')
    have el : (((List.replicate (a' - (ge - gs) + room).toNat [0]).flatten : List Int).length : Int) = a' - (ge - gs) + room := by simp; omega
    rw [Nat.max_self] at hI'
    have g' := g.widen _ el
    rw [show ge + (a' - (ge - gs) + room) = ge + (a' - (ge - gs)) + room by omega] at g'
    exact hret _ _ _ _ ⟨rfl, _, _, _, _, _, rfl, hI', g', by rw [put_len _ _ _ _ (by omega)]; omega, by omega⟩ (by k_asm) (kst_newsOf N' fun p hp => List.Mem.tail _ (List.Mem.tail _ hp))
  · exact hret _ _ _ _ ⟨rfl, _, _, _, _, _, rfl, hI, g, by omega, by omega⟩ (by k_asm) (by k_asm)

set_option maxRecDepth 100000 in
set_option maxHeartbeats 8000000 in
theorem ct_narrow {w : World} {mean : ExcName → Option Value} {mg mb : Str → Option Value} (G : Keys) (x dx c : Addr) (room gs ge : Int) (t1 t3 t4 : Nat) (vs : List Value) (cells simple : List Int) (n : Nat) (own : Led)
   (hI : IntsAre vs cells) (hlen : cells.length ≤ 1000) (g : GapIs cells gs ge simple) (hr : 0 ≤ room) (hr' : room ≤ 100)
   (x1 : @LT.lt Nat _ dx x) (x2 : @LT.lt Nat _ x c) (xo : OwnOff own [x, dx, c]) :
   Ct 0 w mean mg mb 91 [.ref x] (gapL G x dx c room gs ge t1 t3 t4 vs n own)
     (fun r news' => r = .none ∧ ∃ ge' t4' ws k cells', news' = gapL G x dx c room gs ge' t1 t3 t4' ws k own ∧ IntsAre ws cells' ∧ GapIs cells' gs ge' simple ∧ cells'.length ≤ cells.length) := by
  unfold Ct
  w_top off
  k_with_none
  k_with "gap set" => (
  k_here; (with_reducible show wpAny _ _ (setItem (Value.ref _) (Value.ref _) (Value.ref _)) _ _ _); k_dflt (refine' set_slice_ints ?gapF ?gapN ?gapU ?gapl ?gapp ?gapq ?gapi ?gapj ?gapx ?gapy ?gapz ?_; (case gapF => k_asm); (case gapN => k_asm); (case gapU => k_updF); (case gapl => kmk_list); (case gapp => kmk_part); (case gapq => kmk_part); (case gapi => l_ints); (case gapj => l_ints); (case gapx => first | omega | kmk_sign); (case gapy => first | omega | kmk_sign); (case gapz => ((try simp only [List.length_append, List.length_take, List.length_drop, List.length_cons, List.length_nil, List.length_replicate]); (try rw [sizeLine_eq]); omega)); k_whole); intro h' ws' n' F' N' hI'; (try dsimp only at N'); (try k_sweep))
  k_fill
  intro dp un gd cn cs a ccd cl outer A₀ base h₀ L m s Q E B F X N T hk hdp hun hret
  dsimp only [gapL, gapD] at N
  have g0 := g.h0; have g1 := g.h1; have g2 := g.h2; have gl := g.len
  refine wpAny_call ?_
  k_dflt cell_enter
  k_steps
  · (rename News _ _ _ _ => N'); (rename IntsAre _ _ => hI')
    rw [show max (gs + room).toNat ge.toNat = ge.toNat by omega] at hI'
    exact hret _ _ _ _ ⟨rfl, _, _, _, _, _, rfl, hI', g.narrow (by omega) (by omega), by rw [put_len _ _ _ _ (by omega)]; simp only [List.length_nil]; omega⟩ (by k_asm) (kst_newsOf N' fun p hp => List.Mem.tail _ hp)
  · exact hret _ _ _ _ ⟨rfl, _, _, _, _, _, rfl, hI, g, Nat.le_refl _⟩ (by k_asm) (by k_asm)
set_option maxRecDepth 100000 in
set_option maxHeartbeats 8000000 in
theorem ct_put {w : World} {mean : ExcName → Option Value} {mg mb : Str → Option Value} (G : Keys) (x dx c : Addr) (room gs ge a' v : Int) (t1 t3 t4 ta tv : Nat) (vs : List Value) (cells simple : List Int) (n : Nat) (own : Led)
   (hI : IntsAre vs cells) (hlen : cells.length ≤ 1000) (g : GapIs cells gs ge simple) (h3 : 0 ≤ a') (h5 : a' < simple.length)
   (x1 : @LT.lt Nat _ dx x) (x2 : @LT.lt Nat _ x c) (xo : OwnOff own [x, dx, c]) :
   Ct 0 w mean mg mb 84 [.ref x, .int a' ta, .int v tv] (gapL G x dx c room gs ge t1 t3 t4 vs n own)
     (fun r news' => r = .none ∧ ∃ ws k cells', news' = gapL G x dx c room gs ge t1 t3 t4 ws k own ∧ IntsAre ws cells' ∧ GapIs cells' gs ge (simple.take a'.toNat ++ [v] ++ simple.drop (a' + 1).toNat) ∧ cells'.length = cells.length ∧ (simple.take a'.toNat ++ [v] ++ simple.drop (a' + 1).toNat).length = simple.length) := by
  unfold Ct
  w_top off
  k_with_none
  k_fill
  intro dp un gd cn cs a ccd cl outer A₀ base h₀ L m s Q E B F X N T hk hdp hun hret
  dsimp only [gapL, gapD] at N
  have g0 := g.h0; have g1 := g.h1; have g2 := g.h2; have gl := g.len
  refine wpAny_call ?_
  k_dflt cell_enter
  k_steps
  · (rename IntsAre _ _ => hI')
    exact hret _ _ _ _ ⟨rfl, _, _, _, rfl, hI', set_cut simple v h3 h5 ▸ g.put_lo h3 (by assumption), List.length_set .., by rw [put_len _ _ _ _ (by omega)]; simp only [List.length_cons, List.length_nil]; omega⟩ (by k_asm) (by k_asm)
  · (rename IntsAre _ _ => hI')
    exact hret _ _ _ _ ⟨rfl, _, _, _, rfl, hI', set_cut simple v h3 h5 ▸ g.put_hi h5 (by assumption), List.length_set .., by rw [put_len _ _ _ _ (by omega)]; simp only [List.length_cons, List.length_nil]; omega⟩ (by k_asm) (by k_asm)
theorem Ct.use {lv : Nat} {w : World} {mean : ExcName → Option Value} {mg mb : Str → Option Value} {f : Addr} {vs : List Value} {news₁ news : Led} {Post : Value → Led → Prop}
    {dp un : Nat} {gd : Option (List Code)} {cn : Str} {cs : Scope} {a : Addr} {ccd : Value} {cl : List (Str × Addr)} {outer : List Env} {A₀ : Around} {base h₀ : Heap} {L : Addr} {m : Str → Option Value} {s : Shared} {Q E : Value → Shared → Prop}
    (C : Ct lv w mean mg mb f vs news₁ Post) (hs : ∀ p ∈ news₁, p ∈ news) (B : Below A₀ base outer h₀) (F : Fr h₀ L s.heap m) (X : (hd.heap_39 w.params).In h₀) (N : News h₀ L s.heap news)
    (T : Top hd.view_39 (looseW hd.view_39 []) mean mg mb h₀) (hk : cs.kind = .function) (hd : dp + (8 * lv + 8) < recursionLimit) (hu : un + (64 * lv + 256) < cLine)
    (ret : ∀ (r : Value) (news' : Led) (h' : Heap) (tk' : Nat), Post r news' → Fr h₀ L h' m → News h₀ L h' news' → Q r { s with heap := h', toks := tk' }) :
    wpAny (model PySem.Challenge.rw_np0006_01.row.prog w) (ktrTop dp un gd cn cs L a ccd cl outer) (call (.ref f) vs) Q E s :=
  C dp un gd cn cs a ccd cl outer A₀ base h₀ L m s Q E B F X (kst_newsOf N hs) T hk hd hu ret

inductive Out (a : Addr) (o : Obj) : Led → Led → Prop
  | here {r} : Out a o ((a, o) :: r) r
  | there {p r r'} : Out a o r r' → Out a o (p :: r) (p :: r')
theorem Out.sub {a : Addr} {o : Obj} : ∀ {l l' : Led}, Out a o l l' → ∀ p ∈ (a, o) :: l', p ∈ l
  | _, _, .here => fun _ h => h
  | _, _, .there (p := q) k => fun p h => by
    have ih := k.sub
    rcases List.mem_cons.mp h with rfl | h
    · exact .tail _ (ih _ (.head _))
    · rcases List.mem_cons.mp h with rfl | h
      · exact .head _
      · exact .tail _ (ih _ (.tail _ h))
theorem gap_sub {G : Keys} {x dx c : Addr} {room gs ge : Int} {t1 t3 t4 : Nat} {vs : List Value} {n : Nat} {own n1 n2 news : Led}
    (o1 : Out x (instObj 101 dx) news n1) (o2 : Out dx (gapD G room gs ge t1 t3 t4 c) n1 n2) (o3 : Out c (listOf vs.toArray n) n2 own) :
    ∀ p ∈ gapL G x dx c room gs ge t1 t3 t4 vs n own, p ∈ news := by
  intro p hp
  rcases List.mem_cons.mp hp with rfl | hp
  · exact o1.sub _ (.head _)
  rcases List.mem_cons.mp hp with rfl | hp
  · exact o1.sub _ (.tail _ (o2.sub _ (.head _)))
  rcases List.mem_cons.mp hp with rfl | hp
  · exact o1.sub _ (.tail _ (o2.sub _ (.tail _ (o3.sub _ (.head _)))))
  · exact o1.sub _ (.tail _ (o2.sub _ (.tail _ (o3.sub _ (.tail _ hp)))))
theorem off_cons {D x dx c : Nat} {o : Obj} {own : Led} (h1 : D ≠ x) (h2 : D ≠ dx) (h3 : D ≠ c) (xo : OwnOff own [x, dx, c]) : OwnOff ((D, o) :: own) [x, dx, c] := by
  intro p hp b hb
  rcases List.mem_cons.mp hp with rfl | hp
  · rcases List.mem_cons.mp hb with rfl | hb
    · exact h1
    rcases List.mem_cons.mp hb with rfl | hb
    · exact h2
    rcases List.mem_cons.mp hb with rfl | hb
    · exact h3
    · cases hb
  · exact xo p hp b hb
theorem off_nil {x dx c : Addr} : OwnOff [] [x, dx, c] := fun _ hp => nomatch hp

local macro_rules | `(tactic| walk_at "gap out") => `(tactic| (repeat (first | exact Out.here | apply Out.there)))
local macro_rules | `(tactic| walk_at "gap off") => `(tactic| (repeat (first | assumption | exact off_nil | (refine off_cons (by omega) (by omega) (by omega) ?_))))
set_option maxRecDepth 100000 in
set_option maxHeartbeats 8000000 in
theorem ct_insert {w : World} {mean : ExcName → Option Value} {mg mb : Str → Option Value} (G : Keys) (x dx c D : Addr) (room gs ge a' : Int) (t1 t3 t4 ta : Nat) (vs ds : List Value) (cells simple nw : List Int) (n nD : Nat) (own : Led)
   (hI : IntsAre vs cells) (hlen : cells.length ≤ 500) (g : GapIs cells gs ge simple) (hJ : IntsAre ds nw) (hn : nw.length ≤ 100) (h3 : 0 ≤ a') (h5 : a' ≤ simple.length) (hr : 0 ≤ room) (hr' : room ≤ 100)
   (x1 : @LT.lt Nat _ dx x) (x2 : @LT.lt Nat _ x c) (x3 : @Ne Nat D x) (x4 : @Ne Nat D dx) (x5 : @Ne Nat D c) (xo : OwnOff own [x, dx, c]) :
   Ct 1 w mean mg mb 70 [.ref x, .int a' ta, .ref D] (gapL G x dx c room gs ge t1 t3 t4 vs n ((D, listOf ds.toArray nD) :: own))
     (fun r news' => r = .none ∧ ∃ gs' ge' t3' t4' ws k cells', news' = gapL G x dx c room gs' ge' t1 t3' t4' ws k ((D, listOf ds.toArray nD) :: own) ∧ IntsAre ws cells' ∧ GapIs cells' gs' ge' (simple.take a'.toNat ++ nw ++ simple.drop a'.toNat) ∧ (cells'.length : Int) ≤ cells.length + nw.length + room ∧ ((simple.take a'.toNat ++ nw ++ simple.drop a'.toNat).length : Int) = simple.length + nw.length) := by
  unfold Ct
  w_top off
  k_with_none
  k_with "gap set" => (
  k_here; (with_reducible show wpAny _ _ (setItem (Value.ref _) (Value.ref _) (Value.ref _)) _ _ _); k_dflt (refine' set_slice_ints ?gapF ?gapN ?gapU ?gapl ?gapp ?gapq ?gapi ?gapj ?gapx ?gapy ?gapz ?_; (case gapF => k_asm); (case gapN => k_asm); (case gapU => k_updF); (case gapl => kmk_list); (case gapp => kmk_part); (case gapq => kmk_part); (case gapi => l_ints); (case gapj => l_ints); (case gapx => first | omega | kmk_sign); (case gapy => first | omega | kmk_sign); (case gapz => ((try simp only [List.length_append, List.length_take, List.length_drop, List.length_cons, List.length_nil, List.length_replicate]); (try rw [sizeLine_eq]); omega)); k_whole); intro h' ws' n' F' N' hI'; (try dsimp only at N'); (try k_sweep))
  k_with "gap call" => (
    k_here
    (with_reducible show wpAny _ _ (call (Value.ref 63) _) _ _ _)
    k_dflt (
      refine' Ct.use (ct_widen _ _ _ _ _ _ _ _ _ _ _ _ _ _ _ _ _ ?gapgI ?gapgl ?gapgg ?gapga ?gapgb ?gapgr ?gapgr' ?gapgx1 ?gapgx2 ?gapgxo) ?gapgs ?gapgB ?gapgF ?gapgX ?gapgN ?gapgT ?gapgK ?gapgd ?gapgu ?_
      (case gapgB => k_asm)
      (case gapgF => k_asm)
      (case gapgX => k_asm)
      (case gapgN => k_asm)
      (case gapgT => k_asm)
      (case gapgK => first | exact rfl | assumption)
      (case gapgs => (refine' gap_sub ?gapgo1 ?gapgo2 ?gapgo3; (case gapgo1 => walk_at "gap out"); (case gapgo2 => walk_at "gap out"); (case gapgo3 => walk_at "gap out")))
      (case gapgd => ktr_room)
      (case gapgu => ktr_units)
      (case gapgI => with_reducible assumption)
      (case gapgl => omega)
      (case gapgg => with_reducible assumption)
      (case gapga => omega)
      (case gapgb => omega)
      (case gapgr => omega)
      (case gapgr' => omega)
      (case gapgx1 => omega)
      (case gapgx2 => omega)
      (case gapgxo => walk_at "gap off")
      k_whole)
    intro r' n' h' tk' hP' F' N'
    obtain ⟨er', ge', t4', ws', k', cells', en', hI', g', hl', hd'⟩ := hP'
    subst er' en'
    dsimp only [gapL, gapD] at N'
    (have g0' := g'.h0)
    (have g1' := g'.h1)
    (have g2' := g'.h2)
    (have gl' := g'.len)
    (try k_sweep)
    (try dsimp only))
  k_with "gap call" => (
    k_here
    (with_reducible show wpAny _ _ (call (Value.ref 56) _) _ _ _)
    k_dflt (
      refine' Ct.use (ct_move _ _ _ _ _ _ _ _ _ _ _ _ _ _ _ _ _ ?gapgI ?gapgl ?gapgg ?gapga ?gapgb ?gapgx1 ?gapgx2 ?gapgxo) ?gapgs ?gapgB ?gapgF ?gapgX ?gapgN ?gapgT ?gapgK ?gapgd ?gapgu ?_
      (case gapgB => k_asm)
      (case gapgF => k_asm)
      (case gapgX => k_asm)
      (case gapgN => k_asm)
      (case gapgT => k_asm)
      (case gapgK => first | exact rfl | assumption)
      (case gapgs => (refine' gap_sub ?gapgo1 ?gapgo2 ?gapgo3; (case gapgo1 => walk_at "gap out"); (case gapgo2 => walk_at "gap out"); (case gapgo3 => walk_at "gap out")))
      (case gapgd => ktr_room)
      (case gapgu => ktr_units)
      (case gapgI => with_reducible assumption)
      (case gapgl => omega)
      (case gapgg => with_reducible assumption)
      (case gapga => omega)
      (case gapgb => omega)
      (case gapgx1 => omega)
      (case gapgx2 => omega)
      (case gapgxo => walk_at "gap off")
      k_whole)
    intro r' n' h' tk' hP' F' N'
    obtain ⟨er', ge', t3', t4', ws', k', cells', en', hI', g', hl', hd'⟩ := hP'
    subst er' en'
    dsimp only [gapL, gapD] at N'
    (have g0' := g'.h0)
    (have g1' := g'.h1)
    (have g2' := g'.h2)
    (have gl' := g'.len)
    (try k_sweep)
    (try dsimp only))
  k_fill
  intro dp un gd cn cs a ccd cl outer A₀ base h₀ L m s Q E B F X N T hk hdp hun hret
  dsimp only [gapL, gapD] at N
  have g0 := g.h0; have g1 := g.h1; have g2 := g.h2; have gl := g.len
  refine wpAny_call ?_
  k_dflt cell_enter
  k_steps
  (rename IntsAre _ _ => hI'); (rename GapIs _ _ _ _ => gz)
  rw [show max a'.toNat (a' + (nw.length : Int)).toNat = (a' + (nw.length : Int)).toNat by omega] at hI'
  exact hret _ _ _ _ ⟨rfl, _, _, _, _, _, _, _, rfl, hI', gz.fill nw (by omega), by rw [put_len _ _ _ _ (by omega)]; omega, by rw [put_len _ _ _ _ (by omega)]; omega⟩ (by k_asm) (by k_asm)
theorem swap_sub {a b c d : Addr × Obj} {l : Led} : ∀ p ∈ a :: b :: c :: d :: l, p ∈ d :: a :: b :: c :: l := by
  intro p hp
  simp only [List.mem_cons] at hp ⊢
  rcases hp with h | h | h | h | h
  · exact .inr (.inl h)
  · exact .inr (.inr (.inl h))
  · exact .inr (.inr (.inr (.inl h)))
  · exact .inl h
  · exact .inr (.inr (.inr (.inr h)))
set_option maxRecDepth 100000 in
set_option maxHeartbeats 8000000 in
theorem ct_delete {w : World} {mean : ExcName → Option Value} {mg mb : Str → Option Value} (G : Keys) (x dx c : Addr) (room gs ge a' b' : Int) (t1 t3 t4 ta tb : Nat) (vs : List Value) (cells simple : List Int) (n : Nat) (own : Led)
   (hI : IntsAre vs cells) (hlen : cells.length ≤ 1000) (g : GapIs cells gs ge simple) (h3 : 0 ≤ a') (h4 : a' ≤ b') (h5 : b' ≤ simple.length)
   (x1 : @LT.lt Nat _ dx x) (x2 : @LT.lt Nat _ x c) (xo : OwnOff own [x, dx, c]) :
   Ct 1 w mean mg mb 77 [.ref x, .int a' ta, .int b' tb] (gapL G x dx c room gs ge t1 t3 t4 vs n own)
     (fun r news' => ∃ D ds kD, r = .ref D ∧ ∃ gs' ge' t3' t4' ws k cells', news' = (gapL G x dx c room gs' ge' t1 t3' t4' ws k ((D, listOf (List.toArray ds) kD) :: own)) ∧ IntsAre ds ((simple.drop a'.toNat).take (b' - a').toNat) ∧ IntsAre ws cells' ∧ GapIs cells' gs' ge' (simple.take a'.toNat ++ simple.drop b'.toNat) ∧ cells'.length = cells.length ∧ ((simple.take a'.toNat ++ simple.drop b'.toNat).length : Int) = simple.length - (b' - a') ∧ @LT.lt Nat _ x D ∧ @LT.lt Nat _ dx D ∧ @LT.lt Nat _ c D ∧ AllLt D own) := by
  unfold Ct
  w_top off
  k_with_none
  k_with "gap call" => (
    k_here
    (with_reducible show wpAny _ _ (call (Value.ref 49) _) _ _ _)
    k_dflt (
      refine' Ct.use (ct_codes _ _ _ _ _ _ _ _ _ _ _ _ _ _ _ _ _ _ _ ?gapgI ?gapgl ?gapgg ?gapga ?gapgb ?gapgc) ?gapgs ?gapgB ?gapgF ?gapgX ?gapgN ?gapgT ?gapgK ?gapgd ?gapgu ?_
      (case gapgB => k_asm)
      (case gapgF => k_asm)
      (case gapgX => k_asm)
      (case gapgN => k_asm)
      (case gapgT => k_asm)
      (case gapgK => first | exact rfl | assumption)
      (case gapgs => (refine' gap_sub ?gapgo1 ?gapgo2 ?gapgo3; (case gapgo1 => walk_at "gap out"); (case gapgo2 => walk_at "gap out"); (case gapgo3 => walk_at "gap out")))
      (case gapgd => ktr_room)
      (case gapgu => ktr_units)
      (case gapgI => with_reducible assumption)
      (case gapgl => omega)
      (case gapgg => with_reducible assumption)
      (case gapga => omega)
      (case gapgb => omega)
      (case gapgc => omega)
      k_whole)
    intro r' n' h' tk' hP' F' N'
    obtain ⟨D', ws', k', er', en', hI', l1', l2', l3', l4'⟩ := hP'
    subst er' en'
    (try simp only [AllLt] at l4')
    dsimp only [gapL, gapD] at N'
    (try k_sweep)
    (try dsimp only))
  k_with "gap call" => (
    k_here
    (with_reducible show wpAny _ _ (call (Value.ref 56) _) _ _ _)
    k_dflt (
      refine' Ct.use (ct_move _ _ _ _ _ _ _ _ _ _ _ _ _ _ _ _ _ ?gapgI ?gapgl ?gapgg ?gapga ?gapgb ?gapgx1 ?gapgx2 ?gapgxo) ?gapgs ?gapgB ?gapgF ?gapgX ?gapgN ?gapgT ?gapgK ?gapgd ?gapgu ?_
      (case gapgB => k_asm)
      (case gapgF => k_asm)
      (case gapgX => k_asm)
      (case gapgN => k_asm)
      (case gapgT => k_asm)
      (case gapgK => first | exact rfl | assumption)
      (case gapgs => (refine' gap_sub ?gapgo1 ?gapgo2 ?gapgo3; (case gapgo1 => walk_at "gap out"); (case gapgo2 => walk_at "gap out"); (case gapgo3 => walk_at "gap out")))
      (case gapgd => ktr_room)
      (case gapgu => ktr_units)
      (case gapgI => with_reducible assumption)
      (case gapgl => omega)
      (case gapgg => with_reducible assumption)
      (case gapga => omega)
      (case gapgb => omega)
      (case gapgx1 => omega)
      (case gapgx2 => omega)
      (case gapgxo => walk_at "gap off")
      k_whole)
    intro r' n' h' tk' hP' F' N'
    obtain ⟨er', ge', t3', t4', ws', k', cells', en', hI', g', hl', hd'⟩ := hP'
    subst er' en'
    dsimp only [gapL, gapD] at N'
    (have g0' := g'.h0)
    (have g1' := g'.h1)
    (have g2' := g'.h2)
    (have gl' := g'.len)
    (try k_sweep)
    (try dsimp only))
  k_fill
  intro dp un gd cn cs a ccd cl outer A₀ base h₀ L m s Q E B F X N T hk hdp hun hret
  dsimp only [gapL, gapD] at N
  have g0 := g.h0; have g1 := g.h1; have g2 := g.h2; have gl := g.len
  refine wpAny_call ?_
  k_dflt cell_enter
  k_steps
  · (rename IntsAre _ _ => hI'); (rename GapIs _ _ _ _ => gz)
    exact hret _ _ _ _ ⟨_, _, _, rfl, _, _, _, _, _, _, _, rfl, by assumption, hI', gz.gone h3 (by omega) (by omega) h5, by omega, by rw [List.length_append, List.length_take, List.length_drop]; omega, by assumption, by assumption, by assumption, by assumption⟩ (by k_asm) (by k_asm)
  · (rename IntsAre _ _ => hI'); (rename GapIs _ _ _ _ => gz)
    exact hret _ _ _ _ ⟨_, _, _, rfl, _, _, _, _, _, _, _, rfl, by assumption, hI', gz.gone h3 (by omega) (by omega) h5, by omega, by rw [List.length_append, List.length_take, List.length_drop]; omega, by assumption, by assumption, by assumption, by assumption⟩ (by k_asm) (by k_asm)
  · (rename News _ _ _ _ => N')
    exact hret _ _ _ _ ⟨_, _, _, rfl, _, _, _, _, _, _, _, rfl, by assumption, hI, g.gone h3 (by omega) (by omega) h5, rfl, by rw [List.length_append, List.length_take, List.length_drop]; omega, by assumption, by assumption, by assumption, by assumption⟩ (by k_asm) (kst_newsOf N' swap_sub)
set_option maxRecDepth 100000 in
set_option maxHeartbeats 8000000 in
theorem ct_draw {w : World} {mean : ExcName → Option Value} {mg mb : Str → Option Value} (D : Addr) (many : Int) (tm : Nat) (vs : List Value) (deck : List Int) (n : Nat) (own : Led)
   (hI : IntsAre vs deck) (hlen : deck.length ≤ 1000) (hp : ∀ v ∈ deck, 0 ≤ v) (hm : 0 < many) (hm' : many ≤ 1000)
   (xo : OwnOff own [D]) :
   Ct 0 w mean mg mb 117 [.ref D, .int many tm] ((D, listOf vs.toArray n) :: own)
     (fun r news' => ∃ v t, r = .int v t ∧ 0 ≤ v ∧ v < many ∧ ∃ ws k deck', news' = (D, listOf (List.toArray ws) k) :: own ∧ IntsAre ws deck' ∧ (∀ v ∈ deck', 0 ≤ v) ∧ deck'.length ≤ deck.length) := by
  unfold Ct
  w_top off
  k_with_none
  k_with "gap noteq" => (
    k_here
    (with_reducible show wpAny _ _ (compareOp CmpOp.NotEq (Value.ref _) (Value.ref _)) _ _ _)
    k_dflt (first
      | (refine' ne_intsK ?gapl1 ?gapi1 ?gapl2 ?gapi2 ?gapu ?_; (case gapl1 => kmk_list); (case gapi1 => l_ints); (case gapl2 => kmk_list); (case gapi2 => l_ints); (case gapu => ktr_units); k_whole)
      | (refine' ne_intsK (us := []) ?gapl1 ?gapi1 ?gapl2 ?gapi2 ?gapu ?_; (case gapl1 => kmk_list); (case gapi1 => l_ints); (case gapi2 => exact IntsAre.nil); (case gapl2 => kmk_list); (case gapu => ktr_units); k_whole))
    (try dsimp only))
  k_with "gap eq" => (
    k_here
    (with_reducible show wpAny _ _ (compareOp CmpOp.Eq (Value.ref _) (Value.ref _)) _ _ _)
    k_dflt (first
      | (refine' eq_intsK ?gapl1 ?gapi1 ?gapl2 ?gapi2 ?gapu ?_; (case gapl1 => kmk_list); (case gapi1 => l_ints); (case gapl2 => kmk_list); (case gapi2 => l_ints); (case gapu => ktr_units); k_whole)
      | (refine' eq_intsK (us := []) ?gapl1 ?gapi1 ?gapl2 ?gapi2 ?gapu ?_; (case gapl1 => kmk_list); (case gapi1 => l_ints); (case gapi2 => exact IntsAre.nil); (case gapl2 => kmk_list); (case gapu => ktr_units); k_whole))
    (try dsimp only))
  k_with "gap pop" => (
    k_here
    (with_reducible show wpAny _ _ (call (Value.builtin _) [Value.ref _, Value.int _ _]) _ _ _)
    k_dflt (refine' pop_first ?gapF ?gapN ?gapU ?gapz ?_; (case gapF => k_asm); (case gapN => k_asm); (case gapU => k_upd); (case gapz => (rw [sizeLine_eq]; (try simp only [List.length_cons] at *); omega)))
    intro h' F' N'
    (try k_sweep))
  k_fill
  intro dp un gd cn cs a ccd cl outer A₀ base h₀ L m s Q E B F X N T hk hdp hun hret
  refine wpAny_call ?_
  k_dflt cell_enter
  walk1
  walk1
  (rename Fr _ _ _ _ => F'); (rename News _ _ _ _ => N')
  refine ksw_while (σ := List Value × List Int × Nat) (fun c => (D, listOf c.1.toArray c.2.2) :: own) (fun _ => []) (fun c => IntsAre c.1 c.2.1) [] (fun c => (∀ v ∈ c.2.1, 0 ≤ v) ∧ c.2.1.length ≤ deck.length) (fun c => c.2.1.length) (vs, deck, n) F' N' hI (fun _ h => nomatch h) ⟨hp, Nat.le_refl _⟩ ?_
  clear F' N' hI hp
  rintro ⟨vs, deck', n⟩ u h tk hI ⟨hp, hle⟩ F' N'
  dsimp only [kstB] at *
  cases hI with
  | nil =>
    have hI : IntsAre [] [] := IntsAre.nil
    k_steps
    (rename News _ _ _ _ => N')
    exact hret _ _ _ _ ⟨0, _, rfl, by omega, hm, [], _, [], rfl, IntsAre.nil, (fun _ h => nomatch h), Nat.zero_le _⟩ (by k_asm) (kst_newsOf N' fun p hp => .tail _ (.tail _ hp))
  | cons d0 t0 hI' =>
    rename_i vs' rest
    have hI := IntsAre.cons d0 t0 hI'
    have hlv := hI.length
    have hd0 : 0 ≤ d0 := hp _ (List.mem_cons_self ..)
    clear hI'
    k_steps
    · exact absurd (show decide (d0 :: rest = []) = true by assumption) (by simp)
    · (rename News _ _ _ _ => N')
      refine ksw_end (vs', rest, n + 1) (by k_asm) N' (fun p hp => .tail _ hp) (by cases hI; assumption) (fun _ h => nomatch h) (fun z _ _ => rfl) ⟨fun v hv => hp v (.tail _ hv), ?_⟩ ?_
      · simp only [List.length_cons] at hle ⊢; omega
      · simp only [List.length_cons]; omega
    · (rename News _ _ _ _ => N'); (rename IntsAre _ _ => hI')
      have e1 : 0 ≤ d0.fmod many := Int.fmod_nonneg_of_pos d0 hm
      have e2 : d0.fmod many < many := Int.fmod_lt_of_pos d0 hm
      have e3 : 0 ≤ d0.fdiv many := Int.fdiv_nonneg hd0 (by omega)
      exact hret _ _ _ _ ⟨d0.fmod many, _, rfl, e1, e2, _, _, d0.fdiv many :: rest, rfl, hI', (fun v hv => by
        rcases List.mem_cons.mp hv with rfl | hv
        · exact e3
        · exact hp v (.tail _ hv)), hle⟩ (by k_asm) (kst_newsOf N' fun p hp => .tail _ (.tail _ hp))
theorem make_sub {c g1 g2 g3 x dx : Addr × Obj} {l : Led} : ∀ p ∈ x :: dx :: c :: l, p ∈ c :: g1 :: g2 :: g3 :: x :: dx :: l := by
  intro p hp
  simp only [List.mem_cons] at hp ⊢
  rcases hp with h | h | h | h
  · exact .inr (.inr (.inr (.inr (.inl h))))
  · exact .inr (.inr (.inr (.inr (.inr (.inl h)))))
  · exact .inl h
  · exact .inr (.inr (.inr (.inr (.inr (.inr h)))))
theorem GapIs.start (simple z : List Int) {k : Int} (hk : (z.length : Int) = k) : GapIs (simple ++ z) simple.length (simple.length + k) simple := by
  refine ⟨by omega, by omega, by rw [List.length_append]; omega, ?_⟩
  rw [show ((simple.length : Int)).toNat = simple.length by omega, show ((simple.length : Int) + k).toNat = (simple ++ z).length by rw [List.length_append]; omega,
    List.drop_length, List.append_nil, List.take_left]
set_option maxRecDepth 100000 in
set_option maxHeartbeats 8000000 in
theorem ct_make {w : World} {mean : ExcName → Option Value} {mg mb : Str → Option Value} (S : Addr) (room : Int) (tr : Nat) (svs : List Value) (simple : List Int) (n : Nat) (own : Led)
   (hI : IntsAre svs simple) (hlen : simple.length ≤ 100) (hr : 0 ≤ room) (hr' : room ≤ 100) :
   Ct 1 w mean mg mb 101 [.ref S, .int room tr] ((S, listOf svs.toArray n) :: own)
     (fun r news' => ∃ G x dx c t1 t3 t4 vs k ge cells, r = .ref x ∧ news' = gapL G x dx c room simple.length ge t1 t3 t4 vs k ((S, listOf svs.toArray n) :: own) ∧ IntsAre vs cells ∧ GapIs cells simple.length ge simple ∧ (cells.length : Int) = simple.length + room ∧ @LT.lt Nat _ dx x ∧ @LT.lt Nat _ x c ∧ @LT.lt Nat _ S dx ∧ AllLt dx own) := by
  unfold Ct
  w_top off
  k_with_none
  k_fill
  intro dp un gd cn cs a ccd cl outer A₀ base h₀ L m s Q E B F X N T hk hdp hun hret
  k_dflt (refine' call_cls ?k1 ?k2 ?k3 ?k4 ?k5 ?k6 ?_; (case k1 => k_asm); (case k2 => k_asm); (case k3 => k_asm); (case k4 => k_is); (case k5 => k_is); (case k6 => k_is))
  intro x' d' h' F' N' l1 l2; k_lt l1; k_lt2 l2
  k_dflt cell_enter
  k_steps
  (rename News _ _ _ _ => N'); (rename IntsAre _ _ => hI'); (rename (_ < _ ∧ _) => l9)
  have el : ((List.replicate room.toNat [(0 : Int)]).flatten.length : Int) = room := by simp; omega
  exact hret _ _ _ _ ⟨⟨_, _, _, _, _, _, _, _⟩, _, _, _, _, _, _, _, _, _, _, rfl, rfl, hI', GapIs.start simple _ el, by rw [List.length_append]; omega, by omega, by omega, by omega, l1.2⟩ (by k_asm) (kst_newsOf N' make_sub)
theorem same_all (l : List Int) : List.map (fun k' : Int => l.getD k'.toNat 0) (rangeKs 0 ((l.length : Int) - 0).toNat) = l := by
  apply List.ext_getElem?
  intro i
  have e : ((l.length : Int) - 0).toNat = l.length := by omega
  rw [e]
  simp only [rangeKs, List.map_map, List.getElem?_map]
  by_cases h : i < l.length
  · rw [List.getElem?_range h]
    simp [List.getD_eq_getElem?_getD, List.getElem?_eq_getElem h]
  · rw [List.getElem?_eq_none (by simpa using h), List.getElem?_eq_none (by simpa using h)]
    rfl
theorem same_mid (l : List Int) {lo hi : Int} (h3 : 0 ≤ lo) (h4 : lo ≤ hi) (h5 : hi ≤ l.length) : (l.drop lo.toNat).take (hi - lo).toNat = (l.drop lo.toNat).take (min hi.toNat l.length - lo.toNat) := by
  congr 1; omega
theorem same_zero (l : List Int) : (l.drop (Int.toNat 0)).take ((l.length : Int) - 0).toNat = l := by
  have e : ((l.length : Int) - 0).toNat = l.length := by omega
  rw [e]
  exact List.take_length ..
theorem same_hi (l : List Int) (hi : Int) : (l.drop (Int.toNat 0)).take (hi - 0).toNat = l.take hi.toNat := by
  rw [Int.sub_zero]; rfl
theorem same_lo (l : List Int) {hi : Int} : (l.drop hi.toNat).take ((l.length : Int) - hi).toNat = l.drop hi.toNat := by
  apply List.take_of_length_le
  rw [List.length_drop]
  omega
set_option maxRecDepth 100000 in
set_option maxHeartbeats 8000000 in
theorem ct_same {w : World} {mean : ExcName → Option Value} {mg mb : Str → Option Value} (G : Keys) (x dx c S : Addr) (room gs ge lo hi : Int) (t1 t3 t4 tl th : Nat) (vs svs : List Value) (cells simple : List Int) (n nS : Nat) (own : Led)
   (hI : IntsAre vs cells) (hlen : cells.length ≤ 1000) (g : GapIs cells gs ge simple) (hS : IntsAre svs simple) (hs : simple.length ≤ 1000) (h3 : 0 ≤ lo) (h4 : lo ≤ hi) (h5 : hi ≤ simple.length)
   (x1 : @LT.lt Nat _ dx x) (x2 : @LT.lt Nat _ x c) (x3 : @Ne Nat S x) (x4 : @Ne Nat S dx) (x5 : @Ne Nat S c) (xo : OwnOff own [x, dx, c]) :
   Ct 2 w mean mg mb 122 [.ref x, .ref S, .int lo tl, .int hi th] (gapL G x dx c room gs ge t1 t3 t4 vs n ((S, listOf svs.toArray nS) :: own))
     (fun r news' => r = .bool true ∧ news' = gapL G x dx c room gs ge t1 t3 t4 vs n ((S, listOf svs.toArray nS) :: own)) := by
  unfold Ct
  w_top off
  k_with_none
  k_with "gap noteq" => (
    k_here
    (with_reducible show wpAny _ _ (compareOp CmpOp.NotEq (Value.ref _) (Value.ref _)) _ _ _)
    k_dflt (first
      | (refine' ne_intsK ?gapl1 ?gapi1 ?gapl2 ?gapi2 ?gapu ?_; (case gapl1 => kmk_list); (case gapi1 => l_ints); (case gapl2 => kmk_list); (case gapi2 => l_ints); (case gapu => ktr_units); k_whole)
      | (refine' ne_intsK (us := []) ?gapl1 ?gapi1 ?gapl2 ?gapi2 ?gapu ?_; (case gapl1 => kmk_list); (case gapi1 => l_ints); (case gapi2 => exact IntsAre.nil); (case gapl2 => kmk_list); (case gapu => ktr_units); k_whole))
    (try dsimp only))
  k_with "gap eq" => (
    k_here
    (with_reducible show wpAny _ _ (compareOp CmpOp.Eq (Value.ref _) (Value.ref _)) _ _ _)
    k_dflt (first
      | (refine' eq_intsK ?gapl1 ?gapi1 ?gapl2 ?gapi2 ?gapu ?_; (case gapl1 => kmk_list); (case gapi1 => l_ints); (case gapl2 => kmk_list); (case gapi2 => l_ints); (case gapu => ktr_units); k_whole)
      | (refine' eq_intsK (us := []) ?gapl1 ?gapi1 ?gapl2 ?gapi2 ?gapu ?_; (case gapl1 => kmk_list); (case gapi1 => l_ints); (case gapi2 => exact IntsAre.nil); (case gapl2 => kmk_list); (case gapu => ktr_units); k_whole))
    (try dsimp only))
  k_with "gap call" => (
    k_here
    (with_reducible show wpAny _ _ (call (Value.ref 35) _) _ _ _)
    k_dflt (
      refine' Ct.use (ct_size _ _ _ _ _ _ _ _ _ _ _ _ _ _ _ ?gapgI ?gapgl ?gapgg) ?gapgs ?gapgB ?gapgF ?gapgX ?gapgN ?gapgT ?gapgK ?gapgd ?gapgu ?_
      (case gapgB => k_asm)
      (case gapgF => k_asm)
      (case gapgX => k_asm)
      (case gapgN => k_asm)
      (case gapgT => k_asm)
      (case gapgK => first | exact rfl | assumption)
      (case gapgs => (refine' gap_sub ?gapgo1 ?gapgo2 ?gapgo3; (case gapgo1 => walk_at "gap out"); (case gapgo2 => walk_at "gap out"); (case gapgo3 => walk_at "gap out")))
      (case gapgd => ktr_room)
      (case gapgu => ktr_units)
      (case gapgI => with_reducible assumption)
      (case gapgl => omega)
      (case gapgg => with_reducible assumption)
      k_whole)
    intro r' n' h' tk' hP' F' N'
    obtain ⟨er', en'⟩ := hP'
    obtain ⟨ts', er'⟩ := er'
    subst er' en'
    dsimp only [gapL, gapD] at N'
    (try k_sweep)
    (try dsimp only))
  k_with "gap call" => (
    k_here
    (with_reducible show wpAny _ _ (call (Value.ref 98) _) _ _ _)
    k_dflt (
      refine' Ct.use (ct_is_whole _ _ _ _ _ _ _ _ _ _ _ _ _ _ _ ?gapgI ?gapgl ?gapgg) ?gapgs ?gapgB ?gapgF ?gapgX ?gapgN ?gapgT ?gapgK ?gapgd ?gapgu ?_
      (case gapgB => k_asm)
      (case gapgF => k_asm)
      (case gapgX => k_asm)
      (case gapgN => k_asm)
      (case gapgT => k_asm)
      (case gapgK => first | exact rfl | assumption)
      (case gapgs => (refine' gap_sub ?gapgo1 ?gapgo2 ?gapgo3; (case gapgo1 => walk_at "gap out"); (case gapgo2 => walk_at "gap out"); (case gapgo3 => walk_at "gap out")))
      (case gapgd => ktr_room)
      (case gapgu => ktr_units)
      (case gapgI => with_reducible assumption)
      (case gapgl => omega)
      (case gapgg => with_reducible assumption)
      k_whole)
    intro r' n' h' tk' hP' F' N'
    obtain ⟨er', en'⟩ := hP'
    subst er' en'
    dsimp only [gapL, gapD] at N'
    (try k_sweep)
    (try dsimp only))
  k_with "gap call" => (
    k_here
    (with_reducible show wpAny _ _ (call (Value.ref 42) _) _ _ _)
    k_dflt (
      refine' Ct.use (ct_code _ _ _ _ _ _ _ _ _ _ _ _ _ _ _ _ _ ?gapgI ?gapgl ?gapgg ?gapga ?gapgb) ?gapgs ?gapgB ?gapgF ?gapgX ?gapgN ?gapgT ?gapgK ?gapgd ?gapgu ?_
      (case gapgB => k_asm)
      (case gapgF => k_asm)
      (case gapgX => k_asm)
      (case gapgN => k_asm)
      (case gapgT => k_asm)
      (case gapgK => first | exact rfl | assumption)
      (case gapgs => (refine' gap_sub ?gapgo1 ?gapgo2 ?gapgo3; (case gapgo1 => walk_at "gap out"); (case gapgo2 => walk_at "gap out"); (case gapgo3 => walk_at "gap out")))
      (case gapgd => ktr_room)
      (case gapgu => ktr_units)
      (case gapgI => with_reducible assumption)
      (case gapgl => omega)
      (case gapgg => with_reducible assumption)
      (case gapga => omega)
      (case gapgb => omega)
      k_whole)
    intro r' n' h' tk' hP' F' N'
    obtain ⟨er', en'⟩ := hP'
    obtain ⟨ts', er'⟩ := er'
    subst er' en'
    dsimp only [gapL, gapD] at N'
    (try k_sweep)
    (try dsimp only))
  k_with "gap call" => (
    k_here
    (with_reducible show wpAny _ _ (call (Value.ref 49) _) _ _ _)
    k_dflt (
      refine' Ct.use (ct_codes _ _ _ _ _ _ _ _ _ _ _ _ _ _ _ _ _ _ _ ?gapgI ?gapgl ?gapgg ?gapga ?gapgb ?gapgc) ?gapgs ?gapgB ?gapgF ?gapgX ?gapgN ?gapgT ?gapgK ?gapgd ?gapgu ?_
      (case gapgB => k_asm)
      (case gapgF => k_asm)
      (case gapgX => k_asm)
      (case gapgN => k_asm)
      (case gapgT => k_asm)
      (case gapgK => first | exact rfl | assumption)
      (case gapgs => (refine' gap_sub ?gapgo1 ?gapgo2 ?gapgo3; (case gapgo1 => walk_at "gap out"); (case gapgo2 => walk_at "gap out"); (case gapgo3 => walk_at "gap out")))
      (case gapgd => ktr_room)
      (case gapgu => ktr_units)
      (case gapgI => with_reducible assumption)
      (case gapgl => omega)
      (case gapgg => with_reducible assumption)
      (case gapga => omega)
      (case gapgb => omega)
      (case gapgc => omega)
      k_whole)
    intro r' n' h' tk' hP' F' N'
    obtain ⟨D', ws', k', er', en', hI', l1', l2', l3', l4'⟩ := hP'
    subst er' en'
    (try simp only [AllLt] at l4')
    dsimp only [gapL, gapD] at N'
    (try k_sweep)
    (try dsimp only))
  k_fill
  intro dp un gd cn cs a ccd cl outer A₀ base h₀ L m s Q E B F X N T hk hdp hun hret
  dsimp only [gapL, gapD] at N
  have g0 := g.h0; have g1 := g.h1; have g2 := g.h2; have gl := g.len
  refine wpAny_call ?_
  k_dflt (refine' code_defC ?k1 ?k2 ?k3 ?k4 ?k5 ?kA ?kF ?kK ?k6 ?k7 ?k8 ?k9 ?kB ?kD ?_ ?c2 ?c3 ?c4; (case kA => exact rfl); (case kF => exact rfl); (case kK => first | exact rfl | assumption); (case k1 => k_asm); (case k2 => k_asm); (case k3 => k_asm); (case k4 => k_asm); (case k5 => k_asm); (case k6 => k_is); (case k7 => k_is); (case k8 => ktr_room); (case k9 => first | exact BindsTo.of_eq rfl | exact binds_K (by k_in) rfl (by k_is) rfl rfl rfl | fail "k_enter: no rule for these arguments"); (case kB => exact rfl); (case kD => decide +kernel); (case c2 => exact rfl); (case c3 => exact rfl); (case c4 => exact rfl); k_whole; intro g' L' h' tk' cells' FG' F' N' Y' B' X' T' l1; (try k_lt l1); k_cells Y'; (try simp only [List.cons_append, List.nil_append] at N'); (try dsimp only); (try k_lift B'); (try k_fold))
  k_steps
  all_goals first
    | exact absurd rfl (show (simple.length : Int) ≠ simple.length by assumption)
    | exact absurd (same_all simple) (by assumption)
    | exact absurd (same_mid simple h3 h4 h5) (by assumption)
    | exact absurd (same_zero simple) (by assumption)
    | exact absurd (same_hi simple hi) (by assumption)
    | skip
  (rename News _ _ _ _ => N')
  rw [decide_eq_true (same_lo simple (hi := lo))]
  refine hret _ (gapL G x dx c room gs ge t1 t3 t4 vs n ((S, listOf svs.toArray nS) :: own)) _ _ ⟨rfl, rfl⟩ (by k_asm) (kst_newsOf N' ?_)
  dsimp only [gapL, gapD]
  kst_allIn
abbrev iterObj (a n : Int) : Obj := { cls := .type "range_iterator", dict := none, data := .fields #[rawInt a, rawInt n, rawInt 1], slots := #[] }

/-- the end of a turn of a for over a range: the iterator stands as it stood, the word holds of the rest -/
def TurnPost (h₀ : Heap) (L : Addr) (s : Shared) (I : Addr) (it : Obj) (J : Led → (Str → Option Value) → Prop) (Q : Flow → Shared → Prop) (f : Flow) (s₃ : Shared) : Prop :=
  match f with
  | .ret v => Q (.ret v) s₃
  | .brk => Q .next s₃
  | _ => ∃ h' tk' news' m', s₃ = { s with heap := h', toks := tk' } ∧ Fr h₀ L h' m' ∧ News h₀ L h' ((I, it) :: news') ∧ (∀ p ∈ news', p.1 ≠ I) ∧ J news' m'

section
variable {prog : Program} {w : World} {A : Around} {E : Value → Shared → Prop} {s : Shared} {env : Env} {h₀ : Heap}

theorem for_rangeT {x : Str} {px pos : Pos} {body : List Stmt} {a b : Int} {r : Addr} {t u v : Tok} {n : Nat} {m : Str → Option Value} {news : Led} {Q : Flow → Shared → Prop}
    (J : Nat → Led → (Str → Option Value) → Prop)
    (hh : A.handled = none) (hr : IsRange s.heap r a b 1 t u v) (hsmall : Builtin.Range.small a b 1 = true) (hn : Builtin.Range.rangeSize a b 1 = (n : Int))
    (F : Fr h₀ env.locals s.heap m) (N : News h₀ env.locals s.heap news) (h0 : J 0 news m)
    (turn : ∀ i news₁ m₁ h tk tv I, i < n → J i news₁ m₁ → (∀ p ∈ news₁, p.1 ≠ I) → Fr h₀ env.locals h m₁ → News h₀ env.locals h ((I, iterObj (a + i + 1) ((n : Int) - i - 1)) :: news₁) →
      wpAny (model prog w) A (storeName env x (.int (a + i) tv)) (fun _ s₂ => wpAny (model prog w) A (execs body env) (TurnPost h₀ env.locals s I (iterObj (a + i + 1) ((n : Int) - i - 1)) (J (i + 1)) Q) E s₂) E { s with heap := h, toks := tk })
    (done : ∀ news₁ m₁ h tk, J n news₁ m₁ → Fr h₀ env.locals h m₁ → News h₀ env.locals h news₁ → Q .next { s with heap := h, toks := tk })
    (hE : PassesOwn (model prog w) A env E := by passes_own) :
    wpAny (model prog w) A (pyIter (.ref r)) (fun it s₂ => codeAny (model prog w) A (.forLoop (.Name x px) it body [] env) (fun r s' => match r with | .ok f => Q f s' | .error e => cameBackBy (model prog w) A env E e s') s₂) E s := by
  refine wpAny_pyIter_range hr hsmall ?_
  have hI0 : ∀ p ∈ news, p.1 ≠ s.heap.objs.size := fun p hp => Nat.ne_of_lt (Heap.lt_size (N p hp).1)
  have N0 := News.push F N (iterObj a n)
  rw [hn]
  refine codeAny_forLoop (fun k s' => ∃ (h' : Heap) (tk : Nat) (news' : Led) (m' : Str → Option Value) (i : Nat), s' = { s with heap := h', toks := tk } ∧ Fr h₀ env.locals h' m' ∧ News h₀ env.locals h' ((s.heap.objs.size, iterObj (a + i) ((n : Int) - i)) :: news') ∧ (∀ p ∈ news', p.1 ≠ s.heap.objs.size) ∧ J i news' m' ∧ i ≤ n ∧ k = n + 1 - i) ?_ (n + 1)
    ⟨_, s.toks, news, m, 0, rfl, F.push _, by simpa using N0, hI0, h0, Nat.zero_le _, rfl⟩
  rintro k s' ⟨h', tk, news', m', i, rfl, F', N', hoff, hJ, hi, rfl⟩
  have hit := (N' _ (.head _)).1
  have hIL : s.heap.objs.size ≠ env.locals := (N' _ (.head _)).2.1
  have hIn : h₀.get? s.heap.objs.size = none := (N' _ (.head _)).2.2
  by_cases hlt : i < n
  · refine wpAny_pyNext_range_item hit (by omega) fun h₁ hit₁ hs₁ => ?_
    have F₁ : Fr h₀ env.locals h₁ m' := F'.change hs₁ hIL hIn
    have N₁ : News h₀ env.locals h₁ ((s.heap.objs.size, iterObj (a + i + 1) ((n : Int) - i - 1)) :: news') := by
      intro p hp
      rcases List.mem_cons.mp hp with rfl | hp
      · exact ⟨hit₁, hIL, hIn⟩
      · have z := N' p (.tail _ hp)
        exact ⟨(hs₁.2 _ (hoff p hp)).trans z.1, z.2⟩
    refine wpAny_assign_Name ?_
    refine wpAny_passesOwn hE (wpAny_mono (turn i news' m' h₁ (tk + 1) tk s.heap.objs.size hlt hJ hoff F₁ N₁) (fun _ s₂ h₂ => ?_) fun _ _ e => e)
    refine wpAny_passesOwn hE (wpAny_mono h₂ (fun f s₃ h₃ => ?_) fun _ _ e => e)
    cases f with
    | ret v => exact h₃
    | brk => exact h₃
    | next =>
      obtain ⟨h₄, tk₄, news₄, m₄, rfl, F₄, N₄, ho₄, hJ₄⟩ := h₃
      refine ⟨n + 1 - (i + 1), by omega, h₄, tk₄, news₄, m₄, i + 1, rfl, F₄, ?_, ho₄, hJ₄, hlt, rfl⟩
      rw [show a + ((i + 1 : Nat) : Int) = a + i + 1 by omega, show (n : Int) - ((i + 1 : Nat) : Int) = (n : Int) - i - 1 by omega]
      exact N₄
    | cont =>
      obtain ⟨h₄, tk₄, news₄, m₄, rfl, F₄, N₄, ho₄, hJ₄⟩ := h₃
      refine ⟨n + 1 - (i + 1), by omega, h₄, tk₄, news₄, m₄, i + 1, rfl, F₄, ?_, ho₄, hJ₄, hlt, rfl⟩
      rw [show a + ((i + 1 : Nat) : Int) = a + i + 1 by omega, show (n : Int) - ((i + 1 : Nat) : Int) = (n : Int) - i - 1 by omega]
      exact N₄
  · have hin : i = n := by omega
    subst hin
    refine wpAny_pyNext_range_end hh hit (by omega) fun h₁ he₁ => wpAny_execs_nil ?_
    refine done news' m' h₁ tk hJ ⟨F'.ns.at' fun o e => he₁ _ o hIL.symm e, fun b o e => he₁ b o (fun q => by rw [q, hIn] at e; cases e) (F'.keep b o e), F'.above⟩ fun p hp => ?_
    have z := N' p (.tail _ hp)
    exact ⟨he₁ _ _ (hoff p hp) z.1, z.2⟩
end
structure Off (a b : Nat) : Prop where
  out : a ≠ b
theorem Off.out' {a b : Nat} (h : Off a b) : b ≠ a := fun e => h.out e.symm
local macro_rules | `(tactic| walk_at "gap ne") => `(tactic| first | exact Off.out (by with_reducible assumption) | exact Off.out' (by with_reducible assumption) | omega)
theorem off1_nil {D : Addr} : OwnOff [] [D] := fun _ hp => nomatch hp
theorem off1_cons {D a : Nat} {o : Obj} {own : Led} (h : a ≠ D) (xo : OwnOff own [D]) : OwnOff ((a, o) :: own) [D] := by
  intro p hp b hb
  rcases List.mem_cons.mp hp with rfl | hp
  · rcases List.mem_cons.mp hb with rfl | hb
    · exact h
    · cases hb
  · exact xo p hp b hb
theorem gap_sub4 {G : Keys} {x dx c D : Addr} {room gs ge : Int} {t1 t3 t4 : Nat} {vs ds : List Value} {n nD : Nat} {own n1 n2 n3 news : Led}
    (o1 : Out x (instObj 101 dx) news n1) (o2 : Out dx (gapD G room gs ge t1 t3 t4 c) n1 n2) (o3 : Out c (listOf vs.toArray n) n2 n3) (o4 : Out D (listOf ds.toArray nD) n3 own) :
    ∀ p ∈ gapL G x dx c room gs ge t1 t3 t4 vs n ((D, listOf ds.toArray nD) :: own), p ∈ news := by
  intro p hp
  refine gap_sub o1 o2 o3 p ?_
  rcases List.mem_cons.mp hp with rfl | hp
  · exact .head _
  rcases List.mem_cons.mp hp with rfl | hp
  · exact .tail _ (.head _)
  rcases List.mem_cons.mp hp with rfl | hp
  · exact .tail _ (.tail _ (.head _))
  · exact .tail _ (.tail _ (.tail _ (o4.sub _ hp)))
local macro_rules | `(tactic| walk_at "gap off") => `(tactic| (repeat (first | assumption | exact off_nil | (refine off_cons (by walk_at "gap ne") (by walk_at "gap ne") (by walk_at "gap ne") ?_))))
local macro_rules | `(tactic| walk_at "gap off1") => `(tactic| (repeat (first | assumption | exact off1_nil | (refine off1_cons (by walk_at "gap ne") ?_))))
def bodyOf : Stmt → List Stmt
  | .FunctionDef _ _ body _ _ _ _ _ _ _ => body
  | .For _ _ body _ _ => body
  | _ => []
def scopeOf : Stmt → Scope
  | .FunctionDef _ _ _ _ _ _ scope _ _ _ => scope
  | _ => { kind := .module, names := [], isGenerator := false, isCoroutine := false }
def lawDef : Stmt := PySem.Challenge.pw_np0006_01.main.body.getD 7 (.Pass ⟨0, 0, 0, 0⟩)
def lawStmts : List Stmt := bodyOf lawDef
def lawScope : Scope := scopeOf lawDef
def loopStmts : List Stmt := bodyOf (lawStmts.getD 4 (.Pass ⟨0, 0, 0, 0⟩))
abbrev lawEnv (L fa : Addr) (cd : Value) : Env := envOfC (Str.ofString "law") lawScope L fa cd

/-- what holds between two laps: the ledger and the frame -/
def St (L D x dx c : Addr) (G : Keys) (room : Int) (t1 : Nat) (i : Nat) (news : Led) (m : Str → Option Value) : Prop :=
  ∃ (S : Addr) (gs ge : Int) (t3 t4 : Nat) (vs : List Value) (n : Nat) (svs : List Value) (nS : Nat) (dvs : List Value) (nD : Nat) (cells simple deck : List Int) (oc : Obj) (cv : Option Value),
    news = gapL G x dx c room gs ge t1 t3 t4 vs n [(S, listOf svs.toArray nS), (D, listOf dvs.toArray nD), (L + 1, oc)] ∧
    m (Str.ofString "deck") = some (.ref D) ∧ m (Str.ofString "simple") = some (.ref S) ∧ m (Str.ofString "text") = some (.ref x) ∧
    oc.data = .cell cv ∧ IntsAre vs cells ∧ GapIs cells gs ge simple ∧ IntsAre svs simple ∧ IntsAre dvs deck ∧ (∀ v ∈ deck, 0 ≤ v) ∧ deck.length ≤ 100 ∧
    (simple.length : Int) ≤ 6 + 6 * i ∧ (cells.length : Int) ≤ 9 + 9 * i ∧
    Off S x ∧ Off S dx ∧ Off S c ∧ Off S D ∧ Off S (L + 1)
theorem led_sub {G : Keys} {x dx c S D C I : Addr} {room gs ge : Int} {t1 t3 t4 : Nat} {vs ss ds : List Value} {n nS nD : Nat} {oc it : Obj} {n1 n2 n3 n4 n5 n6 n7 news : Led}
    (o1 : Out x (instObj 101 dx) news n1) (o2 : Out dx (gapD G room gs ge t1 t3 t4 c) n1 n2) (o3 : Out c (listOf vs.toArray n) n2 n3) (o4 : Out S (listOf ss.toArray nS) n3 n4) (o5 : Out D (listOf ds.toArray nD) n4 n5) (o6 : Out C oc n5 n6) (o7 : Out I it n6 n7) :
    ∀ p ∈ (I, it) :: gapL G x dx c room gs ge t1 t3 t4 vs n [(S, listOf ss.toArray nS), (D, listOf ds.toArray nD), (C, oc)], p ∈ news := by
  have up1 : ∀ p ∈ n1, p ∈ news := fun p hp => o1.sub _ (.tail _ hp)
  have up2 : ∀ p ∈ n2, p ∈ news := fun p hp => up1 _ (o2.sub _ (.tail _ hp))
  have up3 : ∀ p ∈ n3, p ∈ news := fun p hp => up2 _ (o3.sub _ (.tail _ hp))
  have up4 : ∀ p ∈ n4, p ∈ news := fun p hp => up3 _ (o4.sub _ (.tail _ hp))
  have up5 : ∀ p ∈ n5, p ∈ news := fun p hp => up4 _ (o5.sub _ (.tail _ hp))
  have up6 : ∀ p ∈ n6, p ∈ news := fun p hp => up5 _ (o6.sub _ (.tail _ hp))
  intro p hp
  rcases List.mem_cons.mp hp with rfl | hp
  · exact up6 _ (o7.sub _ (.head _))
  rcases List.mem_cons.mp hp with rfl | hp
  · exact o1.sub _ (.head _)
  rcases List.mem_cons.mp hp with rfl | hp
  · exact up1 _ (o2.sub _ (.head _))
  rcases List.mem_cons.mp hp with rfl | hp
  · exact up2 _ (o3.sub _ (.head _))
  rcases List.mem_cons.mp hp with rfl | hp
  · exact up3 _ (o4.sub _ (.head _))
  rcases List.mem_cons.mp hp with rfl | hp
  · exact up4 _ (o5.sub _ (.head _))
  rcases List.mem_cons.mp hp with rfl | hp
  · exact up5 _ (o6.sub _ (.head _))
  · cases hp
theorem led_off {G : Keys} {x dx c S D C I : Addr} {room gs ge : Int} {t1 t3 t4 : Nat} {vs : List Value} {n : Nat} {oS oD oc : Obj} (i1 : Off x I) (i2 : Off dx I) (i3 : Off c I) (i4 : Off S I) (i5 : Off D I) (i6 : Off C I) :
    ∀ p ∈ gapL G x dx c room gs ge t1 t3 t4 vs n [(S, oS), (D, oD), (C, oc)], p.1 ≠ I := by
  intro p hp
  rcases List.mem_cons.mp hp with rfl | hp
  · exact i1.out
  rcases List.mem_cons.mp hp with rfl | hp
  · exact i2.out
  rcases List.mem_cons.mp hp with rfl | hp
  · exact i3.out
  rcases List.mem_cons.mp hp with rfl | hp
  · exact i4.out
  rcases List.mem_cons.mp hp with rfl | hp
  · exact i5.out
  rcases List.mem_cons.mp hp with rfl | hp
  · exact i6.out
  · cases hp
abbrev fr2 (D S x : Addr) (u : Str → Option Value) : Str → Option Value := fun y => if y = Str.ofString "deck" then some (.ref D) else if y = Str.ofString "simple" then some (.ref S) else if y = Str.ofString "text" then some (.ref x) else u y
theorem fr2_eq {D S x : Addr} {m : Str → Option Value} (h1 : m (Str.ofString "deck") = some (.ref D)) (h2 : m (Str.ofString "simple") = some (.ref S)) (h3 : m (Str.ofString "text") = some (.ref x)) : m = fr2 D S x m := by
  funext y
  unfold fr2
  by_cases e1 : y = Str.ofString "deck"
  · rw [if_pos e1, e1, h1]
  rw [if_neg e1]
  by_cases e2 : y = Str.ofString "simple"
  · rw [if_pos e2, e2, h2]
  rw [if_neg e2]
  by_cases e3 : y = Str.ofString "text"
  · rw [if_pos e3, e3, h3]
  rw [if_neg e3]
set_option maxRecDepth 100000 in
set_option maxHeartbeats 80000000 in
theorem lap_tail {w : World} {mean : ExcName → Option Value} {mg mb : Str → Option Value} {base h₀ : Heap} {L D x dx c S I : Addr} {fa : Addr} {cd : Value} {s : Shared} {Q : Flow → Shared → Prop} {E : Value → Shared → Prop} {G : Keys} {room gs ge : Int} {t1 t3 t4 n nS nD i : Nat} {vs svs dvs : List Value} {cells simple deck : List Int} {oc it : Obj} {cv : Option Value} {m : Str → Option Value} {news : Led}
    (B : Below callerA base [] h₀) (X : (hd.heap_39 w.params).In h₀) (T : Top hd.view_39 (looseW hd.view_39 []) mean mg mb h₀)
    (F : Fr h₀ L s.heap m) (hm1 : m (Str.ofString "deck") = some (.ref D)) (hm2 : m (Str.ofString "simple") = some (.ref S)) (hm3 : m (Str.ofString "text") = some (.ref x))
    (N : News h₀ L s.heap news) (hsub : ∀ p ∈ (I, it) :: gapL G x dx c room gs ge t1 t3 t4 vs n [(S, listOf svs.toArray nS), (D, listOf dvs.toArray nD), (L + 1, oc)], p ∈ news)
    (hlap : i < 8) (hoc : oc.data = .cell cv) (hI : IntsAre vs cells) (g : GapIs cells gs ge simple) (hS : IntsAre svs simple) (hD : IntsAre dvs deck) (hp : ∀ v ∈ deck, 0 ≤ v) (hdl : deck.length ≤ 100)
    (hsl : (simple.length : Int) ≤ 6 + 6 * (i + 1)) (hcl : (cells.length : Int) ≤ 9 + 9 * (i + 1)) (hr : 0 ≤ room) (hr' : room ≤ 3)
    (x1 : @LT.lt Nat _ dx x) (x2 : @LT.lt Nat _ x c) (x3 : @LT.lt Nat _ D dx) (x4 : Off (L + 1) D) (x6 : @LT.lt Nat _ (L + 1) dx)
    (s1 : Off S x) (s2 : Off S dx) (s3 : Off S c) (s4 : Off S D) (s5 : Off S (L + 1))
    (i1 : Off x I) (i2 : Off dx I) (i3 : Off c I) (i4 : Off S I) (i5 : Off D I) (i6 : Off (L + 1) I)
    (hret : ∀ (news' : Led) (m' : Str → Option Value) (h' : Heap) (tk' : Nat), Fr h₀ L h' m' → News h₀ L h' ((I, it) :: news') → (∀ p ∈ news', p.1 ≠ I) → St L D x dx c G room t1 (i + 1) news' m' → Q .next { s with heap := h', toks := tk' }) :
    wpAny (model PySem.Challenge.rw_np0006_01.row.prog w) (callerA.deeper (lawEnv L fa cd)) (execs (loopStmts.drop 4) (lawEnv L fa cd)) Q E s := by
  w_top off
  k_with_none
  k_with "gap call" => (
    k_here
    (with_reducible show wpAny _ _ (call (Value.ref 117) _) _ _ _)
    k_dflt (
      refine' Ct.use (ct_draw _ _ _ _ _ _ _ ?gapgI ?gapgl ?gapgp ?gapga ?gapgb ?gapgxo) ?gapgs ?gapgB ?gapgF ?gapgX ?gapgN ?gapgT ?gapgK ?gapgd ?gapgu ?_
      (case gapgB => k_asm)
      (case gapgF => k_asm)
      (case gapgX => k_asm)
      (case gapgN => k_asm)
      (case gapgT => k_asm)
      (case gapgK => first | exact rfl | assumption)
      (case gapgs => (refine' Out.sub ?gapgo1; (case gapgo1 => walk_at "gap out")))
      (case gapgd => ktr_room)
      (case gapgu => ktr_units)
      (case gapgI => first | with_reducible assumption | assumption)
      (case gapgl => omega)
      (case gapgp => assumption)
      (case gapga => omega)
      (case gapgb => omega)
      (case gapgxo => walk_at "gap off1")
      k_whole)
    intro r' n' h' tk' hP' F' N'
    obtain ⟨v', ts', er', lo', hi', ws', k', deck', en', hI', hp', hl'⟩ := hP'
    subst er' en'
    (try k_sweep)
    (try dsimp only))
  k_with "gap call" => (
    k_here
    (with_reducible show wpAny _ _ (call (Value.ref 122) _) _ _ _)
    k_dflt (
      refine' Ct.use (ct_same _ _ _ _ _ _ _ _ _ _ _ _ _ _ _ _ _ _ _ _ _ _ ?gapgI ?gapgl ?gapgg ?gapgJ ?gapgn ?gapga ?gapgb ?gapgc ?gapgx1 ?gapgx2 ?gapgx3 ?gapgx4 ?gapgx5 ?gapgxo) ?gapgs ?gapgB ?gapgF ?gapgX ?gapgN ?gapgT ?gapgK ?gapgd ?gapgu ?_
      (case gapgB => k_asm)
      (case gapgF => k_asm)
      (case gapgX => k_asm)
      (case gapgN => k_asm)
      (case gapgT => k_asm)
      (case gapgK => first | exact rfl | assumption)
      (case gapgs => (refine' gap_sub4 ?gapgo1 ?gapgo2 ?gapgo3 ?gapgo4; (case gapgo1 => walk_at "gap out"); (case gapgo2 => walk_at "gap out"); (case gapgo3 => walk_at "gap out"); (case gapgo4 => walk_at "gap out")))
      (case gapgd => ktr_room)
      (case gapgu => ktr_units)
      (case gapgI => first | with_reducible assumption | assumption)
      (case gapgl => omega)
      (case gapgJ => first | with_reducible assumption | assumption)
      (case gapgg => first | with_reducible assumption | assumption)
      (case gapgn => first | omega | (simp only [List.length_map, rangeKs_length, List.length_append, List.length_cons, List.length_nil, List.length_take, List.length_drop] at *; omega))
      (case gapga => omega)
      (case gapgb => omega)
      (case gapgc => first | omega | (simp only [List.length_map, rangeKs_length, List.length_append, List.length_cons, List.length_nil, List.length_take, List.length_drop] at *; omega))
      (case gapgx1 => omega)
      (case gapgx2 => omega)
      (case gapgx3 => walk_at "gap ne")
      (case gapgx4 => walk_at "gap ne")
      (case gapgx5 => walk_at "gap ne")
      (case gapgxo => walk_at "gap off")
      k_whole)
    intro r' n' h' tk' hP' F' N'
    obtain ⟨er', en'⟩ := hP'
    subst er' en'
    dsimp only [gapL] at N'
    (try k_sweep)
    (try dsimp only))
  revert X hret; k_fill; intro X hret
  replace N := kst_newsOf N hsub
  clear hsub
  rw [fr2_eq hm1 hm2 hm3] at F
  clear hm1 hm2 hm3
  dsimp only [gapL] at N
  have g0 := g.h0; have g1 := g.h1; have g2 := g.h2; have gl := g.len
  conv => arg 3; arg 1; unfold loopStmts lawStmts lawDef; whnf
  k_steps
  (rename News _ _ _ _ => N'); (rename IntsAre _ _ => hd'); (rename (∀ v ∈ _, (0 : Int) ≤ v) => hp')
  refine' hret _ _ _ _ (by k_asm) (kst_newsOf N' (led_sub (x := x) (dx := dx) (c := c) (S := S) (D := D) (C := L + 1) (oc := oc) (I := I) (it := it) ?o1 ?o2 ?o3 ?o4 ?o5 ?o6 ?o7)) ?q1 ?q2
  case o1 => walk_at "gap out"
  case o2 => walk_at "gap out"
  case o3 => walk_at "gap out"
  case o4 => walk_at "gap out"
  case o5 => walk_at "gap out"
  case o6 => walk_at "gap out"
  case o7 => walk_at "gap out"
  case q1 => exact led_off i1 i2 i3 i4 i5 i6
  case q2 => exact ⟨S, gs, ge, t3, t4, vs, n, svs, nS, _, _, cells, simple, _, oc, cv, rfl, by with_unfolding_all rfl, by with_unfolding_all rfl, by with_unfolding_all rfl, hoc, hI, g, hS, hd', hp', by omega, by omega, by omega, s1, s2, s3, s4, s5⟩
set_option maxRecDepth 100000 in
set_option maxHeartbeats 80000000 in
theorem lap_walk {w : World} {mean : ExcName → Option Value} {mg mb : Str → Option Value} {base h₀ : Heap} {L D x dx c S I : Addr} {fa : Addr} {cd : Value} {s : Shared} {Q : Flow → Shared → Prop} {E : Value → Shared → Prop} {G : Keys} {room gs ge : Int} {t1 t3 t4 n nS nD i tl : Nat} {vs svs dvs : List Value} {cells simple deck : List Int} {oc it : Obj} {u : Str → Option Value}
    (B : Below callerA base [] h₀) (X : (hd.heap_39 w.params).In h₀) (T : Top hd.view_39 (looseW hd.view_39 []) mean mg mb h₀)
    (F : Fr h₀ L s.heap (fr2 D S x u)) (N : News h₀ L s.heap ((I, it) :: gapL G x dx c room gs ge t1 t3 t4 vs n [(S, listOf svs.toArray nS), (D, listOf dvs.toArray nD), (L + 1, oc)]))
    (hlap : i < 8) (hoc : oc.data = .cell (some (.int i tl))) (hI : IntsAre vs cells) (g : GapIs cells gs ge simple) (hS : IntsAre svs simple) (hD : IntsAre dvs deck) (hp : ∀ v ∈ deck, 0 ≤ v) (hdl : deck.length ≤ 100)
    (hsl : (simple.length : Int) ≤ 6 + 6 * i) (hcl : (cells.length : Int) ≤ 9 + 9 * i) (hr : 0 ≤ room) (hr' : room ≤ 3)
    (x1 : @LT.lt Nat _ dx x) (x2 : @LT.lt Nat _ x c) (x3 : @LT.lt Nat _ D dx) (x4 : Off (L + 1) D) (x6 : @LT.lt Nat _ (L + 1) dx)
    (s1 : Off S x) (s2 : Off S dx) (s3 : Off S c) (s4 : Off S D) (s5 : Off S (L + 1))
    (i1 : Off x I) (i2 : Off dx I) (i3 : Off c I) (i4 : Off S I) (i5 : Off D I) (i6 : Off (L + 1) I)
    (hret : ∀ (news' : Led) (m' : Str → Option Value) (h' : Heap) (tk' : Nat), Fr h₀ L h' m' → News h₀ L h' ((I, it) :: news') → (∀ p ∈ news', p.1 ≠ I) → St L D x dx c G room t1 (i + 1) news' m' → Q .next { s with heap := h', toks := tk' }) :
    wpAny (model PySem.Challenge.rw_np0006_01.row.prog w) (callerA.deeper (lawEnv L fa cd)) (execs loopStmts (lawEnv L fa cd)) Q E s := by
  w_top off
  k_with_none
  k_with "gap noteq" => (
    k_here
    (with_reducible show wpAny _ _ (compareOp CmpOp.NotEq (Value.ref _) (Value.ref _)) _ _ _)
    k_dflt (first
      | (refine' ne_intsK ?gapl1 ?gapi1 ?gapl2 ?gapi2 ?gapu ?_; (case gapl1 => kmk_list); (case gapi1 => l_ints); (case gapl2 => kmk_list); (case gapi2 => l_ints); (case gapu => ktr_units); k_whole)
      | (refine' ne_intsK (us := []) ?gapl1 ?gapi1 ?gapl2 ?gapi2 ?gapu ?_; (case gapl1 => kmk_list); (case gapi1 => l_ints); (case gapi2 => exact IntsAre.nil); (case gapl2 => kmk_list); (case gapu => ktr_units); k_whole))
    (try dsimp only))
  k_with "gap eq" => (
    k_here
    (with_reducible show wpAny _ _ (compareOp CmpOp.Eq (Value.ref _) (Value.ref _)) _ _ _)
    k_dflt (first
      | (refine' eq_intsK ?gapl1 ?gapi1 ?gapl2 ?gapi2 ?gapu ?_; (case gapl1 => kmk_list); (case gapi1 => l_ints); (case gapl2 => kmk_list); (case gapi2 => l_ints); (case gapu => ktr_units); k_whole)
      | (refine' eq_intsK (us := []) ?gapl1 ?gapi1 ?gapl2 ?gapi2 ?gapu ?_; (case gapl1 => kmk_list); (case gapi1 => l_ints); (case gapi2 => exact IntsAre.nil); (case gapl2 => kmk_list); (case gapu => ktr_units); k_whole))
    (try dsimp only))
  k_with "gap range" => (
    k_here
    (with_reducible show wpAny _ _ (call (Value.type "range") [Value.int _ _]) _ _ _)
    (rename Fr _ _ _ _ => F')
    (rename News _ _ _ _ => N')
    (with_unfolding_all refine range1_rows F' N' ?_)
    intro _ _ _ _ _ _ _ _ _)
  k_with "gap call" => (
    k_here
    (with_reducible show wpAny _ _ (call (Value.ref 117) _) _ _ _)
    k_dflt (
      refine' Ct.use (ct_draw _ _ _ _ _ _ _ ?gapgI ?gapgl ?gapgp ?gapga ?gapgb ?gapgxo) ?gapgs ?gapgB ?gapgF ?gapgX ?gapgN ?gapgT ?gapgK ?gapgd ?gapgu ?_
      (case gapgB => k_asm)
      (case gapgF => k_asm)
      (case gapgX => k_asm)
      (case gapgN => k_asm)
      (case gapgT => k_asm)
      (case gapgK => first | exact rfl | assumption)
      (case gapgs => (refine' Out.sub ?gapgo1; (case gapgo1 => walk_at "gap out")))
      (case gapgd => ktr_room)
      (case gapgu => ktr_units)
      (case gapgI => first | with_reducible assumption | assumption)
      (case gapgl => omega)
      (case gapgp => assumption)
      (case gapga => omega)
      (case gapgb => omega)
      (case gapgxo => walk_at "gap off1")
      k_whole)
    intro r' n' h' tk' hP' F' N'
    obtain ⟨v', ts', er', lo', hi', ws', k', deck', en', hI', hp', hl'⟩ := hP'
    subst er' en'
    (try k_sweep)
    (try dsimp only))
  k_with "gap call" => (
    k_here
    (with_reducible show wpAny _ _ (call (Value.ref 70) _) _ _ _)
    k_dflt (
      refine' Ct.use (ct_insert _ _ _ _ _ _ _ _ _ _ _ _ _ _ _ _ _ _ _ _ _ ?gapgI ?gapgl ?gapgg ?gapgJ ?gapgn ?gapga ?gapgb ?gapgr ?gapgr' ?gapgx1 ?gapgx2 ?gapgx3 ?gapgx4 ?gapgx5 ?gapgxo) ?gapgs ?gapgB ?gapgF ?gapgX ?gapgN ?gapgT ?gapgK ?gapgd ?gapgu ?_
      (case gapgB => k_asm)
      (case gapgF => k_asm)
      (case gapgX => k_asm)
      (case gapgN => k_asm)
      (case gapgT => k_asm)
      (case gapgK => first | exact rfl | assumption)
      (case gapgs => (refine' gap_sub4 ?gapgo1 ?gapgo2 ?gapgo3 ?gapgo4; (case gapgo1 => walk_at "gap out"); (case gapgo2 => walk_at "gap out"); (case gapgo3 => walk_at "gap out"); (case gapgo4 => walk_at "gap out")))
      (case gapgd => ktr_room)
      (case gapgu => ktr_units)
      (case gapgI => first | with_reducible assumption | assumption)
      (case gapgl => omega)
      (case gapgg => first | with_reducible assumption | assumption)
      (case gapgJ => first | with_reducible assumption | assumption)
      (case gapgn => first | omega | (simp only [List.length_map, rangeKs_length, List.length_append, List.length_cons, List.length_nil, List.length_take, List.length_drop] at *; omega))
      (case gapga => omega)
      (case gapgb => omega)
      (case gapgr => omega)
      (case gapgr' => omega)
      (case gapgx1 => omega)
      (case gapgx2 => omega)
      (case gapgx3 => walk_at "gap ne")
      (case gapgx4 => walk_at "gap ne")
      (case gapgx5 => walk_at "gap ne")
      (case gapgxo => walk_at "gap off")
      k_whole)
    intro r' n' h' tk' hP' F' N'
    obtain ⟨er', gs', ge', t3', t4', ws', k', cells', en', hI', g', hl', hn'⟩ := hP'
    subst er' en'
    (try simp only [List.length_map, rangeKs_length] at hl' hn')
    dsimp only [gapL] at N'
    (have gl' := g'.len)
    (try k_sweep)
    (try dsimp only))
  k_with "gap call" => (
    k_here
    (with_reducible show wpAny _ _ (call (Value.ref 77) _) _ _ _)
    k_dflt (
      refine' Ct.use (ct_delete _ _ _ _ _ _ _ _ _ _ _ _ _ _ _ _ _ _ _ ?gapgI ?gapgl ?gapgg ?gapga ?gapgb ?gapgc ?gapgx1 ?gapgx2 ?gapgxo) ?gapgs ?gapgB ?gapgF ?gapgX ?gapgN ?gapgT ?gapgK ?gapgd ?gapgu ?_
      (case gapgB => k_asm)
      (case gapgF => k_asm)
      (case gapgX => k_asm)
      (case gapgN => k_asm)
      (case gapgT => k_asm)
      (case gapgK => first | exact rfl | assumption)
      (case gapgs => (refine' gap_sub ?gapgo1 ?gapgo2 ?gapgo3; (case gapgo1 => walk_at "gap out"); (case gapgo2 => walk_at "gap out"); (case gapgo3 => walk_at "gap out")))
      (case gapgd => ktr_room)
      (case gapgu => ktr_units)
      (case gapgI => first | with_reducible assumption | assumption)
      (case gapgl => omega)
      (case gapgg => first | with_reducible assumption | assumption)
      (case gapga => omega)
      (case gapgb => omega)
      (case gapgc => omega)
      (case gapgx1 => omega)
      (case gapgx2 => omega)
      (case gapgxo => walk_at "gap off")
      k_whole)
    intro r' n' h' tk' hP' F' N'
    obtain ⟨D', ds', kD', er', gs', ge', t3', t4', ws', k', cells', en', hJ', hI', g', hl', hn', l1', l2', l3', l4'⟩ := hP'
    subst er' en'
    (try simp only [AllLt, and_true] at l4')
    dsimp only [gapL] at N'
    (have gl' := g'.len)
    (try k_sweep)
    (try dsimp only))
  k_with "gap call" => (
    k_here
    (with_reducible show wpAny _ _ (call (Value.ref 84) _) _ _ _)
    k_dflt (
      refine' Ct.use (ct_put _ _ _ _ _ _ _ _ _ _ _ _ _ _ _ _ _ _ _ ?gapgI ?gapgl ?gapgg ?gapga ?gapgb ?gapgx1 ?gapgx2 ?gapgxo) ?gapgs ?gapgB ?gapgF ?gapgX ?gapgN ?gapgT ?gapgK ?gapgd ?gapgu ?_
      (case gapgB => k_asm)
      (case gapgF => k_asm)
      (case gapgX => k_asm)
      (case gapgN => k_asm)
      (case gapgT => k_asm)
      (case gapgK => first | exact rfl | assumption)
      (case gapgs => (refine' gap_sub ?gapgo1 ?gapgo2 ?gapgo3; (case gapgo1 => walk_at "gap out"); (case gapgo2 => walk_at "gap out"); (case gapgo3 => walk_at "gap out")))
      (case gapgd => ktr_room)
      (case gapgu => ktr_units)
      (case gapgI => first | with_reducible assumption | assumption)
      (case gapgl => omega)
      (case gapgg => first | with_reducible assumption | assumption)
      (case gapga => omega)
      (case gapgb => omega)
      (case gapgx1 => omega)
      (case gapgx2 => omega)
      (case gapgxo => walk_at "gap off")
      k_whole)
    intro r' n' h' tk' hP' F' N'
    obtain ⟨er', ws', k', cells', en', hI', g', hl', hn'⟩ := hP'
    subst er' en'
    dsimp only [gapL] at N'
    (have gl' := g'.len)
    (try k_sweep)
    (try dsimp only))
  k_with "gap call" => (
    k_here
    (with_reducible show wpAny _ _ (call (Value.ref 56) _) _ _ _)
    k_dflt (
      refine' Ct.use (ct_move _ _ _ _ _ _ _ _ _ _ _ _ _ _ _ _ _ ?gapgI ?gapgl ?gapgg ?gapga ?gapgb ?gapgx1 ?gapgx2 ?gapgxo) ?gapgs ?gapgB ?gapgF ?gapgX ?gapgN ?gapgT ?gapgK ?gapgd ?gapgu ?_
      (case gapgB => k_asm)
      (case gapgF => k_asm)
      (case gapgX => k_asm)
      (case gapgN => k_asm)
      (case gapgT => k_asm)
      (case gapgK => first | exact rfl | assumption)
      (case gapgs => (refine' gap_sub ?gapgo1 ?gapgo2 ?gapgo3; (case gapgo1 => walk_at "gap out"); (case gapgo2 => walk_at "gap out"); (case gapgo3 => walk_at "gap out")))
      (case gapgd => ktr_room)
      (case gapgu => ktr_units)
      (case gapgI => with_reducible assumption)
      (case gapgl => omega)
      (case gapgg => with_reducible assumption)
      (case gapga => omega)
      (case gapgb => omega)
      (case gapgx1 => omega)
      (case gapgx2 => omega)
      (case gapgxo => walk_at "gap off")
      k_whole)
    intro r' n' h' tk' hP' F' N'
    obtain ⟨er', ge', t3', t4', ws', k', cells', en', hI', g', hl', hd'⟩ := hP'
    subst er' en'
    dsimp only [gapL, gapD] at N'
    (have g0' := g'.h0)
    (have g1' := g'.h1)
    (have g2' := g'.h2)
    (have gl' := g'.len)
    (try k_sweep)
    (try dsimp only))
  k_with "gap call" => (
    k_here
    (with_reducible show wpAny _ _ (call (Value.ref 91) _) _ _ _)
    k_dflt (
      refine' Ct.use (ct_narrow _ _ _ _ _ _ _ _ _ _ _ _ _ _ _ ?gapgI ?gapgl ?gapgg ?gapgr ?gapgr' ?gapgx1 ?gapgx2 ?gapgxo) ?gapgs ?gapgB ?gapgF ?gapgX ?gapgN ?gapgT ?gapgK ?gapgd ?gapgu ?_
      (case gapgB => k_asm)
      (case gapgF => k_asm)
      (case gapgX => k_asm)
      (case gapgN => k_asm)
      (case gapgT => k_asm)
      (case gapgK => first | exact rfl | assumption)
      (case gapgs => (refine' gap_sub ?gapgo1 ?gapgo2 ?gapgo3; (case gapgo1 => walk_at "gap out"); (case gapgo2 => walk_at "gap out"); (case gapgo3 => walk_at "gap out")))
      (case gapgd => ktr_room)
      (case gapgu => ktr_units)
      (case gapgI => first | with_reducible assumption | assumption)
      (case gapgl => omega)
      (case gapgg => first | with_reducible assumption | assumption)
      (case gapgr => omega)
      (case gapgr' => omega)
      (case gapgx1 => omega)
      (case gapgx2 => omega)
      (case gapgxo => walk_at "gap off")
      k_whole)
    intro r' n' h' tk' hP' F' N'
    obtain ⟨er', ge', t4', ws', k', cells', en', hI', g', hl'⟩ := hP'
    subst er' en'
    dsimp only [gapL] at N'
    (have gl' := g'.len)
    (try k_sweep)
    (try dsimp only))
  k_with "gap execs" => (
    (rename (_ ≠ _ ∧ _) => o9')
    (obtain ⟨p1', p2', p3', p4', p5', p6', p7', p8'⟩ := o9')
    (replace p1' := Off.mk p1')
    (replace p2' := Off.mk p2')
    (replace p3' := Off.mk p3')
    (replace p4' := Off.mk p4')
    (replace p5' := Off.mk p5')
    (replace p6' := Off.mk p6')
    (replace p7' := Off.mk p7')
    (replace p8' := Off.mk p8'))
  k_with "gap execs" => (
    k_here
    (with_reducible show wpAny _ _ (execs (PySem.Stmt.Assign [PySem.Expr.Name (PySem.Str.ofString "low") _] _ _ :: _) _) _ _ _)
    k_dflt (
      refine' lap_tail ?gapB ?gapX ?gapT ?gapF ?gapm1 ?gapm2 ?gapm3 ?gapN ?gaphs ?gaphl ?gapoc ?gaphI ?gapg ?gaphS ?gaphD ?gaphp ?gaphdl ?gaphsl ?gaphcl ?gapr ?gapr' ?gapx1 ?gapx2 ?gapx3 ?gapx4 ?gapx6 ?gaps1 ?gaps2 ?gaps3 ?gaps4 ?gaps5 ?gapi1 ?gapi2 ?gapi3 ?gapi4 ?gapi5 ?gapi6 ?gapret
      (case gapret => assumption)
      (case gapB => k_asm)
      (case gapX => k_asm)
      (case gapT => k_asm)
      (case gapF => k_asm)
      (case gapm1 => with_unfolding_all rfl)
      (case gapm2 => with_unfolding_all rfl)
      (case gapm3 => with_unfolding_all rfl)
      (case gapN => k_asm)
      (case gapoc => first | with_reducible assumption | assumption)
      (case gaphs => (refine' led_sub ?gapo1 ?gapo2 ?gapo3 ?gapo4 ?gapo5 ?gapo6 ?gapo7; (case gapo1 => walk_at "gap out"); (case gapo2 => walk_at "gap out"); (case gapo3 => walk_at "gap out"); (case gapo4 => walk_at "gap out"); (case gapo5 => walk_at "gap out"); (case gapo6 => walk_at "gap out"); (case gapo7 => walk_at "gap out")))
      (case gaphl => assumption)
      (case gaphI => with_reducible assumption)
      (case gaphS => with_reducible assumption)
      (case gaphD => with_reducible assumption)
      (case gapg => first | with_reducible assumption | assumption)
      (case gaphp => assumption)
      (case gaphdl => omega)
      (case gaphsl => omega)
      (case gaphcl => omega)
      (case gapr => omega)
      (case gapr' => omega)
      (case gapx1 => omega)
      (case gapx2 => omega)
      (case gapx3 => omega)
      (case gapx4 => first | with_reducible assumption | exact Off.mk (by omega))
      (case gapx6 => omega)
      (case gaps1 => first | with_reducible assumption | exact Off.mk (by omega))
      (case gaps2 => first | with_reducible assumption | exact Off.mk (by omega))
      (case gaps3 => first | with_reducible assumption | exact Off.mk (by omega))
      (case gaps4 => first | with_reducible assumption | exact Off.mk (by omega))
      (case gaps5 => first | with_reducible assumption | exact Off.mk (by omega))
      (case gapi1 => first | with_reducible assumption | exact Off.mk (by omega))
      (case gapi2 => first | with_reducible assumption | exact Off.mk (by omega))
      (case gapi3 => first | with_reducible assumption | exact Off.mk (by omega))
      (case gapi4 => first | with_reducible assumption | exact Off.mk (by omega))
      (case gapi5 => first | with_reducible assumption | exact Off.mk (by omega))
      (case gapi6 => first | with_reducible assumption | exact Off.mk (by omega))
    ))
  revert X hret; k_fill; intro X hret
  dsimp only [gapL] at N
  have g0 := g.h0; have g1 := g.h1; have g2 := g.h2; have gl := g.len
  conv => arg 3; arg 1; unfold loopStmts lawStmts lawDef; whnf
  k_steps
  all_goals ((rename (¬ _) => q9); first | exact absurd rfl q9 | exact absurd (same_mid simple (by omega) (by omega) (by omega)) q9 | (refine absurd ?_ q9; exact same_mid simple (by omega) (by omega) (by omega)))
theorem off_three {a b c I : Nat} {oa ob oc : Obj} (h1 : a ≠ I) (h2 : b ≠ I) (h3 : c ≠ I) : ∀ p ∈ ([(a, oa), (b, ob), (c, oc)] : Led), p.1 ≠ I := by
  intro p hp
  rcases List.mem_cons.mp hp with rfl | hp
  · exact h1
  rcases List.mem_cons.mp hp with rfl | hp
  · exact h2
  rcases List.mem_cons.mp hp with rfl | hp
  · exact h3
  · cases hp
def firstStmts : List Stmt := bodyOf (lawStmts.getD 2 (.Pass ⟨0, 0, 0, 0⟩))
abbrev frS (S : Addr) (u : Str → Option Value) : Str → Option Value := fun y => if y = Str.ofString "simple" then some (.ref S) else u y
theorem frS_eq {S : Addr} {m : Str → Option Value} (h1 : m (Str.ofString "simple") = some (.ref S)) : m = frS S m := by
  funext y
  unfold frS
  by_cases e1 : y = Str.ofString "simple"
  · rw [if_pos e1, e1, h1]
  rw [if_neg e1]
set_option maxRecDepth 100000 in
set_option maxHeartbeats 80000000 in
theorem loop1 {w : World} {mean : ExcName → Option Value} {mg mb : Str → Option Value} {base h₀ : Heap} {L D S r : Addr} {fa : Addr} {cd : Value} {s : Shared} {Q : Flow → Shared → Prop} {E : Value → Shared → Prop} {nD : Nat} {dvs : List Value} {oc : Obj} {cv : Option Value} {m : Str → Option Value} {news : Led} {px : Pos} {b : Int} {t u v : Tok}
    (B : Below callerA base [] h₀) (X : (hd.heap_39 w.params).In h₀) (T : Top hd.view_39 (looseW hd.view_39 []) mean mg mb h₀)
    (F : Fr h₀ L s.heap m) (hm : m (Str.ofString "simple") = some (.ref S)) (N : News h₀ L s.heap news)
    (hsub : ∀ p ∈ ([(S, listOf [].toArray 0), (D, listOf dvs.toArray nD), (L + 1, oc)] : Led), p ∈ news) (hoc : oc.data = .cell cv)
    (hr : IsRange s.heap r 0 b 1 t u v) (hb : 0 ≤ b) (hb' : b ≤ 6) (x1 : @LT.lt Nat _ D S) (x2 : Off (L + 1) D) (x3 : @LT.lt Nat _ (L + 1) S)
    (hE : PassesOwn (model PySem.Challenge.rw_np0006_01.row.prog w) (callerA.deeper (lawEnv L fa cd)) (lawEnv L fa cd) E)
    (hret : ∀ (svs : List Value) (nS : Nat) (simple : List Int) (oc' : Obj) (cv' : Option Value) (h' : Heap) (tk' : Nat), Fr h₀ L h' m → News h₀ L h' [(S, listOf svs.toArray nS), (D, listOf dvs.toArray nD), (L + 1, oc')] → oc'.data = .cell cv' → IntsAre svs simple → (simple.length : Int) = b → Q .next { s with heap := h', toks := tk' }) :
    wpAny (model PySem.Challenge.rw_np0006_01.row.prog w) (callerA.deeper (lawEnv L fa cd)) (pyIter (.ref r)) (fun it s₂ => codeAny (model PySem.Challenge.rw_np0006_01.row.prog w) (callerA.deeper (lawEnv L fa cd)) (.forLoop (.Name (Str.ofString "lap") px) it firstStmts [] (lawEnv L fa cd)) (fun r s' => match r with | .ok f => Q f s' | .error e => cameBackBy (model PySem.Challenge.rw_np0006_01.row.prog w) (callerA.deeper (lawEnv L fa cd)) (lawEnv L fa cd) E e s') s₂) E s := by
  w_top off
  k_with_none
  revert X hret; k_fill; intro X hret
  replace N := kst_newsOf N hsub
  clear hsub
  refine for_rangeT (pos := ⟨0, 0, 0, 0⟩) (env := lawEnv L fa cd) (n := b.toNat) (fun i news' m' => m' = m ∧ ∃ svs nS simple oc cv, news' = [(S, listOf (List.toArray svs) nS), (D, listOf dvs.toArray nD), (L + 1, oc)] ∧ oc.data = .cell cv ∧ IntsAre svs simple ∧ List.length simple = i) rfl hr (small_one (by omega) (by omega) (by omega) (by omega)) (by rw [rangeSize_nat]; congr 1; omega) F N ⟨rfl, [], 0, [], oc, cv, rfl, hoc, .nil, rfl⟩ ?_ ?_ hE
  · clear hret hoc N F cv oc
    rintro i news₁ m₁ h tk tv I hi ⟨rfl, svs, nS, simple, oc, cv, rfl, hoc, hS, hl⟩ hoff F N
    have i1 : @Ne Nat S I := hoff _ (.head _)
    have i2 : @Ne Nat D I := hoff _ (.tail _ (.head _))
    have i3 : @Ne Nat (L + 1) I := hoff _ (.tail _ (.tail _ (.head _)))
    clear hoff
    rw [frS_eq hm] at F
    unfold firstStmts lawStmts lawDef
    conv => arg 4; intro _ s₂; arg 3; arg 1; whnf
    k_steps
    (rename Fr _ _ _ _ => F'); (rename News _ _ _ _ => N')
    rw [← frS_eq hm] at F'
    rw [List.push_toArray] at N'
    exact ⟨_, _, _, _, rfl, F', N', off_three i1 i2 i3, rfl, _, _, simple ++ [0 + (i : Int)], _, _, rfl, by assumption, hS.append (.cons _ _ .nil), by rw [List.length_append, hl]; rfl⟩
  · rintro news₁ m₁ h tk ⟨rfl, svs, nS, simple, oc, cv, rfl, hoc, hS, hl⟩ F N
    exact hret svs nS simple oc cv h tk F N hoc hS (by omega)
set_option maxHeartbeats 8000000 in
theorem loop2 {w : World} {mean : ExcName → Option Value} {mg mb : Str → Option Value} {base h₀ : Heap} {L D S x dx c r : Addr} {fa : Addr} {cd : Value} {s : Shared} {Q : Flow → Shared → Prop} {E : Value → Shared → Prop} {G : Keys} {room gs ge : Int} {t1 t3 t4 n nS nD : Nat} {vs svs dvs : List Value} {cells simple deck : List Int} {oc : Obj} {cv : Option Value} {m : Str → Option Value} {news : Led} {px : Pos} {t u v : Tok}
    (B : Below callerA base [] h₀) (X : (hd.heap_39 w.params).In h₀) (T : Top hd.view_39 (looseW hd.view_39 []) mean mg mb h₀)
    (F : Fr h₀ L s.heap m) (hm1 : m (Str.ofString "deck") = some (.ref D)) (hm2 : m (Str.ofString "simple") = some (.ref S)) (hm3 : m (Str.ofString "text") = some (.ref x))
    (N : News h₀ L s.heap news) (hsub : ∀ p ∈ gapL G x dx c room gs ge t1 t3 t4 vs n [(S, listOf svs.toArray nS), (D, listOf dvs.toArray nD), (L + 1, oc)], p ∈ news)
    (hr : IsRange s.heap r 0 8 1 t u v)
    (hoc : oc.data = .cell cv) (hI : IntsAre vs cells) (g : GapIs cells gs ge simple) (hS : IntsAre svs simple) (hD : IntsAre dvs deck) (hp : ∀ v ∈ deck, 0 ≤ v) (hdl : deck.length ≤ 100)
    (hsl : (simple.length : Int) ≤ 6) (hcl : (cells.length : Int) ≤ 9) (h3 : 0 ≤ room) (h4 : room ≤ 3)
    (x1 : @LT.lt Nat _ dx x) (x2 : @LT.lt Nat _ x c) (x3 : @LT.lt Nat _ D dx) (x4 : Off (L + 1) D) (x6 : @LT.lt Nat _ (L + 1) dx)
    (s1 : Off S x) (s2 : Off S dx) (s3 : Off S c) (s4 : Off S D) (s5 : Off S (L + 1))
    (hE : PassesOwn (model PySem.Challenge.rw_np0006_01.row.prog w) (callerA.deeper (lawEnv L fa cd)) (lawEnv L fa cd) E)
    (hret : ∀ (m' : Str → Option Value) (h' : Heap) (tk' : Nat) (news' : Led), Fr h₀ L h' m' → News h₀ L h' news' → Q .next { s with heap := h', toks := tk' }) :
    wpAny (model PySem.Challenge.rw_np0006_01.row.prog w) (callerA.deeper (lawEnv L fa cd)) (pyIter (.ref r)) (fun it s₂ => codeAny (model PySem.Challenge.rw_np0006_01.row.prog w) (callerA.deeper (lawEnv L fa cd)) (.forLoop (.Name (Str.ofString "lap") px) it loopStmts [] (lawEnv L fa cd)) (fun r s' => match r with | .ok f => Q f s' | .error e => cameBackBy (model PySem.Challenge.rw_np0006_01.row.prog w) (callerA.deeper (lawEnv L fa cd)) (lawEnv L fa cd) E e s') s₂) E s := by
  replace N := kst_newsOf N hsub
  clear hsub
  refine for_rangeT (pos := ⟨0, 0, 0, 0⟩) (env := lawEnv L fa cd) (n := 8) (fun i news' m' => St L D x dx c G room t1 i news' m') rfl hr (by decide) (by rw [rangeSize_nat]; rfl) F N
    ⟨S, gs, ge, t3, t4, vs, n, svs, nS, dvs, nD, cells, simple, deck, oc, cv, rfl, hm1, hm2, hm3, hoc, hI, g, hS, hD, hp, hdl, by omega, by omega, s1, s2, s3, s4, s5⟩ ?_ ?_ hE
  · clear hret hoc N F hm1 hm2 hm3 hI g hS hD hp hdl hsl hcl s1 s2 s3 s4 s5
    rintro i news₁ m₁ h tk tv I hi ⟨S, gs, ge, t3, t4, vs, n, svs, nS, dvs, nD, cells, simple, deck, oc, cv, rfl, hm1, hm2, hm3, hoc, hI, g, hS, hD, hp, hdl, hsl, hcl, s1, s2, s3, s4, s5⟩ hoff F N
    have i1 : Off x I := ⟨hoff _ (.head _)⟩
    have i2 : Off dx I := ⟨hoff _ (.tail _ (.head _))⟩
    have i3 : Off c I := ⟨hoff _ (.tail _ (.tail _ (.head _)))⟩
    have i4 : Off S I := ⟨hoff _ (.tail _ (.tail _ (.tail _ (.head _))))⟩
    have i5 : Off D I := ⟨hoff _ (.tail _ (.tail _ (.tail _ (.tail _ (.head _)))))⟩
    have i6 : Off (L + 1) I := ⟨hoff _ (.tail _ (.tail _ (.tail _ (.tail _ (.tail _ (.head _))))))⟩
    clear hoff
    have hxL : x ≠ L + 1 := by show ¬ (@Eq Nat x (L + 1)); omega
    have hdL : dx ≠ L + 1 := by show ¬ (@Eq Nat dx (L + 1)); omega
    have hcL : c ≠ L + 1 := by show ¬ (@Eq Nat c (L + 1)); omega
    have hDL : D ≠ L + 1 := x4.out'
    refine storeX_C (c := L + 1) F N (by with_unfolding_all rfl) (UpdF.tail i6.out' (UpdF.tail hxL (UpdF.tail hdL (UpdF.tail hcL (UpdF.tail s5.out (UpdF.tail hDL (UpdF.head (fun _ h => nomatch h)))))))) hoc (fun h' o' F' N' d' => ?_) (by with_unfolding_all rfl) (by with_unfolding_all rfl)
    rw [fr2_eq hm1 hm2 hm3] at F'
    rw [Int.zero_add] at d'
    exact lap_walk B X T F' N' hi d' hI g hS hD hp hdl hsl hcl h3 h4 x1 x2 x3 x4 x6 s1 s2 s3 s4 s5 i1 i2 i3 i4 i5 i6 (fun news' m' h' tk' F₂ N₂ off st => ⟨h', tk', news', m', rfl, F₂, N₂, off, st⟩)
  · rintro news₁ m₁ h tk _ F N
    exact hret m₁ h tk _ F N
theorem three_sub {a b c : Addr} {oa ob oc : Obj} {n1 n2 n3 news : Led} (o1 : Out a oa news n1) (o2 : Out b ob n1 n2) (o3 : Out c oc n2 n3) : ∀ p ∈ ([(a, oa), (b, ob), (c, oc)] : Led), p ∈ news := by
  intro p hp
  rcases List.mem_cons.mp hp with rfl | hp
  · exact o1.sub _ (.head _)
  rcases List.mem_cons.mp hp with rfl | hp
  · exact o1.sub _ (.tail _ (o2.sub _ (.head _)))
  rcases List.mem_cons.mp hp with rfl | hp
  · exact o1.sub _ (.tail _ (o2.sub _ (.tail _ (o3.sub _ (.head _)))))
  · cases hp
theorem led_sub6 {G : Keys} {x dx c S D C : Addr} {room gs ge : Int} {t1 t3 t4 : Nat} {vs ss ds : List Value} {n nS nD : Nat} {oc : Obj} {n1 n2 n3 n4 n5 n6 news : Led}
    (o1 : Out x (instObj 101 dx) news n1) (o2 : Out dx (gapD G room gs ge t1 t3 t4 c) n1 n2) (o3 : Out c (listOf vs.toArray n) n2 n3) (o4 : Out S (listOf ss.toArray nS) n3 n4) (o5 : Out D (listOf ds.toArray nD) n4 n5) (o6 : Out C oc n5 n6) :
    ∀ p ∈ gapL G x dx c room gs ge t1 t3 t4 vs n [(S, listOf ss.toArray nS), (D, listOf ds.toArray nD), (C, oc)], p ∈ news := by
  have up1 : ∀ p ∈ n1, p ∈ news := fun p hp => o1.sub _ (.tail _ hp)
  have up2 : ∀ p ∈ n2, p ∈ news := fun p hp => up1 _ (o2.sub _ (.tail _ hp))
  have up3 : ∀ p ∈ n3, p ∈ news := fun p hp => up2 _ (o3.sub _ (.tail _ hp))
  have up4 : ∀ p ∈ n4, p ∈ news := fun p hp => up3 _ (o4.sub _ (.tail _ hp))
  have up5 : ∀ p ∈ n5, p ∈ news := fun p hp => up4 _ (o5.sub _ (.tail _ hp))
  intro p hp
  rcases List.mem_cons.mp hp with rfl | hp
  · exact o1.sub _ (.head _)
  rcases List.mem_cons.mp hp with rfl | hp
  · exact up1 _ (o2.sub _ (.head _))
  rcases List.mem_cons.mp hp with rfl | hp
  · exact up2 _ (o3.sub _ (.head _))
  rcases List.mem_cons.mp hp with rfl | hp
  · exact up3 _ (o4.sub _ (.head _))
  rcases List.mem_cons.mp hp with rfl | hp
  · exact up4 _ (o5.sub _ (.head _))
  rcases List.mem_cons.mp hp with rfl | hp
  · exact up5 _ (o6.sub _ (.head _))
  · cases hp
abbrev fr1 (D : Addr) (u : Str → Option Value) : Str → Option Value := fun y => if y = Str.ofString "deck" then some (.ref D) else u y
theorem fr1_eq {D : Addr} {m : Str → Option Value} (h1 : m (Str.ofString "deck") = some (.ref D)) : m = fr1 D m := by
  funext y
  unfold fr1
  by_cases e1 : y = Str.ofString "deck"
  · rw [if_pos e1, e1, h1]
  rw [if_neg e1]
set_option maxRecDepth 100000 in
set_option maxHeartbeats 80000000 in
theorem law_rest {w : World} {mean : ExcName → Option Value} {mg mb : Str → Option Value} {base h₀ : Heap} {L D : Addr} {fa : Addr} {cd : Value} {s : Shared} {Q : Flow → Shared → Prop} {E : Value → Shared → Prop} {nD : Nat} {dvs : List Value} {deck : List Int} {oc : Obj} {cv : Option Value} {m : Str → Option Value} {news : Led}
    (B : Below callerA base [] h₀) (X : (hd.heap_39 w.params).In h₀) (T : Top hd.view_39 (looseW hd.view_39 []) mean mg mb h₀)
    (F : Fr h₀ L s.heap m) (hm1 : m (Str.ofString "deck") = some (.ref D)) (N : News h₀ L s.heap news) (hsub : ∀ p ∈ ([(D, listOf dvs.toArray nD), (L + 1, oc)] : Led), p ∈ news)
    (hoc : oc.data = .cell cv) (hD : IntsAre dvs deck) (hp : ∀ v ∈ deck, 0 ≤ v) (hdl : deck.length ≤ 100) (x4 : Off (L + 1) D)
    (hret : ∀ (m' : Str → Option Value) (h' : Heap) (tk' : Nat), Fr h₀ L h' m' → News h₀ L h' [] → Q (.ret (.bool true)) { s with heap := h', toks := tk' }) :
    wpAny (model PySem.Challenge.rw_np0006_01.row.prog w) (callerA.deeper (lawEnv L fa cd)) (execs (lawStmts.drop 1) (lawEnv L fa cd)) Q E s := by
  w_top off
  k_with_none
  k_with "gap range" => (
    k_here
    (with_reducible show wpAny _ _ (call (Value.type "range") [Value.int _ _]) _ _ _)
    (rename Fr _ _ _ _ => F')
    (rename News _ _ _ _ => N')
    (with_unfolding_all refine range1_rows F' N' ?_)
    intro _ _ _ _ _ _ _ _ _)
  k_with "gap call" => (
    k_here
    (with_reducible show wpAny _ _ (call (Value.ref 117) _) _ _ _)
    k_dflt (
      refine' Ct.use (ct_draw _ _ _ _ _ _ _ ?gapgI ?gapgl ?gapgp ?gapga ?gapgb ?gapgxo) ?gapgs ?gapgB ?gapgF ?gapgX ?gapgN ?gapgT ?gapgK ?gapgd ?gapgu ?_
      (case gapgB => k_asm)
      (case gapgF => k_asm)
      (case gapgX => k_asm)
      (case gapgN => k_asm)
      (case gapgT => k_asm)
      (case gapgK => first | exact rfl | assumption)
      (case gapgs => (refine' Out.sub ?gapgo1; (case gapgo1 => walk_at "gap out")))
      (case gapgd => ktr_room)
      (case gapgu => ktr_units)
      (case gapgI => first | with_reducible assumption | assumption)
      (case gapgl => omega)
      (case gapgp => assumption)
      (case gapga => omega)
      (case gapgb => omega)
      (case gapgxo => walk_at "gap off1")
      k_whole)
    intro r' n' h' tk' hP' F' N'
    obtain ⟨v', ts', er', lo', hi', ws', k', deck', en', hI', hp', hl'⟩ := hP'
    subst er' en'
    (try k_sweep)
    (try dsimp only))
  k_with "gap call" => (
    k_here
    (with_reducible show wpAny _ _ (call (Value.ref 101) _) _ _ _)
    k_dflt (
      refine' Ct.use (ct_make _ _ _ _ _ _ _ ?gapgI ?gapgl ?gapga ?gapgb) ?gapgs ?gapgB ?gapgF ?gapgX ?gapgN ?gapgT ?gapgK ?gapgd ?gapgu ?_
      (case gapgB => k_asm)
      (case gapgF => k_asm)
      (case gapgX => k_asm)
      (case gapgN => k_asm)
      (case gapgT => k_asm)
      (case gapgK => first | exact rfl | assumption)
      (case gapgs => (refine' Out.sub ?gapgo1; (case gapgo1 => walk_at "gap out")))
      (case gapgd => ktr_room)
      (case gapgu => ktr_units)
      (case gapgI => first | with_reducible assumption | assumption)
      (case gapgl => omega)
      (case gapga => omega)
      (case gapgb => omega)
      k_whole)
    intro r' n' h' tk' hP' F' N'
    obtain ⟨G', x', dx', c', t1', t3', t4', vs', k', ge', cells', er', en', hI', g', hl', l1', l2', l3', l4'⟩ := hP'
    subst er' en'
    (try simp only [AllLt, and_true] at l4')
    dsimp only [gapL] at N'
    (have gl' := g'.len)
    (try k_sweep)
    (try dsimp only))
  revert X hret; k_fill; intro X hret
  replace N := kst_newsOf N hsub
  clear hsub
  rw [fr1_eq hm1] at F
  clear hm1
  conv => arg 3; arg 1; unfold lawStmts lawDef; whnf
  k_steps
  try k_fold
  refine wpAny_noRaise ?_
  refine wpAny_For ?_
  k_steps
  k_dflt (
    refine' loop1 ?B ?X ?T ?F ?hm ?N ?hs ?hoc ?hr ?hb ?hb' ?x1 ?x2 ?x3 ?hE ?ret)
  case B => k_asm
  case X => k_asm
  case T => k_asm
  case F => k_asm
  case hm => with_unfolding_all rfl
  case N => k_asm
  case hoc => exact hoc
  case hs => exact three_sub (by walk_at "gap out") (by walk_at "gap out") (by walk_at "gap out")
  case hr => assumption
  case hb => omega
  case hb' => omega
  case x1 => omega
  case x2 => assumption
  case x3 => omega
  case hE => exact PassesOwn.never
  intro svs nS simple oc' cv' h' tk' F' N' hoc' hS' hl'
  k_unfold
  dsimp only
  clear hoc hD hp
  k_steps
  try k_fold
  refine wpAny_noRaise ?_
  refine wpAny_For ?_
  k_steps
  k_dflt (
    refine' loop2 ?B2 ?X2 ?T2 ?F2 ?m1 ?m2 ?m3 ?N2 ?hs2 ?hr2 ?oc2 ?hI2 ?g2 ?hS2 ?hD2 ?hp2 ?hdl2 ?hsl2 ?hcl2 ?r1 ?r2 ?y1 ?y2 ?y3 ?y4 ?y6 ?s1 ?s2 ?s3 ?s4 ?s5 ?hE2 ?ret2)
  case B2 => k_asm
  case X2 => k_asm
  case T2 => k_asm
  case F2 => k_asm
  case m1 => with_unfolding_all rfl
  case m2 => with_unfolding_all rfl
  case m3 => with_unfolding_all rfl
  case N2 => k_asm
  case oc2 => exact hoc'
  case hs2 => (refine' led_sub6 ?o1 ?o2 ?o3 ?o4 ?o5 ?o6; (case o1 => walk_at "gap out"); (case o2 => walk_at "gap out"); (case o3 => walk_at "gap out"); (case o4 => walk_at "gap out"); (case o5 => walk_at "gap out"); (case o6 => walk_at "gap out"))
  case hr2 => assumption
  case hI2 => with_reducible assumption
  case hS2 => with_reducible assumption
  case hD2 => with_reducible assumption
  case g2 => assumption
  case hp2 => assumption
  case hdl2 => omega
  case hsl2 => omega
  case hcl2 => omega
  case r1 => omega
  case r2 => omega
  case y1 => omega
  case y2 => omega
  case y3 => omega
  case y4 => assumption
  case y6 => omega
  case s1 => exact Off.mk (by omega)
  case s2 => exact Off.mk (by omega)
  case s3 => exact Off.mk (by omega)
  case s4 => exact Off.mk (by omega)
  case s5 => exact Off.mk (by omega)
  case hE2 => exact PassesOwn.never
  intro m2' h2' tk2' news2' F2' N2'
  k_unfold
  dsimp only
  k_steps
  exact hret _ _ _ F2' News.nil
theorem deck_good (l : List Int) (f : Int → Int) (hf : ∀ x, 0 ≤ f x) : ∀ v ∈ List.map f l, (0 : Int) ≤ v := by
  intro v hv
  obtain ⟨x, _, rfl⟩ := List.mem_map.mp hv
  exact hf x
theorem two_sub {a b : Addr} {oa ob : Obj} {n1 n2 news : Led} (o1 : Out a oa news n1) (o2 : Out b ob n1 n2) : ∀ p ∈ ([(a, oa), (b, ob)] : Led), p ∈ news := by
  intro p hp
  rcases List.mem_cons.mp hp with rfl | hp
  · exact o1.sub _ (.head _)
  rcases List.mem_cons.mp hp with rfl | hp
  · exact o1.sub _ (.tail _ (o2.sub _ (.head _)))
  · cases hp
set_option maxRecDepth 100000 in
set_option maxHeartbeats 8000000 in
theorem law_holds : PySem.Challenge.rw_np0006_01.Holds := hd (by
  w_top off
  k_with_none
  k_go0
  (all_goals try k_fold)
  repeat (fail_if_success (with_reducible show wpAny _ _ (execs (PySem.Stmt.Assign [PySem.Expr.Tuple (PySem.Expr.Name (PySem.Str.ofString "room") _ :: _) _ _] _ _ :: _) _) _ _ _)
          (first | (k_unfold; (try dsimp only)) | (k_end; wrow_close) | walk1 | (dsimp only; walk1)))
  (rename (_ ≠ _ ∧ _ ≠ _) => o9)
  (rename (List.length _ = min _ _) => hmin)
  k_dflt (
    refine' law_rest ?B ?X ?T ?F ?m1 ?N ?hs ?oc ?hD ?hp ?hdl ?x4 ?ret)
  case B => k_asm
  case X => k_asm
  case T => k_asm
  case F => k_asm
  case m1 => with_unfolding_all rfl
  case N => k_asm
  case hs => exact two_sub (by walk_at "gap out") (by walk_at "gap out")
  case oc => assumption
  case hD => with_reducible assumption
  case hp => exact deck_good _ _ (fun x => Int.fmod_nonneg_of_pos _ (by decide))
  case hdl => rw [List.length_map]; omega
  case x4 => exact Off.mk o9.2
  intro m' h' tk' F' N'
  k_steps)
end Mine
theorem PySem.Challenge.cw_np0006_01_holds : PySem.Challenge.rw_np0006_01.Holds := by
  exact Mine.law_holds
