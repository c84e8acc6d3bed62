/-
  Conversions between bytes and strings; append, copy, len.
-/
import Derived.Test.YtmenpfhpflnbnaaGreatVmF
import Derived.Laws.BytesString
import Derived.Laws.Append
set_option linter.unusedVariables false
set_option linter.unusedSimpArgs false
open Array renaming getElem?_push->IQ
open Go.Builtin renaming firstCells->Dw
open List renaming getElem?_map->FL
open Nat renaming mul_le_mul_right->EG
open Option renaming bind_eq_some_iff->Hv,bind_some->HC,map_eq_some_iff->De
open Go.Question renaming appendCap->Dx
open Go.Result renaming andThen_ok->Hy
open Go.Sem renaming run_bind->Hz,run_pure->HD
open Go.Value renaming int->DR
namespace Vm
open Go
variable {W0 : St} {base : Nat} {ρ : Rho} {h : H} {w w' : World} {P : Program} {E : Env} {R : Type}
theorem M3 (rel : Rel W0 base ρ h w) {z m : Nat} {y : V} {x : Value} {cs : List S} (hx : VR ρ y x) (hc : Z6 z h y = some cs) (hm : Uh y = some m) :
  cs.length = m * z /\ (∀ w' : World, (Builtin.lenOf x).run P w' = .ok m w') /\ ∀ k, k <= m -> ∃ l : List Value, SRs ρ (cs.take (k * z)) l /\ ∀ w', X2 base ρ h w w' -> (Dw z k x).run P w' = .ok l.toArray w' := by
 unfold Z6 at hc
 split at hc
 ·cases hc; cases hm
  obtain ⟨_, rfl⟩ := hx.snil;refine ⟨by simp, fun _ => rfl, fun k hk => ⟨[], by simp [SRs], ?_⟩⟩
  obtain rfl : k = 0 := by omega
  exact fun w' _ => rfl
 ·rename_i b o n'
  cases hm
  obtain ⟨i, off, cap, l, q1, q2, q3, q4, q5, q6, q7, q8, q9⟩ := Ba (P := P) rel.q hx (by simp only [Z6]; exact hc)
  refine ⟨by rw [<- q6.length, q7], fun _ => by rw [q2]; rfl, fun k hk => ?_⟩
  rw [q2]
  by_cases h0 : k * z = 0
  ·refine ⟨[], by rw [h0]; simp [SRs], fun w' _ => ?_⟩
   show (loadCells off (k * z)).run P w' = _;rw [h0]; rfl
  ·have hcap : cap ≠ 0 := by
    intro hc0;have : k = 0 := by omega
    subst this; simp at h0
   have hle : k * z <= m * z := EG _ hk;obtain ⟨i', l', p1, p2, p3, p4⟩ := rel.q.row (P := P) (b := b) (o := o) (m := k * z) (by omega) (.inr (rel.lt q1))
   rw [q1] at p1; cases p1;refine ⟨l', ?_, fun w' hw => ?_⟩
   ·rw [if_pos ⟨rel.lt q1, q8⟩] at hc
    cases hc
    rw [List.take_take, Nat.min_eq_left hle]; exact p2
   ·show (loadCells off (k * z)).run P w' = _
    rw [q4 hcap]; exact p4 w' hw
 ·rename_i s
  split at hc
  ·rename_i hz
   subst hz
   cases hc; cases hm
   obtain rfl := hx.str;refine ⟨by simp, fun _ => rfl, fun k hk => ⟨(s.data.toList.map fun c => .int .u8 c.toNat).take (k * 1), ?_, fun w' _ => ?_⟩⟩
   ·refine SRs.take _ (SRs.of_get (by simp) fun j t hj => ?_)
    rw [FL, De] at hj;obtain ⟨c, q1, q2⟩ := hj;subst q2;exact ⟨.int .u8 c.toNat, by rw [FL, q1]; rfl, rfl⟩
   ·simp only [Dw, HD, Nat.mul_one]
    congr 1
    rw [<- Array.toList_inj];simp [ByteArray.extract, ByteArray.copySlice, List.map_take]
  · cases hc
 ·rename_i rows
  cases hm
  obtain ⟨q, cap, l, k1, k2, k3, k4, k5⟩ := Pr (P := P) rel.q hx (by simp only [Z6]; exact hc)
  refine ⟨by rw [<- k2.length, k3], fun _ => by rw [k1]; rfl, fun k hk => ?_⟩
  rw [k1]
  by_cases h0 : k * z = 0
  ·refine ⟨[], by rw [h0]; simp [SRs], fun w' _ => ?_⟩
   cases q with
   | none => rfl
   | some a =>
    show (loadCells a (k * z)).run P w' = _;rw [h0]; rfl
  ·have hle : k * z <= rows.length * z := EG _ hk
   split at hc
   ·rename_i hz
    cases hc
    obtain ⟨q', cap', z', ys, f1, f2, f3, f4, f5, f6⟩ := Rg hx.fs;have hne : rows ≠ [] := by
     rintro rfl
     simp at hle h0;omega
    obtain ⟨blk, off, cells, e1, e2, e3⟩ := f6 hne;rw [k1] at f1;simp only [Value.slice.injEq] at f1;obtain ⟨rfl, _, _⟩ := f1;subst e1;have hl := U1 hz;refine ⟨(List.range (k * z)).map ys, ?_, fun w' hw => ?_⟩
    ·have := Tg (ρ := ρ) (cs := rows.flatten.take (k * z)) (ys := ys) fun j s hj => by
      rw [List.getElem?_take] at hj
      split at hj
      · exact f5 j s hj
      · cases hj
     rw [List.length_take, hl, Nat.min_eq_left hle] at this;exact this
    ·show (loadCells ⟨blk, off, none⟩ (k * z)).run P w' = _
     exact FzW.row ys e2 (fun j hj => e3 j _ (List.getElem?_eq_getElem (by omega))) (hw.2.2 rel.fz)
   · cases hc
 · cases hc
theorem Q1b (hT : X5 P E) {o' : Oper} {F : Fr} {k : V -> H -> Option R} {r : R} {s t : Nat} {x : Operand} (hop : o'.op = .convert s t x) (hr : op1 E F h o'.op k = some r) : ∃ v h', k v h' = some r /\ EOK P W0 base o' F h v h' := by
 rw [hop] at hr;simp only [op1, Hv] at hr;obtain ⟨si, h1, ti, h2, v, h3, h4⟩ := hr
 split at h4
 ·rename_i k1 k2 hd1 hd2
  have hr' : op1 E F h o'.op k = some r := by
   rw [hop]; simp only [op1, h1, h2, h3, HC, hd1, hd2]; exact h4
  obtain ⟨v, g1, g2⟩ := MW (W0 := W0) (base := base) hT hr' (by rw [hop]; simp only [Jk, h1, h2, hd1, hd2])
  exact ⟨v, h, g1, g2.q.eok⟩
 ·rename_i hd1 hd2
  split at h4
  ·refine ⟨_, _, h4, QOK.eok fun ρ a w rel hF => ⟨_, fun _ => rfl, fun w' _ => ?_⟩⟩
   simp only [execOp, hop, convert, (QK hF h3).str, Hz, QJ ((hT _ _ h1).str hd1), QJ ((hT _ _ h2).str hd2), Hy];rfl
  · cases h4
 ·rename_i e hd1 hd2
  rw [Hv] at h4;obtain ⟨te, h5, h6⟩ := h4
  split at h6
  ·rename_i hd3
   rw [Hv] at h6;obtain ⟨p, h7, h8⟩ := h6;unfold MJ at h7
   split at h7
   ·rename_i st
    split at h7
    ·rename_i hl
     cases h7
     refine ⟨_, _, h8, U4 fun ρ a w rel hF => ?_⟩
     have hx := (QK hF h3).str;have hf : (Dx st.size 0 e).forced = false := rfl;obtain ⟨cap, hcap, hcut⟩ : ∃ cap, st.size <= cap /\ (Dx st.size 0 e).cut (w.tape w.drawn (Dx st.size 0 e)) = cap := ⟨_, Nat.le_add_right _ _, rfl⟩;have hrow : SRs ρ (st.data.toList.map fun c => .int .u8 c.toNat) (st.data.toList.map fun (c : UInt8) => (DR .u8 c.toNat)) := by
      refine SRs.of_get (by simp) fun j t hj => ?_
      rw [FL, De] at hj;obtain ⟨c, q1, q2⟩ := hj;subst q2;exact ⟨.int .u8 c.toNat, by rw [FL, q1]; rfl, rfl⟩
     let arr : Array Value := (st.data.map fun b => DR .u8 b.toNat) ++ Array.replicate (cap - st.size) (.int .u8 0)
     have harr : arr = ((st.data.toList.map fun (c : UInt8) => (DR .u8 c.toNat)) ++ List.replicate (cap - st.size) (DR .u8 0)).toArray := by
      rw [<- Array.toList_inj]; simp [arr]
     have hsz : arr.size = cap := by
      simp only [arr, Array.size_append, Array.size_map, Array.size_replicate];have : st.data.size = st.size := rfl;omega
     let w1 : World := { w with drawn := w.drawn + 1, heap := w.heap.push (.cells arr e (cap, cap + 1)) }
     refine ⟨.slice (some ⟨w.heap.size, 0, none⟩) st.size cap, (ρ.push ⟨w.heap.size, 0, 1, arr.size⟩), w1, ?_, Le.push _ _, NV rel rfl hcap (by omega), rel.new (fr := (cap, cap + 1)) hrow harr rfl (.inr (by omega)), rel.new_frm rfl⟩
     simp only [execOp, hop, convert, hx, Hz, QJ ((hT _ _ h1).str hd1), QJ ((hT _ _ h2).slice hd2), QJ ((hT _ _ h5).int hd3), Hy, Conv.stringToBytes, run_choose, hf, Bool.false_eq_true, if_false, hcut, YE, markStringish, run_shape, HD];have hsh : ({ w with drawn := w.drawn + 1, heap := w.heap.push (.cells arr e) } : World).shape? w.heap.size = some (e, cap) := by
      unfold World.shape?; simp [hsz]
     have hsh2 : ({ w with drawn := w.drawn + 1, heap := w.heap.push (.cells arr e) } : World).freeze ⟨w.heap.size, cap, none⟩ 1 = w1 := by
      unfold World.freeze;rw [if_neg (by omega)]
      simp only [w1]
      congr 1
      apply Array.ext_getElem?;intro j;rw [Array.getElem?_modify]
      by_cases hj : w.heap.size = j
      · subst hj; simp
      · rw [if_neg hj, IQ, IQ, if_neg (by omega), if_neg (by omega)]
     simp only [arr] at hsh hsh2;rw [hsh];simp only [Hz, run_freeze, Hy, HD, hsh2]
    · cases h7
   · cases h7
  · cases h6
 ·rename_i e hd1 hd2
  have hr' : op1 E F h o'.op k = some r := by
   rw [hop]; simp only [op1, h1, h2, h3, HC, hd1, hd2]; exact h4
  obtain ⟨v, g1, g2⟩ := MW (W0 := W0) (base := base) hT hr' (by rw [hop]; simp only [Jk, h1, h2, hd1, hd2])
  exact ⟨v, h, g1, g2.q.eok⟩
 · cases h4
end Vm
