/-
  The arguments of a row, opened: what they lead to stands in the small machine's heap as blocks that are never written.
-/
import Derived.Test.YtfmkfefblbophaaVmL
import Derived.ChangeArms
import Derived.DataReads
import Derived.WideShapes
set_option linter.unusedVariables false
set_option linter.unusedSimpArgs false
namespace Vm
open Go

/-- the heap of what came in -/
def roH (l : List (List S)) : H := ⟨l.length, fun b => match l[b]? with | some cs => .ro cs | none => .dead, fun _ => 0⟩
structure RoOk (W : World) (ρ : List BI) (l : List (List S)) : Prop where
  len : ρ.length = l.length
  ok : ∀ (b : Nat) (i : BI) (cs : List S), ρ[b]? = some i → l[b]? = some cs → i.e = 0 ∧ ∀ (j : Nat) (c : S), cs[j]? = some c → i.blk < W.heap.size ∧ ∃ x, W.cell? ⟨i.blk, i.off + j, none⟩ = some x ∧ SR ρ c x
theorem RoOk.nil (W : World) : RoOk W [] [] := ⟨rfl, fun b i cs h => by simp at h⟩
theorem RoOk.rel {W : World} {ρ : List BI} {l : List (List S)} (r : RoOk W ρ l) : Rel W W.heap.size ρ (roH l) W where
  io := ⟨rfl, rfl, rfl⟩
  len := r.len
  bas := Nat.le_refl _
  old := fun _ _ => rfl
  ro := fun b i cs h1 h2 => by
    unfold roH at h2
    simp only at h2
    split at h2
    · rename_i cs' hl; cases h2; exact r.ok b i _ h1 hl
    · cases h2
  rw := fun b i e cs h1 h2 => by
    unfold roH at h2
    simp only at h2
    split at h2 <;> cases h2
  inj := fun b b' i i' e e' cs cs' h1 h2 g1 => by
    unfold roH at g1
    simp only at g1
    split at g1 <;> cases g1
theorem RoOk.push {W : World} {ρ : List BI} {l : List (List S)} (r : RoOk W ρ l) {i : BI} {cs : List S} (he : i.e = 0)
    (hc : ∀ (j : Nat) (c : S), cs[j]? = some c → i.blk < W.heap.size ∧ ∃ x, W.cell? ⟨i.blk, i.off + j, none⟩ = some x ∧ SR ρ c x) : RoOk W (ρ ++ [i]) (l ++ [cs]) where
  len := by simp [r.len]
  ok := fun b i' cs' h1 h2 => by
    by_cases hb : b < ρ.length
    · rw [List.getElem?_append_left hb] at h1
      rw [List.getElem?_append_left (by rw [← r.len]; exact hb)] at h2
      obtain ⟨a1, a2⟩ := r.ok b i' cs' h1 h2
      exact ⟨a1, fun j c hj => by obtain ⟨k1, x, k2, k3⟩ := a2 j c hj; exact ⟨k1, x, k2, k3.mono (Le.push _ _)⟩⟩
    · have hb2 := (List.getElem?_eq_some_iff.1 h1).1
      have hbe : b = ρ.length := by simp at hb2; omega
      subst hbe
      simp at h1
      rw [r.len] at h2
      simp at h2
      subst h1; subst h2
      exact ⟨he, fun j c hj => by obtain ⟨k1, x, k2, k3⟩ := hc j c hj; exact ⟨k1, x, k2, k3.mono (Le.push _ _)⟩⟩
theorem roH_ext {l l' : List (List S)} (h : l <+: l') : HExt (roH l) (roH l') := by
  obtain ⟨r, rfl⟩ := h
  refine ⟨by simp [roH], fun b hb => ⟨?_, rfl⟩⟩
  simp only [roH] at hb ⊢
  rw [List.getElem?_append_left hb]

def RpFs (R : TypeId → List S → Prop) (P : Program) : List Field → List S → Prop
  | [], xs => xs = []
  | f :: fs, xs => ∃ a b, xs = a ++ b ∧ R f.type a ∧ RpFs R P fs b
/-- cells that are data of a type -/
def Rp (P : Program) (h : H) : Nat → TypeId → List S → Prop
  | 0, _, _ => False
  | n + 1, t, xs => match P.underlying t with
    | some .bool => ∃ b, xs = [.bool b]
    | some (.int k) => ∃ m, xs = [.int k m] ∧ (Lit.int k m).wf = true
    | some .string => ∃ s : ByteArray, xs = [.str s] ∧ s.size ≤ maxLen
    | some (.slice e) => xs = [.sl none 0] ∨ ∃ b, ∃ rows : List (List S), xs = [.sl (some (b, 0)) rows.length] ∧ b < h.n ∧ h.g b = .ro rows.flatten ∧ rows.length ≤ maxLen ∧ ∀ r ∈ rows, r.length = P.cellsOf e ∧ Rp P h n e r
    | some (.struct fs) => RpFs (Rp P h n) P fs.toList xs
    | _ => False
theorem RpFs.mono {R R' : TypeId → List S → Prop} {P : Program} (hR : ∀ t xs, R t xs → R' t xs) : ∀ {fs : List Field} {xs : List S}, RpFs R P fs xs → RpFs R' P fs xs
  | [], _, h => h
  | f :: fs, xs, ⟨a, b, h1, h2, h3⟩ => ⟨a, b, h1, hR _ _ h2, RpFs.mono hR h3⟩
theorem Rp.mono {P : Program} {h h' : H} (hx : HExt h h') : ∀ {n : Nat} {t : TypeId} {xs : List S}, Rp P h n t xs → Rp P h' n t xs
  | 0, _, _, hr => hr
  | n + 1, t, xs, hr => by
    unfold Rp at hr ⊢
    split at hr
    · exact hr
    · exact hr
    · exact hr
    · rcases hr with hr | ⟨b, rows, h1, h2, h3, h4, h5⟩
      · exact .inl hr
      · exact .inr ⟨b, rows, h1, Nat.lt_of_lt_of_le h2 hx.1, by rw [(hx.2 b h2).1]; exact h3, h4, fun r hm => ⟨(h5 r hm).1, Rp.mono hx (h5 r hm).2⟩⟩
    · exact RpFs.mono (fun t xs h => Rp.mono hx h) hr
    · exact hr

def tilesT (P : Program) (q : TypeId → Bool) : List Field → Nat → Nat → Bool
  | [], o, n => o == n
  | f :: fs, o, n => f.offset == o && q f.type && tilesT P q fs (o + P.cellsOf f.type) n
/-- types of bools, whole numbers, strings, and slices and structs of these -/
def plainT (P : Program) : Nat → TypeId → Bool
  | 0, _ => false
  | n + 1, t => match P.underlying t with
    | some .bool | some (.int _) | some .string => true
    | some (.slice e) => decide (0 < P.cellsOf e) && plainT P n e
    | some (.struct fs) => tilesT P (plainT P n) fs.toList 0 (P.cellsOf t)
    | _ => false

section
variable {K : Type} {enc : TypeId × Value → K} {P : Program} {W : World}
/-- what is found behind some cells -/
def Opens (P : Program) (W : World) (n : Nat) (t : TypeId) (cs : List Value) : Prop :=
  ∀ (ρ : List BI) (l : List (List S)), RoOk W ρ l → ∃ ρ' l' xs, RoOk W ρ' l' ∧ Le ρ ρ' ∧ l <+: l' ∧ SRs ρ' xs cs ∧ Rp P (roH l') n t xs
theorem opens_fields {n m : Nat} (ih : ∀ t cs x, plainT P m t = true → DataW.trod enc P W 0 (fun _ => true) true n t cs = some x → Opens P W n t cs) :
    ∀ (fs : List Field) (o : Nat) (cs : List Value) (N : Nat), tilesT P (plainT P m) fs o N = true → cs.length = N → (∀ f ∈ fs, ∃ x, DataW.trod enc P W 0 (fun _ => true) true n f.type ((cs.drop f.offset).take (P.cellsOf f.type)) = some x) →
    o ≤ N → ∀ (ρ : List BI) (l : List (List S)), RoOk W ρ l → ∃ ρ' l' xs, RoOk W ρ' l' ∧ Le ρ ρ' ∧ l <+: l' ∧ SRs ρ' xs (cs.drop o) ∧ RpFs (Rp P (roH l') n) P fs xs
  | [], o, cs, N, ht, hl, hf, ho, ρ, l, r => by
    simp [tilesT] at ht
    refine ⟨ρ, l, [], r, Le.refl _, List.prefix_refl _, ?_, rfl⟩
    rw [List.drop_of_length_le (by omega)]; trivial
  | f :: fs, o, cs, N, ht, hl, hf, ho, ρ, l, r => by
    simp only [tilesT, Bool.and_eq_true, beq_iff_eq] at ht
    obtain ⟨⟨h1, h2⟩, h3⟩ := ht
    obtain ⟨x, hx⟩ := hf f (by simp)
    obtain ⟨ρ1, l1, xs1, r1, le1, p1, s1, q1⟩ := ih _ _ _ h2 hx ρ l r
    have hle : o + P.cellsOf f.type ≤ N := by
      clear ih hf hx s1 q1
      have key : ∀ (fs : List Field) (o : Nat), tilesT P (plainT P m) fs o N = true → o ≤ N := by
        intro fs
        induction fs with
        | nil => intro o h; simp [tilesT] at h; omega
        | cons g gs ih => intro o h; simp only [tilesT, Bool.and_eq_true, beq_iff_eq] at h; have := ih _ h.2; omega
      exact key _ _ h3
    obtain ⟨ρ2, l2, xs2, r2, le2, p2, s2, q2⟩ := opens_fields ih fs (o + P.cellsOf f.type) cs N h3 hl (fun g hg => hf g (by simp [hg])) hle ρ1 l1 r1
    refine ⟨ρ2, l2, xs1 ++ xs2, r2, le1.trans le2, p1.trans p2, ?_, xs1, xs2, rfl, q1.mono (roH_ext p2), q2⟩
    have := (s1.mono le2).append s2
    rw [h1, ← List.drop_drop, List.take_append_drop] at this
    exact this
theorem add_off {a : Addr} (ha : a.spot = none) (i : Nat) : a.add i = ⟨a.block, a.off + i, none⟩ := by
  obtain ⟨b, o, s⟩ := a
  cases ha
  exact Go.WideShapes.add_plain b o i
theorem cell_block {w : World} {a : Addr} {v : Value} (h : w.cell? a = some v) : a.block < w.heap.size := by
  unfold World.cell? at h
  split at h
  · rename_i hh; exact (Array.getElem?_eq_some_iff.1 hh).1
  · cases h
theorem opens : ∀ (n : Nat) (m : Nat) (t : TypeId) (cs : List Value) (x : DataW K × List MemPlace), plainT P m t = true → DataW.trod enc P W 0 (fun _ => true) true n t cs = some x → Opens P W n t cs
  | 0, _, _, _, _, _, h => by simp [DataW.trod] at h
  | n + 1, 0, _, _, _, hp, _ => by simp [plainT] at hp
  | n + 1, m + 1, t, cs, x, hp, h => by
    intro ρ l r
    unfold plainT at hp
    split at hp
    · rename_i ht
      obtain ⟨b, rfl, _⟩ := DataW.trod_bool ht h
      exact ⟨ρ, l, [.bool b], r, Le.refl _, List.prefix_refl _, ⟨rfl, trivial⟩, by unfold Rp; rw [ht]; exact ⟨b, rfl⟩⟩
    · rename_i k ht
      obtain ⟨b, rfl, _, hw⟩ := DataW.trod_int ht h
      exact ⟨ρ, l, [.int k b], r, Le.refl _, List.prefix_refl _, ⟨rfl, trivial⟩, by unfold Rp; rw [ht]; exact ⟨b, rfl, hw⟩⟩
    · rename_i ht
      obtain ⟨b, rfl, _, hw⟩ := DataW.trod_string ht h
      exact ⟨ρ, l, [.str b], r, Le.refl _, List.prefix_refl _, ⟨rfl, trivial⟩, by unfold Rp; rw [ht]; exact ⟨b, rfl, hw⟩⟩
    · rename_i e ht
      rw [Bool.and_eq_true, decide_eq_true_eq] at hp
      obtain ⟨hz, hp⟩ := hp
      rcases DataW.trod_slice ht h with ⟨rfl, _⟩ | ⟨a, len, cap, elems, rest, n', hn, rfl, _, _, hlc, hcm, hel, he, hsp, _⟩
      · exact ⟨ρ, l, [.sl none 0], r, Le.refl _, List.prefix_refl _, ⟨⟨rfl, rfl⟩, trivial⟩, by unfold Rp; rw [ht]; exact .inl rfl⟩
      · cases hn
        obtain ⟨hrl, hre⟩ := hsp rfl
        have hspot : cap ≠ 0 → a.spot = none := by
          intro hc
          have key : ∀ q y, q = 0 → ((W.cells? 0 (a.add q) (P.cellsOf e)).bind (DataW.trod enc P W 0 (fun _ => true) true n e)) = some y → a.spot = none := by
            intro q y hq hy
            subst hq
            rw [Option.bind_eq_some_iff] at hy
            obtain ⟨c, hc, _⟩ := hy
            have h1 := (World.cells?_some hc)
            have h2 := h1.2.2 0 hz
            rw [List.getElem?_eq_getElem (by omega)] at h2
            have h3 := World.cell?_spot h2
            simpa [Addr.add] using h3
          by_cases hl0 : len = 0
          · have h0 := hre 0 (by omega)
            rw [List.getElem?_eq_getElem (by omega)] at h0
            exact key _ _ (by rw [hl0]; simp) h0
          · have h0 := he 0 (by omega)
            rw [List.getElem?_eq_getElem (by omega)] at h0
            exact key _ _ (by simp) h0
        -- the elements, one behind the other
        have each : ∀ k, k ≤ len → ∃ ρ' l', ∃ rows : List (List S), RoOk W ρ' l' ∧ Le ρ ρ' ∧ l <+: l' ∧ rows.length = k ∧ (∀ r ∈ rows, r.length = P.cellsOf e ∧ Rp P (roH l') n e r) ∧
            ∀ (j : Nat) (c : S), rows.flatten[j]? = some c → a.block < W.heap.size ∧ ∃ x, W.cell? ⟨a.block, a.off + j, none⟩ = some x ∧ SR ρ' c x := by
          intro k
          induction k with
          | zero => exact fun _ => ⟨ρ, l, [], r, Le.refl _, List.prefix_refl _, rfl, by simp, by simp⟩
          | succ k ih =>
            intro hk
            obtain ⟨ρ1, l1, rows, r1, le1, p1, c1, c2, c3⟩ := ih (by omega)
            have hk' := he k (by omega)
            rw [List.getElem?_eq_getElem (by omega), Option.bind_eq_some_iff] at hk'
            obtain ⟨cs, d1, d2⟩ := hk'
            obtain ⟨_, d3, d4⟩ := World.cells?_some d1
            obtain ⟨ρ2, l2, xs, r2, le2, p2, s2, q2⟩ := opens n m e cs _ hp d2 ρ1 l1 r1
            have hxl : xs.length = P.cellsOf e := by rw [← s2.length, d3]
            have hfl : rows.flatten.length = k * P.cellsOf e := by
              rw [List.length_flatten, ← c1]
              have : rows.map List.length = List.replicate rows.length (P.cellsOf e) := List.eq_replicate_iff.2 ⟨by simp, fun b hb => by
                obtain ⟨r, hr, rfl⟩ := List.mem_map.1 hb
                exact (c2 r hr).1⟩
              rw [this]; simp
            refine ⟨ρ2, l2, rows ++ [xs], r2, le1.trans le2, p1.trans p2, by simp [c1], fun r hr => ?_, fun j c hj => ?_⟩
            · rcases List.mem_append.1 hr with hr | hr
              · exact ⟨(c2 r hr).1, (c2 r hr).2.mono (roH_ext p2)⟩
              · simp at hr; subst hr; exact ⟨hxl, q2⟩
            · simp only [List.flatten_append, List.flatten_cons, List.flatten_nil, List.append_nil] at hj
              by_cases hj1 : j < rows.flatten.length
              · rw [List.getElem?_append_left hj1] at hj
                obtain ⟨k1, x, k2, k3⟩ := c3 j c hj
                exact ⟨k1, x, k2, k3.mono le2⟩
              · rw [List.getElem?_append_right (by omega)] at hj
                obtain ⟨y, k1, k2⟩ := s2.get hj
                have hjl := (List.getElem?_eq_some_iff.1 hj).1
                have h4 := d4 (j - rows.flatten.length) (by omega)
                rw [k1, add_off (hspot (by omega)), add_off rfl, hfl] at h4
                have h5 : a.off + k * P.cellsOf e + (j - k * P.cellsOf e) = a.off + j := by rw [← hfl]; omega
                rw [h5] at h4
                exact ⟨cell_block (a := ⟨a.block, a.off + j, none⟩) h4, y, h4, k2⟩
        obtain ⟨ρ1, l1, rows, r1, le1, p1, c1, c2, c3⟩ := each len (Nat.le_refl _)
        refine ⟨ρ1 ++ [⟨a.block, a.off, 0, 0⟩], l1 ++ [rows.flatten], [.sl (some (l1.length, 0)) rows.length], r1.push rfl c3, le1.trans (Le.push _ _), p1.trans (List.prefix_append _ _), ⟨?_, trivial⟩, ?_⟩
        · refine ⟨⟨a.block, a.off, 0, 0⟩, a, cap, by rw [← r1.len]; simp, by rw [c1], by omega, fun hc => ?_, fun h0 => absurd rfl h0⟩
          obtain ⟨b, o, s⟩ := a
          have := hspot hc
          simp only at this
          subst this
          rfl
        · unfold Rp
          rw [ht]
          refine .inr ⟨l1.length, rows, rfl, by simp [roH], by simp [roH], by omega, fun r hr => ⟨(c2 r hr).1, (c2 r hr).2.mono (roH_ext (List.prefix_append _ _))⟩⟩
    · rename_i fs ht
      obtain ⟨xs, n', hn, _, hl, hxl, hf⟩ := DataW.trod_struct ht h
      cases hn
      obtain ⟨ρ1, l1, ys, r1, le1, p1, s1, q1⟩ := opens_fields (fun t cs x hp h => opens n m t cs x hp h) fs.toList 0 cs _ hp hl (fun f hf' => by
        obtain ⟨i, hi⟩ := List.getElem?_of_mem hf'
        have hi' : fs[i]? = some f := by rw [← Array.getElem?_toList]; exact hi
        have hlt := (Array.getElem?_eq_some_iff.1 hi').1
        exact ⟨_, by rw [hf i f hi', List.getElem?_eq_getElem (by omega)]⟩) (Nat.zero_le _) ρ l r
      exact ⟨ρ1, l1, ys, r1, le1, p1, s1, by unfold Rp; rw [ht]; exact q1⟩
    · cases hp
end
end Vm
#print axioms Vm.opens
