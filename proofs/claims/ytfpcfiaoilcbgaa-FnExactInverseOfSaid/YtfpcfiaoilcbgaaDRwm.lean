/-
  Rows that are marked; rows of one's own.
-/
import Derived.Test.YtfpcfiaoilcbgaaDRws
import Derived.Test.YtfpcfiaoilcbgaaDOut
set_option linter.unusedVariables false
set_option maxRecDepth 100000
set_option linter.unusedSimpArgs false
namespace Vm
open Go
/-! the text of a mark -/
theorem sz_1 {c : UInt8} : (⟨[c].toArray⟩ : ByteArray).size = 1 := rfl
theorem sz_0 : (⟨#[]⟩ : ByteArray).size = 0 := rfl
theorem sz_m : (⟨#[109]⟩ : ByteArray).size = 1 := rfl
theorem mt_step {h : H} {n : Int} (h0 : 0 ≤ n) (h1 : n < 256) : cvStr (h.new 1 [.int .u8 n]) (sv h.n 0 1) = some (.s (.str ⟨[UInt8.ofNat n.toNat].toArray⟩)) := by
  have hc : cellsS 1 (h.new 1 [.int .u8 n]) (sv h.n 0 1) = some [.int .u8 n] := by
    have hc : (h.new 1 [.int .u8 n]).cells h.n = [.int .u8 n] := by unfold H.cells; rw [if_pos (by simp), new_g]; rfl
    simp only [cellsS, hc]
    rw [if_pos ⟨by simp, by simp⟩]; rfl
  simp only [cvStr, hc, Option.bind_some, bytesS]
  rw [if_pos ⟨h0, h1⟩, Option.bind_some, if_pos (by unfold lim; omega)]
theorem mt_loop : ∀ (f : Nat) (k : Nat) (s : ByteArray), k < 10 ^ f → k < 2 ^ 62 → s.size + f ≤ 1000 → ∃ s', s'.size ≤ s.size + f ∧ ∀ h : H, Lp.laws_markText 0 [iv .i64 k, .s (.str s)] h = some (.done [.s (.str s')] h) := by
  intro f
  induction f with
  | zero =>
    intro k s hk h62 hs
    refine ⟨s, by omega, fun h => ?_⟩
    rw [eq_laws_markText_l0, vcase_b, if_neg (by simp; omega), tidy_self]
  | succ f ih =>
    intro k s hk h62 hs
    by_cases h0 : k = 0
    · refine ⟨s, by omega, fun h => ?_⟩
      rw [eq_laws_markText_l0, vcase_b, if_neg (by simp; omega), tidy_self]
    have hm : ((k : Int).tmod 10) = ((k % 10 : Nat) : Int) := by rw [Int.tmod_eq_emod_of_nonneg (by omega)]; omega
    have hq : ((k : Int).tdiv 10) = ((k / 10 : Nat) : Int) := by rw [Int.tdiv_eq_ediv_of_nonneg (by omega)]; omega
    obtain ⟨s', hs', e⟩ := ih (k / 10) (⟨[UInt8.ofNat (48 + ((k % 10 : Nat) : Int)).toNat].toArray⟩ ++ s) (by
      rw [Nat.pow_succ] at hk; omega) (by omega) (by rw [ByteArray.size_append, sz_1]; omega)
    refine ⟨s', by rw [ByteArray.size_append, sz_1] at hs'; omega, fun h => ?_⟩
    rw [eq_laws_markText_l0, vcase_b, if_pos (by simp; omega)]
    have b1 : bin Ev .rem 3 (iv .i64 (k : Int)) (iv .i64 10) = some (iv .i64 ((k % 10 : Nat) : Int)) := by simp [bin, binI, hm]
    have b2 : bin Ev .quo 3 (iv .i64 (k : Int)) (iv .i64 10) = some (iv .i64 ((k / 10 : Nat) : Int)) := by
      simp only [bin, binI, hq, if_true, show ¬((10 : Int) = 0) from by omega, if_false]
      rw [w64 (by omega) (by omega)]
    rw [b1]
    simp only [ob, gV1_s, gI_i]
    rw [w64 (n := 48 + ((k % 10 : Nat) : Int)) (by omega) (by omega), w8 (by omega) (by omega), mt_step (by omega) (by omega)]
    simp only [ob, gV1_s, gS_s]
    have b3 : bin Ev .add 9 (.s (.str ⟨[UInt8.ofNat (48 + ((k % 10 : Nat) : Int)).toNat].toArray⟩)) (.s (.str s)) = some (.s (.str (⟨[UInt8.ofNat (48 + ((k % 10 : Nat) : Int)).toNat].toArray⟩ ++ s))) := by
      simp only [bin, binB]
      rw [if_pos (by rw [sz_1]; unfold lim; omega)]
    rw [b3]
    simp only [ob, gV1_s, gS_s]
    rw [b2]
    simp only [ob, gV1_s, gI_i]
    rw [tidy_ext ((HKeep.refl h).new) rfl, e h]
theorem mt_ex (k : Nat) (hk : k < 2 ^ 62) : ∃ s, pureV (call Ev) Fn.laws_markText [iv .i64 k] = some (.s (.str s)) := by
  rw [pu_laws_markText, vcase_b]
  by_cases h0 : k = 0
  · rw [if_pos (by simp; omega)]; exact ⟨_, rfl⟩
  obtain ⟨s', hs', e⟩ := mt_loop 20 k ⟨#[]⟩ (Nat.lt_of_lt_of_le hk (by decide)) hk (by rw [sz_0]; omega)
  rw [if_neg (by simp; omega), e, ob, lcase_done]
  have b3 : bin Ev .add 9 (.s (.str ⟨#[109]⟩)) (.s (.str s')) = some (.s (.str (⟨#[109]⟩ ++ s'))) := by
    simp only [bin, binB]
    rw [if_pos (by rw [sz_0] at hs'; rw [sz_m]; unfold lim; omega)]
  simp only [gx0, ob, gV1_s, gS_s]
  rw [b3]
  simp only [ob, gV1_s, gS_s]
  exact ⟨_, rfl⟩
open Classical in
noncomputable def mtx (k : Nat) : ByteArray := if hk : k < 2 ^ 62 then (mt_ex k hk).choose else ⟨#[]⟩
theorem p_markText {k : Nat} (hk : k < 2 ^ 62) : pureV (call Ev) Fn.laws_markText [iv .i64 k] = some (.s (.str (mtx k))) := by
  unfold mtx; rw [dif_pos hk]; exact (mt_ex k hk).choose_spec
/-! a row that is marked -/
noncomputable def mkW (k : Nat) (_ : RowD) : RowD := ⟨k, (k + 1 : Nat), (k + 2 : Nat), mtx (k + 3)⟩
def szW (_ : RowD) : Nat := 4
noncomputable def mkWs (k : Nat) (rs : List RowD) : List RowD := mkAll mkW szW k rs
theorem szW_all : ∀ rs : List RowD, szAll szW rs = 4 * rs.length
  | [] => rfl
  | r :: rs => by simp only [szAll, szW, szW_all rs, List.length_cons]; omega
theorem mkWs_len (k : Nat) (rs : List RowD) : (mkWs k rs).length = rs.length := mkAll_len _ _ _ _
theorem row_sc {r : RowD} : ∀ s ∈ r.cs, Sc s := by
  intro s hs
  simp only [List.mem_cons, List.not_mem_nil, or_false] at hs
  rcases hs with rfl | rfl | rfl | rfl <;> trivial
theorem st_cell {R : Type} {b e o j : Nat} {h : H} {pre row post : List S} {x : S} {k : H → Option R} (hb : b < h.n) (hg : h.g b = .rw e (pre ++ row ++ post)) (hp : pre.length = o) (hj : j < row.length) (hx : isNo x = false) :
    stK 1 h (pv b (o + j)) (.s x) k = k (h.put b (.rw e (pre ++ row.set j x ++ post))) := by
  rw [stK_rw (z := 1) (r := [x]) hb hg (.inl ⟨x, rfl, rfl, hx⟩) rfl (by simp; omega)]
  congr 3
  have e1 : pre ++ row ++ post = (pre ++ row.take j) ++ (row.drop j ++ post) := by simp [List.append_assoc]; rw [← List.append_assoc (row.take j), List.take_append_drop]
  rw [e1, setAt_at (z := 1) (by rw [List.length_append, List.length_take, hp]; omega) rfl, List.set_eq_take_append_cons_drop, if_pos hj, List.drop_append_of_le_length (by rw [List.length_drop]; omega), List.drop_drop]
  simp [List.append_assoc]
theorem put_put {h : H} {b : Nat} {x y : Blk} : ((h.put b x).put b y).g = (h.put b y).g := by
  funext c; simp only [H.put]; split <;> rfl
theorem Rep.markWs {h : H} {d : Nat} {y : S} {rs : List RowD} {bs : List Nat} {k : Nat} (w : Rep h (d + 1) y (.fs (rws rs)) bs) (hd : bs.Nodup) (hk : k + 4 * rs.length < 2 ^ 62) :
    ∃ h', call Ev Fn.laws_markRowS [.s y, iv .i64 k] h = some (iv .i64 ((k + 4 * rs.length : Nat) : Int), h') ∧ Rep h' (d + 1) y (.fs (rws (mkWs k rs))) bs ∧ h'.n = h.n ∧ ∀ c, c ∉ bs → h'.g c = h.g c ∧ h'.v c = h.v c := by
  have hsz := szW_all rs
  obtain ⟨h', e1, r1, n1, o1⟩ := Rep.marks (z := 4) (cs := RowD.cs) (mk := mkW) (sz := szW) (k := k) (Lv := fun v k i h => Lp.laws_markRowS 0 [v, iv .i64 k, iv .i64 i] h) (fin := fun k => [iv .i64 k]) (by omega) (fun _ => rfl) w hd (by omega)
    (fun b i k r h pre ys post bs hi hp hy hk hb hg wr hnd hnb => by
      obtain ⟨rfl, rfl⟩ := wr.of_sc row_sc
      have hk' : k + 4 < 2 ^ 62 := hk
      show ∃ h' ys', Lp.laws_markRowS 0 _ h = _ ∧ _
      rw [eq_laws_markRowS_l0]
      simp only [lenV, Option.bind_some, gV1_s, gI_i, vcase_b]
      rw [if_pos (by simp; omega)]
      simp only [idxK_sv hi, padd, ob]
      rw [w64 (n := (k : Int) + 1) (by omega) (by omega), w64 (n := (k : Int) + 1 + 1) (by omega) (by omega), w64 (n := (k : Int) + 1 + 1 + 1) (by omega) (by omega), w64 (n := (k : Int) + 1 + 1 + 1 + 1) (by omega) (by omega), w64 (n := (i : Int) + 1) (by omega) (by omega)]
      rw [show (k : Int) + 1 + 1 + 1 + 1 = ((k + 4 : Nat) : Int) from by omega, show (k : Int) + 1 + 1 + 1 = ((k + 3 : Nat) : Int) from by omega, show (k : Int) + 1 + 1 = ((k + 2 : Nat) : Int) from by omega, show (k : Int) + 1 = ((k + 1 : Nat) : Int) from by omega, show (i : Int) + 1 = ((i + 1 : Nat) : Int) from by omega]
      rw [st_cell (j := 0) hb hg hp (by simp) rfl]
      rw [st_cell (j := 1) (by rw [put_n]; exact hb) (put_g _ _ _) hp (by simp) rfl]
      rw [st_cell (j := 2) (by rw [put_n, put_n]; exact hb) (put_g _ _ _) hp (by simp) rfl]
      rw [pc (p_markText (by omega)) rfl]
      simp only [gV1_s, gS_s]
      rw [st_cell (j := 3) (by rw [put_n, put_n, put_n]; exact hb) (put_g _ _ _) hp (by simp) rfl]
      simp only [List.set_cons_zero, List.set_cons_succ]
      generalize hF : (((h.put b (.rw 4 (pre ++ [.int .i64 (k : Int), .int .i64 r.key, .int .i64 r.val, .str r.text] ++ post))).put b (.rw 4 (pre ++ [.int .i64 (k : Int), .int .i64 ((k + 1 : Nat) : Int), .int .i64 r.val, .str r.text] ++ post))).put b (.rw 4 (pre ++ [.int .i64 (k : Int), .int .i64 ((k + 1 : Nat) : Int), .int .i64 ((k + 2 : Nat) : Int), .str r.text] ++ post))).put b (.rw 4 (pre ++ [.int .i64 (k : Int), .int .i64 ((k + 1 : Nat) : Int), .int .i64 ((k + 2 : Nat) : Int), .str (mtx (k + 3))] ++ post)) = F
      have fn : F.n = h.n := by rw [← hF]; rfl
      have fg : F.g b = .rw 4 (pre ++ [.int .i64 (k : Int), .int .i64 ((k + 1 : Nat) : Int), .int .i64 ((k + 2 : Nat) : Int), .str (mtx (k + 3))] ++ post) := by rw [← hF]; exact put_g _ _ _
      have fo : ∀ c, c ≠ b → F.g c = h.g c ∧ F.v c = h.v c := fun c hc => by
        rw [← hF]; simp only [H.put, if_neg hc]; exact ⟨trivial, trivial⟩
      rw [tidy_same fn fun c hc => fo c (by omega)]
      refine ⟨F, _, rfl, fn, rfl, fg, RepL.sc (row_sc (r := mkW k r)), fun c hc _ => fo c hc⟩)
    (fun o k h => by
      show Lp.laws_markRowS 0 _ h = _
      rw [eq_laws_markRowS_l0]
      simp only [lenV, Option.bind_some, gV1_s, gI_i, vcase_b]
      rw [if_neg (by simp), tidy_self])
  rw [hsz] at e1
  refine ⟨h', ?_, r1, n1, o1⟩
  rw [eq_laws_markRowS, show iv .i64 0 = iv .i64 ((0 : Nat) : Int) from rfl, e1, ob, lcase_done]
  simp only [gx0, ob, gV1_s, gI_i]
theorem p_heldWs {k : Nat} {rs : List RowD} (hk : k + 4 * rs.length < 2 ^ 62) : pureV (call Ev) Fn.laws_heldRowS [lv (rws (mkWs k rs)), iv .i64 k] = some (iv .i64 ((k + 4 * rs.length : Nat) : Int)) := by
  have loop : ∀ (q : List RowD) (i k' : Nat), (mkWs k rs).drop i = mkWs k' q → k' + 4 * q.length = k + 4 * rs.length → i + q.length = rs.length →
      Lp.laws_heldRowS 0 [lv (rws (mkWs k rs)), iv .i64 k', iv .i64 i] (D 0) = some (.done [iv .i64 ((k + 4 * rs.length : Nat) : Int)] (D 0)) := by
    intro q
    induction q with
    | nil =>
      intro i k' hd hs hi
      simp only [List.length_nil] at hi hs
      rw [eq_laws_heldRowS_l0, vcase_b, rws_len, mkWs_len, if_neg (by simp; omega), tidy_self, ← hs]
      rfl
    | cons r q ih =>
      intro i k' hd hs hi
      simp only [List.length_cons] at hi hs
      have hd' : (mkWs k rs).drop i = mkW k' r :: mkWs (k' + 4) q := hd
      obtain ⟨g1, g2, g3⟩ := drop_cons hd'
      rw [eq_laws_heldRowS_l0, vcase_b, rws_len, mkWs_len, if_pos (by simp; omega)]
      simp only [idxF_rw g1, ob, gx0, gx1, gI_i, gS_s, hchk_self, tidy_self, mkW]
      rw [w64 (n := (k' : Int) + 1) (by omega) (by omega), w64 (n := (k' : Int) + 1 + 1) (by omega) (by omega), w64 (n := (k' : Int) + 1 + 1 + 1) (by omega) (by omega), w64 (n := (k' : Int) + 1 + 1 + 1 + 1) (by omega) (by omega), w64 (n := (i : Int) + 1) (by omega) (by omega)]
      rw [show (k' : Int) + 1 + 1 + 1 + 1 = ((k' + 4 : Nat) : Int) from by omega, show (k' : Int) + 1 + 1 + 1 = ((k' + 3 : Nat) : Int) from by omega, show (k' : Int) + 1 + 1 = ((k' + 2 : Nat) : Int) from by omega, show (k' : Int) + 1 = ((k' + 1 : Nat) : Int) from by omega, show (i : Int) + 1 = ((i + 1 : Nat) : Int) from by omega]
      rw [pc (p_markText (by omega)) rfl]
      simp only [gV1_s, gS_s, vcase_b, bne_self_eq_false, Bool.false_eq_true, if_false, beq_self_eq_true, Bool.not_true]
      exact ih (i + 1) (k' + 4) g2 (by omega) (by omega)
  rw [pu_laws_heldRowS, show iv .i64 0 = iv .i64 ((0 : Nat) : Int) from rfl, loop rs 0 k rfl rfl (by omega), ob, lcase_done]
  simp only [gx0, ob, gV1_s, gI_i]
/-! a value of one's own -/
def OwnV (v : V) (f : S) (lo hi : Nat) (h : H) : Prop := ∃ y, v = .s y ∧ OwnF 5 y f lo hi h
theorem OwnV.frz {v : V} {rs : List (List S)} {lo hi : Nat} {h : H} (w : OwnV v (.fs rs) lo hi h) : frzV h v = some (lv rs) := by
  obtain ⟨y, rfl, w⟩ := w
  exact w.frz
theorem OwnV.sep {v : V} {f : S} {lo hi : Nat} {h : H} (w : OwnV v f lo hi h) (hn : hi ≤ h.n) : Sep (OwnV v f lo hi) lo hi h := ⟨hn, fun h' hn' hg => by
  obtain ⟨y, rfl, w⟩ := w
  exact ⟨y, rfl, (w.sep hn).q h' hn' hg⟩⟩
theorem OwnV.pv {cl : Nat → List V → H → Option (V × H)} {g : Nat} {off : Bool} {xs : List V} {h : H} {n : Nat} {v : V} {f : S} {h1 : H} (hn : h.n = n) (hc : cl g xs (D n) = some (v, h1)) (hw : n ≤ h1.n ∧ OwnV v f n h1.n h1) :
    ∃ h', (∀ (R : Type) (k : V → H → Option R), pcallF cl g off xs h k = k v h') ∧ Up h h' ∧ n ≤ h'.n ∧ Sep (OwnV v f n h'.n) n h'.n h' := by
  obtain ⟨hle, y, rfl, w⟩ := hw
  obtain ⟨h', e, u, hn', w'⟩ := pV (off := off) hn hc hle w
  exact ⟨h', e, u, hn', OwnV.sep ⟨y, rfl, w'.now⟩ (Nat.le_refl _)⟩
/-- flat rows in one block -/
theorem own_flat {h : H} {n z : Nat} {rows : List (List S)} (hn : n < h.n) (hz0 : 0 < z) (hg : h.g n = .rw z rows.flatten) (hz : ∀ r ∈ rows, r.length = z) (hs : ∀ r ∈ rows, ∀ s ∈ r, Sc s) : OwnV (sv n 0 rows.length) (.fs rows) n h.n h := by
  refine ⟨_, rfl, [n], ?_, by simp, by simpa using hn⟩
  exact Rep.sl (bss := []) hn hz0 hg hz (RepL.sc fun s hs' => by
    obtain ⟨r, h1, h2⟩ := List.mem_flatten.1 hs'
    exact hs r h1 s h2)
theorem rws_sc {rs : List RowD} : ∀ r ∈ rws rs, ∀ s ∈ r, Sc s := by
  intro r hr
  obtain ⟨c, _, rfl⟩ := List.mem_map.1 hr
  exact row_sc
theorem NewRw.own {n : Nat} {h : H} {v : V} {rs : List RowD} (w : NewRw n h v rs) : n ≤ h.n ∧ OwnV v (.fs (rws rs)) n h.n h := by
  have := own_flat (h := h) (n := n) (z := 4) (rows := rws rs) (by have := w.le; omega) (by omega) w.g rws_row rws_sc
  rw [rws_len] at this
  rw [w.v]
  exact ⟨by have := w.le; omega, this⟩
theorem f_toRowSv {all : List RowD} (hl : all.length ≤ lim) (n : Nat) : ∃ v h', call Ev Fn.laws_toRowS [lv (rws all)] (D n) = some (v, h') ∧ (n ≤ h'.n ∧ OwnV v (.fs (rws all)) n h'.n h') := by
  obtain ⟨v, h', e, w⟩ := f_toRowS hl n
  exact ⟨v, h', e, w.own⟩
theorem OwnV.markW {h : H} {v : V} {rs : List RowD} {lo hi k : Nat} (w : Sep (OwnV v (.fs (rws rs)) lo hi) lo hi h) (hl : k + 4 * rs.length < 2 ^ 62) :
    ∃ p, call Ev Fn.laws_markRowS [v, iv .i64 k] h = some (iv .i64 ((k + 4 * rs.length : Nat) : Int), p) ∧ Sep (OwnV v (.fs (rws (mkWs k rs))) lo hi) lo hi (tidy h [iv .i64 ((k + 4 * rs.length : Nat) : Int)] p) ∧ ButR lo hi h (tidy h [iv .i64 ((k + 4 * rs.length : Nat) : Int)] p) := by
  obtain ⟨y, rfl, bs, w1, w2, w3⟩ := w.now
  obtain ⟨p, e1, r1, n1, o1⟩ := w1.markWs (k := k) w2 hl
  have ht := w.top
  have t : tidy h [iv .i64 ((k + 4 * rs.length : Nat) : Int)] p = p := tidy_same n1 fun c hc => o1 c (fun hh => by have := w3 c hh; omega)
  refine ⟨p, e1, ?_, ?_⟩
  · rw [t]; exact OwnV.sep ⟨y, rfl, bs, r1, w2, w3⟩ (by rw [n1]; exact ht)
  · rw [t]; exact ⟨n1, fun c hc => (o1 c fun hh => by have := w3 c hh; omega).1⟩
/-! results of rows -/
theorem p_eqWR {c : Int} {rs : List RowD} (hl : rs.length ≤ maxLen) : pureV (call Ev) Fn.laws_eqRowsResult [.agg [.int .i64 c, .fs (rws rs)], .agg [.int .i64 c, .fs (rws rs)]] = some (bv true) := by
  rw [pu_laws_eqRowsResult, vcase_b, if_neg (by simp), pc (p_eqRowS hl) rfl]
  simp
theorem p_heldWR {c : Int} {k : Nat} {rs : List RowD} (hk : k + 4 * rs.length < 2 ^ 62) : pureV (call Ev) Fn.laws_heldRowsResult [.agg [.int .i64 c, .fs (rws (mkWs k rs))], iv .i64 k] = some (iv .i64 ((k + 4 * rs.length : Nat) : Int)) := by
  rw [pu_laws_heldRowsResult, pc (p_heldWs hk) rfl]
  simp only [gV1_s, gI_i, vcase_b]
  rw [if_neg (by simp; omega)]
theorem r_markWR {h : H} {c : Int} {y : S} {rs : List RowD} {lo hi k : Nat} (w : Sep (OwnC 5 [.int .i64 c, y] [.int .i64 c, .fs (rws rs)] lo hi) lo hi h) (hl : k + 4 * rs.length < 2 ^ 62) :
    ∃ p, call Ev Fn.laws_markRowsResult [.agg [.int .i64 c, y], iv .i64 k] h = some (iv .i64 ((k + 4 * rs.length : Nat) : Int), p) ∧ Sep (OwnC 5 [.int .i64 c, y] [.int .i64 c, .fs (rws (mkWs k rs))] lo hi) lo hi (tidy h [iv .i64 ((k + 4 * rs.length : Nat) : Int)] p) ∧ ButR lo hi h (tidy h [iv .i64 ((k + 4 * rs.length : Nat) : Int)] p) := by
  obtain ⟨bs, w1, w2, w3⟩ := OwnC.f (pre := [.int .i64 c]) sc1 w.now
  have ht := w.top
  rw [eq_laws_markRowsResult]
  have l1 : load1 (h.new 0 [.int .i64 c, y]) (pv h.n 1) = some y := by simp [load1, H.cells, Blk.cells]
  rw [l1, Vm.ob]
  have w1' : Rep (h.new 0 [.int .i64 c, y]) 5 y (.fs (rws rs)) bs := w1.frame fun b hb => ⟨by have := w1.lt b hb; simp; omega, new_g' (by have := w1.lt b hb; omega)⟩
  obtain ⟨p, e1, r1, n1, o1⟩ := w1'.markWs (k := k) w2 hl
  rw [e1, Vm.ob]
  simp only [gV1_s, gI_i]
  have t1 : tidy (h.new 0 [.int .i64 c, y]) [iv .i64 ((k + 4 * rs.length : Nat) : Int)] p = p := tidy_same n1 fun d hd => o1 d fun hh => by have := w3 d hh; simp at hd; omega
  rw [t1]
  exact ⟨p, rfl, markC (pre := [.int .i64 c]) sc1 w3 w2 ht r1 (by rw [n1]; simp) (fun d hd hdn => by
    have := o1 d hd
    refine ⟨this.1.trans (new_g' (by omega)), this.2.trans ?_⟩
    simp [H.new, show d ≠ h.n by omega]) (fun hh => by rw [n1] at hh; simp at hh)⟩
end Vm
