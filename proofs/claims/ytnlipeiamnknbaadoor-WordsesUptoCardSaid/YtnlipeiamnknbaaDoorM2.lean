-- Texts of this session, put together (wip/tools/merge.py).
import Derived.Test.YtnlipeiamnknbaaDoorM1
section
namespace Go.Proofs.YtnlipeiamnknbaaDoor.A
open Go.RowKit Go.Proofs.YtnlipeiamnknbaaDoorW.PrintWords Go.Proofs.YtnlipeiamnknbaaDoorW.PrintLast Go.Proofs.YtnlipeiamnknbaaDoorW.PrintMore
attribute [local go_sem] max2_int min2_int max_two min_two max_three min_three max_four min_four   -- for this text's walks alone
set_option linter.unusedVariables false
set_option linter.unusedSimpArgs false

/-! ### crucibleref1_words: function 41 -/
def crucibleref1_words.l0 : Nat → List ByteArray → List ByteArray → Int → Option (List ByteArray)
  | 0, _, _, _ => none
  | k + 1, x3, x4, x5 => if x5 < (x3.length : Int) then (if 0 ≤ x5 then (if (rdOf ByteArray.empty x3 x5).toList = ([] : List UInt8) then (crucibleref1_words.l0 k x3 x4 (wrap64 (x5 + 1))) else (if x4.length < 8796093022208 then (crucibleref1_words.l0 k x3 (x4 ++ [rdOf ByteArray.empty x3 x5]) (wrap64 (x5 + 1))) else (none))) else (none)) else (some x4)
def crucibleref1_words.f (k : Nat) (a0 : ByteArray) : Option (List ByteArray) := (crucibleref1_split.f k a0 32).bind fun t108 => (crucibleref1_words.l0 k t108 ([] : List ByteArray) 0)
theorem crucibleref1_words.mono_l : ∀ k, (∀ y0 y1 y2, LeO (crucibleref1_words.l0 k y0 y1 y2) (crucibleref1_words.l0 (k + 1) y0 y1 y2))
  | 0 => fun _ _ _ r h => by simp [crucibleref1_words.l0] at h
  | k + 1 => by
    have ih0 := crucibleref1_words.mono_l k
    · intro y0 y1 y2
      unfold crucibleref1_words.l0
      repeat' first
      | (with_reducible exact ih0 _ _ _)
      | (with_reducible exact crucibleref1_split.mono _ _ _)
      | (with_reducible exact LeO.refl _)
      | (with_reducible exact LeO.none _)
      | (with_reducible refine LeO.ite ?_ ?_)
      | (with_reducible refine LeO.bind ?_ (fun _ => ?_))
      | exact ih0 _ _ _
      | exact crucibleref1_split.mono _ _ _
      | exact LeO.none _
      | refine LeO.ite ?_ ?_
      | refine LeO.bind ?_ (fun _ => ?_)
theorem crucibleref1_words.mono : ∀ a0 k, LeO (crucibleref1_words.f k a0) (crucibleref1_words.f (k + 1) a0) := by
  intro a0 k
  have ih0 := crucibleref1_words.mono_l k
  unfold crucibleref1_words.f
  repeat' first
      | (with_reducible exact ih0 _ _ _)
      | (with_reducible exact crucibleref1_split.mono _ _ _)
      | (with_reducible exact LeO.refl _)
      | (with_reducible exact LeO.none _)
      | (with_reducible refine LeO.ite ?_ ?_)
      | (with_reducible refine LeO.bind ?_ (fun _ => ?_))
      | exact ih0 _ _ _
      | exact crucibleref1_split.mono _ _ _
      | exact LeO.none _
      | refine LeO.ite ?_ ?_
      | refine LeO.bind ?_ (fun _ => ?_)
set_option maxHeartbeats 8000000 in
set_option maxRecDepth 100000 in
theorem crucibleref1_words.calls (k : Nat) (a0 : ByteArray) (r : List ByteArray) (w : World) (h : crucibleref1_words.f k a0 = some r) :
    Calls Tryd.prog 41 #[.string a0] w fun e w' => ∃ v0_ : Value, e = .returned (v0_) ∧ Kd.R Kd.string 9 w' w.heap.size (fun _ => True) v0_ r ∧ Below w.heap.size w w' := by
  have HB := Aside0.mk (Below.refl w.heap.size w)
  have H : ((crucibleref1_split.f k a0 32).bind fun t108 => (crucibleref1_words.l0 k t108 ([] : List ByteArray) 0)) = some r := h
  clear h
  replace H := Option.bind_eq_some_iff.mp H
  obtain ⟨t108, A20, H⟩ := H
  replace H : (crucibleref1_words.l0 k t108 ([] : List ByteArray) 0) = some r := H
  have A2 := Aside0.mk A20
  clear A20
  have H' := Aside0.mk H
  clear H
  go_enter Tryd.func41, Tryd.ntmps41
  go_wp2_with (first | ((with_reducible refine gate_callee (f := 74) rfl ?_); refine goesL_ (some 7) rfl rfl Tryd.func74 (by kernel_rfl) rfl #[.string a0, .int .u8 32] rfl (by (try simp only [List.map_toArray, List.map_cons, List.map_nil]); first | done | rfl | (simp only [List.length_drop, List.length_take]; rfl)) ?_; (with_reducible refine (crucibleref1_split.calls k a0 32 t108 _ A2.out).mono ?_); rintro e w3 ⟨v109, rfl, ho0, hb⟩; refine ⟨_, rfl, ?_⟩; have n0_ := Aside0.mk (Kd.R_lower ho0 (below_size (by repeat (first | (with_reducible first | exact HB.out | apply below_alloc | apply pw_below_drewN | apply below_drew1) | exact HB.out)))); have n1_ := Aside0.mk (below_step (by repeat (first | (with_reducible first | exact HB.out | apply below_alloc | apply pw_below_drewN | apply below_drew1) | exact HB.out)) hb); clear HB; have HO110 := n0_; have HB := n1_; clear n0_ n1_; (try clear hb); (try clear hb2); (try clear hk); (try clear hi); (try clear ho0)))
  go_loopg [4, 5] k (fun kq v4 v5 w' => ∃ (x4_1 : List ByteArray) (x5_1 : Int), v5 = .int .i64 x5_1 ∧ Aside0 (crucibleref1_words.l0 kq t108 x4_1 x5_1 = some r) ∧ Aside0 (kq ≤ k) ∧ Aside0 (Kd.R Kd.string 9 w' w.heap.size (fun k_ => some k_ ≠ (v4 : Value).ownBlock) v109 t108) ∧ Aside0 (Kd.R Kd.string 9 w' w.heap.size (fun k_ => some k_ ≠ (v109 : Value).ownBlock) v4 x4_1) ∧ Aside0 (Below w.heap.size w w'))
  case atStart => exact ⟨(([] : List ByteArray)), (0), (by first | rfl | (simp; done) | (simp [*]; done)), H', ⟨Nat.le_refl _⟩, ⟨by (with_reducible repeat (first | apply Kd.R_alloc | apply Kd.R_drewN | apply Kd.R_drew)); first | exact Kd.R_mono HO110.out (fun _ hk => (by simp [Value.ownBlock])) | exact Kd.R_mono (Kd.R_mono HO110.out (fun _ hk => (by simp [Value.ownBlock]))) (fun k_ hk => by simp only [Go.Proofs.YtnlipeiamnknbaaDoorW.Hand.slice_ownBlock] at hk ⊢; exact hk)⟩, ⟨by first | exact Kd.R_nil _ _ _ _ _ | exact Kd.N_nil _ _ _ _ _ | exact Kd.V_nil _ _ _ _ _ | exact Kd.Q_nil _ _ _ _ _ | exact Kd.S_nil _ _ _ _ _⟩, ⟨by repeat (first | (with_reducible first | exact HB.out | apply below_alloc | apply pw_below_drewN | apply below_drew1) | exact HB.out)⟩⟩
  case round =>
    clear H'
    try clear p2
    obtain ⟨x4_1, x5_1, rfl, HA, HK1, HO_3, HO_4, HB⟩ := hrel
    cases gk with
    | zero => exact absurd HA.out (by simp [crucibleref1_words.l0])
    | succ k1 =>
      have H := HA.out
      clear HA
      simp only [crucibleref1_words.l0] at H
      by_cases c4 : x5_1 < (t108.length : Int)
      · rw [if_pos c4] at H
        have c4b0 : decide (x5_1 < (t108.length : Int)) = true := decide_eq_true c4
        clear c4
        by_cases c5 : 0 ≤ x5_1
        · rw [if_pos c5] at H
          have c5b0 : decide (0 ≤ x5_1) = true := decide_eq_true c5
          clear c5
          by_cases c6 : (rdOf ByteArray.empty t108 x5_1).toList = ([] : List UInt8)
          · rw [if_pos c6] at H
            have c6b0 : ((rdOf ByteArray.empty t108 x5_1).toList == ([] : List UInt8)) = true := beq_iff_eq.mpr c6
            have c6b1 : ((rdOf ByteArray.empty t108 x5_1).toList != ([] : List UInt8)) = false := bne_eq_false_iff_eq.mpr c6
            (try (have c6b2 : ((rdOf ByteArray.empty t108 x5_1).toList).isEmpty = true := List.isEmpty_iff.mpr c6))
            clear c6
            have H' := Aside0.mk H
            clear H
            obtain ⟨Ao7, co7, eo7⟩ := Kd.R_slice HO_3.out
            subst eo7
            have p111 : 0 ≤ (x5_1 : Int) := of_decide_eq_true (by first | (with_reducible assumption) | assumption)
            have q111 : x5_1 < (t108.length : Int) := of_decide_eq_true (by first | (with_reducible assumption) | assumption)
            obtain ⟨ad111, e111, hx111_0⟩ := Kd.at_string (Kd.R_reads' HO_3.out).2.2 x5_1 p111 q111
            cases e111
            replace p111 := eq_true p111
            replace q111 := eq_true q111
            go_wp2
            go_roundg k1
            case measure => have := HK1.out; omega
            case rel => exact ⟨(x4_1), (wrap64 (x5_1 + 1)), (by first | rfl | (simp; done) | (simp [*]; done)), H', ⟨by have := HK1.out; omega⟩, ⟨by (with_reducible repeat (first | apply Kd.R_alloc | apply Kd.R_drewN | apply Kd.R_drew)); first | exact HO_3.out | exact Kd.R_mono (HO_3.out) (fun k_ hk => by simp only [Go.Proofs.YtnlipeiamnknbaaDoorW.Hand.slice_ownBlock] at hk ⊢; exact hk)⟩, ⟨by (with_reducible repeat (first | apply Kd.R_alloc | apply Kd.R_drewN | apply Kd.R_drew)); first | exact HO_4.out | exact Kd.R_mono (HO_4.out) (fun k_ hk => by simp only [Go.Proofs.YtnlipeiamnknbaaDoorW.Hand.slice_ownBlock] at hk ⊢; exact hk)⟩, ⟨by repeat (first | (with_reducible first | exact HB.out | apply below_alloc | apply pw_below_drewN | apply below_drew1) | exact HB.out)⟩⟩
          · rw [if_neg c6] at H
            have c6b0 : ((rdOf ByteArray.empty t108 x5_1).toList == ([] : List UInt8)) = false := beq_eq_false_iff_ne.mpr c6
            have c6b1 : ((rdOf ByteArray.empty t108 x5_1).toList != ([] : List UInt8)) = true := bne_iff_ne.mpr c6
            (try (have c6b2 : ((rdOf ByteArray.empty t108 x5_1).toList).isEmpty = false := List.isEmpty_eq_false_iff.mpr c6))
            by_cases c8 : x4_1.length < 8796093022208
            · rw [if_pos c8] at H
              have LMc8 := Aside0.mk c8
              clear c8
              obtain ⟨y113, hy113⟩ : ∃ y_ : List ByteArray, y_ = (x4_1 ++ [rdOf ByteArray.empty t108 x5_1]) := ⟨_, rfl⟩
              replace H : (crucibleref1_words.l0 k1 t108 y113 (wrap64 (x5_1 + 1))) = some r := by first | (rw [hy113]; with_reducible exact H) | (have H2_ := (Option.bind_some _ _).symm.trans H; rw [hy113]; with_reducible exact H2_) | (have H2_ := (Option.bind_some _ _).symm.trans H; with_reducible exact H2_) | with_reducible exact H | (rw [hy113]; exact H) | exact H
              have Ny113 := Aside0.mk hy113
              clear hy113
              have H' := Aside0.mk H
              clear H
              obtain ⟨Ao9, co9, eo9⟩ := Kd.R_slice HO_3.out
              subst eo9
              have p111 : 0 ≤ (x5_1 : Int) := of_decide_eq_true (by first | (with_reducible assumption) | assumption)
              have q111 : x5_1 < (t108.length : Int) := of_decide_eq_true (by first | (with_reducible assumption) | assumption)
              obtain ⟨ad111, e111, hx111_0⟩ := Kd.at_string (Kd.R_reads' HO_3.out).2.2 x5_1 p111 q111
              cases e111
              replace p111 := eq_true p111
              replace q111 := eq_true q111
              have p112 : 0 ≤ (x5_1 : Int) := of_decide_eq_true (by first | (with_reducible assumption) | assumption)
              have q112 : x5_1 < (t108.length : Int) := of_decide_eq_true (by first | (with_reducible assumption) | assumption)
              obtain ⟨ad112, e112, hx112_0⟩ := Kd.at_string (Kd.R_reads' HO_3.out).2.2 x5_1 p112 q112
              obtain rfl : ad111 = ad112 := (by injection e112)
              replace p112 := eq_true p112
              replace q112 := eq_true q112
              go_wp2_with (first | ((with_reducible refine gate_builtin (b := .append) (xs := #[.tmp 19, .tmp 24]) rfl ?_); at_builtin; refine Kd.R_append Kd.string (w0 := w) w.heap.size rfl (.tmp 19) (.tmp 24) 22 9 (.string ⟨#[]⟩) 16 rfl Tryd.underlying22 info9 rfl (by decide) (by omega) u4 x4_1 (rdOf ByteArray.empty t108 x5_1) [.string (rdOf ByteArray.empty t108 x5_1)] (fun k_ => some k_ ≠ (.slice (some ad111) t108.length co9 : Value).ownBlock) (fun _ => False) rfl rfl ?aP (fun _ hk => hk.elim) ?aF ?aO ?aB ?aS ?aL ?_; (case aP => exact rfl); (case aB => exact (by repeat (first | (with_reducible first | exact HB.out | apply below_alloc | apply pw_below_drewN | apply below_drew1) | exact HB.out))); (case aF => exact (fun k_ hk => Kd.fresh' (Kd.R_lt (by (with_reducible repeat (first | apply Kd.R_alloc | apply Kd.R_drewN | apply Kd.R_drew)); first | exact HO_3.out | exact Kd.R_mono (HO_3.out) (fun k_ hk => by simp only [Go.Proofs.YtnlipeiamnknbaaDoorW.Hand.slice_ownBlock] at hk ⊢; exact hk))) k_ hk)); (case aO => exact (by (with_reducible repeat (first | apply Kd.R_alloc | apply Kd.R_drewN | apply Kd.R_drew)); first | exact HO_4.out | exact Kd.R_mono (HO_4.out) (fun k_ hk => by simp only [Go.Proofs.YtnlipeiamnknbaaDoorW.Hand.slice_ownBlock] at hk ⊢; exact hk))); (case aS => exact (below_size (by repeat (first | (with_reducible first | exact HB.out | apply below_alloc | apply pw_below_drewN | apply below_drew1) | exact HB.out)))); (case aL => have := LMc8.out; omega); intro v114 w10 ho hb hg hat; rw [← Ny113.out] at ho; have n0_ := Aside0.mk (Kd.R_after (ok := (fun _ => True)) (by (with_reducible repeat (first | apply Kd.R_alloc | apply Kd.R_drewN | apply Kd.R_drew)); first | exact Kd.R_mono HO_3.out (fun _ hk => ⟨trivial, hk⟩) | exact Kd.R_mono (Kd.R_mono HO_3.out (fun _ hk => ⟨trivial, hk⟩)) (fun k_ hk => by simp only [Go.Proofs.YtnlipeiamnknbaaDoorW.Hand.slice_ownBlock] at hk ⊢; exact hk)) hg hat); have n1_ := Aside0.mk (hb); have n2_ := Aside0.mk (ho); clear HO_3; clear HB; clear HO_4; have HO_3 := n0_; have HB := n1_; have HO115 := n2_; clear n0_ n1_ n2_; clear ho hb hg hat))
              go_roundg k1
              case measure => have := HK1.out; omega
              case rel => exact ⟨(y113), (wrap64 (x5_1 + 1)), (by first | rfl | (simp; done) | (simp [*]; done)), H', ⟨by have := HK1.out; omega⟩, ⟨by (with_reducible repeat (first | apply Kd.R_alloc | apply Kd.R_drewN | apply Kd.R_drew)); first | exact Kd.R_mono HO_3.out (fun _ hk => hk.2) | exact Kd.R_mono (Kd.R_mono HO_3.out (fun _ hk => hk.2)) (fun k_ hk => by simp only [Go.Proofs.YtnlipeiamnknbaaDoorW.Hand.slice_ownBlock] at hk ⊢; exact hk)⟩, ⟨by (with_reducible repeat (first | apply Kd.R_alloc | apply Kd.R_drewN | apply Kd.R_drew)); first | exact HO115.out | exact Kd.R_mono (HO115.out) (fun k_ hk => by simp only [Go.Proofs.YtnlipeiamnknbaaDoorW.Hand.slice_ownBlock] at hk ⊢; exact hk)⟩, ⟨by repeat (first | (with_reducible first | exact HB.out | apply below_alloc | apply pw_below_drewN | apply below_drew1) | exact HB.out)⟩⟩
            · rw [if_neg c8] at H
              exact absurd H (by simp)
        · rw [if_neg c5] at H
          exact absurd H (by simp)
      · rw [if_neg c4] at H
        have c4b0 : decide (x5_1 < (t108.length : Int)) = false := decide_eq_false c4
        clear c4
        obtain rfl := Option.some.inj H
        obtain ⟨Ao11, co11, eo11⟩ := Kd.R_slice HO_3.out
        subst eo11
        go_wp2
        go_ret
        exact ⟨_, by first | rfl | (simp [errW_none, errW_some] <;> rfl) | (simp [*, errW_none, errW_some] <;> rfl), by (with_reducible repeat (first | apply Kd.R_alloc | apply Kd.R_drewN | apply Kd.R_drew)); first | exact Kd.R_mono HO_4.out (fun _ hk => trivial) | exact Kd.R_mono (Kd.R_mono HO_4.out (fun _ hk => trivial)) (fun k_ hk => by simp only [Go.Proofs.YtnlipeiamnknbaaDoorW.Hand.slice_ownBlock] at hk ⊢; exact hk), by repeat (first | (with_reducible first | exact HB.out | apply below_alloc | apply pw_below_drewN | apply below_drew1) | exact HB.out)⟩

end Go.Proofs.YtnlipeiamnknbaaDoor.A
end

section
namespace Go.Proofs.YtnlipeiamnknbaaDoor.A
open Go.RowKit Go.Proofs.YtnlipeiamnknbaaDoorW.PrintWords Go.Proofs.YtnlipeiamnknbaaDoorW.PrintLast Go.Proofs.YtnlipeiamnknbaaDoorW.PrintMore
attribute [local go_sem] max2_int min2_int max_two min_two max_three min_three max_four min_four   -- for this text's walks alone
set_option linter.unusedVariables false
set_option linter.unusedSimpArgs false

/-! ### crucibleref1_wordsx0: function 41 -/
theorem rdOf_at {α : Type} (d : α) (xs : List α) (i : Nat) (h : i < xs.length) : rdOf d xs (i : Int) = xs[i] := by
  unfold rdOf; simp [List.getD_eq_getElem?_getD, List.getElem?_eq_getElem h]
theorem crucibleref1_words.loop (xs : List ByteArray) (hs : xs.length ≤ 8796093022200) : ∀ d k i (acc : List ByteArray), i ≤ xs.length → xs.length - i = d → d < k → acc.length + d ≤ 8796093022207 →
    crucibleref1_words.l0 k xs acc (i : Int) = some (acc ++ (xs.drop i).filter fun p => !(p.size == 0))
  | 0, k, i, acc, h0, h1, hk, hl => by
    obtain ⟨k, rfl⟩ : ∃ m, k = m + 1 := ⟨k - 1, by omega⟩
    simp only [crucibleref1_words.l0]
    rw [if_neg (by omega), List.drop_eq_nil_of_le (by omega)]
    simp
  | d + 1, k, i, acc, h0, h1, hk, hl => by
    obtain ⟨k, rfl⟩ : ∃ m, k = m + 1 := ⟨k - 1, by omega⟩
    have hi : i < xs.length := by omega
    have hw : wrap64 ((i : Int) + 1) = ((i + 1 : Nat) : Int) := by unfold wrap64; omega
    simp only [crucibleref1_words.l0]
    rw [if_pos (by omega), if_pos (by omega), rdOf_at _ _ _ hi, hw, List.drop_eq_getElem_cons hi, List.filter_cons]
    by_cases hz : 1 ≤ (xs[i]).size
    · have e0 := Cru.toList_pos hz
      have e1 : ¬ (xs[i]).toList = [] := by intro h; rw [h] at e0; simp at e0
      rw [if_neg e1, if_pos (by omega), crucibleref1_words.loop xs hs d k (i + 1) _ (by omega) (by omega) (by omega) (by simp; omega)]
      have e2 : (!((xs[i]).size == 0)) = true := by rw [show ((xs[i]).size == 0) = false from by rw [beq_eq_false_iff_ne]; omega]; rfl
      rw [if_pos e2]
      simp
    · have e0 := Cru.toList_nil hz
      have e1 : (xs[i]).toList = [] := by simpa using e0
      rw [if_pos e1, crucibleref1_words.loop xs hs d k (i + 1) _ (by omega) (by omega) (by omega) (by omega)]
      have e2 : (!((xs[i]).size == 0)) = false := by have : (xs[i]).size = 0 := by omega
                                                     rw [this]; rfl
      rw [if_neg (by rw [e2]; simp)]
theorem crucibleref1_words.tells (s : ByteArray) (hs : s.size ≤ 8796093022000) (k : Nat) (hk : s.size + 2 < k) : crucibleref1_words.f k s = some (Cru.wordsOf s) := by
  unfold crucibleref1_words.f Cru.wordsOf
  have h1 := crucibleref1_split.tells s 32 hs k (by omega)
  rw [show ((32 : UInt8).toNat : Int) = 32 from rfl] at h1
  rw [h1]
  have hc := Lib.countB_le ⟨#[32]⟩ (Nat.le_refl 1) s.size s (Nat.le_refl _)
  have hl := Cru.pieces_length 32 s
  have := crucibleref1_words.loop (Cru.pieces 32 s) (by omega) (Cru.pieces 32 s).length k 0 [] (by omega) (by omega) (by omega) (by simp; omega)
  rw [show ((0 : Nat) : Int) = 0 from rfl] at this
  simp only [Option.bind_some]
  rw [this]
  simp

end Go.Proofs.YtnlipeiamnknbaaDoor.A
end

section
namespace Go.Proofs.YtnlipeiamnknbaaDoor.A
open Go.RowKit Go.Proofs.YtnlipeiamnknbaaDoorW.PrintWords Go.Proofs.YtnlipeiamnknbaaDoorW.PrintLast Go.Proofs.YtnlipeiamnknbaaDoorW.PrintMore
attribute [local go_sem] max2_int min2_int max_two min_two max_three min_three max_four min_four   -- for this text's walks alone
set_option linter.unusedVariables false
set_option linter.unusedSimpArgs false

/-! ### crucibleref1_names: function 42 -/
def crucibleref1_names.l0 : Nat → List ByteArray → Int → Option (Int)
  | 0, _, _ => none
  | k + 1, x0, x3 => if x3 < (x0.length : Int) then (if 0 ≤ x3 then ((crucibleref1_NameMay.f k (rdOf ByteArray.empty x0 x3)).bind fun t117 => (if t117 = true then (crucibleref1_names.l0 k x0 (wrap64 (x3 + 1))) else (some x3))) else (none)) else (some x3)
def crucibleref1_names.f (k : Nat) (l0 : List ByteArray) : Option (Int) := crucibleref1_names.l0 k l0 0
theorem crucibleref1_names.mono_l : ∀ k, (∀ y0 y1, LeO (crucibleref1_names.l0 k y0 y1) (crucibleref1_names.l0 (k + 1) y0 y1))
  | 0 => fun _ _ r h => by simp [crucibleref1_names.l0] at h
  | k + 1 => by
    have ih0 := crucibleref1_names.mono_l k
    · intro y0 y1
      unfold crucibleref1_names.l0
      repeat' first
      | (with_reducible exact ih0 _ _)
      | (with_reducible exact crucibleref1_NameMay.mono _ _)
      | (with_reducible exact LeO.refl _)
      | (with_reducible exact LeO.none _)
      | (with_reducible refine LeO.ite ?_ ?_)
      | (with_reducible refine LeO.bind ?_ (fun _ => ?_))
      | exact ih0 _ _
      | exact crucibleref1_NameMay.mono _ _
      | exact LeO.none _
      | refine LeO.ite ?_ ?_
      | refine LeO.bind ?_ (fun _ => ?_)
theorem crucibleref1_names.mono : ∀ a0 k, LeO (crucibleref1_names.f k a0) (crucibleref1_names.f (k + 1) a0) := by
  intro a0 k
  have ih0 := crucibleref1_names.mono_l k
  unfold crucibleref1_names.f
  repeat' first
      | (with_reducible exact ih0 _ _)
      | (with_reducible exact crucibleref1_NameMay.mono _ _)
      | (with_reducible exact LeO.refl _)
      | (with_reducible exact LeO.none _)
      | (with_reducible refine LeO.ite ?_ ?_)
      | (with_reducible refine LeO.bind ?_ (fun _ => ?_))
      | exact ih0 _ _
      | exact crucibleref1_NameMay.mono _ _
      | exact LeO.none _
      | refine LeO.ite ?_ ?_
      | refine LeO.bind ?_ (fun _ => ?_)
set_option maxHeartbeats 8000000 in
set_option maxRecDepth 100000 in
theorem crucibleref1_names.calls (k : Nat) (A0 : Option Addr) (c0 : Nat) (l0 : List ByteArray) (r : Int) (w : World) (hr0 : Kd.C Kd.string w A0 l0.length l0) (hc0 : l0.length ≤ c0) (h : crucibleref1_names.f k l0 = some r) :
    Calls Tryd.prog 42 #[.slice A0 l0.length c0] w fun e w' => e = .returned (.int .i64 r) ∧ Drawn0 w w' := by
  have HR0 := Aside0.mk hr0
  have HC0 := Aside0.mk hc0
  clear hr0 hc0
  have H : (crucibleref1_names.l0 k l0 0) = some r := h
  clear h
  have H' := Aside0.mk H
  clear H
  go_enter Tryd.func42, Tryd.ntmps42
  go_wp2
  go_loopg [3] k (fun kq v3 w' => ∃ (x3_1 : Int), v3 = .int .i64 x3_1 ∧ Aside0 (crucibleref1_names.l0 kq l0 x3_1 = some r) ∧ Aside0 (kq ≤ k) ∧ Drawn0 w w')
  case atStart => exact ⟨(0), (by first | rfl | (simp; done) | (simp [*]; done)), H', ⟨Nat.le_refl _⟩, by repeat (first | exact Drawn0.refl _ | apply Drawn0.step)⟩
  case round =>
    clear H'
    obtain ⟨x3_1, rfl, HA, HK1, ⟨m1, rfl⟩⟩ := hrel
    cases gk with
    | zero => exact absurd HA.out (by simp [crucibleref1_names.l0])
    | succ k1 =>
      have H := HA.out
      clear HA
      simp only [crucibleref1_names.l0] at H
      by_cases c2 : x3_1 < (l0.length : Int)
      · rw [if_pos c2] at H
        have c2b0 : decide (x3_1 < (l0.length : Int)) = true := decide_eq_true c2
        clear c2
        by_cases c3 : 0 ≤ x3_1
        · rw [if_pos c3] at H
          have c3b0 : decide (0 ≤ x3_1) = true := decide_eq_true c3
          clear c3
          replace H := Option.bind_eq_some_iff.mp H
          obtain ⟨t117, A40, H⟩ := H
          replace H : (if t117 = true then (crucibleref1_names.l0 k1 l0 (wrap64 (x3_1 + 1))) else (some x3_1)) = some r := H
          have A4 := Aside0.mk A40
          clear A40
          by_cases c5 : t117 = true
          · subst c5
            have H1 : (crucibleref1_names.l0 k1 l0 (wrap64 (x3_1 + 1))) = some r := by rw [if_pos rfl] at H; exact H
            clear H
            have H := H1
            clear H1
            have H' := Aside0.mk H
            clear H
            have p116 : 0 ≤ (x3_1 : Int) := of_decide_eq_true (by first | (with_reducible assumption) | assumption)
            have q116 : x3_1 < (l0.length : Int) := of_decide_eq_true (by first | (with_reducible assumption) | assumption)
            obtain ⟨ad116, e116, hx116_0⟩ := Kd.at_string HR0.out x3_1 p116 q116
            cases e116
            replace p116 := eq_true p116
            replace q116 := eq_true q116
            go_wp2_with (first | (go_at_call 13; (with_reducible refine (crucibleref1_NameMay.calls k1 (rdOf ByteArray.empty l0 x3_1) true _ A4.out).mono ?_); rintro e w' ⟨rfl, ⟨nd, rfl⟩⟩))
            go_roundg k1
            case measure => have := HK1.out; omega
            case rel => exact ⟨(wrap64 (x3_1 + 1)), (by first | rfl | (simp; done) | (simp [*]; done)), H', ⟨by have := HK1.out; omega⟩, by repeat (first | exact Drawn0.refl _ | apply Drawn0.step)⟩
          · replace c5 := Bool.eq_false_iff.mpr c5
            subst c5
            have H1 : (some x3_1) = some r := by rw [if_neg (show ¬ (false = true) by decide)] at H; exact H
            clear H
            have H := H1
            clear H1
            obtain rfl := Option.some.inj H
            have p116 : 0 ≤ (x3_1 : Int) := of_decide_eq_true (by first | (with_reducible assumption) | assumption)
            have q116 : x3_1 < (l0.length : Int) := of_decide_eq_true (by first | (with_reducible assumption) | assumption)
            obtain ⟨ad116, e116, hx116_0⟩ := Kd.at_string HR0.out x3_1 p116 q116
            cases e116
            replace p116 := eq_true p116
            replace q116 := eq_true q116
            go_wp2_with (first | (go_at_call 13; (with_reducible refine (crucibleref1_NameMay.calls k1 (rdOf ByteArray.empty l0 x3_1) false _ A4.out).mono ?_); rintro e w' ⟨rfl, ⟨nd, rfl⟩⟩))
            go_ret
            exact ⟨by first | rfl | (simp; done) | (simp [*]; done), by repeat (first | exact Drawn0.refl _ | apply Drawn0.step)⟩
        · rw [if_neg c3] at H
          exact absurd H (by simp)
      · rw [if_neg c2] at H
        have c2b0 : decide (x3_1 < (l0.length : Int)) = false := decide_eq_false c2
        clear c2
        obtain rfl := Option.some.inj H
        go_wp2
        go_ret
        exact ⟨by first | rfl | (simp; done) | (simp [*]; done), by repeat (first | exact Drawn0.refl _ | apply Drawn0.step)⟩

end Go.Proofs.YtnlipeiamnknbaaDoor.A
end

section
namespace Go.Proofs.YtnlipeiamnknbaaDoor.A
open Go.RowKit Go.Proofs.YtnlipeiamnknbaaDoorW.PrintWords Go.Proofs.YtnlipeiamnknbaaDoorW.PrintLast Go.Proofs.YtnlipeiamnknbaaDoorW.PrintMore
attribute [local go_sem] max2_int min2_int max_two min_two max_three min_three max_four min_four   -- for this text's walks alone
set_option linter.unusedVariables false
set_option linter.unusedSimpArgs false

/-! ### crucibleref1_namesx0: function 42 -/
theorem crucibleref1_names.loop (xs : List ByteArray) (hs : xs.length ≤ 140737488355328) (hb : ∀ x ∈ xs, x.size ≤ 140737488355328) : ∀ d k i, i ≤ xs.length → xs.length - i = d → (∀ x ∈ xs, x.size + d + 1 < k) → d < k →
    crucibleref1_names.l0 k xs (i : Int) = some ((i + Cru.lead (xs.drop i) : Nat) : Int)
  | 0, k, i, h0, h1, hk, hd => by
    obtain ⟨k, rfl⟩ : ∃ m, k = m + 1 := ⟨k - 1, by omega⟩
    simp only [crucibleref1_names.l0]
    rw [if_neg (by omega), List.drop_eq_nil_of_le (by omega)]
    rfl
  | d + 1, k, i, h0, h1, hk, hd => by
    obtain ⟨k, rfl⟩ : ∃ m, k = m + 1 := ⟨k - 1, by omega⟩
    have hi : i < xs.length := by omega
    have hm := List.getElem_mem hi
    have hw : wrap64 ((i : Int) + 1) = ((i + 1 : Nat) : Int) := by unfold wrap64; omega
    simp only [crucibleref1_names.l0]
    rw [if_pos (by omega), if_pos (by omega), show rdOf ByteArray.empty xs (i : Int) = xs[i] by unfold rdOf; simp [List.getD_eq_getElem?_getD, List.getElem?_eq_getElem hi], crucibleref1_NameMay.tells _ (hb _ hm) k (by have := hk _ hm; omega), hw]
    simp only [Option.bind_some]
    have e : Cru.lead (xs.drop i) = if Cru.nameOk xs[i] then 1 + Cru.lead (xs.drop (i + 1)) else 0 := by
      rw [List.drop_eq_getElem_cons hi]
      unfold Cru.lead
      rw [List.takeWhile_cons]
      split <;> simp <;> omega
    rw [e]
    by_cases hq : Cru.nameOk xs[i] = true
    · rw [if_pos hq, if_pos hq, crucibleref1_names.loop xs hs hb d k (i + 1) (by omega) (by omega) (fun x hx => by have := hk x hx; omega) (by omega), Nat.add_assoc]
    · rw [if_neg hq, if_neg hq]; rfl
theorem crucibleref1_names.tells (xs : List ByteArray) (hs : xs.length ≤ 140737488355328) (hb : ∀ x ∈ xs, x.size ≤ 140737488355328) (k : Nat) (hk : ∀ x ∈ xs, x.size + xs.length + 1 < k) (hk2 : xs.length < k) : crucibleref1_names.f k xs = some (Cru.lead xs : Int) := by
  unfold crucibleref1_names.f
  have := crucibleref1_names.loop xs hs hb xs.length k 0 (by omega) (by omega) (fun x hx => by have := hk x hx; omega) hk2
  rw [show ((0 : Nat) : Int) = 0 from rfl] at this
  rw [this]
  simp

end Go.Proofs.YtnlipeiamnknbaaDoor.A
end

section
namespace Go.Proofs.YtnlipeiamnknbaaDoor.A
open Go.RowKit Go.Proofs.YtnlipeiamnknbaaDoorW.PrintWords Go.Proofs.YtnlipeiamnknbaaDoorW.PrintLast Go.Proofs.YtnlipeiamnknbaaDoorW.PrintMore Go.Proofs.YtnlipeiamnknbaaDoorW.Hand
attribute [local go_sem] max2_int min2_int max_two min_two max_three min_three max_four min_four   -- for this text's walks alone
set_option linter.unusedVariables false
set_option linter.unusedSimpArgs false

/-! ### crucibleref1_Words: function 8 -/
mutual
def crucibleref1_Words.j0 : Nat → List ByteArray → Int → Bool → ByteArray → Option (List ByteArray × ByteArray × List ByteArray × List ByteArray × List ByteArray × Int)
 | 0, _, _, _, _ => none
 | k + 1, x4, x6, x39, x123001 => if x39 = true then (some (([] : List ByteArray), (⟨#[]⟩ : ByteArray), ([] : List ByteArray), ([] : List ByteArray), ([] : List ByteArray), 700)) else (if 0 ≤ x6 then (if x6 ≤ (x4.length : Int) then ((some (x4.take (x6 : Int).toNat : List ByteArray)).bind fun y127 => (if ([] : List ByteArray).length + y127.length < 8796093022208 then (crucibleref1_Words.j1 k x4 x6 (([] : List ByteArray) ++ y127) x123001) else (none))) else (none)) else (none))
def crucibleref1_Words.j1 : Nat → List ByteArray → Int → List ByteArray → ByteArray → Option (List ByteArray × ByteArray × List ByteArray × List ByteArray × List ByteArray × Int)
 | 0, _, _, _, _ => none
 | k + 1, x4, x6, x123000, x123001 => if 0 ≤ (wrap64 (x6 + 1)) then (if (wrap64 (x6 + 1)) < (x4.length : Int) then (crucibleref1_Words.j2 k x4 x6 x123000 (rdOf ByteArray.empty x4 (wrap64 (x6 + 1)))) else (none)) else (none)
def crucibleref1_Words.j2 : Nat → List ByteArray → Int → List ByteArray → ByteArray → Option (List ByteArray × ByteArray × List ByteArray × List ByteArray × List ByteArray × Int)
 | 0, _, _, _, _ => none
 | k + 1, x4, x6, x123000, x123001 => if 0 ≤ (wrap64 (x6 + 2)) then (if (wrap64 (x6 + 2)) ≤ (x4.length : Int) then ((some (x4.drop ((wrap64 (x6 + 2)) : Int).toNat : List ByteArray)).bind fun y135 => ((crucibleref1_names.f k y135).bind fun t138 => (if 0 ≤ t138 then (if t138 ≤ (y135.length : Int) then ((some (y135.take (t138 : Int).toNat : List ByteArray)).bind fun y139 => (if ([] : List ByteArray).length + y139.length < 8796093022208 then (crucibleref1_Words.j3 k y135 t138 x123000 x123001 (([] : List ByteArray) ++ y139)) else (none))) else (none)) else (none)))) else (none)) else (none)
def crucibleref1_Words.j3 : Nat → List ByteArray → Int → List ByteArray → ByteArray → List ByteArray → Option (List ByteArray × ByteArray × List ByteArray × List ByteArray × List ByteArray × Int)
 | 0, _, _, _, _, _ => none
 | k + 1, x4, x6, x123000, x123001, x123002 => if 0 ≤ x6 then (if x6 ≤ (x4.length : Int) then ((some (x4.drop (x6 : Int).toNat : List ByteArray)).bind fun y146 => (if (y146.length : Int) > 0 then (if 0 < (y146.length : Int) then (crucibleref1_Words.j4 k y146 ((rdOf ByteArray.empty y146 0).toList == ([124] : List UInt8)) x123000 x123001 x123002) else (none)) else (crucibleref1_Words.j4 k y146 false x123000 x123001 x123002))) else (none)) else (none)
def crucibleref1_Words.j4 : Nat → List ByteArray → Bool → List ByteArray → ByteArray → List ByteArray → Option (List ByteArray × ByteArray × List ByteArray × List ByteArray × List ByteArray × Int)
 | 0, _, _, _, _, _ => none
 | k + 1, x4, x78, x123000, x123001, x123002 => if x78 = true then (if 1 ≤ (x4.length : Int) then ((crucibleref1_names.f k (x4.drop 1)).bind fun t154 => (crucibleref1_Words.j5 k x4 t154 x123000 x123001 x123002)) else (none)) else (crucibleref1_Words.j7 k x4 x123000 x123001 x123002 ([] : List ByteArray))
def crucibleref1_Words.j7 : Nat → List ByteArray → List ByteArray → ByteArray → List ByteArray → List ByteArray → Option (List ByteArray × ByteArray × List ByteArray × List ByteArray × List ByteArray × Int)
 | 0, _, _, _, _, _ => none
 | k + 1, x4, x123000, x123001, x123002, x123003 => if (x4.length : Int) > 0 then (if 0 < (x4.length : Int) then (crucibleref1_Words.j8 k x4 ((rdOf ByteArray.empty x4 0).toList == ([124, 124] : List UInt8)) x123000 x123001 x123002 x123003) else (none)) else (crucibleref1_Words.j8 k x4 false x123000 x123001 x123002 x123003)
def crucibleref1_Words.j8 : Nat → List ByteArray → Bool → List ByteArray → ByteArray → List ByteArray → List ByteArray → Option (List ByteArray × ByteArray × List ByteArray × List ByteArray × List ByteArray × Int)
 | 0, _, _, _, _, _, _ => none
 | k + 1, x4, x105, x123000, x123001, x123002, x123003 => if x105 = true then (if 1 ≤ (x4.length : Int) then ((crucibleref1_names.f k (x4.drop 1)).bind fun t170 => (crucibleref1_Words.j9 k x4 t170 x123000 x123001 x123002 x123003)) else (none)) else (if (x4.length : Int) > 0 then (some (([] : List ByteArray), (⟨#[]⟩ : ByteArray), ([] : List ByteArray), ([] : List ByteArray), ([] : List ByteArray), 700)) else (if (x123002.length : Int) > 8 then (some (([] : List ByteArray), (⟨#[]⟩ : ByteArray), ([] : List ByteArray), ([] : List ByteArray), ([] : List ByteArray), 700)) else (if (x123003.length : Int) > 8 then (some (([] : List ByteArray), (⟨#[]⟩ : ByteArray), ([] : List ByteArray), ([] : List ByteArray), ([] : List ByteArray), 700)) else (if (([] : List ByteArray).length : Int) > 8 then (some (([] : List ByteArray), (⟨#[]⟩ : ByteArray), ([] : List ByteArray), ([] : List ByteArray), ([] : List ByteArray), 700)) else (some (x123000, x123001, x123002, x123003, ([] : List ByteArray), 0))))))
def crucibleref1_Words.j9 : Nat → List ByteArray → Int → List ByteArray → ByteArray → List ByteArray → List ByteArray → Option (List ByteArray × ByteArray × List ByteArray × List ByteArray × List ByteArray × Int)
 | 0, _, _, _, _, _, _ => none
 | k + 1, x4, x6, x123000, x123001, x123002, x123003 => if x6 = 0 then (some (([] : List ByteArray), (⟨#[]⟩ : ByteArray), ([] : List ByteArray), ([] : List ByteArray), ([] : List ByteArray), 700)) else (if 1 ≤ (wrap64 (x6 + 1)) then (if (wrap64 (x6 + 1)) ≤ (x4.length : Int) then ((some ((x4.take ((wrap64 (x6 + 1)) : Int).toNat).drop 1 : List ByteArray)).bind fun y171 => (if ([] : List ByteArray).length + y171.length < 8796093022208 then (crucibleref1_Words.j10 k x4 x6 x123000 x123001 x123002 x123003 (([] : List ByteArray) ++ y171)) else (none))) else (none)) else (none))
def crucibleref1_Words.j10 : Nat → List ByteArray → Int → List ByteArray → ByteArray → List ByteArray → List ByteArray → List ByteArray → Option (List ByteArray × ByteArray × List ByteArray × List ByteArray × List ByteArray × Int)
 | 0, _, _, _, _, _, _, _ => none
 | k + 1, x4, x6, x123000, x123001, x123002, x123003, x123004 => if 0 ≤ (wrap64 (x6 + 1)) then (if (wrap64 (x6 + 1)) ≤ (x4.length : Int) then (if ((x4.drop ((wrap64 (x6 + 1)) : Int).toNat).length : Int) > 0 then (some (([] : List ByteArray), (⟨#[]⟩ : ByteArray), ([] : List ByteArray), ([] : List ByteArray), ([] : List ByteArray), 700)) else (if (x123002.length : Int) > 8 then (some (([] : List ByteArray), (⟨#[]⟩ : ByteArray), ([] : List ByteArray), ([] : List ByteArray), ([] : List ByteArray), 700)) else (if (x123003.length : Int) > 8 then (some (([] : List ByteArray), (⟨#[]⟩ : ByteArray), ([] : List ByteArray), ([] : List ByteArray), ([] : List ByteArray), 700)) else (if (x123004.length : Int) > 8 then (some (([] : List ByteArray), (⟨#[]⟩ : ByteArray), ([] : List ByteArray), ([] : List ByteArray), ([] : List ByteArray), 700)) else (some (x123000, x123001, x123002, x123003, x123004, 0)))))) else (none)) else (none)
def crucibleref1_Words.j5 : Nat → List ByteArray → Int → List ByteArray → ByteArray → List ByteArray → Option (List ByteArray × ByteArray × List ByteArray × List ByteArray × List ByteArray × Int)
 | 0, _, _, _, _, _ => none
 | k + 1, x4, x6, x123000, x123001, x123002 => if x6 = 0 then (some (([] : List ByteArray), (⟨#[]⟩ : ByteArray), ([] : List ByteArray), ([] : List ByteArray), ([] : List ByteArray), 700)) else (if 1 ≤ (wrap64 (x6 + 1)) then (if (wrap64 (x6 + 1)) ≤ (x4.length : Int) then ((some ((x4.take ((wrap64 (x6 + 1)) : Int).toNat).drop 1 : List ByteArray)).bind fun y155 => (if ([] : List ByteArray).length + y155.length < 8796093022208 then (crucibleref1_Words.j6 k x4 x6 x123000 x123001 x123002 (([] : List ByteArray) ++ y155)) else (none))) else (none)) else (none))
def crucibleref1_Words.j6 : Nat → List ByteArray → Int → List ByteArray → ByteArray → List ByteArray → List ByteArray → Option (List ByteArray × ByteArray × List ByteArray × List ByteArray × List ByteArray × Int)
 | 0, _, _, _, _, _, _ => none
 | k + 1, x4, x6, x123000, x123001, x123002, x123003 => if 0 ≤ (wrap64 (x6 + 1)) then (if (wrap64 (x6 + 1)) ≤ (x4.length : Int) then (crucibleref1_Words.j7 k (x4.drop ((wrap64 (x6 + 1)) : Int).toNat) x123000 x123001 x123002 x123003) else (none)) else (none)
end
def crucibleref1_Words.f (k : Nat) (a0 : ByteArray) : Option (List ByteArray × ByteArray × List ByteArray × List ByteArray × List ByteArray × Int) := (crucibleref1_words.f k a0).bind fun t119 => ((crucibleref1_names.f k t119).bind fun t123 => (if t123 < 1 then (crucibleref1_Words.j0 k t119 t123 true (⟨#[]⟩ : ByteArray)) else (if t123 > 8 then (crucibleref1_Words.j0 k t119 t123 true (⟨#[]⟩ : ByteArray)) else (if (wrap64 (t123 + 1)) ≥ (t119.length : Int) then (crucibleref1_Words.j0 k t119 t123 true (⟨#[]⟩ : ByteArray)) else (if 0 ≤ t123 then (if t123 < (t119.length : Int) then (if (rdOf ByteArray.empty t119 t123).toList = ([58] : List UInt8) then (if 0 ≤ (wrap64 (t123 + 1)) then (if (wrap64 (t123 + 1)) < (t119.length : Int) then ((crucibleref1_NameMay.f k (rdOf ByteArray.empty t119 (wrap64 (t123 + 1)))).bind fun t126 => (crucibleref1_Words.j0 k t119 t123 (!t126) (⟨#[]⟩ : ByteArray))) else (none)) else (none)) else (crucibleref1_Words.j0 k t119 t123 true (⟨#[]⟩ : ByteArray))) else (none)) else (none))))))
theorem crucibleref1_Words.mono_l : ∀ k, (∀ y0 y1 y2 y3, LeO (crucibleref1_Words.j0 k y0 y1 y2 y3) (crucibleref1_Words.j0 (k + 1) y0 y1 y2 y3)) ∧ (∀ y0 y1 y2 y3, LeO (crucibleref1_Words.j1 k y0 y1 y2 y3) (crucibleref1_Words.j1 (k + 1) y0 y1 y2 y3)) ∧ (∀ y0 y1 y2 y3, LeO (crucibleref1_Words.j2 k y0 y1 y2 y3) (crucibleref1_Words.j2 (k + 1) y0 y1 y2 y3)) ∧ (∀ y0 y1 y2 y3 y4, LeO (crucibleref1_Words.j3 k y0 y1 y2 y3 y4) (crucibleref1_Words.j3 (k + 1) y0 y1 y2 y3 y4)) ∧ (∀ y0 y1 y2 y3 y4, LeO (crucibleref1_Words.j4 k y0 y1 y2 y3 y4) (crucibleref1_Words.j4 (k + 1) y0 y1 y2 y3 y4)) ∧ (∀ y0 y1 y2 y3 y4, LeO (crucibleref1_Words.j7 k y0 y1 y2 y3 y4) (crucibleref1_Words.j7 (k + 1) y0 y1 y2 y3 y4)) ∧ (∀ y0 y1 y2 y3 y4 y5, LeO (crucibleref1_Words.j8 k y0 y1 y2 y3 y4 y5) (crucibleref1_Words.j8 (k + 1) y0 y1 y2 y3 y4 y5)) ∧ (∀ y0 y1 y2 y3 y4 y5, LeO (crucibleref1_Words.j9 k y0 y1 y2 y3 y4 y5) (crucibleref1_Words.j9 (k + 1) y0 y1 y2 y3 y4 y5)) ∧ (∀ y0 y1 y2 y3 y4 y5 y6, LeO (crucibleref1_Words.j10 k y0 y1 y2 y3 y4 y5 y6) (crucibleref1_Words.j10 (k + 1) y0 y1 y2 y3 y4 y5 y6)) ∧ (∀ y0 y1 y2 y3 y4, LeO (crucibleref1_Words.j5 k y0 y1 y2 y3 y4) (crucibleref1_Words.j5 (k + 1) y0 y1 y2 y3 y4)) ∧ (∀ y0 y1 y2 y3 y4 y5, LeO (crucibleref1_Words.j6 k y0 y1 y2 y3 y4 y5) (crucibleref1_Words.j6 (k + 1) y0 y1 y2 y3 y4 y5))
 | 0 => ⟨fun _ _ _ _ r h => by simp [crucibleref1_Words.j0] at h, fun _ _ _ _ r h => by simp [crucibleref1_Words.j1] at h, fun _ _ _ _ r h => by simp [crucibleref1_Words.j2] at h, fun _ _ _ _ _ r h => by simp [crucibleref1_Words.j3] at h, fun _ _ _ _ _ r h => by simp [crucibleref1_Words.j4] at h, fun _ _ _ _ _ r h => by simp [crucibleref1_Words.j7] at h, fun _ _ _ _ _ _ r h => by simp [crucibleref1_Words.j8] at h, fun _ _ _ _ _ _ r h => by simp [crucibleref1_Words.j9] at h, fun _ _ _ _ _ _ _ r h => by simp [crucibleref1_Words.j10] at h, fun _ _ _ _ _ r h => by simp [crucibleref1_Words.j5] at h, fun _ _ _ _ _ _ r h => by simp [crucibleref1_Words.j6] at h⟩
 | k + 1 => by
  obtain ⟨ih0, ih1, ih2, ih3, ih4, ih5, ih6, ih7, ih8, ih9, ih10⟩ := crucibleref1_Words.mono_l k
  refine ⟨?_, ?_, ?_, ?_, ?_, ?_, ?_, ?_, ?_, ?_, ?_⟩
  ·intro y0 y1 y2 y3
   unfold crucibleref1_Words.j0
   repeat' first
   | (with_reducible exact ih0 _ _ _ _)
   | (with_reducible exact ih1 _ _ _ _)
   | (with_reducible exact ih2 _ _ _ _)
   | (with_reducible exact ih3 _ _ _ _ _)
   | (with_reducible exact ih4 _ _ _ _ _)
   | (with_reducible exact ih5 _ _ _ _ _)
   | (with_reducible exact ih6 _ _ _ _ _ _)
   | (with_reducible exact ih7 _ _ _ _ _ _)
   | (with_reducible exact ih8 _ _ _ _ _ _ _)
   | (with_reducible exact ih9 _ _ _ _ _)
   | (with_reducible exact ih10 _ _ _ _ _ _)
   | (with_reducible exact crucibleref1_NameMay.mono _ _)
   | (with_reducible exact crucibleref1_names.mono _ _)
   | (with_reducible exact crucibleref1_words.mono _ _)
   | (with_reducible exact LeO.refl _)
   | (with_reducible exact LeO.none _)
   | (with_reducible refine LeO.ite ?_ ?_)
   | (with_reducible refine LeO.bind ?_ (fun _ => ?_))
   | exact ih0 _ _ _ _
   | exact ih1 _ _ _ _
   | exact ih2 _ _ _ _
   | exact ih3 _ _ _ _ _
   | exact ih4 _ _ _ _ _
   | exact ih5 _ _ _ _ _
   | exact ih6 _ _ _ _ _ _
   | exact ih7 _ _ _ _ _ _
   | exact ih8 _ _ _ _ _ _ _
   | exact ih9 _ _ _ _ _
   | exact ih10 _ _ _ _ _ _
   | exact crucibleref1_NameMay.mono _ _
   | exact crucibleref1_names.mono _ _
   | exact crucibleref1_words.mono _ _
   | exact LeO.none _
   | refine LeO.ite ?_ ?_
   | refine LeO.bind ?_ (fun _ => ?_)
  ·intro y0 y1 y2 y3
   unfold crucibleref1_Words.j1
   repeat' first
   | (with_reducible exact ih0 _ _ _ _)
   | (with_reducible exact ih1 _ _ _ _)
   | (with_reducible exact ih2 _ _ _ _)
   | (with_reducible exact ih3 _ _ _ _ _)
   | (with_reducible exact ih4 _ _ _ _ _)
   | (with_reducible exact ih5 _ _ _ _ _)
   | (with_reducible exact ih6 _ _ _ _ _ _)
   | (with_reducible exact ih7 _ _ _ _ _ _)
   | (with_reducible exact ih8 _ _ _ _ _ _ _)
   | (with_reducible exact ih9 _ _ _ _ _)
   | (with_reducible exact ih10 _ _ _ _ _ _)
   | (with_reducible exact crucibleref1_NameMay.mono _ _)
   | (with_reducible exact crucibleref1_names.mono _ _)
   | (with_reducible exact crucibleref1_words.mono _ _)
   | (with_reducible exact LeO.refl _)
   | (with_reducible exact LeO.none _)
   | (with_reducible refine LeO.ite ?_ ?_)
   | (with_reducible refine LeO.bind ?_ (fun _ => ?_))
   | exact ih0 _ _ _ _
   | exact ih1 _ _ _ _
   | exact ih2 _ _ _ _
   | exact ih3 _ _ _ _ _
   | exact ih4 _ _ _ _ _
   | exact ih5 _ _ _ _ _
   | exact ih6 _ _ _ _ _ _
   | exact ih7 _ _ _ _ _ _
   | exact ih8 _ _ _ _ _ _ _
   | exact ih9 _ _ _ _ _
   | exact ih10 _ _ _ _ _ _
   | exact crucibleref1_NameMay.mono _ _
   | exact crucibleref1_names.mono _ _
   | exact crucibleref1_words.mono _ _
   | exact LeO.none _
   | refine LeO.ite ?_ ?_
   | refine LeO.bind ?_ (fun _ => ?_)
  ·intro y0 y1 y2 y3
   unfold crucibleref1_Words.j2
   repeat' first
   | (with_reducible exact ih0 _ _ _ _)
   | (with_reducible exact ih1 _ _ _ _)
   | (with_reducible exact ih2 _ _ _ _)
   | (with_reducible exact ih3 _ _ _ _ _)
   | (with_reducible exact ih4 _ _ _ _ _)
   | (with_reducible exact ih5 _ _ _ _ _)
   | (with_reducible exact ih6 _ _ _ _ _ _)
   | (with_reducible exact ih7 _ _ _ _ _ _)
   | (with_reducible exact ih8 _ _ _ _ _ _ _)
   | (with_reducible exact ih9 _ _ _ _ _)
   | (with_reducible exact ih10 _ _ _ _ _ _)
   | (with_reducible exact crucibleref1_NameMay.mono _ _)
   | (with_reducible exact crucibleref1_names.mono _ _)
   | (with_reducible exact crucibleref1_words.mono _ _)
   | (with_reducible exact LeO.refl _)
   | (with_reducible exact LeO.none _)
   | (with_reducible refine LeO.ite ?_ ?_)
   | (with_reducible refine LeO.bind ?_ (fun _ => ?_))
   | exact ih0 _ _ _ _
   | exact ih1 _ _ _ _
   | exact ih2 _ _ _ _
   | exact ih3 _ _ _ _ _
   | exact ih4 _ _ _ _ _
   | exact ih5 _ _ _ _ _
   | exact ih6 _ _ _ _ _ _
   | exact ih7 _ _ _ _ _ _
   | exact ih8 _ _ _ _ _ _ _
   | exact ih9 _ _ _ _ _
   | exact ih10 _ _ _ _ _ _
   | exact crucibleref1_NameMay.mono _ _
   | exact crucibleref1_names.mono _ _
   | exact crucibleref1_words.mono _ _
   | exact LeO.none _
   | refine LeO.ite ?_ ?_
   | refine LeO.bind ?_ (fun _ => ?_)
  ·intro y0 y1 y2 y3 y4
   unfold crucibleref1_Words.j3
   repeat' first
   | (with_reducible exact ih0 _ _ _ _)
   | (with_reducible exact ih1 _ _ _ _)
   | (with_reducible exact ih2 _ _ _ _)
   | (with_reducible exact ih3 _ _ _ _ _)
   | (with_reducible exact ih4 _ _ _ _ _)
   | (with_reducible exact ih5 _ _ _ _ _)
   | (with_reducible exact ih6 _ _ _ _ _ _)
   | (with_reducible exact ih7 _ _ _ _ _ _)
   | (with_reducible exact ih8 _ _ _ _ _ _ _)
   | (with_reducible exact ih9 _ _ _ _ _)
   | (with_reducible exact ih10 _ _ _ _ _ _)
   | (with_reducible exact crucibleref1_NameMay.mono _ _)
   | (with_reducible exact crucibleref1_names.mono _ _)
   | (with_reducible exact crucibleref1_words.mono _ _)
   | (with_reducible exact LeO.refl _)
   | (with_reducible exact LeO.none _)
   | (with_reducible refine LeO.ite ?_ ?_)
   | (with_reducible refine LeO.bind ?_ (fun _ => ?_))
   | exact ih0 _ _ _ _
   | exact ih1 _ _ _ _
   | exact ih2 _ _ _ _
   | exact ih3 _ _ _ _ _
   | exact ih4 _ _ _ _ _
   | exact ih5 _ _ _ _ _
   | exact ih6 _ _ _ _ _ _
   | exact ih7 _ _ _ _ _ _
   | exact ih8 _ _ _ _ _ _ _
   | exact ih9 _ _ _ _ _
   | exact ih10 _ _ _ _ _ _
   | exact crucibleref1_NameMay.mono _ _
   | exact crucibleref1_names.mono _ _
   | exact crucibleref1_words.mono _ _
   | exact LeO.none _
   | refine LeO.ite ?_ ?_
   | refine LeO.bind ?_ (fun _ => ?_)
  ·intro y0 y1 y2 y3 y4
   unfold crucibleref1_Words.j4
   repeat' first
   | (with_reducible exact ih0 _ _ _ _)
   | (with_reducible exact ih1 _ _ _ _)
   | (with_reducible exact ih2 _ _ _ _)
   | (with_reducible exact ih3 _ _ _ _ _)
   | (with_reducible exact ih4 _ _ _ _ _)
   | (with_reducible exact ih5 _ _ _ _ _)
   | (with_reducible exact ih6 _ _ _ _ _ _)
   | (with_reducible exact ih7 _ _ _ _ _ _)
   | (with_reducible exact ih8 _ _ _ _ _ _ _)
   | (with_reducible exact ih9 _ _ _ _ _)
   | (with_reducible exact ih10 _ _ _ _ _ _)
   | (with_reducible exact crucibleref1_NameMay.mono _ _)
   | (with_reducible exact crucibleref1_names.mono _ _)
   | (with_reducible exact crucibleref1_words.mono _ _)
   | (with_reducible exact LeO.refl _)
   | (with_reducible exact LeO.none _)
   | (with_reducible refine LeO.ite ?_ ?_)
   | (with_reducible refine LeO.bind ?_ (fun _ => ?_))
   | exact ih0 _ _ _ _
   | exact ih1 _ _ _ _
   | exact ih2 _ _ _ _
   | exact ih3 _ _ _ _ _
   | exact ih4 _ _ _ _ _
   | exact ih5 _ _ _ _ _
   | exact ih6 _ _ _ _ _ _
   | exact ih7 _ _ _ _ _ _
   | exact ih8 _ _ _ _ _ _ _
   | exact ih9 _ _ _ _ _
   | exact ih10 _ _ _ _ _ _
   | exact crucibleref1_NameMay.mono _ _
   | exact crucibleref1_names.mono _ _
   | exact crucibleref1_words.mono _ _
   | exact LeO.none _
   | refine LeO.ite ?_ ?_
   | refine LeO.bind ?_ (fun _ => ?_)
  ·intro y0 y1 y2 y3 y4
   unfold crucibleref1_Words.j7
   repeat' first
   | (with_reducible exact ih0 _ _ _ _)
   | (with_reducible exact ih1 _ _ _ _)
   | (with_reducible exact ih2 _ _ _ _)
   | (with_reducible exact ih3 _ _ _ _ _)
   | (with_reducible exact ih4 _ _ _ _ _)
   | (with_reducible exact ih5 _ _ _ _ _)
   | (with_reducible exact ih6 _ _ _ _ _ _)
   | (with_reducible exact ih7 _ _ _ _ _ _)
   | (with_reducible exact ih8 _ _ _ _ _ _ _)
   | (with_reducible exact ih9 _ _ _ _ _)
   | (with_reducible exact ih10 _ _ _ _ _ _)
   | (with_reducible exact crucibleref1_NameMay.mono _ _)
   | (with_reducible exact crucibleref1_names.mono _ _)
   | (with_reducible exact crucibleref1_words.mono _ _)
   | (with_reducible exact LeO.refl _)
   | (with_reducible exact LeO.none _)
   | (with_reducible refine LeO.ite ?_ ?_)
   | (with_reducible refine LeO.bind ?_ (fun _ => ?_))
   | exact ih0 _ _ _ _
   | exact ih1 _ _ _ _
   | exact ih2 _ _ _ _
   | exact ih3 _ _ _ _ _
   | exact ih4 _ _ _ _ _
   | exact ih5 _ _ _ _ _
   | exact ih6 _ _ _ _ _ _
   | exact ih7 _ _ _ _ _ _
   | exact ih8 _ _ _ _ _ _ _
   | exact ih9 _ _ _ _ _
   | exact ih10 _ _ _ _ _ _
   | exact crucibleref1_NameMay.mono _ _
   | exact crucibleref1_names.mono _ _
   | exact crucibleref1_words.mono _ _
   | exact LeO.none _
   | refine LeO.ite ?_ ?_
   | refine LeO.bind ?_ (fun _ => ?_)
  ·intro y0 y1 y2 y3 y4 y5
   unfold crucibleref1_Words.j8
   repeat' first
   | (with_reducible exact ih0 _ _ _ _)
   | (with_reducible exact ih1 _ _ _ _)
   | (with_reducible exact ih2 _ _ _ _)
   | (with_reducible exact ih3 _ _ _ _ _)
   | (with_reducible exact ih4 _ _ _ _ _)
   | (with_reducible exact ih5 _ _ _ _ _)
   | (with_reducible exact ih6 _ _ _ _ _ _)
   | (with_reducible exact ih7 _ _ _ _ _ _)
   | (with_reducible exact ih8 _ _ _ _ _ _ _)
   | (with_reducible exact ih9 _ _ _ _ _)
   | (with_reducible exact ih10 _ _ _ _ _ _)
   | (with_reducible exact crucibleref1_NameMay.mono _ _)
   | (with_reducible exact crucibleref1_names.mono _ _)
   | (with_reducible exact crucibleref1_words.mono _ _)
   | (with_reducible exact LeO.refl _)
   | (with_reducible exact LeO.none _)
   | (with_reducible refine LeO.ite ?_ ?_)
   | (with_reducible refine LeO.bind ?_ (fun _ => ?_))
   | exact ih0 _ _ _ _
   | exact ih1 _ _ _ _
   | exact ih2 _ _ _ _
   | exact ih3 _ _ _ _ _
   | exact ih4 _ _ _ _ _
   | exact ih5 _ _ _ _ _
   | exact ih6 _ _ _ _ _ _
   | exact ih7 _ _ _ _ _ _
   | exact ih8 _ _ _ _ _ _ _
   | exact ih9 _ _ _ _ _
   | exact ih10 _ _ _ _ _ _
   | exact crucibleref1_NameMay.mono _ _
   | exact crucibleref1_names.mono _ _
   | exact crucibleref1_words.mono _ _
   | exact LeO.none _
   | refine LeO.ite ?_ ?_
   | refine LeO.bind ?_ (fun _ => ?_)
  ·intro y0 y1 y2 y3 y4 y5
   unfold crucibleref1_Words.j9
   repeat' first
   | (with_reducible exact ih0 _ _ _ _)
   | (with_reducible exact ih1 _ _ _ _)
   | (with_reducible exact ih2 _ _ _ _)
   | (with_reducible exact ih3 _ _ _ _ _)
   | (with_reducible exact ih4 _ _ _ _ _)
   | (with_reducible exact ih5 _ _ _ _ _)
   | (with_reducible exact ih6 _ _ _ _ _ _)
   | (with_reducible exact ih7 _ _ _ _ _ _)
   | (with_reducible exact ih8 _ _ _ _ _ _ _)
   | (with_reducible exact ih9 _ _ _ _ _)
   | (with_reducible exact ih10 _ _ _ _ _ _)
   | (with_reducible exact crucibleref1_NameMay.mono _ _)
   | (with_reducible exact crucibleref1_names.mono _ _)
   | (with_reducible exact crucibleref1_words.mono _ _)
   | (with_reducible exact LeO.refl _)
   | (with_reducible exact LeO.none _)
   | (with_reducible refine LeO.ite ?_ ?_)
   | (with_reducible refine LeO.bind ?_ (fun _ => ?_))
   | exact ih0 _ _ _ _
   | exact ih1 _ _ _ _
   | exact ih2 _ _ _ _
   | exact ih3 _ _ _ _ _
   | exact ih4 _ _ _ _ _
   | exact ih5 _ _ _ _ _
   | exact ih6 _ _ _ _ _ _
   | exact ih7 _ _ _ _ _ _
   | exact ih8 _ _ _ _ _ _ _
   | exact ih9 _ _ _ _ _
   | exact ih10 _ _ _ _ _ _
   | exact crucibleref1_NameMay.mono _ _
   | exact crucibleref1_names.mono _ _
   | exact crucibleref1_words.mono _ _
   | exact LeO.none _
   | refine LeO.ite ?_ ?_
   | refine LeO.bind ?_ (fun _ => ?_)
  ·intro y0 y1 y2 y3 y4 y5 y6
   unfold crucibleref1_Words.j10
   repeat' first
   | (with_reducible exact ih0 _ _ _ _)
   | (with_reducible exact ih1 _ _ _ _)
   | (with_reducible exact ih2 _ _ _ _)
   | (with_reducible exact ih3 _ _ _ _ _)
   | (with_reducible exact ih4 _ _ _ _ _)
   | (with_reducible exact ih5 _ _ _ _ _)
   | (with_reducible exact ih6 _ _ _ _ _ _)
   | (with_reducible exact ih7 _ _ _ _ _ _)
   | (with_reducible exact ih8 _ _ _ _ _ _ _)
   | (with_reducible exact ih9 _ _ _ _ _)
   | (with_reducible exact ih10 _ _ _ _ _ _)
   | (with_reducible exact crucibleref1_NameMay.mono _ _)
   | (with_reducible exact crucibleref1_names.mono _ _)
   | (with_reducible exact crucibleref1_words.mono _ _)
   | (with_reducible exact LeO.refl _)
   | (with_reducible exact LeO.none _)
   | (with_reducible refine LeO.ite ?_ ?_)
   | (with_reducible refine LeO.bind ?_ (fun _ => ?_))
   | exact ih0 _ _ _ _
   | exact ih1 _ _ _ _
   | exact ih2 _ _ _ _
   | exact ih3 _ _ _ _ _
   | exact ih4 _ _ _ _ _
   | exact ih5 _ _ _ _ _
   | exact ih6 _ _ _ _ _ _
   | exact ih7 _ _ _ _ _ _
   | exact ih8 _ _ _ _ _ _ _
   | exact ih9 _ _ _ _ _
   | exact ih10 _ _ _ _ _ _
   | exact crucibleref1_NameMay.mono _ _
   | exact crucibleref1_names.mono _ _
   | exact crucibleref1_words.mono _ _
   | exact LeO.none _
   | refine LeO.ite ?_ ?_
   | refine LeO.bind ?_ (fun _ => ?_)
  ·intro y0 y1 y2 y3 y4
   unfold crucibleref1_Words.j5
   repeat' first
   | (with_reducible exact ih0 _ _ _ _)
   | (with_reducible exact ih1 _ _ _ _)
   | (with_reducible exact ih2 _ _ _ _)
   | (with_reducible exact ih3 _ _ _ _ _)
   | (with_reducible exact ih4 _ _ _ _ _)
   | (with_reducible exact ih5 _ _ _ _ _)
   | (with_reducible exact ih6 _ _ _ _ _ _)
   | (with_reducible exact ih7 _ _ _ _ _ _)
   | (with_reducible exact ih8 _ _ _ _ _ _ _)
   | (with_reducible exact ih9 _ _ _ _ _)
   | (with_reducible exact ih10 _ _ _ _ _ _)
   | (with_reducible exact crucibleref1_NameMay.mono _ _)
   | (with_reducible exact crucibleref1_names.mono _ _)
   | (with_reducible exact crucibleref1_words.mono _ _)
   | (with_reducible exact LeO.refl _)
   | (with_reducible exact LeO.none _)
   | (with_reducible refine LeO.ite ?_ ?_)
   | (with_reducible refine LeO.bind ?_ (fun _ => ?_))
   | exact ih0 _ _ _ _
   | exact ih1 _ _ _ _
   | exact ih2 _ _ _ _
   | exact ih3 _ _ _ _ _
   | exact ih4 _ _ _ _ _
   | exact ih5 _ _ _ _ _
   | exact ih6 _ _ _ _ _ _
   | exact ih7 _ _ _ _ _ _
   | exact ih8 _ _ _ _ _ _ _
   | exact ih9 _ _ _ _ _
   | exact ih10 _ _ _ _ _ _
   | exact crucibleref1_NameMay.mono _ _
   | exact crucibleref1_names.mono _ _
   | exact crucibleref1_words.mono _ _
   | exact LeO.none _
   | refine LeO.ite ?_ ?_
   | refine LeO.bind ?_ (fun _ => ?_)
  ·intro y0 y1 y2 y3 y4 y5
   unfold crucibleref1_Words.j6
   repeat' first
   | (with_reducible exact ih0 _ _ _ _)
   | (with_reducible exact ih1 _ _ _ _)
   | (with_reducible exact ih2 _ _ _ _)
   | (with_reducible exact ih3 _ _ _ _ _)
   | (with_reducible exact ih4 _ _ _ _ _)
   | (with_reducible exact ih5 _ _ _ _ _)
   | (with_reducible exact ih6 _ _ _ _ _ _)
   | (with_reducible exact ih7 _ _ _ _ _ _)
   | (with_reducible exact ih8 _ _ _ _ _ _ _)
   | (with_reducible exact ih9 _ _ _ _ _)
   | (with_reducible exact ih10 _ _ _ _ _ _)
   | (with_reducible exact crucibleref1_NameMay.mono _ _)
   | (with_reducible exact crucibleref1_names.mono _ _)
   | (with_reducible exact crucibleref1_words.mono _ _)
   | (with_reducible exact LeO.refl _)
   | (with_reducible exact LeO.none _)
   | (with_reducible refine LeO.ite ?_ ?_)
   | (with_reducible refine LeO.bind ?_ (fun _ => ?_))
   | exact ih0 _ _ _ _
   | exact ih1 _ _ _ _
   | exact ih2 _ _ _ _
   | exact ih3 _ _ _ _ _
   | exact ih4 _ _ _ _ _
   | exact ih5 _ _ _ _ _
   | exact ih6 _ _ _ _ _ _
   | exact ih7 _ _ _ _ _ _
   | exact ih8 _ _ _ _ _ _ _
   | exact ih9 _ _ _ _ _
   | exact ih10 _ _ _ _ _ _
   | exact crucibleref1_NameMay.mono _ _
   | exact crucibleref1_names.mono _ _
   | exact crucibleref1_words.mono _ _
   | exact LeO.none _
   | refine LeO.ite ?_ ?_
   | refine LeO.bind ?_ (fun _ => ?_)
theorem crucibleref1_Words.mono : ∀ a0 k, LeO (crucibleref1_Words.f k a0) (crucibleref1_Words.f (k + 1) a0) := by
 intro a0 k
 obtain ⟨ih0, ih1, ih2, ih3, ih4, ih5, ih6, ih7, ih8, ih9, ih10⟩ := crucibleref1_Words.mono_l k
 unfold crucibleref1_Words.f
 repeat' first
   | (with_reducible exact ih0 _ _ _ _)
   | (with_reducible exact ih1 _ _ _ _)
   | (with_reducible exact ih2 _ _ _ _)
   | (with_reducible exact ih3 _ _ _ _ _)
   | (with_reducible exact ih4 _ _ _ _ _)
   | (with_reducible exact ih5 _ _ _ _ _)
   | (with_reducible exact ih6 _ _ _ _ _ _)
   | (with_reducible exact ih7 _ _ _ _ _ _)
   | (with_reducible exact ih8 _ _ _ _ _ _ _)
   | (with_reducible exact ih9 _ _ _ _ _)
   | (with_reducible exact ih10 _ _ _ _ _ _)
   | (with_reducible exact crucibleref1_NameMay.mono _ _)
   | (with_reducible exact crucibleref1_names.mono _ _)
   | (with_reducible exact crucibleref1_words.mono _ _)
   | (with_reducible exact LeO.refl _)
   | (with_reducible exact LeO.none _)
   | (with_reducible refine LeO.ite ?_ ?_)
   | (with_reducible refine LeO.bind ?_ (fun _ => ?_))
   | exact ih0 _ _ _ _
   | exact ih1 _ _ _ _
   | exact ih2 _ _ _ _
   | exact ih3 _ _ _ _ _
   | exact ih4 _ _ _ _ _
   | exact ih5 _ _ _ _ _
   | exact ih6 _ _ _ _ _ _
   | exact ih7 _ _ _ _ _ _
   | exact ih8 _ _ _ _ _ _ _
   | exact ih9 _ _ _ _ _
   | exact ih10 _ _ _ _ _ _
   | exact crucibleref1_NameMay.mono _ _
   | exact crucibleref1_names.mono _ _
   | exact crucibleref1_words.mono _ _
   | exact LeO.none _
   | refine LeO.ite ?_ ?_
   | refine LeO.bind ?_ (fun _ => ?_)
def crucibleref1_Words.T6 : Bool × List (List Nat × List Nat) := (true, [([], []), ([0], [0]), ([], []), ([], []), ([2, 3], [2, 3]), ([1, 4], [1, 4]), ([0, 1, 2, 3, 4, 5], []), ([6, 5, 5, 0, 1, 2, 3, 4, 5], [5, 6])])
def crucibleref1_Words.B6 : List Nat := [0, 1, 0, 0, 12, 31, 63, 127]
theorem crucibleref1_Words.tab6 : rtab .any (opsOf Tryd.f8 6) = crucibleref1_Words.T6 := by kernel_rfl
theorem crucibleref1_Words.bits6 : waitsOk crucibleref1_Words.T6.2 crucibleref1_Words.B6 = true := by kernel_rfl
def crucibleref1_Words.T10 : Bool × List (List Nat × List Nat) := (true, [([], []), ([0], [0]), ([], []), ([], []), ([2, 3], [2, 3]), ([1, 4], [1, 4]), ([0, 1, 2, 3, 4, 5], []), ([6, 5, 5, 0, 1, 2, 3, 4, 5], [5, 6])])
def crucibleref1_Words.B10 : List Nat := [0, 1, 0, 0, 12, 31, 63, 127]
theorem crucibleref1_Words.tab10 : rtab .any (opsOf Tryd.f8 10) = crucibleref1_Words.T10 := by kernel_rfl
theorem crucibleref1_Words.bits10 : waitsOk crucibleref1_Words.T10.2 crucibleref1_Words.B10 = true := by kernel_rfl
def crucibleref1_Words.T16 : Bool × List (List Nat × List Nat) := (true, [([], []), ([0], [0]), ([], []), ([], []), ([3], [3]), ([2, 4], [2, 4]), ([1, 5], [1, 5]), ([0, 1, 2, 3, 4, 5, 6], []), ([7, 6, 6, 0, 1, 2, 3, 4, 5, 6], [6, 7])])
def crucibleref1_Words.B16 : List Nat := [0, 1, 0, 0, 8, 28, 63, 127, 255]
theorem crucibleref1_Words.tab16 : rtab .any (opsOf Tryd.f8 16) = crucibleref1_Words.T16 := by kernel_rfl
theorem crucibleref1_Words.bits16 : waitsOk crucibleref1_Words.T16.2 crucibleref1_Words.B16 = true := by kernel_rfl
def crucibleref1_Words.T22 : Bool × List (List Nat × List Nat) := (true, [([], []), ([0], [0]), ([], []), ([], []), ([3], [3]), ([2, 4], [2, 4]), ([1, 5], [1, 5]), ([0, 1, 2, 3, 4, 5, 6], []), ([7, 6, 6, 0, 1, 2, 3, 4, 5, 6], [6, 7])])
def crucibleref1_Words.B22 : List Nat := [0, 1, 0, 0, 8, 28, 63, 127, 255]
theorem crucibleref1_Words.tab22 : rtab .any (opsOf Tryd.f8 22) = crucibleref1_Words.T22 := by kernel_rfl
theorem crucibleref1_Words.bits22 : waitsOk crucibleref1_Words.T22.2 crucibleref1_Words.B22 = true := by kernel_rfl
end Go.Proofs.YtnlipeiamnknbaaDoor.A
end
