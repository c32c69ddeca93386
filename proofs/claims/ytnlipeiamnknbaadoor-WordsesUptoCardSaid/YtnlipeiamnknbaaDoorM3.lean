-- Texts of this session, put together (wip/tools/merge.py).
import Derived.Test.YtnlipeiamnknbaaDoorM1
import Derived.Test.YtnlipeiamnknbaaDoorM2
section
namespace Go.Proofs.YtnlipeiamnknbaaDoor.A
open Go.RowKit Go.Proofs.YtnlipeiamnknbaaDoorW.PrintWords Go.Proofs.YtnlipeiamnknbaaDoorW.PrintLast Go.Proofs.YtnlipeiamnknbaaDoorW.PrintMore Go.Proofs.YtnlipeiamnknbaaDoorW.Hand
attribute [local go_sem] max2_int min2_int max_two min_two max_three min_three max_four min_four   -- for this text's walks alone
set_option linter.unusedVariables false
set_option linter.unusedSimpArgs false

set_option maxHeartbeats 8000000 in
set_option maxRecDepth 100000 in
theorem crucibleref1_Words.calls (k : Nat) (a0 : ByteArray) (r1 : List ByteArray) (r2 : ByteArray) (r3 : List ByteArray) (r4 : List ByteArray) (r5 : List ByteArray) (r6 : Int) (w : World) (h : crucibleref1_Words.f k a0 = some (r1, r2, r3, r4, r5, r6)) :
  Calls Tryd.prog 8 #[.string a0] w fun e w' => ∃ v0_ v2_ v3_ v4_ : Value, e = .returned (.tuple #[.agg #[v0_, .string r2, v2_, v3_, v4_], .int .i64 r6]) ∧ Kd.R Kd.string 9 w' w.heap.size (fun k_ => some k_ ≠ (v2_ : Value).ownBlock ∧ some k_ ≠ (v3_ : Value).ownBlock ∧ some k_ ≠ (v4_ : Value).ownBlock) v0_ r1 ∧ Kd.R Kd.string 9 w' w.heap.size (fun k_ => some k_ ≠ (v0_ : Value).ownBlock ∧ some k_ ≠ (v3_ : Value).ownBlock ∧ some k_ ≠ (v4_ : Value).ownBlock) v2_ r3 ∧ Kd.R Kd.string 9 w' w.heap.size (fun k_ => some k_ ≠ (v0_ : Value).ownBlock ∧ some k_ ≠ (v2_ : Value).ownBlock ∧ some k_ ≠ (v4_ : Value).ownBlock) v3_ r4 ∧ Kd.R Kd.string 9 w' w.heap.size (fun k_ => some k_ ≠ (v0_ : Value).ownBlock ∧ some k_ ≠ (v2_ : Value).ownBlock ∧ some k_ ≠ (v3_ : Value).ownBlock) v4_ r5 ∧ Below w.heap.size w w' := by
 have hu27 := Tryd.underlying27
 have HB := Aside0.mk (Below.refl w.heap.size w)
 have H : ((crucibleref1_words.f k a0).bind fun t119 => ((crucibleref1_names.f k t119).bind fun t123 => (if t123 < 1 then (crucibleref1_Words.j0 k t119 t123 true (⟨#[]⟩ : ByteArray)) else (if t123 > 8 then (crucibleref1_Words.j0 k t119 t123 true (⟨#[]⟩ : ByteArray)) else (if (wrap64 (t123 + 1)) ≥ (t119.length : Int) then (crucibleref1_Words.j0 k t119 t123 true (⟨#[]⟩ : ByteArray)) else (if 0 ≤ t123 then (if t123 < (t119.length : Int) then (if (rdOf ByteArray.empty t119 t123).toList = ([58] : List UInt8) then (if 0 ≤ (wrap64 (t123 + 1)) then (if (wrap64 (t123 + 1)) < (t119.length : Int) then ((crucibleref1_NameMay.f k (rdOf ByteArray.empty t119 (wrap64 (t123 + 1)))).bind fun t126 => (crucibleref1_Words.j0 k t119 t123 (!t126) (⟨#[]⟩ : ByteArray))) else (none)) else (none)) else (crucibleref1_Words.j0 k t119 t123 true (⟨#[]⟩ : ByteArray))) else (none)) else (none))))))) = some (r1, r2, r3, r4, r5, r6) := h
 clear h
 replace H := Option.bind_eq_some_iff.mp H
 obtain ⟨t119, A20, H⟩ := H
 replace H : ((crucibleref1_names.f k t119).bind fun t123 => (if t123 < 1 then (crucibleref1_Words.j0 k t119 t123 true (⟨#[]⟩ : ByteArray)) else (if t123 > 8 then (crucibleref1_Words.j0 k t119 t123 true (⟨#[]⟩ : ByteArray)) else (if (wrap64 (t123 + 1)) ≥ (t119.length : Int) then (crucibleref1_Words.j0 k t119 t123 true (⟨#[]⟩ : ByteArray)) else (if 0 ≤ t123 then (if t123 < (t119.length : Int) then (if (rdOf ByteArray.empty t119 t123).toList = ([58] : List UInt8) then (if 0 ≤ (wrap64 (t123 + 1)) then (if (wrap64 (t123 + 1)) < (t119.length : Int) then ((crucibleref1_NameMay.f k (rdOf ByteArray.empty t119 (wrap64 (t123 + 1)))).bind fun t126 => (crucibleref1_Words.j0 k t119 t123 (!t126) (⟨#[]⟩ : ByteArray))) else (none)) else (none)) else (crucibleref1_Words.j0 k t119 t123 true (⟨#[]⟩ : ByteArray))) else (none)) else (none)))))) = some (r1, r2, r3, r4, r5, r6) := H
 have A2 := Aside0.mk A20
 clear A20
 replace H := Option.bind_eq_some_iff.mp H
 obtain ⟨t123, A30, H⟩ := H
 replace H : (if t123 < 1 then (crucibleref1_Words.j0 k t119 t123 true (⟨#[]⟩ : ByteArray)) else (if t123 > 8 then (crucibleref1_Words.j0 k t119 t123 true (⟨#[]⟩ : ByteArray)) else (if (wrap64 (t123 + 1)) ≥ (t119.length : Int) then (crucibleref1_Words.j0 k t119 t123 true (⟨#[]⟩ : ByteArray)) else (if 0 ≤ t123 then (if t123 < (t119.length : Int) then (if (rdOf ByteArray.empty t119 t123).toList = ([58] : List UInt8) then (if 0 ≤ (wrap64 (t123 + 1)) then (if (wrap64 (t123 + 1)) < (t119.length : Int) then ((crucibleref1_NameMay.f k (rdOf ByteArray.empty t119 (wrap64 (t123 + 1)))).bind fun t126 => (crucibleref1_Words.j0 k t119 t123 (!t126) (⟨#[]⟩ : ByteArray))) else (none)) else (none)) else (crucibleref1_Words.j0 k t119 t123 true (⟨#[]⟩ : ByteArray))) else (none)) else (none))))) = some (r1, r2, r3, r4, r5, r6) := H
 have A3 := Aside0.mk A30
 clear A30
 have HC4 := Aside0.mk H
 clear H
 go_enter Tryd.func8, Tryd.ntmps8
 go_upto_region 4 with (first | ((with_reducible refine gate_dst (N := 2) rfl ?_); (try (refine gate_guard (by rfl) ?_; dsimp only)); refine box_event ?hg (N := 2) ?hd (cs := #[.slice none 0 0, .string (⟨#[]⟩ : ByteArray), .slice none 0 0, .slice none 0 0, .slice none 0 0]) (t := 27) ?hr ?_; (case hd => rfl); (case hg => rfl); (case hr => first | (go_simp; done) | (go_simp; rfl)); intro gb118 hg w5 hbox hb; have n0_ := Aside0.mk (below_step (by repeat (first | (with_reducible first | exact HB.out | apply below_alloc | apply pw_below_drewN | apply below_drew1) | exact HB.out)) hb); have n1_ := Aside0.mk (hbox); have n2_ := Aside0.mk ((by rw [hg]; exact (below_size (by repeat (first | (with_reducible first | exact HB.out | apply below_alloc | apply pw_below_drewN | apply below_drew1) | exact HB.out))) : w.heap.size ≤ gb118)); have n3_ := Aside0.mk ((by rw [hg]; exact (below_size (by repeat (first | (with_reducible first | exact HB.out | apply below_alloc | apply pw_below_drewN | apply below_drew1) | exact HB.out))) : w.heap.size ≤ gb118)); clear HB; have HB := n0_; have BK118 := n1_; have GW118 := n2_; have GE118 := n3_; clear n0_ n1_ n2_ n3_; clear hb hbox hg) | ((with_reducible refine gate_callee (f := 41) rfl ?_); refine goesL_ (some 8) rfl rfl Tryd.func41 (by kernel_rfl) rfl #[.string a0] rfl (by (try simp only [List.map_toArray, List.map_cons, List.map_nil]); first | done | rfl | (simp only [List.length_drop, List.length_take]; rfl)) ?_; (with_reducible refine (crucibleref1_words.calls k a0 t119 _ A2.out).mono ?_); rintro e w6 ⟨v120, rfl, ho0, hb⟩; refine ⟨_, rfl, ?_⟩; have n0_ := Aside0.mk (Kd.R_lower ho0 (below_size (by repeat (first | (with_reducible first | exact HB.out | apply below_alloc | apply pw_below_drewN | apply below_drew1 | refine below_set ?_ GE118.out) | exact HB.out)))); have n1_ := Aside0.mk (blk_below (g := gb118) (o := .cells #[.slice none 0 0, .string (⟨#[]⟩ : ByteArray), .slice none 0 0, .slice none 0 0, .slice none 0 0] 27 (0, 0)) (by (with_reducible repeat (first | refine blk_drewN ?_ _ | refine blk_drew ?_ | refine blk_alloc ?_ _)); exact BK118.out) hb); have n2_ := Aside0.mk (below_step (by repeat (first | (with_reducible first | exact HB.out | apply below_alloc | apply pw_below_drewN | apply below_drew1 | refine below_set ?_ GE118.out) | exact HB.out)) hb); clear BK118; clear HB; have HO121 := n0_; have BK118 := n1_; have HB := n2_; clear n0_ n1_ n2_; (try clear hb); (try clear hb2); (try clear hk); (try clear hi); (try clear ho0)) | ((with_reducible refine gate_dst (N := 5) rfl ?_); (try (refine gate_guard (by rfl) ?_; dsimp only)); refine box_event ?hg (N := 5) ?hd (cs := #[.slice none 0 0, .string (⟨#[]⟩ : ByteArray), .slice none 0 0, .slice none 0 0, .slice none 0 0]) (t := 27) ?hr ?_; (case hd => rfl); (case hg => rfl); (case hr => first | (go_simp; done) | (go_simp; rfl)); intro gb122 hg w7 hbox hb; have n0_ := Aside0.mk (Kd.R_below (by (with_reducible repeat (first | apply Kd.R_alloc | apply Kd.R_drewN | apply Kd.R_drew)); first | exact HO121.out | exact Kd.R_mono (HO121.out) (fun k_ hk => by simp only [slice_ownBlock] at hk ⊢; exact hk)) hb); have n1_ := Aside0.mk (blk_below (g := gb118) (o := .cells #[.slice none 0 0, .string (⟨#[]⟩ : ByteArray), .slice none 0 0, .slice none 0 0, .slice none 0 0] 27 (0, 0)) (by (with_reducible repeat (first | refine blk_drewN ?_ _ | refine blk_drew ?_ | refine blk_alloc ?_ _)); exact BK118.out) hb); have n2_ := Aside0.mk (below_step (by repeat (first | (with_reducible first | exact HB.out | apply below_alloc | apply pw_below_drewN | apply below_drew1 | refine below_set ?_ GE118.out) | exact HB.out)) hb); have n3_ := Aside0.mk (hbox); have n4_ := Aside0.mk ((by rw [hg]; exact (below_size (by repeat (first | (with_reducible first | exact HB.out | apply below_alloc | apply pw_below_drewN | apply below_drew1 | refine below_set ?_ GE118.out) | exact HB.out))) : w.heap.size ≤ gb122)); have n5_ := Aside0.mk ((by rw [hg]; exact (below_size (by repeat (first | (with_reducible first | exact HB.out | apply below_alloc | apply pw_below_drewN | apply below_drew1 | refine below_set ?_ GE118.out) | exact HB.out))) : w.heap.size ≤ gb122)); have n6_ := Aside0.mk ((by rw [hg]; exact Nat.ne_of_lt (blk_lt (g := gb118) (o := .cells #[.slice none 0 0, .string (⟨#[]⟩ : ByteArray), .slice none 0 0, .slice none 0 0, .slice none 0 0] 27 (0, 0)) (by (with_reducible repeat (first | refine blk_drewN ?_ _ | refine blk_drew ?_ | refine blk_alloc ?_ _)); exact BK118.out)) : gb118 ≠ gb122)); have n7_ := Aside0.mk ((by rw [hg]; exact Nat.ne_of_gt (blk_lt (g := gb118) (o := .cells #[.slice none 0 0, .string (⟨#[]⟩ : ByteArray), .slice none 0 0, .slice none 0 0, .slice none 0 0] 27 (0, 0)) (by (with_reducible repeat (first | refine blk_drewN ?_ _ | refine blk_drew ?_ | refine blk_alloc ?_ _)); exact BK118.out)) : gb122 ≠ gb118)); clear HO121; clear BK118; clear HB; have HO121 := n0_; have BK118 := n1_; have HB := n2_; have BK122 := n3_; have GW122 := n4_; have GE122 := n5_; have NB118_122 := n6_; have NB122_118 := n7_; clear n0_ n1_ n2_ n3_ n4_ n5_ n6_ n7_; clear hb hbox hg; obtain ⟨Ao8, co8, eo8⟩ := Kd.R_slice HO121.out; subst eo8) | ((with_reducible refine gate_callee (f := 42) rfl ?_); refine goesL_ (some 10) rfl rfl Tryd.func42 (by kernel_rfl) rfl #[.slice Ao8 t119.length co8] rfl (by (try simp only [List.map_toArray, List.map_cons, List.map_nil]); first | done | rfl | (simp only [List.length_drop, List.length_take]; rfl)) ?_; (with_reducible refine (crucibleref1_names.calls k _ _ t119 t123 _ ?side1 ?side2 A3.out).mono ?_); (case side1 => repeat (first | exact (Kd.R_reads' HO121.out).2.2 | (with_reducible refine Kd.C_alloc ?_ _) | (with_reducible refine Kd.C_drewN ?_ _) | (with_reducible refine Kd.C_drew ?_))); (case side2 => exact (Kd.R_reads' HO121.out).2.1); rintro e w' ⟨rfl, ⟨nd, rfl⟩⟩; refine ⟨_, rfl, ?_⟩))
 (try simp only [Act.put, List.setIfInBounds_toArray, List.set_cons_zero, List.set_cons_succ])
 go_cut [39] (fun v39 wc => ∃ (kq : Nat) (x39_3 : Bool), v39 = .bool x39_3 ∧ Aside0 (crucibleref1_Words.j0 kq t119 t123 x39_3 (⟨#[]⟩ : ByteArray) = some (r1, r2, r3, r4, r5, r6)) ∧ Aside0 (kq ≤ k) ∧ Aside0 (Kd.Q Kd.string 9 wc w.heap.size (fun _ => True) (.slice Ao8 t119.length co8) t119) ∧ Aside0 (wc.heap[gb118]? = some (.cells #[(.slice none 0 0), .string (⟨#[]⟩ : ByteArray), (.slice none 0 0), (.slice none 0 0), (.slice none 0 0)] 27 (0, 0))) ∧ Aside0 (wc.heap[gb122]? = some (.cells #[(.slice none 0 0), .string (⟨#[]⟩ : ByteArray), (.slice none 0 0), (.slice none 0 0), (.slice none 0 0)] 27 (0, 0))) ∧ Aside0 (Below w.heap.size w wc))
 case first => as_aux_lemma =>
  have H := HC4.out
  clear HC4
  by_cases c9 : t123 < 1
  ·rw [if_pos c9] at H
   have c9b0 : decide (t123 < 1) = true := decide_eq_true c9
   clear c9
   (first | rw [c9b0] | (simp only [i64_w, i32_w]; rw [c9b0]) | skip)
   have H' := Aside0.mk H
   clear H
   go_wp2
   go_meet
   case rel => exact ⟨_, (true), (by first | rfl | (simp; done) | (simp [*]; done)), H', ⟨by first | omega | exact Nat.le_refl _⟩, ⟨Kd.Q_of_R (by (with_reducible repeat (first | apply Kd.R_alloc | apply Kd.R_drewN | apply Kd.R_drew)); first | exact HO121.out | exact Kd.R_mono (HO121.out) (fun k_ hk => by simp only [slice_ownBlock] at hk ⊢; exact hk))⟩, ⟨by (with_reducible repeat (first | refine blk_drewN ?_ _ | refine blk_drew ?_ | refine blk_alloc ?_ _)); exact BK118.out⟩, ⟨by (with_reducible repeat (first | refine blk_drewN ?_ _ | refine blk_drew ?_ | refine blk_alloc ?_ _)); exact BK122.out⟩, ⟨by repeat (first | (with_reducible first | exact HB.out | apply below_alloc | apply pw_below_drewN | apply below_drew1 | refine below_set ?_ GE118.out | refine below_set ?_ GE122.out) | exact HB.out)⟩⟩
  rw [if_neg c9] at H
  have c9b0 : decide (t123 < 1) = false := decide_eq_false c9
  clear c9
  (first | rw [c9b0] | (simp only [i64_w, i32_w]; rw [c9b0]) | skip)
  by_cases c10 : t123 > 8
  ·rw [if_pos c10] at H
   have c10b0 : decide (8 < t123) = true := decide_eq_true c10
   clear c10
   have H' := Aside0.mk H
   clear H
   go_wp2
   go_meet
   case rel => exact ⟨_, (true), (by first | rfl | (simp; done) | (simp [*]; done)), H', ⟨by first | omega | exact Nat.le_refl _⟩, ⟨Kd.Q_of_R (by (with_reducible repeat (first | apply Kd.R_alloc | apply Kd.R_drewN | apply Kd.R_drew)); first | exact HO121.out | exact Kd.R_mono (HO121.out) (fun k_ hk => by simp only [slice_ownBlock] at hk ⊢; exact hk))⟩, ⟨by (with_reducible repeat (first | refine blk_drewN ?_ _ | refine blk_drew ?_ | refine blk_alloc ?_ _)); exact BK118.out⟩, ⟨by (with_reducible repeat (first | refine blk_drewN ?_ _ | refine blk_drew ?_ | refine blk_alloc ?_ _)); exact BK122.out⟩, ⟨by repeat (first | (with_reducible first | exact HB.out | apply below_alloc | apply pw_below_drewN | apply below_drew1 | refine below_set ?_ GE118.out | refine below_set ?_ GE122.out) | exact HB.out)⟩⟩
  rw [if_neg c10] at H
  have c10b0 : decide (8 < t123) = false := decide_eq_false c10
  clear c10
  by_cases c11 : (wrap64 (t123 + 1)) ≥ (t119.length : Int)
  ·rw [if_pos c11] at H
   have c11b0 : decide ((t119.length : Int) ≤ (wrap64 (t123 + 1))) = true := decide_eq_true c11
   clear c11
   have H' := Aside0.mk H
   clear H
   go_wp2
   go_meet
   case rel => exact ⟨_, (true), (by first | rfl | (simp; done) | (simp [*]; done)), H', ⟨by first | omega | exact Nat.le_refl _⟩, ⟨Kd.Q_of_R (by (with_reducible repeat (first | apply Kd.R_alloc | apply Kd.R_drewN | apply Kd.R_drew)); first | exact HO121.out | exact Kd.R_mono (HO121.out) (fun k_ hk => by simp only [slice_ownBlock] at hk ⊢; exact hk))⟩, ⟨by (with_reducible repeat (first | refine blk_drewN ?_ _ | refine blk_drew ?_ | refine blk_alloc ?_ _)); exact BK118.out⟩, ⟨by (with_reducible repeat (first | refine blk_drewN ?_ _ | refine blk_drew ?_ | refine blk_alloc ?_ _)); exact BK122.out⟩, ⟨by repeat (first | (with_reducible first | exact HB.out | apply below_alloc | apply pw_below_drewN | apply below_drew1 | refine below_set ?_ GE118.out | refine below_set ?_ GE122.out) | exact HB.out)⟩⟩
  rw [if_neg c11] at H
  have c11b0 : decide ((t119.length : Int) ≤ (wrap64 (t123 + 1))) = false := decide_eq_false c11
  clear c11
  by_cases c12 : 0 ≤ t123
  ·rw [if_pos c12] at H
   have c12b0 : decide (0 ≤ t123) = true := decide_eq_true c12
   clear c12
   by_cases c13 : t123 < (t119.length : Int)
   ·rw [if_pos c13] at H
    have c13b0 : decide (t123 < (t119.length : Int)) = true := decide_eq_true c13
    clear c13
    by_cases c14 : (rdOf ByteArray.empty t119 t123).toList = ([58] : List UInt8)
    ·rw [if_pos c14] at H
     have c14b0 : ((rdOf ByteArray.empty t119 t123).toList == ([58] : List UInt8)) = true := beq_iff_eq.mpr c14
     have c14b1 : ((rdOf ByteArray.empty t119 t123).toList != ([58] : List UInt8)) = false := bne_eq_false_iff_eq.mpr c14
     clear c14
     obtain ⟨ji15, hji15⟩ : ∃ j_ : Int, (wrap64 (t123 + 1)) = j_ := ⟨_, rfl⟩
     replace H : (if 0 ≤ (ji15) then (if (ji15) < (t119.length : Int) then ((crucibleref1_NameMay.f k (rdOf ByteArray.empty t119 (ji15))).bind fun t126 => (crucibleref1_Words.j0 k t119 t123 (!t126) (⟨#[]⟩ : ByteArray))) else (none)) else (none)) = some (r1, r2, r3, r4, r5, r6) := by first | (rw [hji15] at H; exact H) | (simp only [hji15] at H ⊢; exact H)
     (try rw [hji15] at c11b0)
     have hji15w : (IntKind.i64.wrap (t123 + 1)) = ji15 := (i64_w _).trans hji15
     by_cases c16 : 0 ≤ (ji15)
     ·rw [if_pos c16] at H
      have c16b0 : decide (0 ≤ (ji15)) = true := decide_eq_true c16
      clear c16
      by_cases c17 : (ji15) < (t119.length : Int)
      ·rw [if_pos c17] at H
       have c17b0 : decide ((ji15) < (t119.length : Int)) = true := decide_eq_true c17
       clear c17
       replace H := Option.bind_eq_some_iff.mp H
       obtain ⟨t126, A180, H⟩ := H
       replace H : (crucibleref1_Words.j0 k t119 t123 (!t126) (⟨#[]⟩ : ByteArray)) = some (r1, r2, r3, r4, r5, r6) := H
       have A18 := Aside0.mk A180
       clear A180
       have H' := Aside0.mk H
       clear H
       have p124 : 0 ≤ (t123 : Int) := of_decide_eq_true (by first | (with_reducible assumption) | assumption)
       have q124 : t123 < (t119.length : Int) := of_decide_eq_true (by first | (with_reducible assumption) | assumption)
       obtain ⟨ad124, e124, hx124_0⟩ := Kd.at_string (Kd.R_reads' HO121.out).2.2 t123 p124 q124
       cases e124
       replace p124 := eq_true p124
       replace q124 := eq_true q124
       have p125 : 0 ≤ ((ji15) : Int) := of_decide_eq_true (by first | (with_reducible assumption) | assumption)
       have q125 : (ji15) < (t119.length : Int) := of_decide_eq_true (by first | (with_reducible assumption) | assumption)
       obtain ⟨ad125, e125, hx125_0⟩ := Kd.at_string (Kd.R_reads' HO121.out).2.2 (ji15) p125 q125
       obtain rfl : ad124 = ad125 := (by injection e125)
       replace p125 := eq_true p125
       replace q125 := eq_true q125
       go_wp2_with (first | (go_at_call 13; (with_reducible refine (crucibleref1_NameMay.calls k (rdOf ByteArray.empty t119 (ji15)) t126 _ A18.out).mono ?_); rintro e w' ⟨rfl, ⟨nd, rfl⟩⟩))
       go_meet
       case rel => exact ⟨_, (!t126), (by first | rfl | (simp; done) | (simp [*]; done)), H', ⟨by first | omega | exact Nat.le_refl _⟩, ⟨Kd.Q_of_R (by (with_reducible repeat (first | apply Kd.R_alloc | apply Kd.R_drewN | apply Kd.R_drew)); first | exact HO121.out | exact Kd.R_mono (HO121.out) (fun k_ hk => by simp only [slice_ownBlock] at hk ⊢; exact hk))⟩, ⟨by (with_reducible repeat (first | refine blk_drewN ?_ _ | refine blk_drew ?_ | refine blk_alloc ?_ _)); exact BK118.out⟩, ⟨by (with_reducible repeat (first | refine blk_drewN ?_ _ | refine blk_drew ?_ | refine blk_alloc ?_ _)); exact BK122.out⟩, ⟨by repeat (first | (with_reducible first | exact HB.out | apply below_alloc | apply pw_below_drewN | apply below_drew1 | refine below_set ?_ GE118.out | refine below_set ?_ GE122.out) | exact HB.out)⟩⟩
      rw [if_neg c17] at H
      exact absurd H (by simp)
     rw [if_neg c16] at H
     exact absurd H (by simp)
    rw [if_neg c14] at H
    have c14b0 : ((rdOf ByteArray.empty t119 t123).toList == ([58] : List UInt8)) = false := beq_eq_false_iff_ne.mpr c14
    have c14b1 : ((rdOf ByteArray.empty t119 t123).toList != ([58] : List UInt8)) = true := bne_iff_ne.mpr c14
    have H' := Aside0.mk H
    clear H
    have p124 : 0 ≤ (t123 : Int) := of_decide_eq_true (by first | (with_reducible assumption) | assumption)
    have q124 : t123 < (t119.length : Int) := of_decide_eq_true (by first | (with_reducible assumption) | assumption)
    obtain ⟨ad124, e124, hx124_0⟩ := Kd.at_string (Kd.R_reads' HO121.out).2.2 t123 p124 q124
    cases e124
    replace p124 := eq_true p124
    replace q124 := eq_true q124
    go_wp2
    go_meet
    case rel => exact ⟨_, (true), (by first | rfl | (simp; done) | (simp [*]; done)), H', ⟨by first | omega | exact Nat.le_refl _⟩, ⟨Kd.Q_of_R (by (with_reducible repeat (first | apply Kd.R_alloc | apply Kd.R_drewN | apply Kd.R_drew)); first | exact HO121.out | exact Kd.R_mono (HO121.out) (fun k_ hk => by simp only [slice_ownBlock] at hk ⊢; exact hk))⟩, ⟨by (with_reducible repeat (first | refine blk_drewN ?_ _ | refine blk_drew ?_ | refine blk_alloc ?_ _)); exact BK118.out⟩, ⟨by (with_reducible repeat (first | refine blk_drewN ?_ _ | refine blk_drew ?_ | refine blk_alloc ?_ _)); exact BK122.out⟩, ⟨by repeat (first | (with_reducible first | exact HB.out | apply below_alloc | apply pw_below_drewN | apply below_drew1 | refine below_set ?_ GE118.out | refine below_set ?_ GE122.out) | exact HB.out)⟩⟩
   rw [if_neg c13] at H
   exact absurd H (by simp)
  rw [if_neg c12] at H
  exact absurd H (by simp)
 as_aux_lemma =>
 clear HC4
 try clear c1
 try clear p1
 try clear q1
 try clear hx1
 try clear p2
 try clear c4
 try clear p6
 try clear c8
 try clear c9
 try clear c9b0
 try clear c10
 try clear c10b0
 try clear c11
 try clear c11b0
 try clear c12
 try clear c12b0
 try clear p12
 try clear q12
 try clear hx12
 try clear c13
 try clear c13b0
 try clear c14
 try clear c14b0
 try clear c14b1
 try clear c16
 try clear c16b0
 try clear c17
 try clear c17b0
 try clear hx124_0
 try clear hx125_0
 try clear p124
 try clear p125
 try clear q124
 try clear q125
 obtain ⟨kq, x39_3, rfl, HA, HJ3, HO_4, BK118, BK122, HB⟩ := hcut
 cases kq with
 | zero => exact absurd HA.out (by simp [crucibleref1_Words.j0])
 | succ kj3 =>
  have H := HA.out
  clear HA
  simp only [crucibleref1_Words.j0] at H
  by_cases c19 : x39_3 = true
  ·subst c19
   have H1 : (some (([] : List ByteArray), (⟨#[]⟩ : ByteArray), ([] : List ByteArray), ([] : List ByteArray), ([] : List ByteArray), 700)) = some (r1, r2, r3, r4, r5, r6) := by rw [if_pos rfl] at H; exact H
   clear H
   have H := H1
   clear H1
   simp only [Option.some.injEq, Prod.mk.injEq] at H
   obtain ⟨rfl, rfl, rfl, rfl, rfl, rfl⟩ := H
   have hnb20 := NB118_122.out
   have hnc20 := NB122_118.out
   have hcz21_0 : wc.cell? ⟨gb118, 0, none⟩ = some (.slice none 0 0) := (blk_cell BK118.out 0).trans rfl
   have hcz21_1 : wc.cell? ⟨gb118, 1, none⟩ = some (.string (⟨#[]⟩ : ByteArray)) := (blk_cell BK118.out 1).trans rfl
   have hcz21_2 : wc.cell? ⟨gb118, 2, none⟩ = some (.slice none 0 0) := (blk_cell BK118.out 2).trans rfl
   have hcz21_3 : wc.cell? ⟨gb118, 3, none⟩ = some (.slice none 0 0) := (blk_cell BK118.out 3).trans rfl
   have hcz21_4 : wc.cell? ⟨gb118, 4, none⟩ = some (.slice none 0 0) := (blk_cell BK118.out 4).trans rfl
   have hfz21_0 := blk_frozen BK118.out 0
   have hfz21_1 := blk_frozen BK118.out 1
   have hfz21_2 := blk_frozen BK118.out 2
   have hfz21_3 := blk_frozen BK118.out 3
   have hfz21_4 := blk_frozen BK118.out 4
   go_wp2
   refine bodyPost_ret (results_ct rfl _ _ gb118 27 #[.slice none 0 0, .string (⟨#[]⟩ : ByteArray), .slice none 0 0, .slice none 0 0, .slice none 0 0] (0, 0) _ rfl (by (with_reducible repeat (first | refine blk_drewN ?_ _ | refine blk_drew ?_ | refine blk_alloc ?_ _)); refine blk_put (cs := #[.slice none 0 0, .string (⟨#[]⟩ : ByteArray), .slice none 0 0, .slice none 0 0, .slice none 0 0]) ?_ 4 _ rfl; (with_reducible repeat (first | refine blk_drewN ?_ _ | refine blk_drew ?_ | refine blk_alloc ?_ _)); refine blk_put (cs := #[.slice none 0 0, .string (⟨#[]⟩ : ByteArray), .slice none 0 0, .slice none 0 0, .slice none 0 0]) ?_ 3 _ rfl; (with_reducible repeat (first | refine blk_drewN ?_ _ | refine blk_drew ?_ | refine blk_alloc ?_ _)); refine blk_put (cs := #[.slice none 0 0, .string (⟨#[]⟩ : ByteArray), .slice none 0 0, .slice none 0 0, .slice none 0 0]) ?_ 2 _ rfl; (with_reducible repeat (first | refine blk_drewN ?_ _ | refine blk_drew ?_ | refine blk_alloc ?_ _)); refine blk_put (cs := #[.slice none 0 0, .string (⟨#[]⟩ : ByteArray), .slice none 0 0, .slice none 0 0, .slice none 0 0]) ?_ 1 _ rfl; (with_reducible repeat (first | refine blk_drewN ?_ _ | refine blk_drew ?_ | refine blk_alloc ?_ _)); refine blk_put (cs := #[.slice none 0 0, .string (⟨#[]⟩ : ByteArray), .slice none 0 0, .slice none 0 0, .slice none 0 0]) ?_ 0 _ rfl; (with_reducible repeat (first | refine blk_drewN ?_ _ | refine blk_drew ?_ | refine blk_alloc ?_ _)); exact BK118.out) Tryd.underlying27 rfl (by kernel_rfl)) rfl ?_
   exact ⟨_, _, _, _, by first | rfl | (simp [errW_none, errW_some] <;> rfl) | (simp [*, errW_none, errW_some] <;> rfl), by first | exact Kd.R_nil _ _ _ _ _ | exact Kd.N_nil _ _ _ _ _ | exact Kd.V_nil _ _ _ _ _ | exact Kd.Q_nil _ _ _ _ _ | exact Kd.S_nil _ _ _ _ _, by first | exact Kd.R_nil _ _ _ _ _ | exact Kd.N_nil _ _ _ _ _ | exact Kd.V_nil _ _ _ _ _ | exact Kd.Q_nil _ _ _ _ _ | exact Kd.S_nil _ _ _ _ _, by first | exact Kd.R_nil _ _ _ _ _ | exact Kd.N_nil _ _ _ _ _ | exact Kd.V_nil _ _ _ _ _ | exact Kd.Q_nil _ _ _ _ _ | exact Kd.S_nil _ _ _ _ _, by first | exact Kd.R_nil _ _ _ _ _ | exact Kd.N_nil _ _ _ _ _ | exact Kd.V_nil _ _ _ _ _ | exact Kd.Q_nil _ _ _ _ _ | exact Kd.S_nil _ _ _ _ _, by repeat (first | (with_reducible first | exact HB.out | apply below_alloc | apply pw_below_drewN | apply below_drew1 | refine below_set ?_ GE118.out | refine below_set ?_ GE122.out) | exact HB.out)⟩
  replace c19 := Bool.eq_false_iff.mpr c19
  subst c19
  have H1 : (if 0 ≤ t123 then (if t123 ≤ (t119.length : Int) then ((some (t119.take (t123 : Int).toNat : List ByteArray)).bind fun y127 => (if ([] : List ByteArray).length + y127.length < 8796093022208 then (crucibleref1_Words.j1 kj3 t119 t123 (([] : List ByteArray) ++ y127) (⟨#[]⟩ : ByteArray)) else (none))) else (none)) else (none)) = some (r1, r2, r3, r4, r5, r6) := by rw [if_neg (show ¬ (false = true) by decide)] at H; exact H
  clear H
  have H := H1
  clear H1
  have HC22 := Aside0.mk H
  clear H
  go_upto_region 6 with (fail)
  go_cut [] (fun wc => ∃ (kq : Nat) (x123000_21 : List ByteArray) (u123000 : Value), Aside0 (crucibleref1_Words.j1 kq t119 t123 x123000_21 (⟨#[]⟩ : ByteArray) = some (r1, r2, r3, r4, r5, r6)) ∧ Aside0 (kq ≤ kj3) ∧ Aside0 (Kd.Q Kd.string 9 wc w.heap.size (fun k_ => some k_ ≠ (u123000 : Value).ownBlock) (.slice Ao8 t119.length co8) t119) ∧ Aside0 (Kd.R Kd.string 9 wc w.heap.size (fun k_ => some k_ ≠ ((.slice Ao8 t119.length co8) : Value).ownBlock) u123000 x123000_21) ∧ Aside0 (wc.heap[gb118]? = some (.cells #[(.slice none 0 0), .string (⟨#[]⟩ : ByteArray), (.slice none 0 0), (.slice none 0 0), (.slice none 0 0)] 27 (0, 0))) ∧ Aside0 (wc.heap[gb122]? = some (.cells #[u123000, .string (⟨#[]⟩ : ByteArray), (.slice none 0 0), (.slice none 0 0), (.slice none 0 0)] 27 (0, 0))) ∧ Aside0 (Below w.heap.size w wc))
  case first => as_aux_lemma =>
   have H := HC22.out
   clear HC22
   by_cases c23 : 0 ≤ t123
   ·rw [if_pos c23] at H
    have c23b0 := eq_true c23
    have c23b1 : decide (0 ≤ t123) = true := decide_eq_true c23
    clear c23
    by_cases c24 : t123 ≤ (t119.length : Int)
    ·rw [if_pos c24] at H
     have c24b0 := eq_true c24
     have c24b1 : decide (t123 ≤ (t119.length : Int)) = true := decide_eq_true c24
     clear c24
     obtain ⟨y127, hy127⟩ : ∃ y_ : List ByteArray, y_ = (t119.take (t123 : Int).toNat) := ⟨_, rfl⟩
     replace H : (if ([] : List ByteArray).length + y127.length < 8796093022208 then (crucibleref1_Words.j1 kj3 t119 t123 (([] : List ByteArray) ++ y127) (⟨#[]⟩ : ByteArray)) else (none)) = some (r1, r2, r3, r4, r5, r6) := by first | (rw [hy127]; with_reducible exact H) | (have H2_ := (Option.bind_some _ _).symm.trans H; rw [hy127]; with_reducible exact H2_) | (have H2_ := (Option.bind_some _ _).symm.trans H; with_reducible exact H2_) | with_reducible exact H | (rw [hy127]; exact H) | exact H
     have Ny127 := Aside0.mk hy127
     clear hy127
     by_cases c25 : ([] : List ByteArray).length + y127.length < 8796093022208
     ·rw [if_pos c25] at H
      have LMc25 := Aside0.mk c25
      clear c25
      obtain ⟨y131, hy131⟩ : ∃ y_ : List ByteArray, y_ = (([] : List ByteArray) ++ y127) := ⟨_, rfl⟩
      replace H : (crucibleref1_Words.j1 kj3 t119 t123 y131 (⟨#[]⟩ : ByteArray)) = some (r1, r2, r3, r4, r5, r6) := by first | (rw [hy131]; with_reducible exact H) | (have H2_ := (Option.bind_some _ _).symm.trans H; rw [hy131]; with_reducible exact H2_) | (have H2_ := (Option.bind_some _ _).symm.trans H; with_reducible exact H2_) | with_reducible exact H | (rw [hy131]; exact H) | exact H
      have Ny131 := Aside0.mk hy131
      clear hy131
      have H' := Aside0.mk H
      clear H
      try go_wp2
      (try (rw [drewN_self wc]; generalize hq_ : World.drewN wc _ = wc; have n0_ : Aside0 (Kd.Q Kd.string 9 wc w.heap.size (fun _ => True) (.slice Ao8 t119.length co8) t119) := ⟨by rw [← hq_]; exact (by (with_reducible repeat (first | apply Kd.Q_alloc | apply Kd.Q_drewN | apply Kd.Q_drew)); first | exact HO_4.out | exact Kd.Q_mono (HO_4.out) (fun k_ hk => by simp only [slice_ownBlock] at hk ⊢; exact hk))⟩; have n1_ : Aside0 (wc.heap[gb118]? = some (.cells #[.slice none 0 0, .string (⟨#[]⟩ : ByteArray), .slice none 0 0, .slice none 0 0, .slice none 0 0] 27 (0, 0))) := ⟨by rw [← hq_]; exact (by (with_reducible repeat (first | refine blk_drewN ?_ _ | refine blk_drew ?_ | refine blk_alloc ?_ _)); exact BK118.out)⟩; have n2_ : Aside0 (wc.heap[gb122]? = some (.cells #[.slice none 0 0, .string (⟨#[]⟩ : ByteArray), .slice none 0 0, .slice none 0 0, .slice none 0 0] 27 (0, 0))) := ⟨by rw [← hq_]; exact (by (with_reducible repeat (first | refine blk_drewN ?_ _ | refine blk_drew ?_ | refine blk_alloc ?_ _)); exact BK122.out)⟩; have n3_ : Aside0 (Below w.heap.size w wc) := ⟨by rw [← hq_]; exact (by repeat (first | (with_reducible first | exact HB.out | apply below_alloc | apply pw_below_drewN | apply below_drew1 | refine below_set ?_ GE118.out | refine below_set ?_ GE122.out) | exact HB.out))⟩; clear HO_4 BK118 BK122 HB hq_; have HO_4 := n0_; have BK118 := n1_; have BK122 := n2_; have HB := n3_; clear n0_ n1_ n2_ n3_))
      have n0_ := Aside0.mk (Kd.Q_drew HO_4.out)
      have n1_ := Aside0.mk (blk_drew BK118.out)
      have n2_ := Aside0.mk (blk_drew BK122.out)
      have n3_ := Aside0.mk (below_drew1 HB.out)
      clear HO_4 BK118 BK122 HB
      have HO_4 := n0_
      have BK118 := n1_
      have BK122 := n2_
      have HB := n3_
      clear n0_ n1_ n2_ n3_
      have q27 : (t123 : Int) ≤ ((t119.length : Int) : Int) := of_decide_eq_true (by first | (with_reducible assumption) | assumption)
      obtain ⟨i027, hi027, _, hsz27, _⟩ := info_parts info9
      have hroom27 : t119.length ≤ co8 := (Kd.Q_reads' HO_4.out).2.1
      have hC27 : Kd.C Kd.string _ Ao8 t119.length t119 := (Kd.Q_reads' HO_4.out).2.2
      have hcut27 := cut_to (P := Tryd.prog) 22 9 .i64 Tryd.underlying22 hi027 Ao8 t119.length co8 t123 (of_decide_eq_true (by first | (with_reducible assumption) | assumption)) q27 hroom27
      have hr27 := Kd.C_take (m := (t123 : Int).toNat) hC27 (by omega)
      have hy27 : y127.length = (t123 : Int).toNat := (by rw [Ny127.out, List.length_take]; omega)
      rw [← Ny127.out] at hr27
      rw [← hy27] at hcut27
      have HR130 := Aside0.mk hr27
      have HC130 := Aside0.mk (show y127.length ≤ co8 from by omega)
      clear hr27 hC27 hroom27 hi027 hsz27
      have KY27 := Aside0.mk hy27
      clear hy27
      have KL27 := Aside0.mk (show (t123 : Int).toNat ≤ t119.length from by omega)
      replace q27 := eq_true q27
      refine start_ (n := 8) (S := fun w' => w'.cell? ⟨gb122, 0, none⟩ = some (.slice none 0 0) ∧ w'.cell? ⟨gb122, 1, none⟩ = some (.string (⟨#[]⟩ : ByteArray)) ∧ w'.cell? ⟨gb122, 2, none⟩ = some (.slice none 0 0) ∧ w'.cell? ⟨gb122, 3, none⟩ = some (.slice none 0 0) ∧ w'.cell? ⟨gb122, 4, none⟩ = some (.slice none 0 0)) (ds := [7]) #[false, false, false, false, false, false, false, false] (by kernel_rfl) rfl rfl ⟨(blk_cell BK122.out 0).trans rfl, (blk_cell BK122.out 1).trans rfl, (blk_cell BK122.out 2).trans rfl, (blk_cell BK122.out 3).trans rfl, (blk_cell BK122.out 4).trans rfl⟩ (fun hHeld => ?_); refine with_tabW crucibleref1_Words.tab6 crucibleref1_Words.bits6 (fun HT_ HW_ => ?_)
      generalize wc.drew = w26 at HO_4 BK118 BK122 HB HR130 hHeld ⊢
      refine pure_ (i := 0) (N := some 41) (v := ?_) (a' := ?_) #[true, false, false, false, false, false, false, false] rfl rfl (any_of HT_.out (by kernel_rfl)) (fun _ _ _ h => h) (Or.inl ⟨by rfl, ?_⟩) ?_ ?_
      rotate_left
      ·intro w'
       go_simp
       with_reducible rfl
      rotate_left
      ·simp only [Act.put, List.setIfInBounds_toArray, List.set_cons_zero, List.set_cons_succ, i64_w, i32_w]
       rfl
      refine pure_ (i := 2) (N := some 43) (v := ?_) (a' := ?_) #[true, false, true, false, false, false, false, false] rfl rfl (any_of HT_.out (by kernel_rfl)) (fun _ _ _ h => h) (Or.inl ⟨by rfl, ?_⟩) ?_ ?_
      rotate_left
      ·intro w'
       go_simp
       with_reducible rfl
      rotate_left
      ·simp only [Act.put, List.setIfInBounds_toArray, List.set_cons_zero, List.set_cons_succ, i64_w, i32_w]
       rfl
      refine pure_ (i := 3) (N := some 44) (v := ?_) (a' := ?_) #[true, false, true, true, false, false, false, false] rfl rfl (any_of HT_.out (by kernel_rfl)) (fun _ _ _ h => h) (Or.inl ⟨by rfl, ?_⟩) ?_ ?_
      rotate_left
      ·intro w'
       go_simp
       with_reducible rfl
      rotate_left
      ·simp only [Act.put, List.setIfInBounds_toArray, List.set_cons_zero, List.set_cons_succ, i64_w, i32_w]
       rfl
      refine pure_ (i := 4) (N := some 45) (v := ?_) (a' := ?_) #[true, false, true, true, true, false, false, false] rfl rfl (any_of HT_.out (by kernel_rfl)) (fun _ _ _ h => h) (Or.inl ⟨by rfl, ?_⟩) ?_ ?_
      rotate_left
      ·intro w'
       go_simp
       with_reducible rfl
      rotate_left
      ·simp only [Act.put, List.setIfInBounds_toArray, List.set_cons_zero, List.set_cons_succ, i64_w, i32_w]
       rfl
      refine take_ (i := 1) (N := some 42) (v := ?_) (a' := ?_) #[true, true, true, true, true, false, false, false] rfl rfl (take_ofW HT_.out HW_.out (by kernel_rfl)) (fun _ _ _ h => h) (Or.inl ⟨by rfl, ?_⟩) hHeld ?_ ?_
      rotate_left
      ·rintro w' ⟨s0, s1, s2, s3, s4⟩
       go_simp
       with_reducible rfl
      rotate_left
      ·simp only [Act.put, List.setIfInBounds_toArray, List.set_cons_zero, List.set_cons_succ, i64_w, i32_w]
       rfl
      refine one_ (i := 5) (N := some 46) #[true, true, true, true, true, true, false, false] rfl rfl (one_of HT_.out (by kernel_rfl)) (by decide) (fun K hK => ?_)
      refine Kd.R_append_rows_step Kd.string (w0 := w) w.heap.size (by rfl) (.tmp 42) (.tmp 45) 22 9 (.string ⟨#[]⟩) 16 rfl Tryd.underlying22 info9 rfl (by decide) (by omega) (.slice none 0 0) ([] : List ByteArray) y127 _ _ _ (fun k_ => some k_ ≠ (.slice Ao8 t119.length co8 : Value).ownBlock) (fun _ => False) rfl rfl ?aO ?aR (fun _ _ h => h) (fun _ h => h.elim) ?aF ?aB ?aS ?aL ?_
      (case aR => repeat (first | exact (by repeat (first | (with_reducible exact HR130.out) | (with_reducible refine Kd.C_alloc ?_ _) | (with_reducible refine Kd.C_drewN ?_ _) | (with_reducible refine Kd.C_drew ?_) | exact HR130.out)) | (with_reducible refine Kd.C_alloc ?_ _) | (with_reducible refine Kd.C_drewN ?_ _) | (with_reducible refine Kd.C_drew ?_)))
      (case aB => exact (by repeat (first | (with_reducible first | exact HB.out | apply below_alloc | apply pw_below_drewN | apply below_drew1 | refine below_set ?_ GE118.out | refine below_set ?_ GE122.out) | exact HB.out)))
      (case aF => exact (fun k_ hk => Kd.fresh' (Kd.Q_lt (by (with_reducible repeat (first | apply Kd.Q_alloc | apply Kd.Q_drewN | apply Kd.Q_drew)); first | exact HO_4.out | exact Kd.Q_mono (HO_4.out) (fun k_ hk => by simp only [slice_ownBlock] at hk ⊢; exact hk))) k_ hk))
      (case aO => exact ((Kd.R_nil _ _ _ _ (fun k_ => some k_ ≠ (.slice Ao8 t119.length co8 : Value).ownBlock))))
      (case aS => exact (below_size (by repeat (first | (with_reducible first | exact HB.out | apply below_alloc | apply pw_below_drewN | apply below_drew1 | refine below_set ?_ GE118.out | refine below_set ?_ GE122.out) | exact HB.out))))
      (case aL => have := LMc25.out; omega)
      intro v132 w28 ho hb hg hat
      rw [← Ny131.out] at ho
      have n0_ := Aside0.mk (Kd.Q_after (Kd.Q_apart_nil (by (with_reducible repeat (first | apply Kd.Q_alloc | apply Kd.Q_drewN | apply Kd.Q_drew)); first | exact HO_4.out | exact Kd.Q_mono (HO_4.out) (fun k_ hk => by simp only [slice_ownBlock] at hk ⊢; exact hk))) hg hat)
      have n1_ := Aside0.mk (blk_grown (g := gb118) (o := .cells #[.slice none 0 0, .string (⟨#[]⟩ : ByteArray), .slice none 0 0, .slice none 0 0, .slice none 0 0] 27 (0, 0)) (by (with_reducible repeat (first | refine blk_drewN ?_ _ | refine blk_drew ?_ | refine blk_alloc ?_ _)); exact BK118.out) hg (by simp [Value.ownBlock]))
      have n2_ := Aside0.mk (blk_grown (g := gb122) (o := .cells #[.slice none 0 0, .string (⟨#[]⟩ : ByteArray), .slice none 0 0, .slice none 0 0, .slice none 0 0] 27 (0, 0)) (by (with_reducible repeat (first | refine blk_drewN ?_ _ | refine blk_drew ?_ | refine blk_alloc ?_ _)); exact BK122.out) hg (by simp [Value.ownBlock]))
      have n3_ := Aside0.mk (hb)
      have n4_ := Aside0.mk ((show Kd.C Kd.string w28 Ao8 y127.length y127 from by rw [Ny127.out]; exact Kd.C_take (m := (t123 : Int).toNat) ((Kd.Q_reads' (Kd.Q_after (Kd.Q_apart_nil (by (with_reducible repeat (first | apply Kd.Q_alloc | apply Kd.Q_drewN | apply Kd.Q_drew)); first | exact HO_4.out | exact Kd.Q_mono (HO_4.out) (fun k_ hk => by simp only [slice_ownBlock] at hk ⊢; exact hk))) hg hat)).2.2) KL27.out))
      have n5_ := Aside0.mk (ho)
      clear HO_4 BK118 BK122 HB HR130
      have HO_4 := n0_
      have BK118 := n1_
      have BK122 := n2_
      have HB := n3_
      have HR130 := n4_
      have HO133 := n5_
      clear n0_ n1_ n2_ n3_ n4_ n5_ ho hb hg hat
      obtain ⟨Ao29, co29, eo29⟩ := Kd.R_slice HO133.out
      (first | subst eo29 | (injection eo29 with f1_ f2_ f3_; have f4_ := f1_.symm; have f5_ := f3_.symm; clear f1_ f2_ f3_; subst f4_; subst f5_))
      refine hK.out _ _ ⟨(blk_cell BK122.out 0).trans rfl, (blk_cell BK122.out 1).trans rfl, (blk_cell BK122.out 2).trans rfl, (blk_cell BK122.out 3).trans rfl, (blk_cell BK122.out 4).trans rfl⟩ (fun hHeld => ?_)
      clear hK K
      refine norm_ (a' := ?_) ?_ ?_
      rotate_left
      ·show Act.put _ (some 46) _ = _
       simp only [Act.put, List.setIfInBounds_toArray, List.set_cons_zero, List.set_cons_succ, i64_w, i32_w]
       rfl
      refine pure_ (i := 6) (N := some 47) (v := ?_) (a' := ?_) #[true, true, true, true, true, true, true, false] rfl rfl (any_of HT_.out (by kernel_rfl)) (fun _ _ _ h => h) (Or.inl ⟨by rfl, ?_⟩) ?_ ?_
      rotate_left
      ·intro w'
       go_simp
       with_reducible rfl
      rotate_left
      ·simp only [Act.put, List.setIfInBounds_toArray, List.set_cons_zero, List.set_cons_succ, i64_w, i32_w]
       rfl
      refine last_ (i := 7) (N := none) #[true, true, true, true, true, true, true, true] rfl rfl (one_of HT_.out (by kernel_rfl)) (by decide) (fun K hK => ?_)
      have hs30 : w28.cell? ⟨gb122, 0, none⟩ = some (.slice none 0 0) := (blk_cell BK122.out 0).trans rfl
      have hfs30 := blk_frozen BK122.out 0
      have hns30_0 := NB118_122.out
      have hms30_0 := NB122_118.out
      refine skip_ (w1 := ?_) (by rfl) rfl ?_ ?_
      rotate_left
      ·go_simp
       rfl
      refine hK.out _ _ ?_
      clear hK K
      refine done_ (done_of HT_.out (by kernel_rfl)) ?_
      try go_wp2
      go_meet
      case rel => exact ⟨_, (y131), (.slice Ao29 y131.length co29), H', ⟨by have := HJ3.out; first | omega | exact Nat.le_refl _⟩, ⟨by (with_reducible repeat (first | apply Kd.Q_alloc | apply Kd.Q_drewN | apply Kd.Q_drew)); first | exact Kd.Q_mono (Kd.Q_far (p := ⟨gb122, 0, none⟩) (Kd.Q_types HO_4.out BK122.out (by decide)) (fun _ hk => hk.2) (.slice Ao29 y131.length co29)) (fun _ hk => hk.1.2) | exact Kd.Q_mono (Kd.Q_mono (Kd.Q_far (p := ⟨gb122, 0, none⟩) (Kd.Q_types HO_4.out BK122.out (by decide)) (fun _ hk => hk.2) (.slice Ao29 y131.length co29)) (fun _ hk => hk.1.2)) (fun k_ hk => by simp only [slice_ownBlock] at hk ⊢; exact hk)⟩, ⟨by (with_reducible repeat (first | apply Kd.R_alloc | apply Kd.R_drewN | apply Kd.R_drew)); first | exact Kd.R_mono (Kd.R_far (p := ⟨gb122, 0, none⟩) (Kd.R_types HO133.out BK122.out (by decide)) (fun _ hk => hk.2) (.slice Ao29 y131.length co29)) (fun _ hk => hk.1) | exact Kd.R_mono (Kd.R_mono (Kd.R_far (p := ⟨gb122, 0, none⟩) (Kd.R_types HO133.out BK122.out (by decide)) (fun _ hk => hk.2) (.slice Ao29 y131.length co29)) (fun _ hk => hk.1)) (fun k_ hk => by simp only [slice_ownBlock] at hk ⊢; exact hk)⟩, ⟨by (with_reducible repeat (first | refine blk_drewN ?_ _ | refine blk_drew ?_ | refine blk_alloc ?_ _)); refine blk_far ?_ NB118_122.out _; (with_reducible repeat (first | refine blk_drewN ?_ _ | refine blk_drew ?_ | refine blk_alloc ?_ _)); exact BK118.out⟩, ⟨by (with_reducible repeat (first | refine blk_drewN ?_ _ | refine blk_drew ?_ | refine blk_alloc ?_ _)); refine blk_put (cs := #[.slice none 0 0, .string (⟨#[]⟩ : ByteArray), .slice none 0 0, .slice none 0 0, .slice none 0 0]) ?_ 0 _ rfl; (with_reducible repeat (first | refine blk_drewN ?_ _ | refine blk_drew ?_ | refine blk_alloc ?_ _)); exact BK122.out⟩, ⟨by repeat (first | (with_reducible first | exact HB.out | apply below_alloc | apply pw_below_drewN | apply below_drew1 | refine below_set ?_ GE118.out | refine below_set ?_ GE122.out) | exact HB.out)⟩⟩
     rw [if_neg c25] at H
     exact absurd H (by simp)
    rw [if_neg c24] at H
    exact absurd H (by simp)
   rw [if_neg c23] at H
   exact absurd H (by simp)
  as_aux_lemma =>
  clear HC22
  try clear c1
  try clear p1
  try clear q1
  try clear hx1
  try clear c2
  try clear p2
  try clear q2
  try clear c4
  try clear p6
  try clear c8
  try clear c9
  try clear c9b0
  try clear c10
  try clear c10b0
  try clear c11
  try clear c11b0
  try clear c12
  try clear c12b0
  try clear p12
  try clear q12
  try clear hx12
  try clear c13
  try clear c13b0
  try clear c14
  try clear c14b0
  try clear c14b1
  try clear c16
  try clear c16b0
  try clear c17
  try clear c17b0
  try clear c19
  try clear c20
  try clear c23
  try clear c23b0
  try clear c23b1
  try clear c24
  try clear c24b0
  try clear c24b1
  try clear c25
  try clear q27
  try clear hcz21_0
  try clear hcz21_1
  try clear hcz21_2
  try clear hcz21_3
  try clear hcz21_4
  try clear hfz21_0
  try clear hfz21_1
  try clear hfz21_2
  try clear hfz21_3
  try clear hfz21_4
  try clear hx124_0
  try clear hx125_0
  try clear p1
  try clear p12
  try clear p124
  try clear p125
  try clear p2
  try clear p6
  try clear q1
  try clear q12
  try clear q124
  try clear q125
  try clear q27
  obtain ⟨kq, x123000_21, u123000, HA, HJ21, HO_4, HO_123000, BK118, BK122, HB⟩ := hcut
  cases kq with
  | zero => exact absurd HA.out (by simp [crucibleref1_Words.j1])
  | succ kj21 =>
   have H := HA.out
   clear HA
   simp only [crucibleref1_Words.j1] at H
   have HC31 := Aside0.mk H
   clear H
   go_upto_region 7 with (fail)
   go_cut [] (fun wc => ∃ (kq : Nat) (x123001_30 : ByteArray), Aside0 (crucibleref1_Words.j2 kq t119 t123 x123000_21 x123001_30 = some (r1, r2, r3, r4, r5, r6)) ∧ Aside0 (kq ≤ kj21) ∧ Aside0 (Kd.Q Kd.string 9 wc w.heap.size (fun k_ => some k_ ≠ (u123000 : Value).ownBlock) (.slice Ao8 t119.length co8) t119) ∧ Aside0 (Kd.R Kd.string 9 wc w.heap.size (fun k_ => some k_ ≠ ((.slice Ao8 t119.length co8) : Value).ownBlock) u123000 x123000_21) ∧ Aside0 (wc.heap[gb118]? = some (.cells #[(.slice none 0 0), .string (⟨#[]⟩ : ByteArray), (.slice none 0 0), (.slice none 0 0), (.slice none 0 0)] 27 (0, 0))) ∧ Aside0 (wc.heap[gb122]? = some (.cells #[u123000, .string x123001_30, (.slice none 0 0), (.slice none 0 0), (.slice none 0 0)] 27 (0, 0))) ∧ Aside0 (Below w.heap.size w wc))
   case first => as_aux_lemma =>
    have H := HC31.out
    clear HC31
    obtain ⟨ji32, hji32⟩ : ∃ j_ : Int, (wrap64 (t123 + 1)) = j_ := ⟨_, rfl⟩
    replace H : (if 0 ≤ (ji32) then (if (ji32) < (t119.length : Int) then (crucibleref1_Words.j2 kj21 t119 t123 x123000_21 (rdOf ByteArray.empty t119 (ji32))) else (none)) else (none)) = some (r1, r2, r3, r4, r5, r6) := by first | (rw [hji32] at H; exact H) | (simp only [hji32] at H ⊢; exact H)
    have hji32w : (IntKind.i64.wrap (t123 + 1)) = ji32 := (i64_w _).trans hji32
    by_cases c33 : 0 ≤ (ji32)
    ·rw [if_pos c33] at H
     have c33b0 : decide (0 ≤ (ji32)) = true := decide_eq_true c33
     clear c33
     (first | rw [c33b0] | (simp only [i64_w, i32_w]; rw [c33b0]) | skip)
     by_cases c34 : (ji32) < (t119.length : Int)
     ·rw [if_pos c34] at H
      have c34b0 : decide ((ji32) < (t119.length : Int)) = true := decide_eq_true c34
      clear c34
      have H' := Aside0.mk H
      clear H
      have p134 : 0 ≤ ((ji32) : Int) := of_decide_eq_true (by first | (with_reducible assumption) | assumption)
      have q134 : (ji32) < (t119.length : Int) := of_decide_eq_true (by first | (with_reducible assumption) | assumption)
      obtain ⟨ad134, e134, hx134_0⟩ := Kd.at_string (Kd.Q_reads' HO_4.out).2.2 (ji32) p134 q134
      cases e134
      replace p134 := eq_true p134
      replace q134 := eq_true q134
      have hnb35 := NB122_118.out
      have hnc35 := NB118_122.out
      have hcz36_0 : wc.cell? ⟨gb122, 0, none⟩ = some (u123000) := (blk_cell BK122.out 0).trans rfl
      have hcz36_1 : wc.cell? ⟨gb122, 1, none⟩ = some (.string (⟨#[]⟩ : ByteArray)) := (blk_cell BK122.out 1).trans rfl
      have hcz36_2 : wc.cell? ⟨gb122, 2, none⟩ = some (.slice none 0 0) := (blk_cell BK122.out 2).trans rfl
      have hcz36_3 : wc.cell? ⟨gb122, 3, none⟩ = some (.slice none 0 0) := (blk_cell BK122.out 3).trans rfl
      have hcz36_4 : wc.cell? ⟨gb122, 4, none⟩ = some (.slice none 0 0) := (blk_cell BK122.out 4).trans rfl
      have hfz36_0 := blk_frozen BK122.out 0
      have hfz36_1 := blk_frozen BK122.out 1
      have hfz36_2 := blk_frozen BK122.out 2
      have hfz36_3 := blk_frozen BK122.out 3
      have hfz36_4 := blk_frozen BK122.out 4
      go_wp2
      go_meet
      case rel => exact ⟨_, (rdOf ByteArray.empty t119 (ji32)), H', ⟨by have := HJ3.out; have := HJ21.out; first | omega | exact Nat.le_refl _⟩, ⟨by (with_reducible repeat (first | apply Kd.Q_alloc | apply Kd.Q_drewN | apply Kd.Q_drew)); first | exact Kd.Q_mono (Kd.Q_far (p := ⟨gb122, 1, none⟩) (Kd.Q_types HO_4.out BK122.out (by decide)) (fun _ hk => hk.2) (.string (rdOf ByteArray.empty t119 (ji32)))) (fun _ hk => hk.1) | exact Kd.Q_mono (Kd.Q_mono (Kd.Q_far (p := ⟨gb122, 1, none⟩) (Kd.Q_types HO_4.out BK122.out (by decide)) (fun _ hk => hk.2) (.string (rdOf ByteArray.empty t119 (ji32)))) (fun _ hk => hk.1)) (fun k_ hk => by simp only [slice_ownBlock] at hk ⊢; exact hk)⟩, ⟨by (with_reducible repeat (first | apply Kd.R_alloc | apply Kd.R_drewN | apply Kd.R_drew)); first | exact Kd.R_mono (Kd.R_far (p := ⟨gb122, 1, none⟩) (Kd.R_types HO_123000.out BK122.out (by decide)) (fun _ hk => hk.2) (.string (rdOf ByteArray.empty t119 (ji32)))) (fun _ hk => hk.1) | exact Kd.R_mono (Kd.R_mono (Kd.R_far (p := ⟨gb122, 1, none⟩) (Kd.R_types HO_123000.out BK122.out (by decide)) (fun _ hk => hk.2) (.string (rdOf ByteArray.empty t119 (ji32)))) (fun _ hk => hk.1)) (fun k_ hk => by simp only [slice_ownBlock] at hk ⊢; exact hk)⟩, ⟨by (with_reducible repeat (first | refine blk_drewN ?_ _ | refine blk_drew ?_ | refine blk_alloc ?_ _)); refine blk_far ?_ NB118_122.out _; (with_reducible repeat (first | refine blk_drewN ?_ _ | refine blk_drew ?_ | refine blk_alloc ?_ _)); exact BK118.out⟩, ⟨by (with_reducible repeat (first | refine blk_drewN ?_ _ | refine blk_drew ?_ | refine blk_alloc ?_ _)); refine blk_put (cs := #[u123000, .string (⟨#[]⟩ : ByteArray), .slice none 0 0, .slice none 0 0, .slice none 0 0]) ?_ 1 _ rfl; (with_reducible repeat (first | refine blk_drewN ?_ _ | refine blk_drew ?_ | refine blk_alloc ?_ _)); exact BK122.out⟩, ⟨by repeat (first | (with_reducible first | exact HB.out | apply below_alloc | apply pw_below_drewN | apply below_drew1 | refine below_set ?_ GE118.out | refine below_set ?_ GE122.out) | exact HB.out)⟩⟩
     rw [if_neg c34] at H
     exact absurd H (by simp)
    rw [if_neg c33] at H
    exact absurd H (by simp)
   as_aux_lemma =>
   clear HC31
   try clear c1
   try clear p1
   try clear q1
   try clear hx1
   try clear c2
   try clear p2
   try clear q2
   try clear c3
   try clear c4
   try clear p6
   try clear c8
   try clear c9
   try clear c9b0
   try clear c10
   try clear c10b0
   try clear c11
   try clear c11b0
   try clear c12
   try clear c12b0
   try clear p12
   try clear q12
   try clear hx12
   try clear c13
   try clear c13b0
   try clear p13
   try clear q13
   try clear hx13
   try clear c14
   try clear c14b0
   try clear c14b1
   try clear c16
   try clear c16b0
   try clear c17
   try clear c17b0
   try clear c19
   try clear c20
   try clear c23
   try clear c23b0
   try clear c23b1
   try clear c24
   try clear c24b0
   try clear c24b1
   try clear c25
   try clear q27
   try clear c33
   try clear c33b0
   try clear c34
   try clear c34b0
   try clear c35
   try clear hcz21_0
   try clear hcz21_1
   try clear hcz21_2
   try clear hcz21_3
   try clear hcz21_4
   try clear hcz36_0
   try clear hcz36_1
   try clear hcz36_2
   try clear hcz36_3
   try clear hcz36_4
   try clear hfz21_0
   try clear hfz21_1
   try clear hfz21_2
   try clear hfz21_3
   try clear hfz21_4
   try clear hfz36_0
   try clear hfz36_1
   try clear hfz36_2
   try clear hfz36_3
   try clear hfz36_4
   try clear hx124_0
   try clear hx125_0
   try clear hx134_0
   try clear p1
   try clear p12
   try clear p124
   try clear p125
   try clear p134
   try clear p2
   try clear p6
   try clear q1
   try clear q12
   try clear q124
   try clear q125
   try clear q134
   try clear q2
   try clear q27
   obtain ⟨kq, x123001_30, HA, HJ30, HO_4, HO_123000, BK118, BK122, HB⟩ := hcut
   cases kq with
   | zero => exact absurd HA.out (by simp [crucibleref1_Words.j2])
   | succ kj30 =>
    have H := HA.out
    clear HA
    simp only [crucibleref1_Words.j2] at H
    obtain ⟨ji37, hji37⟩ : ∃ j_ : Int, (wrap64 (t123 + 2)) = j_ := ⟨_, rfl⟩
    replace H : (if 0 ≤ (ji37) then (if (ji37) ≤ (t119.length : Int) then ((some (t119.drop ((ji37) : Int).toNat : List ByteArray)).bind fun y135 => ((crucibleref1_names.f kj30 y135).bind fun t138 => (if 0 ≤ t138 then (if t138 ≤ (y135.length : Int) then ((some (y135.take (t138 : Int).toNat : List ByteArray)).bind fun y139 => (if ([] : List ByteArray).length + y139.length < 8796093022208 then (crucibleref1_Words.j3 kj30 y135 t138 x123000_21 x123001_30 (([] : List ByteArray) ++ y139)) else (none))) else (none)) else (none)))) else (none)) else (none)) = some (r1, r2, r3, r4, r5, r6) := by first | (rw [hji37] at H; exact H) | (simp only [hji37] at H ⊢; exact H)
    have hji37w : (IntKind.i64.wrap (t123 + 2)) = ji37 := (i64_w _).trans hji37
    by_cases c38 : 0 ≤ (ji37)
    ·rw [if_pos c38] at H
     have c38b0 := eq_true c38
     have c38b1 : decide (0 ≤ (ji37)) = true := decide_eq_true c38
     clear c38
     by_cases c39 : (ji37) ≤ (t119.length : Int)
     ·rw [if_pos c39] at H
      have c39b0 := eq_true c39
      have c39b1 : decide ((ji37) ≤ (t119.length : Int)) = true := decide_eq_true c39
      clear c39
      obtain ⟨y135, hy135⟩ : ∃ y_ : List ByteArray, y_ = (t119.drop ((ji37) : Int).toNat) := ⟨_, rfl⟩
      replace H : ((crucibleref1_names.f kj30 y135).bind fun t138 => (if 0 ≤ t138 then (if t138 ≤ (y135.length : Int) then ((some (y135.take (t138 : Int).toNat : List ByteArray)).bind fun y139 => (if ([] : List ByteArray).length + y139.length < 8796093022208 then (crucibleref1_Words.j3 kj30 y135 t138 x123000_21 x123001_30 (([] : List ByteArray) ++ y139)) else (none))) else (none)) else (none))) = some (r1, r2, r3, r4, r5, r6) := by first | (rw [hy135]; with_reducible exact H) | (have H2_ := (Option.bind_some _ _).symm.trans H; rw [hy135]; with_reducible exact H2_) | (have H2_ := (Option.bind_some _ _).symm.trans H; with_reducible exact H2_) | with_reducible exact H | (rw [hy135]; exact H) | exact H
      have Ny135 := Aside0.mk hy135
      clear hy135
      replace H := Option.bind_eq_some_iff.mp H
      obtain ⟨t138, A400, H⟩ := H
      replace H : (if 0 ≤ t138 then (if t138 ≤ (y135.length : Int) then ((some (y135.take (t138 : Int).toNat : List ByteArray)).bind fun y139 => (if ([] : List ByteArray).length + y139.length < 8796093022208 then (crucibleref1_Words.j3 kj30 y135 t138 x123000_21 x123001_30 (([] : List ByteArray) ++ y139)) else (none))) else (none)) else (none)) = some (r1, r2, r3, r4, r5, r6) := H
      have A40 := Aside0.mk A400
      clear A400
      have HC41 := Aside0.mk H
      clear H
      have q42 : ((ji37) : Int) ≤ ((t119.length : Int) : Int) := of_decide_eq_true (by first | (with_reducible assumption) | assumption)
      obtain ⟨i042, hi042, _, hsz42, _⟩ := info_parts info9
      have hcut42 := cut_from (P := Tryd.prog) 22 9 .i64 Tryd.underlying22 hi042 1 hsz42 Ao8 t119.length co8 (ji37) (of_decide_eq_true (by first | (with_reducible assumption) | assumption)) q42
      have hr42 := Kd.Q_drop (k := ((ji37) : Int).toNat) HO_4.out (by omega)
      obtain ⟨A42, hA42⟩ : ∃ A1, A1 = (if co8 = ((ji37) : Int).toNat then Ao8 else (Ao8 : Option Addr).map (·.add (((ji37) : Int).toNat * 1))) := ⟨_, rfl⟩
      obtain ⟨c42, hc42⟩ : ∃ c1, c1 = co8 - ((ji37) : Int).toNat := ⟨_, rfl⟩
      have hy42 : y135.length = t119.length - ((ji37) : Int).toNat := (by rw [Ny135.out, List.length_drop])
      rw [← Ny135.out] at hr42
      rw [← hy42, ← hA42, ← hc42] at hcut42
      replace hr42 : Kd.Q Kd.string 9 wc w.heap.size (fun k_ => some k_ ≠ (u123000 : Value).ownBlock) (.slice A42 y135.length c42) y135 := (by rw [hA42, hc42, hy42]; exact hr42)
      have HE42 : Aside0 ((Value.slice A42 y135.length c42).ownBlock = (.slice Ao8 t119.length co8 : Value).ownBlock) := ⟨by rw [hA42]; split <;> (cases (Ao8 : Option Addr) <;> first | rfl | (simp [Value.ownBlock, add_block]; done))⟩
      clear hy42 hi042 hsz42 HO_4 hA42 hc42
      have HO137 := Aside0.mk hr42
      clear hr42
      replace q42 := eq_true q42
      have n_ := Aside0.mk (Kd.R_mono (ok' := fun k_ => some k_ ≠ (.slice A42 y135.length c42 : Value).ownBlock) HO_123000.out (fun k_ hk => (by rw [HE42.out]; exact hk)))
      clear HO_123000
      have HO_123000 := n_
      clear n_
      go_upto_region 10 with (first | ((with_reducible refine gate_callee (f := 42) rfl ?_); refine goesL_ (some 59) rfl rfl Tryd.func42 (by kernel_rfl) rfl #[.slice A42 y135.length c42] rfl (by (try simp only [List.map_toArray, List.map_cons, List.map_nil]); first | done | rfl | (simp only [List.length_drop, List.length_take]; rfl)) ?_; (with_reducible refine (crucibleref1_names.calls kj30 _ _ y135 t138 _ ?side1 ?side2 A40.out).mono ?_); (case side1 => repeat (first | exact (Kd.Q_reads' HO137.out).2.2 | (with_reducible refine Kd.C_alloc ?_ _) | (with_reducible refine Kd.C_drewN ?_ _) | (with_reducible refine Kd.C_drew ?_))); (case side2 => exact (Kd.Q_reads' HO137.out).2.1); rintro e w' ⟨rfl, ⟨nd, rfl⟩⟩; refine ⟨_, rfl, ?_⟩))
      (try simp only [Act.put, List.setIfInBounds_toArray, List.set_cons_zero, List.set_cons_succ])
      go_cut [] (fun wc => ∃ (kq : Nat) (x123002_40 : List ByteArray) (u123002 : Value), Aside0 (crucibleref1_Words.j3 kq y135 t138 x123000_21 x123001_30 x123002_40 = some (r1, r2, r3, r4, r5, r6)) ∧ Aside0 (kq ≤ kj30) ∧ Aside0 (Kd.Q Kd.string 9 wc w.heap.size (fun k_ => some k_ ≠ (u123000 : Value).ownBlock ∧ some k_ ≠ (u123002 : Value).ownBlock) (.slice A42 y135.length c42) y135) ∧ Aside0 (Kd.R Kd.string 9 wc w.heap.size (fun k_ => some k_ ≠ ((.slice A42 y135.length c42) : Value).ownBlock ∧ some k_ ≠ (u123002 : Value).ownBlock) u123000 x123000_21) ∧ Aside0 (Kd.R Kd.string 9 wc w.heap.size (fun k_ => some k_ ≠ ((.slice A42 y135.length c42) : Value).ownBlock ∧ some k_ ≠ (u123000 : Value).ownBlock) u123002 x123002_40) ∧ Aside0 (wc.heap[gb118]? = some (.cells #[(.slice none 0 0), .string (⟨#[]⟩ : ByteArray), (.slice none 0 0), (.slice none 0 0), (.slice none 0 0)] 27 (0, 0))) ∧ Aside0 (wc.heap[gb122]? = some (.cells #[u123000, .string x123001_30, u123002, (.slice none 0 0), (.slice none 0 0)] 27 (0, 0))) ∧ Aside0 (Below w.heap.size w wc))
      case first => as_aux_lemma =>
       have H := HC41.out
       clear HC41
       by_cases c43 : 0 ≤ t138
       ·rw [if_pos c43] at H
        have c43b0 := eq_true c43
        have c43b1 : decide (0 ≤ t138) = true := decide_eq_true c43
        clear c43
        by_cases c44 : t138 ≤ (y135.length : Int)
        ·rw [if_pos c44] at H
         have c44b0 := eq_true c44
         have c44b1 : decide (t138 ≤ (y135.length : Int)) = true := decide_eq_true c44
         clear c44
         obtain ⟨y139, hy139⟩ : ∃ y_ : List ByteArray, y_ = (y135.take (t138 : Int).toNat) := ⟨_, rfl⟩
         replace H : (if ([] : List ByteArray).length + y139.length < 8796093022208 then (crucibleref1_Words.j3 kj30 y135 t138 x123000_21 x123001_30 (([] : List ByteArray) ++ y139)) else (none)) = some (r1, r2, r3, r4, r5, r6) := by first | (rw [hy139]; with_reducible exact H) | (have H2_ := (Option.bind_some _ _).symm.trans H; rw [hy139]; with_reducible exact H2_) | (have H2_ := (Option.bind_some _ _).symm.trans H; with_reducible exact H2_) | with_reducible exact H | (rw [hy139]; exact H) | exact H
         have Ny139 := Aside0.mk hy139
         clear hy139
         by_cases c45 : ([] : List ByteArray).length + y139.length < 8796093022208
         ·rw [if_pos c45] at H
          have LMc45 := Aside0.mk c45
          clear c45
          obtain ⟨y143, hy143⟩ : ∃ y_ : List ByteArray, y_ = (([] : List ByteArray) ++ y139) := ⟨_, rfl⟩
          replace H : (crucibleref1_Words.j3 kj30 y135 t138 x123000_21 x123001_30 y143) = some (r1, r2, r3, r4, r5, r6) := by first | (rw [hy143]; with_reducible exact H) | (have H2_ := (Option.bind_some _ _).symm.trans H; rw [hy143]; with_reducible exact H2_) | (have H2_ := (Option.bind_some _ _).symm.trans H; with_reducible exact H2_) | with_reducible exact H | (rw [hy143]; exact H) | exact H
          have Ny143 := Aside0.mk hy143
          clear hy143
          have H' := Aside0.mk H
          clear H
          try go_wp2
          (try (rw [drewN_self wc]; generalize hq_ : World.drewN wc _ = wc; have n0_ : Aside0 (Kd.Q Kd.string 9 wc w.heap.size (fun k_ => some k_ ≠ (u123000 : Value).ownBlock) (.slice A42 y135.length c42) y135) := ⟨by rw [← hq_]; exact (by (with_reducible repeat (first | apply Kd.Q_alloc | apply Kd.Q_drewN | apply Kd.Q_drew)); first | exact HO137.out | exact Kd.Q_mono (HO137.out) (fun k_ hk => by simp only [slice_ownBlock] at hk ⊢; exact hk))⟩; have n1_ : Aside0 (Kd.R Kd.string 9 wc w.heap.size (fun k_ => some k_ ≠ (.slice A42 y135.length c42 : Value).ownBlock) u123000 x123000_21) := ⟨by rw [← hq_]; exact (by (with_reducible repeat (first | apply Kd.R_alloc | apply Kd.R_drewN | apply Kd.R_drew)); first | exact HO_123000.out | exact Kd.R_mono (HO_123000.out) (fun k_ hk => by simp only [slice_ownBlock] at hk ⊢; exact hk))⟩; have n2_ : Aside0 (wc.heap[gb118]? = some (.cells #[.slice none 0 0, .string (⟨#[]⟩ : ByteArray), .slice none 0 0, .slice none 0 0, .slice none 0 0] 27 (0, 0))) := ⟨by rw [← hq_]; exact (by (with_reducible repeat (first | refine blk_drewN ?_ _ | refine blk_drew ?_ | refine blk_alloc ?_ _)); exact BK118.out)⟩; have n3_ : Aside0 (wc.heap[gb122]? = some (.cells #[u123000, .string x123001_30, .slice none 0 0, .slice none 0 0, .slice none 0 0] 27 (0, 0))) := ⟨by rw [← hq_]; exact (by (with_reducible repeat (first | refine blk_drewN ?_ _ | refine blk_drew ?_ | refine blk_alloc ?_ _)); exact BK122.out)⟩; have n4_ : Aside0 (Below w.heap.size w wc) := ⟨by rw [← hq_]; exact (by repeat (first | (with_reducible first | exact HB.out | apply below_alloc | apply pw_below_drewN | apply below_drew1 | refine below_set ?_ GE118.out | refine below_set ?_ GE122.out) | exact HB.out))⟩; clear HO137 HO_123000 BK118 BK122 HB hq_; have HO137 := n0_; have HO_123000 := n1_; have BK118 := n2_; have BK122 := n3_; have HB := n4_; clear n0_ n1_ n2_ n3_ n4_))
          have n0_ := Aside0.mk (Kd.Q_drew HO137.out)
          have n1_ := Aside0.mk (Kd.R_drew HO_123000.out)
          have n2_ := Aside0.mk (blk_drew BK118.out)
          have n3_ := Aside0.mk (blk_drew BK122.out)
          have n4_ := Aside0.mk (below_drew1 HB.out)
          clear HO137 HO_123000 BK118 BK122 HB
          have HO137 := n0_
          have HO_123000 := n1_
          have BK118 := n2_
          have BK122 := n3_
          have HB := n4_
          clear n0_ n1_ n2_ n3_ n4_
          have q47 : (t138 : Int) ≤ ((y135.length : Int) : Int) := of_decide_eq_true (by first | (with_reducible assumption) | assumption)
          obtain ⟨i047, hi047, _, hsz47, _⟩ := info_parts info9
          have hroom47 : y135.length ≤ c42 := (Kd.Q_reads' HO137.out).2.1
          have hC47 : Kd.C Kd.string _ A42 y135.length y135 := (Kd.Q_reads' HO137.out).2.2
          have hcut47 := cut_to (P := Tryd.prog) 22 9 .i64 Tryd.underlying22 hi047 A42 y135.length c42 t138 (of_decide_eq_true (by first | (with_reducible assumption) | assumption)) q47 hroom47
          have hr47 := Kd.C_take (m := (t138 : Int).toNat) hC47 (by omega)
          have hy47 : y139.length = (t138 : Int).toNat := (by rw [Ny139.out, List.length_take]; omega)
          rw [← Ny139.out] at hr47
          rw [← hy47] at hcut47
          have HR142 := Aside0.mk hr47
          have HC142 := Aside0.mk (show y139.length ≤ c42 from by omega)
          clear hr47 hC47 hroom47 hi047 hsz47
          have KY47 := Aside0.mk hy47
          clear hy47
          have KL47 := Aside0.mk (show (t138 : Int).toNat ≤ y135.length from by omega)
          replace q47 := eq_true q47
          refine start_ (n := 8) (S := fun w' => w'.cell? ⟨gb122, 0, none⟩ = some (u123000) ∧ w'.cell? ⟨gb122, 1, none⟩ = some (.string x123001_30) ∧ w'.cell? ⟨gb122, 2, none⟩ = some (.slice none 0 0) ∧ w'.cell? ⟨gb122, 3, none⟩ = some (.slice none 0 0) ∧ w'.cell? ⟨gb122, 4, none⟩ = some (.slice none 0 0)) (ds := [7]) #[false, false, false, false, false, false, false, false] (by kernel_rfl) rfl rfl ⟨(blk_cell BK122.out 0).trans rfl, (blk_cell BK122.out 1).trans rfl, (blk_cell BK122.out 2).trans rfl, (blk_cell BK122.out 3).trans rfl, (blk_cell BK122.out 4).trans rfl⟩ (fun hHeld => ?_); refine with_tabW crucibleref1_Words.tab10 crucibleref1_Words.bits10 (fun HT_ HW_ => ?_)
          generalize wc.drew = w46 at HO137 HO_123000 BK118 BK122 HB HR142 hHeld ⊢
          refine pure_ (i := 0) (N := some 60) (v := ?_) (a' := ?_) #[true, false, false, false, false, false, false, false] rfl rfl (any_of HT_.out (by kernel_rfl)) (fun _ _ _ h => h) (Or.inl ⟨by rfl, ?_⟩) ?_ ?_
          rotate_left
          ·intro w'
           go_simp
           with_reducible rfl
          rotate_left
          ·simp only [Act.put, List.setIfInBounds_toArray, List.set_cons_zero, List.set_cons_succ, i64_w, i32_w]
           rfl
          refine pure_ (i := 2) (N := some 62) (v := ?_) (a' := ?_) #[true, false, true, false, false, false, false, false] rfl rfl (any_of HT_.out (by kernel_rfl)) (fun _ _ _ h => h) (Or.inl ⟨by rfl, ?_⟩) ?_ ?_
          rotate_left
          ·intro w'
           go_simp
           with_reducible rfl
          rotate_left
          ·simp only [Act.put, List.setIfInBounds_toArray, List.set_cons_zero, List.set_cons_succ, i64_w, i32_w]
           rfl
          refine pure_ (i := 3) (N := some 63) (v := ?_) (a' := ?_) #[true, false, true, true, false, false, false, false] rfl rfl (any_of HT_.out (by kernel_rfl)) (fun _ _ _ h => h) (Or.inl ⟨by rfl, ?_⟩) ?_ ?_
          rotate_left
          ·intro w'
           go_simp
           with_reducible rfl
          rotate_left
          ·simp only [Act.put, List.setIfInBounds_toArray, List.set_cons_zero, List.set_cons_succ, i64_w, i32_w]
           rfl
          refine pure_ (i := 4) (N := some 64) (v := ?_) (a' := ?_) #[true, false, true, true, true, false, false, false] rfl rfl (any_of HT_.out (by kernel_rfl)) (fun _ _ _ h => h) (Or.inl ⟨by rfl, ?_⟩) ?_ ?_
          rotate_left
          ·intro w'
           go_simp
           with_reducible rfl
          rotate_left
          ·simp only [Act.put, List.setIfInBounds_toArray, List.set_cons_zero, List.set_cons_succ, i64_w, i32_w]
           rfl
          refine take_ (i := 1) (N := some 61) (v := ?_) (a' := ?_) #[true, true, true, true, true, false, false, false] rfl rfl (take_ofW HT_.out HW_.out (by kernel_rfl)) (fun _ _ _ h => h) (Or.inl ⟨by rfl, ?_⟩) hHeld ?_ ?_
          rotate_left
          ·rintro w' ⟨s0, s1, s2, s3, s4⟩
           go_simp
           with_reducible rfl
          rotate_left
          ·simp only [Act.put, List.setIfInBounds_toArray, List.set_cons_zero, List.set_cons_succ, i64_w, i32_w]
           rfl
          refine one_ (i := 5) (N := some 65) #[true, true, true, true, true, true, false, false] rfl rfl (one_of HT_.out (by kernel_rfl)) (by decide) (fun K hK => ?_)
          refine Kd.R_append_rows_step Kd.string (w0 := w) w.heap.size (by rfl) (.tmp 61) (.tmp 64) 22 9 (.string ⟨#[]⟩) 16 rfl Tryd.underlying22 info9 rfl (by decide) (by omega) (.slice none 0 0) ([] : List ByteArray) y139 _ _ _ (fun k_ => some k_ ≠ (.slice A42 y135.length c42 : Value).ownBlock ∧ some k_ ≠ (u123000 : Value).ownBlock) (fun _ => False) rfl rfl ?aO ?aR (fun _ _ h => h) (fun _ h => h.elim) ?aF ?aB ?aS ?aL ?_
          (case aR => repeat (first | exact (by repeat (first | (with_reducible exact HR142.out) | (with_reducible refine Kd.C_alloc ?_ _) | (with_reducible refine Kd.C_drewN ?_ _) | (with_reducible refine Kd.C_drew ?_) | exact HR142.out)) | (with_reducible refine Kd.C_alloc ?_ _) | (with_reducible refine Kd.C_drewN ?_ _) | (with_reducible refine Kd.C_drew ?_)))
          (case aB => exact (by repeat (first | (with_reducible first | exact HB.out | apply below_alloc | apply pw_below_drewN | apply below_drew1 | refine below_set ?_ GE118.out | refine below_set ?_ GE122.out) | exact HB.out)))
          (case aF => exact (fun k_ hk => ⟨Kd.fresh' (Kd.Q_lt (by (with_reducible repeat (first | apply Kd.Q_alloc | apply Kd.Q_drewN | apply Kd.Q_drew)); first | exact HO137.out | exact Kd.Q_mono (HO137.out) (fun k_ hk => by simp only [slice_ownBlock] at hk ⊢; exact hk))) k_ hk, Kd.fresh' (Kd.R_lt (by (with_reducible repeat (first | apply Kd.R_alloc | apply Kd.R_drewN | apply Kd.R_drew)); first | exact HO_123000.out | exact Kd.R_mono (HO_123000.out) (fun k_ hk => by simp only [slice_ownBlock] at hk ⊢; exact hk))) k_ hk⟩))
          (case aO => exact ((Kd.R_nil _ _ _ _ (fun k_ => some k_ ≠ (.slice A42 y135.length c42 : Value).ownBlock ∧ some k_ ≠ (u123000 : Value).ownBlock))))
          (case aS => exact (below_size (by repeat (first | (with_reducible first | exact HB.out | apply below_alloc | apply pw_below_drewN | apply below_drew1 | refine below_set ?_ GE118.out | refine below_set ?_ GE122.out) | exact HB.out))))
          (case aL => have := LMc45.out; omega)
          intro v144 w48 ho hb hg hat
          rw [← Ny143.out] at ho
          have n0_ := Aside0.mk (Kd.Q_after (Kd.Q_apart_nil (by (with_reducible repeat (first | apply Kd.Q_alloc | apply Kd.Q_drewN | apply Kd.Q_drew)); first | exact HO137.out | exact Kd.Q_mono (HO137.out) (fun k_ hk => by simp only [slice_ownBlock] at hk ⊢; exact hk))) hg hat)
          have n1_ := Aside0.mk (Kd.R_after (Kd.R_apart_nil (by (with_reducible repeat (first | apply Kd.R_alloc | apply Kd.R_drewN | apply Kd.R_drew)); first | exact HO_123000.out | exact Kd.R_mono (HO_123000.out) (fun k_ hk => by simp only [slice_ownBlock] at hk ⊢; exact hk))) hg hat)
          have n2_ := Aside0.mk (blk_grown (g := gb118) (o := .cells #[.slice none 0 0, .string (⟨#[]⟩ : ByteArray), .slice none 0 0, .slice none 0 0, .slice none 0 0] 27 (0, 0)) (by (with_reducible repeat (first | refine blk_drewN ?_ _ | refine blk_drew ?_ | refine blk_alloc ?_ _)); exact BK118.out) hg (by simp [Value.ownBlock]))
          have n3_ := Aside0.mk (blk_grown (g := gb122) (o := .cells #[u123000, .string x123001_30, .slice none 0 0, .slice none 0 0, .slice none 0 0] 27 (0, 0)) (by (with_reducible repeat (first | refine blk_drewN ?_ _ | refine blk_drew ?_ | refine blk_alloc ?_ _)); exact BK122.out) hg (by simp [Value.ownBlock]))
          have n4_ := Aside0.mk (hb)
          have n5_ := Aside0.mk ((show Kd.C Kd.string w48 A42 y139.length y139 from by rw [Ny139.out]; exact Kd.C_take (m := (t138 : Int).toNat) ((Kd.Q_reads' (Kd.Q_after (Kd.Q_apart_nil (by (with_reducible repeat (first | apply Kd.Q_alloc | apply Kd.Q_drewN | apply Kd.Q_drew)); first | exact HO137.out | exact Kd.Q_mono (HO137.out) (fun k_ hk => by simp only [slice_ownBlock] at hk ⊢; exact hk))) hg hat)).2.2) KL47.out))
          have n6_ := Aside0.mk (ho)
          clear HO137 HO_123000 BK118 BK122 HB HR142
          have HO137 := n0_
          have HO_123000 := n1_
          have BK118 := n2_
          have BK122 := n3_
          have HB := n4_
          have HR142 := n5_
          have HO145 := n6_
          clear n0_ n1_ n2_ n3_ n4_ n5_ n6_ ho hb hg hat
          obtain ⟨Ao49, co49, eo49⟩ := Kd.R_slice HO145.out
          (first | subst eo49 | (injection eo49 with f1_ f2_ f3_; have f4_ := f1_.symm; have f5_ := f3_.symm; clear f1_ f2_ f3_; subst f4_; subst f5_))
          refine hK.out _ _ ⟨(blk_cell BK122.out 0).trans rfl, (blk_cell BK122.out 1).trans rfl, (blk_cell BK122.out 2).trans rfl, (blk_cell BK122.out 3).trans rfl, (blk_cell BK122.out 4).trans rfl⟩ (fun hHeld => ?_)
          clear hK K
          refine norm_ (a' := ?_) ?_ ?_
          rotate_left
          ·show Act.put _ (some 65) _ = _
           simp only [Act.put, List.setIfInBounds_toArray, List.set_cons_zero, List.set_cons_succ, i64_w, i32_w]
           rfl
          refine pure_ (i := 6) (N := some 66) (v := ?_) (a' := ?_) #[true, true, true, true, true, true, true, false] rfl rfl (any_of HT_.out (by kernel_rfl)) (fun _ _ _ h => h) (Or.inl ⟨by rfl, ?_⟩) ?_ ?_
          rotate_left
          ·intro w'
           go_simp
           with_reducible rfl
          rotate_left
          ·simp only [Act.put, List.setIfInBounds_toArray, List.set_cons_zero, List.set_cons_succ, i64_w, i32_w]
           rfl
          refine last_ (i := 7) (N := none) #[true, true, true, true, true, true, true, true] rfl rfl (one_of HT_.out (by kernel_rfl)) (by decide) (fun K hK => ?_)
          have hs50 : w48.cell? ⟨gb122, 2, none⟩ = some (.slice none 0 0) := (blk_cell BK122.out 2).trans rfl
          have hfs50 := blk_frozen BK122.out 2
          have hns50_0 := NB118_122.out
          have hms50_0 := NB122_118.out
          refine skip_ (w1 := ?_) (by rfl) rfl ?_ ?_
          rotate_left
          ·go_simp
           rfl
          refine hK.out _ _ ?_
          clear hK K
          refine done_ (done_of HT_.out (by kernel_rfl)) ?_
          try go_wp2
          go_meet
          case rel => exact ⟨_, (y143), (.slice Ao49 y143.length co49), H', ⟨by have := HJ3.out; have := HJ21.out; have := HJ30.out; first | omega | exact Nat.le_refl _⟩, ⟨by (with_reducible repeat (first | apply Kd.Q_alloc | apply Kd.Q_drewN | apply Kd.Q_drew)); first | exact Kd.Q_mono (Kd.Q_far (p := ⟨gb122, 2, none⟩) (Kd.Q_types HO137.out BK122.out (by decide)) (fun _ hk => hk.2) (.slice Ao49 y143.length co49)) (fun _ hk => ⟨hk.1.1, hk.1.2⟩) | exact Kd.Q_mono (Kd.Q_mono (Kd.Q_far (p := ⟨gb122, 2, none⟩) (Kd.Q_types HO137.out BK122.out (by decide)) (fun _ hk => hk.2) (.slice Ao49 y143.length co49)) (fun _ hk => ⟨hk.1.1, hk.1.2⟩)) (fun k_ hk => by simp only [slice_ownBlock] at hk ⊢; exact hk)⟩, ⟨by (with_reducible repeat (first | apply Kd.R_alloc | apply Kd.R_drewN | apply Kd.R_drew)); first | exact Kd.R_mono (Kd.R_far (p := ⟨gb122, 2, none⟩) (Kd.R_types HO_123000.out BK122.out (by decide)) (fun _ hk => hk.2) (.slice Ao49 y143.length co49)) (fun _ hk => ⟨hk.1.1, hk.1.2⟩) | exact Kd.R_mono (Kd.R_mono (Kd.R_far (p := ⟨gb122, 2, none⟩) (Kd.R_types HO_123000.out BK122.out (by decide)) (fun _ hk => hk.2) (.slice Ao49 y143.length co49)) (fun _ hk => ⟨hk.1.1, hk.1.2⟩)) (fun k_ hk => by simp only [slice_ownBlock] at hk ⊢; exact hk)⟩, ⟨by (with_reducible repeat (first | apply Kd.R_alloc | apply Kd.R_drewN | apply Kd.R_drew)); first | exact Kd.R_mono (Kd.R_far (p := ⟨gb122, 2, none⟩) (Kd.R_types HO145.out BK122.out (by decide)) (fun _ hk => hk.2) (.slice Ao49 y143.length co49)) (fun _ hk => ⟨hk.1.1, hk.1.2⟩) | exact Kd.R_mono (Kd.R_mono (Kd.R_far (p := ⟨gb122, 2, none⟩) (Kd.R_types HO145.out BK122.out (by decide)) (fun _ hk => hk.2) (.slice Ao49 y143.length co49)) (fun _ hk => ⟨hk.1.1, hk.1.2⟩)) (fun k_ hk => by simp only [slice_ownBlock] at hk ⊢; exact hk)⟩, ⟨by (with_reducible repeat (first | refine blk_drewN ?_ _ | refine blk_drew ?_ | refine blk_alloc ?_ _)); refine blk_far ?_ NB118_122.out _; (with_reducible repeat (first | refine blk_drewN ?_ _ | refine blk_drew ?_ | refine blk_alloc ?_ _)); exact BK118.out⟩, ⟨by (with_reducible repeat (first | refine blk_drewN ?_ _ | refine blk_drew ?_ | refine blk_alloc ?_ _)); refine blk_put (cs := #[u123000, .string x123001_30, .slice none 0 0, .slice none 0 0, .slice none 0 0]) ?_ 2 _ rfl; (with_reducible repeat (first | refine blk_drewN ?_ _ | refine blk_drew ?_ | refine blk_alloc ?_ _)); exact BK122.out⟩, ⟨by repeat (first | (with_reducible first | exact HB.out | apply below_alloc | apply pw_below_drewN | apply below_drew1 | refine below_set ?_ GE118.out | refine below_set ?_ GE122.out) | exact HB.out)⟩⟩
         rw [if_neg c45] at H
         exact absurd H (by simp)
        rw [if_neg c44] at H
        exact absurd H (by simp)
       rw [if_neg c43] at H
       exact absurd H (by simp)
      as_aux_lemma =>
      clear HC41
      try clear c1
      try clear p1
      try clear q1
      try clear hx1
      try clear c2
      try clear p2
      try clear q2
      try clear c3
      try clear c4
      try clear q4
      try clear p6
      try clear c8
      try clear c9
      try clear c9b0
      try clear c10
      try clear c10b0
      try clear c11
      try clear c11b0
      try clear c12
      try clear c12b0
      try clear p12
      try clear q12
      try clear hx12
      try clear c13
      try clear c13b0
      try clear p13
      try clear q13
      try clear hx13
      try clear c14
      try clear c14b0
      try clear c14b1
      try clear c16
      try clear c16b0
      try clear c17
      try clear c17b0
      try clear c19
      try clear c20
      try clear c23
      try clear c23b0
      try clear c23b1
      try clear c24
      try clear c24b0
      try clear c24b1
      try clear c25
      try clear q27
      try clear c33
      try clear c33b0
      try clear c34
      try clear c34b0
      try clear c35
      try clear c38
      try clear c38b0
      try clear c38b1
      try clear c39
      try clear c39b0
      try clear c39b1
      try clear c42
      try clear q42
      try clear c43
      try clear c43b0
      try clear c43b1
      try clear c44
      try clear c44b0
      try clear c44b1
      try clear c45
      try clear q47
      try clear hcz21_0
      try clear hcz21_1
      try clear hcz21_2
      try clear hcz21_3
      try clear hcz21_4
      try clear hcz36_0
      try clear hcz36_1
      try clear hcz36_2
      try clear hcz36_3
      try clear hcz36_4
      try clear hfz21_0
      try clear hfz21_1
      try clear hfz21_2
      try clear hfz21_3
      try clear hfz21_4
      try clear hfz36_0
      try clear hfz36_1
      try clear hfz36_2
      try clear hfz36_3
      try clear hfz36_4
      try clear hx124_0
      try clear hx125_0
      try clear hx134_0
      try clear p1
      try clear p12
      try clear p124
      try clear p125
      try clear p13
      try clear p134
      try clear p2
      try clear p6
      try clear q1
      try clear q12
      try clear q124
      try clear q125
      try clear q13
      try clear q134
      try clear q2
      try clear q27
      try clear q42
      try clear q47
      obtain ⟨kq, x123002_40, u123002, HA, HJ40, HO_4, HO_123000, HO_123002, BK118, BK122, HB⟩ := hcut
      cases kq with
      | zero => exact absurd HA.out (by simp [crucibleref1_Words.j3])
      | succ kj40 =>
       have H := HA.out
       clear HA
       simp only [crucibleref1_Words.j3] at H
       by_cases c51 : 0 ≤ t138
       ·rw [if_pos c51] at H
        have c51b0 := eq_true c51
        have c51b1 : decide (0 ≤ t138) = true := decide_eq_true c51
        clear c51
        by_cases c52 : t138 ≤ (y135.length : Int)
        ·rw [if_pos c52] at H
         have c52b0 := eq_true c52
         have c52b1 : decide (t138 ≤ (y135.length : Int)) = true := decide_eq_true c52
         clear c52
         obtain ⟨y146, hy146⟩ : ∃ y_ : List ByteArray, y_ = (y135.drop (t138 : Int).toNat) := ⟨_, rfl⟩
         replace H : (if (y146.length : Int) > 0 then (if 0 < (y146.length : Int) then (crucibleref1_Words.j4 kj40 y146 ((rdOf ByteArray.empty y146 0).toList == ([124] : List UInt8)) x123000_21 x123001_30 x123002_40) else (none)) else (crucibleref1_Words.j4 kj40 y146 false x123000_21 x123001_30 x123002_40)) = some (r1, r2, r3, r4, r5, r6) := by first | (rw [hy146]; with_reducible exact H) | (have H2_ := (Option.bind_some _ _).symm.trans H; rw [hy146]; with_reducible exact H2_) | (have H2_ := (Option.bind_some _ _).symm.trans H; with_reducible exact H2_) | with_reducible exact H | (rw [hy146]; exact H) | exact H
         have Ny146 := Aside0.mk hy146
         clear hy146
         have HC53 := Aside0.mk H
         clear H
         have q54 : (t138 : Int) ≤ ((y135.length : Int) : Int) := of_decide_eq_true (by first | (with_reducible assumption) | assumption)
         obtain ⟨i054, hi054, _, hsz54, _⟩ := info_parts info9
         have hcut54 := cut_from (P := Tryd.prog) 22 9 .i64 Tryd.underlying22 hi054 1 hsz54 A42 y135.length c42 t138 (of_decide_eq_true (by first | (with_reducible assumption) | assumption)) q54
         have hr54 := Kd.Q_drop (k := (t138 : Int).toNat) HO_4.out (by omega)
         obtain ⟨A54, hA54⟩ : ∃ A1, A1 = (if c42 = (t138 : Int).toNat then A42 else (A42 : Option Addr).map (·.add ((t138 : Int).toNat * 1))) := ⟨_, rfl⟩
         obtain ⟨c54, hc54⟩ : ∃ c1, c1 = c42 - (t138 : Int).toNat := ⟨_, rfl⟩
         have hy54 : y146.length = y135.length - (t138 : Int).toNat := (by rw [Ny146.out, List.length_drop])
         rw [← Ny146.out] at hr54
         rw [← hy54, ← hA54, ← hc54] at hcut54
         replace hr54 : Kd.Q Kd.string 9 wc w.heap.size (fun k_ => some k_ ≠ (u123000 : Value).ownBlock ∧ some k_ ≠ (u123002 : Value).ownBlock) (.slice A54 y146.length c54) y146 := (by rw [hA54, hc54, hy54]; exact hr54)
         have HE54 : Aside0 ((Value.slice A54 y146.length c54).ownBlock = (.slice A42 y135.length c42 : Value).ownBlock) := ⟨by rw [hA54]; split <;> (cases (A42 : Option Addr) <;> first | rfl | (simp [Value.ownBlock, add_block]; done))⟩
         clear hy54 hi054 hsz54 HO_4 hA54 hc54
         have HO148 := Aside0.mk hr54
         clear hr54
         replace q54 := eq_true q54
         have n_ := Aside0.mk (Kd.R_mono (ok' := fun k_ => (some k_ ≠ (.slice A54 y146.length c54 : Value).ownBlock ∧ some k_ ≠ (u123002 : Value).ownBlock)) HO_123000.out (fun k_ hk => ⟨(by rw [HE54.out]; exact hk.1), hk.2⟩))
         clear HO_123000
         have HO_123000 := n_
         clear n_
         have n_ := Aside0.mk (Kd.R_mono (ok' := fun k_ => (some k_ ≠ (.slice A54 y146.length c54 : Value).ownBlock ∧ some k_ ≠ (u123000 : Value).ownBlock)) HO_123002.out (fun k_ hk => ⟨(by rw [HE54.out]; exact hk.1), hk.2⟩))
         clear HO_123002
         have HO_123002 := n_
         clear n_
         go_upto_region 12 with (fail)
         go_cut [78] (fun v78 wc => ∃ (kq : Nat) (x78_52 : Bool), v78 = .bool x78_52 ∧ Aside0 (crucibleref1_Words.j4 kq y146 x78_52 x123000_21 x123001_30 x123002_40 = some (r1, r2, r3, r4, r5, r6)) ∧ Aside0 (kq ≤ kj40) ∧ Aside0 (Kd.Q Kd.string 9 wc w.heap.size (fun k_ => some k_ ≠ (u123000 : Value).ownBlock ∧ some k_ ≠ (u123002 : Value).ownBlock) (.slice A54 y146.length c54) y146) ∧ Aside0 (Kd.R Kd.string 9 wc w.heap.size (fun k_ => some k_ ≠ ((.slice A54 y146.length c54) : Value).ownBlock ∧ some k_ ≠ (u123002 : Value).ownBlock) u123000 x123000_21) ∧ Aside0 (Kd.R Kd.string 9 wc w.heap.size (fun k_ => some k_ ≠ ((.slice A54 y146.length c54) : Value).ownBlock ∧ some k_ ≠ (u123000 : Value).ownBlock) u123002 x123002_40) ∧ Aside0 (wc.heap[gb118]? = some (.cells #[(.slice none 0 0), .string (⟨#[]⟩ : ByteArray), (.slice none 0 0), (.slice none 0 0), (.slice none 0 0)] 27 (0, 0))) ∧ Aside0 (wc.heap[gb122]? = some (.cells #[u123000, .string x123001_30, u123002, (.slice none 0 0), (.slice none 0 0)] 27 (0, 0))) ∧ Aside0 (Below w.heap.size w wc))
         case first => as_aux_lemma =>
          have H := HC53.out
          clear HC53
          by_cases c55 : (y146.length : Int) > 0
          ·rw [if_pos c55] at H
           have c55b0 : decide (0 < (y146.length : Int)) = true := decide_eq_true c55
           have c55b1 : decide (0 < y146.length) = true := decide_eq_true (by omega)
           clear c55
           (first | rw [c55b0] | (simp only [i64_w, i32_w]; rw [c55b0]) | skip)
           by_cases c56 : 0 < (y146.length : Int)
           ·rw [if_pos c56] at H
            have c56b0 : decide (0 < (y146.length : Int)) = true := decide_eq_true c56
            have c56b1 : decide (0 < y146.length) = true := decide_eq_true (by omega)
            clear c56
            have H' := Aside0.mk H
            clear H
            have p149 : 0 ≤ (0 : Int) := (by omega)
            have q149 : 0 < (y146.length : Int) := of_decide_eq_true (by first | (with_reducible assumption) | assumption)
            obtain ⟨ad149, e149, hx149_0⟩ := Kd.at_string (Kd.Q_reads' HO148.out).2.2 0 p149 q149
            cases e149
            have qi149 : (0 < y146.length) = True := eq_true (by omega)
            (try rw [show ((0 : Int)).toNat = 0 from rfl] at hx149_0)
            (try rw [Addr.add_zero'] at hx149_0)
            replace p149 := eq_true p149
            replace q149 := eq_true q149
            go_wp2
            go_meet
            case rel => exact ⟨_, (((rdOf ByteArray.empty y146 0).toList == ([124] : List UInt8))), (by first | rfl | (simp; done) | (simp [*]; done)), H', ⟨by have := HJ3.out; have := HJ21.out; have := HJ30.out; have := HJ40.out; first | omega | exact Nat.le_refl _⟩, ⟨by (with_reducible repeat (first | apply Kd.Q_alloc | apply Kd.Q_drewN | apply Kd.Q_drew)); first | exact HO148.out | exact Kd.Q_mono (HO148.out) (fun k_ hk => by simp only [slice_ownBlock] at hk ⊢; exact hk)⟩, ⟨by (with_reducible repeat (first | apply Kd.R_alloc | apply Kd.R_drewN | apply Kd.R_drew)); first | exact HO_123000.out | exact Kd.R_mono (HO_123000.out) (fun k_ hk => by simp only [slice_ownBlock] at hk ⊢; exact hk)⟩, ⟨by (with_reducible repeat (first | apply Kd.R_alloc | apply Kd.R_drewN | apply Kd.R_drew)); first | exact HO_123002.out | exact Kd.R_mono (HO_123002.out) (fun k_ hk => by simp only [slice_ownBlock] at hk ⊢; exact hk)⟩, ⟨by (with_reducible repeat (first | refine blk_drewN ?_ _ | refine blk_drew ?_ | refine blk_alloc ?_ _)); exact BK118.out⟩, ⟨by (with_reducible repeat (first | refine blk_drewN ?_ _ | refine blk_drew ?_ | refine blk_alloc ?_ _)); exact BK122.out⟩, ⟨by repeat (first | (with_reducible first | exact HB.out | apply below_alloc | apply pw_below_drewN | apply below_drew1 | refine below_set ?_ GE118.out | refine below_set ?_ GE122.out) | exact HB.out)⟩⟩
           rw [if_neg c56] at H
           exact absurd H (by simp)
          rw [if_neg c55] at H
          have c55b0 : decide (0 < (y146.length : Int)) = false := decide_eq_false c55
          have c55b1 : decide (0 < y146.length) = false := decide_eq_false (by omega)
          clear c55
          (first | rw [c55b0] | (simp only [i64_w, i32_w]; rw [c55b0]) | skip)
          have H' := Aside0.mk H
          clear H
          go_wp2
          go_meet
          case rel => exact ⟨_, (false), (by first | rfl | (simp; done) | (simp [*]; done)), H', ⟨by have := HJ3.out; have := HJ21.out; have := HJ30.out; have := HJ40.out; first | omega | exact Nat.le_refl _⟩, ⟨by (with_reducible repeat (first | apply Kd.Q_alloc | apply Kd.Q_drewN | apply Kd.Q_drew)); first | exact HO148.out | exact Kd.Q_mono (HO148.out) (fun k_ hk => by simp only [slice_ownBlock] at hk ⊢; exact hk)⟩, ⟨by (with_reducible repeat (first | apply Kd.R_alloc | apply Kd.R_drewN | apply Kd.R_drew)); first | exact HO_123000.out | exact Kd.R_mono (HO_123000.out) (fun k_ hk => by simp only [slice_ownBlock] at hk ⊢; exact hk)⟩, ⟨by (with_reducible repeat (first | apply Kd.R_alloc | apply Kd.R_drewN | apply Kd.R_drew)); first | exact HO_123002.out | exact Kd.R_mono (HO_123002.out) (fun k_ hk => by simp only [slice_ownBlock] at hk ⊢; exact hk)⟩, ⟨by (with_reducible repeat (first | refine blk_drewN ?_ _ | refine blk_drew ?_ | refine blk_alloc ?_ _)); exact BK118.out⟩, ⟨by (with_reducible repeat (first | refine blk_drewN ?_ _ | refine blk_drew ?_ | refine blk_alloc ?_ _)); exact BK122.out⟩, ⟨by repeat (first | (with_reducible first | exact HB.out | apply below_alloc | apply pw_below_drewN | apply below_drew1 | refine below_set ?_ GE118.out | refine below_set ?_ GE122.out) | exact HB.out)⟩⟩
         as_aux_lemma =>
         clear HC53
         try clear c1
         try clear p1
         try clear q1
         try clear hx1
         try clear qi1
         try clear c2
         try clear p2
         try clear q2
         try clear c3
         try clear c4
         try clear q4
         try clear c5
         try clear q5
         try clear p6
         try clear c8
         try clear c9
         try clear c9b0
         try clear c10
         try clear c10b0
         try clear c11
         try clear c11b0
         try clear c12
         try clear c12b0
         try clear p12
         try clear q12
         try clear hx12
         try clear c13
         try clear c13b0
         try clear p13
         try clear q13
         try clear hx13
         try clear c14
         try clear c14b0
         try clear c14b1
         try clear p14
         try clear q14
         try clear hx14
         try clear qi14
         try clear c16
         try clear c16b0
         try clear c17
         try clear c17b0
         try clear c19
         try clear c20
         try clear c23
         try clear c23b0
         try clear c23b1
         try clear c24
         try clear c24b0
         try clear c24b1
         try clear c25
         try clear q27
         try clear c33
         try clear c33b0
         try clear c34
         try clear c34b0
         try clear c35
         try clear c38
         try clear c38b0
         try clear c38b1
         try clear c39
         try clear c39b0
         try clear c39b1
         try clear c42
         try clear q42
         try clear c43
         try clear c43b0
         try clear c43b1
         try clear c44
         try clear c44b0
         try clear c44b1
         try clear c45
         try clear q47
         try clear c51
         try clear c51b0
         try clear c51b1
         try clear c52
         try clear c52b0
         try clear c52b1
         try clear c54
         try clear q54
         try clear c55
         try clear c55b0
         try clear c55b1
         try clear c56
         try clear c56b0
         try clear c56b1
         try clear hcz21_0
         try clear hcz21_1
         try clear hcz21_2
         try clear hcz21_3
         try clear hcz21_4
         try clear hcz36_0
         try clear hcz36_1
         try clear hcz36_2
         try clear hcz36_3
         try clear hcz36_4
         try clear hfz21_0
         try clear hfz21_1
         try clear hfz21_2
         try clear hfz21_3
         try clear hfz21_4
         try clear hfz36_0
         try clear hfz36_1
         try clear hfz36_2
         try clear hfz36_3
         try clear hfz36_4
         try clear hx124_0
         try clear hx125_0
         try clear hx134_0
         try clear hx149_0
         try clear p1
         try clear p12
         try clear p124
         try clear p125
         try clear p13
         try clear p134
         try clear p149
         try clear p2
         try clear p6
         try clear q1
         try clear q12
         try clear q124
         try clear q125
         try clear q13
         try clear q134
         try clear q149
         try clear q2
         try clear q27
         try clear q4
         try clear q42
         try clear q47
         try clear q54
         obtain ⟨kq, x78_52, rfl, HA, HJ52, HO_4, HO_123000, HO_123002, BK118, BK122, HB⟩ := hcut
         cases kq with
         | zero => exact absurd HA.out (by simp [crucibleref1_Words.j4])
         | succ kj52 =>
          have H := HA.out
          clear HA
          simp only [crucibleref1_Words.j4] at H
          have HC57 := Aside0.mk H
          clear H
          go_upto_if 78 with (fail)
          go_cut [4] (fun v4 wc => ∃ (kq : Nat) (x4_56 : List ByteArray) (x119001_56 : ByteArray) (x123003_56 : List ByteArray) (u123003 : Value), Aside0 (crucibleref1_Words.j7 kq x4_56 x123000_21 x123001_30 x123002_40 x123003_56 = some (r1, r2, r3, r4, r5, r6)) ∧ Aside0 (kq ≤ kj52) ∧ Aside0 (Kd.Q Kd.string 9 wc w.heap.size (fun k_ => some k_ ≠ (u123000 : Value).ownBlock ∧ some k_ ≠ (u123002 : Value).ownBlock ∧ some k_ ≠ (u123003 : Value).ownBlock) v4 x4_56) ∧ Aside0 (Kd.R Kd.string 9 wc w.heap.size (fun k_ => some k_ ≠ (v4 : Value).ownBlock ∧ some k_ ≠ (u123002 : Value).ownBlock ∧ some k_ ≠ (u123003 : Value).ownBlock) u123000 x123000_21) ∧ Aside0 (Kd.R Kd.string 9 wc w.heap.size (fun k_ => some k_ ≠ (v4 : Value).ownBlock ∧ some k_ ≠ (u123000 : Value).ownBlock ∧ some k_ ≠ (u123003 : Value).ownBlock) u123002 x123002_40) ∧ Aside0 (Kd.R Kd.string 9 wc w.heap.size (fun k_ => some k_ ≠ (v4 : Value).ownBlock ∧ some k_ ≠ (u123000 : Value).ownBlock ∧ some k_ ≠ (u123002 : Value).ownBlock) u123003 x123003_56) ∧ Aside0 (wc.heap[gb118]? = some (.cells #[(.slice none 0 0), .string x119001_56, (.slice none 0 0), (.slice none 0 0), (.slice none 0 0)] 27 (0, 0))) ∧ Aside0 (wc.heap[gb122]? = some (.cells #[u123000, .string x123001_30, u123002, u123003, (.slice none 0 0)] 27 (0, 0))) ∧ Aside0 (Below w.heap.size w wc))
          case first => as_aux_lemma =>
           have H := HC57.out
           clear HC57
           by_cases c58 : x78_52 = true
           ·subst c58
            have H1 : (if 1 ≤ (y146.length : Int) then ((crucibleref1_names.f kj52 (y146.drop 1)).bind fun t154 => (crucibleref1_Words.j5 kj52 y146 t154 x123000_21 x123001_30 x123002_40)) else (none)) = some (r1, r2, r3, r4, r5, r6) := by rw [if_pos rfl] at H; exact H
            clear H
            have H := H1
            clear H1
            have HC59 := Aside0.mk H
            clear H
            go_upto_region 13 with (fail)
            go_cut [6] (fun v6 wc => ∃ (kq : Nat) (x6_58 : Int), v6 = .int .i64 x6_58 ∧ Aside0 (crucibleref1_Words.j5 kq y146 x6_58 x123000_21 x123001_30 x123002_40 = some (r1, r2, r3, r4, r5, r6)) ∧ Aside0 (kq ≤ kj52) ∧ Aside0 (Kd.Q Kd.string 9 wc w.heap.size (fun k_ => some k_ ≠ (u123000 : Value).ownBlock ∧ some k_ ≠ (u123002 : Value).ownBlock) (.slice A54 y146.length c54) y146) ∧ Aside0 (Kd.R Kd.string 9 wc w.heap.size (fun k_ => some k_ ≠ ((.slice A54 y146.length c54) : Value).ownBlock ∧ some k_ ≠ (u123002 : Value).ownBlock) u123000 x123000_21) ∧ Aside0 (Kd.R Kd.string 9 wc w.heap.size (fun k_ => some k_ ≠ ((.slice A54 y146.length c54) : Value).ownBlock ∧ some k_ ≠ (u123000 : Value).ownBlock) u123002 x123002_40) ∧ Aside0 (wc.heap[gb118]? = some (.cells #[(.slice none 0 0), .string (⟨#[]⟩ : ByteArray), (.slice none 0 0), (.slice none 0 0), (.slice none 0 0)] 27 (0, 0))) ∧ Aside0 (wc.heap[gb122]? = some (.cells #[u123000, .string x123001_30, u123002, (.slice none 0 0), (.slice none 0 0)] 27 (0, 0))) ∧ Aside0 (Below w.heap.size w wc))
            case first => as_aux_lemma =>
             have H := HC59.out
             clear HC59
             by_cases c60 : 1 ≤ (y146.length : Int)
             ·rw [if_pos c60] at H
              have c60b0 := eq_true c60
              have c60b1 : decide (1 ≤ (y146.length : Int)) = true := decide_eq_true c60
              clear c60
              obtain ⟨y150, hy150⟩ : ∃ y_ : List ByteArray, y_ = (y146.drop 1) := ⟨_, rfl⟩
              replace H : ((crucibleref1_names.f kj52 y150).bind fun t154 => (crucibleref1_Words.j5 kj52 y146 t154 x123000_21 x123001_30 x123002_40)) = some (r1, r2, r3, r4, r5, r6) := by first | (rw [hy150]; with_reducible exact H) | (have H2_ := (Option.bind_some _ _).symm.trans H; rw [hy150]; with_reducible exact H2_) | (have H2_ := (Option.bind_some _ _).symm.trans H; with_reducible exact H2_) | with_reducible exact H | (rw [hy150]; exact H) | exact H
              have Ny150 := Aside0.mk hy150
              clear hy150
              replace H := Option.bind_eq_some_iff.mp H
              obtain ⟨t154, A610, H⟩ := H
              replace H : (crucibleref1_Words.j5 kj52 y146 t154 x123000_21 x123001_30 x123002_40) = some (r1, r2, r3, r4, r5, r6) := H
              have A61 := Aside0.mk A610
              clear A610
              have H' := Aside0.mk H
              clear H
              have q62 : (1 : Int) ≤ ((y146.length : Int) : Int) := of_decide_eq_true (by first | (with_reducible assumption) | assumption)
              obtain ⟨i062, hi062, _, hsz62, _⟩ := info_parts info9
              have hroom62 : y146.length ≤ c54 := (Kd.Q_reads' HO_4.out).2.1
              have hC62 : Kd.C Kd.string _ A54 y146.length y146 := (Kd.Q_reads' HO_4.out).2.2
              have hcut62 := cut_from (P := Tryd.prog) 22 9 .i64 Tryd.underlying22 hi062 1 hsz62 A54 y146.length c54 1 (by omega) q62
              have hr62 := Kd.C_drop (m := (1 : Int).toNat) (c := c54) hC62 (by omega) hroom62
              obtain ⟨A62, hA62⟩ : ∃ A1, A1 = (if c54 = (1 : Int).toNat then A54 else (A54 : Option Addr).map (·.add ((1 : Int).toNat * 1))) := ⟨_, rfl⟩
              obtain ⟨c62, hc62⟩ : ∃ c1, c1 = c54 - (1 : Int).toNat := ⟨_, rfl⟩
              have hy62 : y150.length = y146.length - (1 : Int).toNat := (by rw [Ny150.out, List.length_drop] <;> omega)
              rw [show (y146).drop (1 : Int).toNat = y150 from Ny150.out.symm] at hr62
              replace hr62 : Kd.C Kd.string _ A62 y150.length y150 := (by rw [hA62]; exact hr62)
              rw [← hy62, ← hA62, ← hc62] at hcut62
              have HR153 := Aside0.mk hr62
              have HC153 := Aside0.mk (show y150.length ≤ c62 from by rw [hy62, hc62]; exact Nat.sub_le_sub_right hroom62 _)
              clear hr62 hC62 hroom62 hi062 hsz62 hc62
              have KY62 := Aside0.mk hy62
              have KA62 := Aside0.mk hA62
              clear hy62 hA62
              have KL62 := Aside0.mk (show 1 ≤ y146.length from by omega)
              replace q62 := eq_true q62
              go_wp2_with (first | ((with_reducible refine gate_callee (f := 42) rfl ?_); refine goesL_ (some 81) rfl rfl Tryd.func42 (by kernel_rfl) rfl #[.slice A62 y150.length c62] rfl (by (try simp only [List.map_toArray, List.map_cons, List.map_nil]); first | done | rfl | (simp only [List.length_drop, List.length_take]; rfl)) ?_; (with_reducible refine (crucibleref1_names.calls kj52 _ _ y150 t154 _ ?side1 ?side2 A61.out).mono ?_); (case side1 => repeat (first | exact (by repeat (first | (with_reducible exact HR153.out) | (with_reducible refine Kd.C_alloc ?_ _) | (with_reducible refine Kd.C_drewN ?_ _) | (with_reducible refine Kd.C_drew ?_) | exact HR153.out)) | (with_reducible refine Kd.C_alloc ?_ _) | (with_reducible refine Kd.C_drewN ?_ _) | (with_reducible refine Kd.C_drew ?_))); (case side2 => exact HC153.out); rintro e w' ⟨rfl, ⟨nd, rfl⟩⟩; refine ⟨_, rfl, ?_⟩))
              go_meet
              case rel => exact ⟨_, (t154), (by first | rfl | (simp; done) | (simp [*]; done)), H', ⟨by have := HJ3.out; have := HJ21.out; have := HJ30.out; have := HJ40.out; have := HJ52.out; first | omega | exact Nat.le_refl _⟩, ⟨by (with_reducible repeat (first | apply Kd.Q_alloc | apply Kd.Q_drewN | apply Kd.Q_drew)); first | exact HO_4.out | exact Kd.Q_mono (HO_4.out) (fun k_ hk => by simp only [slice_ownBlock] at hk ⊢; exact hk)⟩, ⟨by (with_reducible repeat (first | apply Kd.R_alloc | apply Kd.R_drewN | apply Kd.R_drew)); first | exact HO_123000.out | exact Kd.R_mono (HO_123000.out) (fun k_ hk => by simp only [slice_ownBlock] at hk ⊢; exact hk)⟩, ⟨by (with_reducible repeat (first | apply Kd.R_alloc | apply Kd.R_drewN | apply Kd.R_drew)); first | exact HO_123002.out | exact Kd.R_mono (HO_123002.out) (fun k_ hk => by simp only [slice_ownBlock] at hk ⊢; exact hk)⟩, ⟨by (with_reducible repeat (first | refine blk_drewN ?_ _ | refine blk_drew ?_ | refine blk_alloc ?_ _)); exact BK118.out⟩, ⟨by (with_reducible repeat (first | refine blk_drewN ?_ _ | refine blk_drew ?_ | refine blk_alloc ?_ _)); exact BK122.out⟩, ⟨by repeat (first | (with_reducible first | exact HB.out | apply below_alloc | apply pw_below_drewN | apply below_drew1 | refine below_set ?_ GE118.out | refine below_set ?_ GE122.out) | exact HB.out)⟩⟩
             rw [if_neg c60] at H
             exact absurd H (by simp)
            as_aux_lemma =>
            clear HC59
            try clear c1
            try clear p1
            try clear q1
            try clear hx1
            try clear qi1
            try clear c2
            try clear p2
            try clear q2
            try clear c3
            try clear c4
            try clear q4
            try clear c5
            try clear q5
            try clear c6
            try clear p6
            try clear q6
            try clear c8
            try clear c9
            try clear c9b0
            try clear c10
            try clear c10b0
            try clear c11
            try clear c11b0
            try clear c12
            try clear c12b0
            try clear p12
            try clear q12
            try clear hx12
            try clear c13
            try clear c13b0
            try clear p13
            try clear q13
            try clear hx13
            try clear c14
            try clear c14b0
            try clear c14b1
            try clear p14
            try clear q14
            try clear hx14
            try clear qi14
            try clear c16
            try clear c16b0
            try clear c17
            try clear c17b0
            try clear c19
            try clear c20
            try clear c23
            try clear c23b0
            try clear c23b1
            try clear c24
            try clear c24b0
            try clear c24b1
            try clear c25
            try clear q27
            try clear c33
            try clear c33b0
            try clear c34
            try clear c34b0
            try clear c35
            try clear c38
            try clear c38b0
            try clear c38b1
            try clear c39
            try clear c39b0
            try clear c39b1
            try clear c42
            try clear q42
            try clear c43
            try clear c43b0
            try clear c43b1
            try clear c44
            try clear c44b0
            try clear c44b1
            try clear c45
            try clear q47
            try clear c51
            try clear c51b0
            try clear c51b1
            try clear c52
            try clear c52b0
            try clear c52b1
            try clear c54
            try clear q54
            try clear c55
            try clear c55b0
            try clear c55b1
            try clear c56
            try clear c56b0
            try clear c56b1
            try clear c58
            try clear c60
            try clear c60b0
            try clear c60b1
            try clear c62
            try clear q62
            try clear hcz21_0
            try clear hcz21_1
            try clear hcz21_2
            try clear hcz21_3
            try clear hcz21_4
            try clear hcz36_0
            try clear hcz36_1
            try clear hcz36_2
            try clear hcz36_3
            try clear hcz36_4
            try clear hfz21_0
            try clear hfz21_1
            try clear hfz21_2
            try clear hfz21_3
            try clear hfz21_4
            try clear hfz36_0
            try clear hfz36_1
            try clear hfz36_2
            try clear hfz36_3
            try clear hfz36_4
            try clear hx124_0
            try clear hx125_0
            try clear hx134_0
            try clear hx149_0
            try clear p1
            try clear p12
            try clear p124
            try clear p125
            try clear p13
            try clear p134
            try clear p14
            try clear p149
            try clear p2
            try clear p6
            try clear q1
            try clear q12
            try clear q124
            try clear q125
            try clear q13
            try clear q134
            try clear q14
            try clear q149
            try clear q2
            try clear q27
            try clear q4
            try clear q42
            try clear q47
            try clear q5
            try clear q54
            try clear q62
            obtain ⟨kq, x6_58, rfl, HA, HJ58, HO_4, HO_123000, HO_123002, BK118, BK122, HB⟩ := hcut
            cases kq with
            | zero => exact absurd HA.out (by simp [crucibleref1_Words.j5])
            | succ kj58 =>
             have H := HA.out
             clear HA
             simp only [crucibleref1_Words.j5] at H
             by_cases c63 : x6_58 = 0
             ·rw [if_pos c63] at H
              have c63b0 : (x6_58 == 0) = true := beq_iff_eq.mpr c63
              have c63b1 : (x6_58 != 0) = false := bne_eq_false_iff_eq.mpr c63
              clear c63
              simp only [Option.some.injEq, Prod.mk.injEq] at H
              obtain ⟨rfl, rfl, rfl, rfl, rfl, rfl⟩ := H
              have hnb64 := NB118_122.out
              have hnc64 := NB122_118.out
              have hcz65_0 : wc.cell? ⟨gb118, 0, none⟩ = some (.slice none 0 0) := (blk_cell BK118.out 0).trans rfl
              have hcz65_1 : wc.cell? ⟨gb118, 1, none⟩ = some (.string (⟨#[]⟩ : ByteArray)) := (blk_cell BK118.out 1).trans rfl
              have hcz65_2 : wc.cell? ⟨gb118, 2, none⟩ = some (.slice none 0 0) := (blk_cell BK118.out 2).trans rfl
              have hcz65_3 : wc.cell? ⟨gb118, 3, none⟩ = some (.slice none 0 0) := (blk_cell BK118.out 3).trans rfl
              have hcz65_4 : wc.cell? ⟨gb118, 4, none⟩ = some (.slice none 0 0) := (blk_cell BK118.out 4).trans rfl
              have hfz65_0 := blk_frozen BK118.out 0
              have hfz65_1 := blk_frozen BK118.out 1
              have hfz65_2 := blk_frozen BK118.out 2
              have hfz65_3 := blk_frozen BK118.out 3
              have hfz65_4 := blk_frozen BK118.out 4
              go_wp2
              refine bodyPost_ret (results_ct rfl _ _ gb118 27 #[.slice none 0 0, .string (⟨#[]⟩ : ByteArray), .slice none 0 0, .slice none 0 0, .slice none 0 0] (0, 0) _ rfl (by (with_reducible repeat (first | refine blk_drewN ?_ _ | refine blk_drew ?_ | refine blk_alloc ?_ _)); refine blk_put (cs := #[.slice none 0 0, .string (⟨#[]⟩ : ByteArray), .slice none 0 0, .slice none 0 0, .slice none 0 0]) ?_ 4 _ rfl; (with_reducible repeat (first | refine blk_drewN ?_ _ | refine blk_drew ?_ | refine blk_alloc ?_ _)); refine blk_put (cs := #[.slice none 0 0, .string (⟨#[]⟩ : ByteArray), .slice none 0 0, .slice none 0 0, .slice none 0 0]) ?_ 3 _ rfl; (with_reducible repeat (first | refine blk_drewN ?_ _ | refine blk_drew ?_ | refine blk_alloc ?_ _)); refine blk_put (cs := #[.slice none 0 0, .string (⟨#[]⟩ : ByteArray), .slice none 0 0, .slice none 0 0, .slice none 0 0]) ?_ 2 _ rfl; (with_reducible repeat (first | refine blk_drewN ?_ _ | refine blk_drew ?_ | refine blk_alloc ?_ _)); refine blk_put (cs := #[.slice none 0 0, .string (⟨#[]⟩ : ByteArray), .slice none 0 0, .slice none 0 0, .slice none 0 0]) ?_ 1 _ rfl; (with_reducible repeat (first | refine blk_drewN ?_ _ | refine blk_drew ?_ | refine blk_alloc ?_ _)); refine blk_put (cs := #[.slice none 0 0, .string (⟨#[]⟩ : ByteArray), .slice none 0 0, .slice none 0 0, .slice none 0 0]) ?_ 0 _ rfl; (with_reducible repeat (first | refine blk_drewN ?_ _ | refine blk_drew ?_ | refine blk_alloc ?_ _)); exact BK118.out) Tryd.underlying27 rfl (by kernel_rfl)) rfl ?_
              exact ⟨_, _, _, _, by first | rfl | (simp [errW_none, errW_some] <;> rfl) | (simp only [← hji37]; first | rfl | (simp [errW_none, errW_some] <;> rfl)) | (simp [*, errW_none, errW_some] <;> rfl), by first | exact Kd.R_nil _ _ _ _ _ | exact Kd.N_nil _ _ _ _ _ | exact Kd.V_nil _ _ _ _ _ | exact Kd.Q_nil _ _ _ _ _ | exact Kd.S_nil _ _ _ _ _, by first | exact Kd.R_nil _ _ _ _ _ | exact Kd.N_nil _ _ _ _ _ | exact Kd.V_nil _ _ _ _ _ | exact Kd.Q_nil _ _ _ _ _ | exact Kd.S_nil _ _ _ _ _, by first | exact Kd.R_nil _ _ _ _ _ | exact Kd.N_nil _ _ _ _ _ | exact Kd.V_nil _ _ _ _ _ | exact Kd.Q_nil _ _ _ _ _ | exact Kd.S_nil _ _ _ _ _, by first | exact Kd.R_nil _ _ _ _ _ | exact Kd.N_nil _ _ _ _ _ | exact Kd.V_nil _ _ _ _ _ | exact Kd.Q_nil _ _ _ _ _ | exact Kd.S_nil _ _ _ _ _, by repeat (first | (with_reducible first | exact HB.out | apply below_alloc | apply pw_below_drewN | apply below_drew1 | refine below_set ?_ GE118.out | refine below_set ?_ GE122.out) | exact HB.out)⟩
             rw [if_neg c63] at H
             have c63b0 : (x6_58 == 0) = false := beq_eq_false_iff_ne.mpr c63
             have c63b1 : (x6_58 != 0) = true := bne_iff_ne.mpr c63
             have HC66 := Aside0.mk H
             clear H
             go_upto_region 16 with (fail)
             go_cut [] (fun wc => ∃ (kq : Nat) (x123003_65 : List ByteArray) (u123003 : Value), Aside0 (crucibleref1_Words.j6 kq y146 x6_58 x123000_21 x123001_30 x123002_40 x123003_65 = some (r1, r2, r3, r4, r5, r6)) ∧ Aside0 (kq ≤ kj58) ∧ Aside0 (Kd.Q Kd.string 9 wc w.heap.size (fun k_ => some k_ ≠ (u123000 : Value).ownBlock ∧ some k_ ≠ (u123002 : Value).ownBlock ∧ some k_ ≠ (u123003 : Value).ownBlock) (.slice A54 y146.length c54) y146) ∧ Aside0 (Kd.R Kd.string 9 wc w.heap.size (fun k_ => some k_ ≠ ((.slice A54 y146.length c54) : Value).ownBlock ∧ some k_ ≠ (u123002 : Value).ownBlock ∧ some k_ ≠ (u123003 : Value).ownBlock) u123000 x123000_21) ∧ Aside0 (Kd.R Kd.string 9 wc w.heap.size (fun k_ => some k_ ≠ ((.slice A54 y146.length c54) : Value).ownBlock ∧ some k_ ≠ (u123000 : Value).ownBlock ∧ some k_ ≠ (u123003 : Value).ownBlock) u123002 x123002_40) ∧ Aside0 (Kd.R Kd.string 9 wc w.heap.size (fun k_ => some k_ ≠ ((.slice A54 y146.length c54) : Value).ownBlock ∧ some k_ ≠ (u123000 : Value).ownBlock ∧ some k_ ≠ (u123002 : Value).ownBlock) u123003 x123003_65) ∧ Aside0 (wc.heap[gb118]? = some (.cells #[(.slice none 0 0), .string (⟨#[]⟩ : ByteArray), (.slice none 0 0), (.slice none 0 0), (.slice none 0 0)] 27 (0, 0))) ∧ Aside0 (wc.heap[gb122]? = some (.cells #[u123000, .string x123001_30, u123002, u123003, (.slice none 0 0)] 27 (0, 0))) ∧ Aside0 (Below w.heap.size w wc))
             case first => as_aux_lemma =>
              have H := HC66.out
              clear HC66
              by_cases c67 : 1 ≤ (wrap64 (x6_58 + 1))
              ·rw [if_pos c67] at H
               have c67b0 := eq_true c67
               have c67b1 : decide (1 ≤ (wrap64 (x6_58 + 1))) = true := decide_eq_true c67
               by_cases c68 : (wrap64 (x6_58 + 1)) ≤ (y146.length : Int)
               ·rw [if_pos c68] at H
                have c68b0 := eq_true c68
                have c68b1 : decide ((wrap64 (x6_58 + 1)) ≤ (y146.length : Int)) = true := decide_eq_true c68
                obtain ⟨y155, hy155⟩ : ∃ y_ : List ByteArray, y_ = ((y146.take ((wrap64 (x6_58 + 1)) : Int).toNat).drop 1) := ⟨_, rfl⟩
                replace H : (if ([] : List ByteArray).length + y155.length < 8796093022208 then (crucibleref1_Words.j6 kj58 y146 x6_58 x123000_21 x123001_30 x123002_40 (([] : List ByteArray) ++ y155)) else (none)) = some (r1, r2, r3, r4, r5, r6) := by first | (rw [hy155]; with_reducible exact H) | (have H2_ := (Option.bind_some _ _).symm.trans H; rw [hy155]; with_reducible exact H2_) | (have H2_ := (Option.bind_some _ _).symm.trans H; with_reducible exact H2_) | with_reducible exact H | (rw [hy155]; exact H) | exact H
                have Ny155 := Aside0.mk hy155
                clear hy155
                by_cases c69 : ([] : List ByteArray).length + y155.length < 8796093022208
                ·rw [if_pos c69] at H
                 have LMc69 := Aside0.mk c69
                 clear c69
                 obtain ⟨y159, hy159⟩ : ∃ y_ : List ByteArray, y_ = (([] : List ByteArray) ++ y155) := ⟨_, rfl⟩
                 replace H : (crucibleref1_Words.j6 kj58 y146 x6_58 x123000_21 x123001_30 x123002_40 y159) = some (r1, r2, r3, r4, r5, r6) := by first | (rw [hy159]; with_reducible exact H) | (have H2_ := (Option.bind_some _ _).symm.trans H; rw [hy159]; with_reducible exact H2_) | (have H2_ := (Option.bind_some _ _).symm.trans H; with_reducible exact H2_) | with_reducible exact H | (rw [hy159]; exact H) | exact H
                 have Ny159 := Aside0.mk hy159
                 clear hy159
                 have H' := Aside0.mk H
                 clear H
                 try go_wp2
                 (try (rw [drewN_self wc]; generalize hq_ : World.drewN wc _ = wc; have n0_ : Aside0 (Kd.R Kd.string 9 wc w.heap.size (fun k_ => some k_ ≠ (u123002 : Value).ownBlock ∧ some k_ ≠ (.slice A54 y146.length c54 : Value).ownBlock) u123000 x123000_21) := ⟨by rw [← hq_]; exact (by (with_reducible repeat (first | apply Kd.R_alloc | apply Kd.R_drewN | apply Kd.R_drew)); first | exact Kd.R_mono HO_123000.out (fun _ hk => ⟨hk.2, hk.1⟩) | exact Kd.R_mono (Kd.R_mono HO_123000.out (fun _ hk => ⟨hk.2, hk.1⟩)) (fun k_ hk => by simp only [slice_ownBlock] at hk ⊢; exact hk))⟩; have n1_ : Aside0 (Kd.R Kd.string 9 wc w.heap.size (fun k_ => some k_ ≠ (u123000 : Value).ownBlock ∧ some k_ ≠ (.slice A54 y146.length c54 : Value).ownBlock) u123002 x123002_40) := ⟨by rw [← hq_]; exact (by (with_reducible repeat (first | apply Kd.R_alloc | apply Kd.R_drewN | apply Kd.R_drew)); first | exact Kd.R_mono HO_123002.out (fun _ hk => ⟨hk.2, hk.1⟩) | exact Kd.R_mono (Kd.R_mono HO_123002.out (fun _ hk => ⟨hk.2, hk.1⟩)) (fun k_ hk => by simp only [slice_ownBlock] at hk ⊢; exact hk))⟩; have n2_ : Aside0 (Kd.Q Kd.string 9 wc w.heap.size (fun k_ => some k_ ≠ (u123000 : Value).ownBlock ∧ some k_ ≠ (u123002 : Value).ownBlock) (.slice A54 y146.length c54) y146) := ⟨by rw [← hq_]; exact (by (with_reducible repeat (first | apply Kd.Q_alloc | apply Kd.Q_drewN | apply Kd.Q_drew)); first | exact HO_4.out | exact Kd.Q_mono (HO_4.out) (fun k_ hk => by simp only [slice_ownBlock] at hk ⊢; exact hk))⟩; have n3_ : Aside0 (wc.heap[gb118]? = some (.cells #[.slice none 0 0, .string (⟨#[]⟩ : ByteArray), .slice none 0 0, .slice none 0 0, .slice none 0 0] 27 (0, 0))) := ⟨by rw [← hq_]; exact (by (with_reducible repeat (first | refine blk_drewN ?_ _ | refine blk_drew ?_ | refine blk_alloc ?_ _)); exact BK118.out)⟩; have n4_ : Aside0 (wc.heap[gb122]? = some (.cells #[u123000, .string x123001_30, u123002, .slice none 0 0, .slice none 0 0] 27 (0, 0))) := ⟨by rw [← hq_]; exact (by (with_reducible repeat (first | refine blk_drewN ?_ _ | refine blk_drew ?_ | refine blk_alloc ?_ _)); exact BK122.out)⟩; have n5_ : Aside0 (Below w.heap.size w wc) := ⟨by rw [← hq_]; exact (by repeat (first | (with_reducible first | exact HB.out | apply below_alloc | apply pw_below_drewN | apply below_drew1 | refine below_set ?_ GE118.out | refine below_set ?_ GE122.out) | exact HB.out))⟩; clear HO_123000 HO_123002 HO_4 BK118 BK122 HB hq_; have HO_123000 := n0_; have HO_123002 := n1_; have HO_4 := n2_; have BK118 := n3_; have BK122 := n4_; have HB := n5_; clear n0_ n1_ n2_ n3_ n4_ n5_))
                 have n0_ := Aside0.mk (Kd.Q_drew HO_4.out)
                 have n1_ := Aside0.mk (Kd.R_drew HO_123000.out)
                 have n2_ := Aside0.mk (Kd.R_drew HO_123002.out)
                 have n3_ := Aside0.mk (blk_drew BK118.out)
                 have n4_ := Aside0.mk (blk_drew BK122.out)
                 have n5_ := Aside0.mk (below_drew1 HB.out)
                 clear HO_4 HO_123000 HO_123002 BK118 BK122 HB
                 have HO_4 := n0_
                 have HO_123000 := n1_
                 have HO_123002 := n2_
                 have BK118 := n3_
                 have BK122 := n4_
                 have HB := n5_
                 clear n0_ n1_ n2_ n3_ n4_ n5_
                 have q71 : ((wrap64 (x6_58 + 1)) : Int) ≤ ((y146.length : Int) : Int) := of_decide_eq_true (by first | (with_reducible assumption) | assumption)
                 obtain ⟨i071, hi071, _, hsz71, _⟩ := info_parts info9
                 have hroom71 : y146.length ≤ c54 := (Kd.Q_reads' HO_4.out).2.1
                 have hC71 : Kd.C Kd.string _ A54 y146.length y146 := (Kd.Q_reads' HO_4.out).2.2
                 have ql71 : (1 : Int) ≤ ((wrap64 (x6_58 + 1)) : Int) := of_decide_eq_true (by first | (with_reducible assumption) | assumption)
                 have hcut71 := cut_mid (P := Tryd.prog) 22 9 .i64 .i64 Tryd.underlying22 hi071 1 hsz71 A54 y146.length c54 1 (wrap64 (x6_58 + 1)) (by omega) ql71 q71 hroom71
                 have hr71 := Kd.C_mid (lo := (1 : Int).toNat) (hi := ((wrap64 (x6_58 + 1)) : Int).toNat) (c := c54) hC71 (by omega) (by omega) hroom71
                 obtain ⟨A71, hA71⟩ : ∃ A1, A1 = (if c54 = (1 : Int).toNat then A54 else (A54 : Option Addr).map (·.add ((1 : Int).toNat * 1))) := ⟨_, rfl⟩
                 obtain ⟨c71, hc71⟩ : ∃ c1, c1 = c54 - (1 : Int).toNat := ⟨_, rfl⟩
                 have hy71 : y155.length = ((wrap64 (x6_58 + 1)) : Int).toNat - (1 : Int).toNat := (by rw [Ny155.out, List.length_drop, List.length_take] <;> omega)
                 rw [show ((y146).take ((wrap64 (x6_58 + 1)) : Int).toNat).drop (1 : Int).toNat = y155 from Ny155.out.symm] at hr71
                 replace hr71 : Kd.C Kd.string _ A71 y155.length y155 := (by rw [hA71]; exact hr71)
                 rw [← hy71, ← hA71, ← hc71] at hcut71
                 have HR158 := Aside0.mk hr71
                 have HC158 := Aside0.mk (show y155.length ≤ c71 from by rw [hy71, hc71]; exact Nat.sub_le_sub_right (Nat.le_trans (by omega) hroom71) _)
                 clear hr71 hC71 hroom71 hi071 hsz71 hc71
                 have KY71 := Aside0.mk hy71
                 have KA71 := Aside0.mk hA71
                 clear hy71 hA71
                 have KL71 := Aside0.mk (show ((wrap64 (x6_58 + 1)) : Int).toNat ≤ y146.length from by omega)
                 have KM71 := Aside0.mk (show 1 ≤ ((wrap64 (x6_58 + 1)) : Int).toNat from by omega)
                 replace q71 := eq_true q71
                 refine start_ (n := 9) (S := fun w' => w'.cell? ⟨gb122, 0, none⟩ = some (u123000) ∧ w'.cell? ⟨gb122, 1, none⟩ = some (.string x123001_30) ∧ w'.cell? ⟨gb122, 2, none⟩ = some (u123002) ∧ w'.cell? ⟨gb122, 3, none⟩ = some (.slice none 0 0) ∧ w'.cell? ⟨gb122, 4, none⟩ = some (.slice none 0 0)) (ds := [8]) #[false, false, false, false, false, false, false, false, false] (by kernel_rfl) rfl rfl ⟨(blk_cell BK122.out 0).trans rfl, (blk_cell BK122.out 1).trans rfl, (blk_cell BK122.out 2).trans rfl, (blk_cell BK122.out 3).trans rfl, (blk_cell BK122.out 4).trans rfl⟩ (fun hHeld => ?_); refine with_tabW crucibleref1_Words.tab16 crucibleref1_Words.bits16 (fun HT_ HW_ => ?_)
                 generalize wc.drew = w70 at HO_4 HO_123000 HO_123002 BK118 BK122 HB HR158 hHeld ⊢
                 refine pure_ (i := 0) (N := some 85) (v := ?_) (a' := ?_) #[true, false, false, false, false, false, false, false, false] rfl rfl (any_of HT_.out (by kernel_rfl)) (fun _ _ _ h => h) (Or.inl ⟨by rfl, ?_⟩) ?_ ?_
                 rotate_left
                 ·intro w'
                  go_simp
                  with_reducible rfl
                 rotate_left
                 ·simp only [Act.put, List.setIfInBounds_toArray, List.set_cons_zero, List.set_cons_succ, i64_w, i32_w]
                  rfl
                 refine pure_ (i := 2) (N := some 87) (v := ?_) (a' := ?_) #[true, false, true, false, false, false, false, false, false] rfl rfl (any_of HT_.out (by kernel_rfl)) (fun _ _ _ h => h) (Or.inl ⟨by rfl, ?_⟩) ?_ ?_
                 rotate_left
                 ·intro w'
                  go_simp
                  with_reducible rfl
                 rotate_left
                 ·simp only [Act.put, List.setIfInBounds_toArray, List.set_cons_zero, List.set_cons_succ, i64_w, i32_w]
                  rfl
                 refine pure_ (i := 3) (N := some 88) (v := ?_) (a' := ?_) #[true, false, true, true, false, false, false, false, false] rfl rfl (any_of HT_.out (by kernel_rfl)) (fun _ _ _ h => h) (Or.inl ⟨by rfl, ?_⟩) ?_ ?_
                 rotate_left
                 ·intro w'
                  go_simp
                  with_reducible rfl
                 rotate_left
                 ·simp only [Act.put, List.setIfInBounds_toArray, List.set_cons_zero, List.set_cons_succ, i64_w, i32_w]
                  rfl
                 refine pure_ (i := 4) (N := some 89) (v := ?_) (a' := ?_) #[true, false, true, true, true, false, false, false, false] rfl rfl (any_of HT_.out (by kernel_rfl)) (fun _ _ _ h => h) (Or.inl ⟨by rfl, ?_⟩) ?_ ?_
                 rotate_left
                 ·intro w'
                  go_simp
                  with_reducible rfl
                 rotate_left
                 ·simp only [Act.put, List.setIfInBounds_toArray, List.set_cons_zero, List.set_cons_succ, i64_w, i32_w]
                  rfl
                 refine pure_ (i := 5) (N := some 90) (v := ?_) (a' := ?_) #[true, false, true, true, true, true, false, false, false] rfl rfl (any_of HT_.out (by kernel_rfl)) (fun _ _ _ h => h) (Or.inl ⟨by rfl, ?_⟩) ?_ ?_
                 rotate_left
                 ·intro w'
                  go_simp
                  with_reducible rfl
                 rotate_left
                 ·simp only [Act.put, List.setIfInBounds_toArray, List.set_cons_zero, List.set_cons_succ, i64_w, i32_w]
                  rfl
                 refine take_ (i := 1) (N := some 86) (v := ?_) (a' := ?_) #[true, true, true, true, true, true, false, false, false] rfl rfl (take_ofW HT_.out HW_.out (by kernel_rfl)) (fun _ _ _ h => h) (Or.inl ⟨by rfl, ?_⟩) hHeld ?_ ?_
                 rotate_left
                 ·rintro w' ⟨s0, s1, s2, s3, s4⟩
                  go_simp
                  with_reducible rfl
                 rotate_left
                 ·simp only [Act.put, List.setIfInBounds_toArray, List.set_cons_zero, List.set_cons_succ, i64_w, i32_w]
                  rfl
                 refine one_ (i := 6) (N := some 91) #[true, true, true, true, true, true, true, false, false] rfl rfl (one_of HT_.out (by kernel_rfl)) (by decide) (fun K hK => ?_)
                 refine Kd.R_append_rows_step Kd.string (w0 := w) w.heap.size (by rfl) (.tmp 86) (.tmp 90) 22 9 (.string ⟨#[]⟩) 16 rfl Tryd.underlying22 info9 rfl (by decide) (by omega) (.slice none 0 0) ([] : List ByteArray) y155 _ _ _ (fun k_ => some k_ ≠ (.slice A54 y146.length c54 : Value).ownBlock ∧ some k_ ≠ (u123000 : Value).ownBlock ∧ some k_ ≠ (u123002 : Value).ownBlock) (fun _ => False) rfl rfl ?aO ?aR (fun _ _ h => h) (fun _ h => h.elim) ?aF ?aB ?aS ?aL ?_
                 (case aR => repeat (first | exact (by repeat (first | (with_reducible exact HR158.out) | (with_reducible refine Kd.C_alloc ?_ _) | (with_reducible refine Kd.C_drewN ?_ _) | (with_reducible refine Kd.C_drew ?_) | exact HR158.out)) | (with_reducible refine Kd.C_alloc ?_ _) | (with_reducible refine Kd.C_drewN ?_ _) | (with_reducible refine Kd.C_drew ?_)))
                 (case aB => exact (by repeat (first | (with_reducible first | exact HB.out | apply below_alloc | apply pw_below_drewN | apply below_drew1 | refine below_set ?_ GE118.out | refine below_set ?_ GE122.out) | exact HB.out)))
                 (case aF => exact (fun k_ hk => ⟨Kd.fresh' (Kd.Q_lt (by (with_reducible repeat (first | apply Kd.Q_alloc | apply Kd.Q_drewN | apply Kd.Q_drew)); first | exact HO_4.out | exact Kd.Q_mono (HO_4.out) (fun k_ hk => by simp only [slice_ownBlock] at hk ⊢; exact hk))) k_ hk, Kd.fresh' (Kd.R_lt (by (with_reducible repeat (first | apply Kd.R_alloc | apply Kd.R_drewN | apply Kd.R_drew)); first | exact HO_123000.out | exact Kd.R_mono (HO_123000.out) (fun k_ hk => by simp only [slice_ownBlock] at hk ⊢; exact hk))) k_ hk, Kd.fresh' (Kd.R_lt (by (with_reducible repeat (first | apply Kd.R_alloc | apply Kd.R_drewN | apply Kd.R_drew)); first | exact HO_123002.out | exact Kd.R_mono (HO_123002.out) (fun k_ hk => by simp only [slice_ownBlock] at hk ⊢; exact hk))) k_ hk⟩))
                 (case aO => exact ((Kd.R_nil _ _ _ _ (fun k_ => some k_ ≠ (.slice A54 y146.length c54 : Value).ownBlock ∧ some k_ ≠ (u123000 : Value).ownBlock ∧ some k_ ≠ (u123002 : Value).ownBlock))))
                 (case aS => exact (below_size (by repeat (first | (with_reducible first | exact HB.out | apply below_alloc | apply pw_below_drewN | apply below_drew1 | refine below_set ?_ GE118.out | refine below_set ?_ GE122.out) | exact HB.out))))
                 (case aL => have := LMc69.out; omega)
                 intro v160 w72 ho hb hg hat
                 rw [← Ny159.out] at ho
                 have n0_ := Aside0.mk (Kd.Q_after (Kd.Q_apart_nil (by (with_reducible repeat (first | apply Kd.Q_alloc | apply Kd.Q_drewN | apply Kd.Q_drew)); first | exact HO_4.out | exact Kd.Q_mono (HO_4.out) (fun k_ hk => by simp only [slice_ownBlock] at hk ⊢; exact hk))) hg hat)
                 have n1_ := Aside0.mk (Kd.R_after (Kd.R_apart_nil (by (with_reducible repeat (first | apply Kd.R_alloc | apply Kd.R_drewN | apply Kd.R_drew)); first | exact HO_123000.out | exact Kd.R_mono (HO_123000.out) (fun k_ hk => by simp only [slice_ownBlock] at hk ⊢; exact hk))) hg hat)
                 have n2_ := Aside0.mk (Kd.R_after (Kd.R_apart_nil (by (with_reducible repeat (first | apply Kd.R_alloc | apply Kd.R_drewN | apply Kd.R_drew)); first | exact HO_123002.out | exact Kd.R_mono (HO_123002.out) (fun k_ hk => by simp only [slice_ownBlock] at hk ⊢; exact hk))) hg hat)
                 have n3_ := Aside0.mk (blk_grown (g := gb118) (o := .cells #[.slice none 0 0, .string (⟨#[]⟩ : ByteArray), .slice none 0 0, .slice none 0 0, .slice none 0 0] 27 (0, 0)) (by (with_reducible repeat (first | refine blk_drewN ?_ _ | refine blk_drew ?_ | refine blk_alloc ?_ _)); exact BK118.out) hg (by simp [Value.ownBlock]))
                 have n4_ := Aside0.mk (blk_grown (g := gb122) (o := .cells #[u123000, .string x123001_30, u123002, .slice none 0 0, .slice none 0 0] 27 (0, 0)) (by (with_reducible repeat (first | refine blk_drewN ?_ _ | refine blk_drew ?_ | refine blk_alloc ?_ _)); exact BK122.out) hg (by simp [Value.ownBlock]))
                 have n5_ := Aside0.mk (hb)
                 have n6_ := Aside0.mk ((show Kd.C Kd.string w72 A71 y155.length y155 from by rw [Ny155.out, KA71.out]; exact Kd.C_mid (lo := 1) (hi := ((wrap64 (x6_58 + 1)) : Int).toNat) (c := c54) ((Kd.Q_reads' (Kd.Q_after (Kd.Q_apart_nil (by (with_reducible repeat (first | apply Kd.Q_alloc | apply Kd.Q_drewN | apply Kd.Q_drew)); first | exact HO_4.out | exact Kd.Q_mono (HO_4.out) (fun k_ hk => by simp only [slice_ownBlock] at hk ⊢; exact hk))) hg hat)).2.2) KM71.out KL71.out ((Kd.Q_reads' (Kd.Q_after (Kd.Q_apart_nil (by (with_reducible repeat (first | apply Kd.Q_alloc | apply Kd.Q_drewN | apply Kd.Q_drew)); first | exact HO_4.out | exact Kd.Q_mono (HO_4.out) (fun k_ hk => by simp only [slice_ownBlock] at hk ⊢; exact hk))) hg hat)).2.1)))
                 have n7_ := Aside0.mk (ho)
                 clear HO_4 HO_123000 HO_123002 BK118 BK122 HB HR158
                 have HO_4 := n0_
                 have HO_123000 := n1_
                 have HO_123002 := n2_
                 have BK118 := n3_
                 have BK122 := n4_
                 have HB := n5_
                 have HR158 := n6_
                 have HO161 := n7_
                 clear n0_ n1_ n2_ n3_ n4_ n5_ n6_ n7_ ho hb hg hat
                 obtain ⟨Ao73, co73, eo73⟩ := Kd.R_slice HO161.out
                 (first | subst eo73 | (injection eo73 with f1_ f2_ f3_; have f4_ := f1_.symm; have f5_ := f3_.symm; clear f1_ f2_ f3_; subst f4_; subst f5_))
                 refine hK.out _ _ ⟨(blk_cell BK122.out 0).trans rfl, (blk_cell BK122.out 1).trans rfl, (blk_cell BK122.out 2).trans rfl, (blk_cell BK122.out 3).trans rfl, (blk_cell BK122.out 4).trans rfl⟩ (fun hHeld => ?_)
                 clear hK K
                 refine norm_ (a' := ?_) ?_ ?_
                 rotate_left
                 ·show Act.put _ (some 91) _ = _
                  simp only [Act.put, List.setIfInBounds_toArray, List.set_cons_zero, List.set_cons_succ, i64_w, i32_w]
                  rfl
                 refine pure_ (i := 7) (N := some 92) (v := ?_) (a' := ?_) #[true, true, true, true, true, true, true, true, false] rfl rfl (any_of HT_.out (by kernel_rfl)) (fun _ _ _ h => h) (Or.inl ⟨by rfl, ?_⟩) ?_ ?_
                 rotate_left
                 ·intro w'
                  go_simp
                  with_reducible rfl
                 rotate_left
                 ·simp only [Act.put, List.setIfInBounds_toArray, List.set_cons_zero, List.set_cons_succ, i64_w, i32_w]
                  rfl
                 refine last_ (i := 8) (N := none) #[true, true, true, true, true, true, true, true, true] rfl rfl (one_of HT_.out (by kernel_rfl)) (by decide) (fun K hK => ?_)
                 have hs74 : w72.cell? ⟨gb122, 3, none⟩ = some (.slice none 0 0) := (blk_cell BK122.out 3).trans rfl
                 have hfs74 := blk_frozen BK122.out 3
                 have hns74_0 := NB118_122.out
                 have hms74_0 := NB122_118.out
                 refine skip_ (w1 := ?_) (by rfl) rfl ?_ ?_
                 rotate_left
                 ·go_simp
                  rfl
                 refine hK.out _ _ ?_
                 clear hK K
                 refine done_ (done_of HT_.out (by kernel_rfl)) ?_
                 try go_wp2
                 go_meet
                 case rel => exact ⟨_, (y159), (.slice Ao73 y159.length co73), H', ⟨by have := HJ3.out; have := HJ21.out; have := HJ30.out; have := HJ40.out; have := HJ52.out; have := HJ58.out; first | omega | exact Nat.le_refl _⟩, ⟨by (with_reducible repeat (first | apply Kd.Q_alloc | apply Kd.Q_drewN | apply Kd.Q_drew)); first | exact Kd.Q_mono (Kd.Q_far (p := ⟨gb122, 3, none⟩) (Kd.Q_types HO_4.out BK122.out (by decide)) (fun _ hk => hk.2) (.slice Ao73 y159.length co73)) (fun _ hk => ⟨hk.1.1.1, ⟨hk.1.1.2, hk.1.2⟩⟩) | exact Kd.Q_mono (Kd.Q_mono (Kd.Q_far (p := ⟨gb122, 3, none⟩) (Kd.Q_types HO_4.out BK122.out (by decide)) (fun _ hk => hk.2) (.slice Ao73 y159.length co73)) (fun _ hk => ⟨hk.1.1.1, ⟨hk.1.1.2, hk.1.2⟩⟩)) (fun k_ hk => by simp only [slice_ownBlock] at hk ⊢; exact hk)⟩, ⟨by (with_reducible repeat (first | apply Kd.R_alloc | apply Kd.R_drewN | apply Kd.R_drew)); first | exact Kd.R_mono (Kd.R_far (p := ⟨gb122, 3, none⟩) (Kd.R_types HO_123000.out BK122.out (by decide)) (fun _ hk => hk.2) (.slice Ao73 y159.length co73)) (fun _ hk => ⟨hk.1.1.1, ⟨hk.1.1.2, hk.1.2⟩⟩) | exact Kd.R_mono (Kd.R_mono (Kd.R_far (p := ⟨gb122, 3, none⟩) (Kd.R_types HO_123000.out BK122.out (by decide)) (fun _ hk => hk.2) (.slice Ao73 y159.length co73)) (fun _ hk => ⟨hk.1.1.1, ⟨hk.1.1.2, hk.1.2⟩⟩)) (fun k_ hk => by simp only [slice_ownBlock] at hk ⊢; exact hk)⟩, ⟨by (with_reducible repeat (first | apply Kd.R_alloc | apply Kd.R_drewN | apply Kd.R_drew)); first | exact Kd.R_mono (Kd.R_far (p := ⟨gb122, 3, none⟩) (Kd.R_types HO_123002.out BK122.out (by decide)) (fun _ hk => hk.2) (.slice Ao73 y159.length co73)) (fun _ hk => ⟨hk.1.1.1, ⟨hk.1.1.2, hk.1.2⟩⟩) | exact Kd.R_mono (Kd.R_mono (Kd.R_far (p := ⟨gb122, 3, none⟩) (Kd.R_types HO_123002.out BK122.out (by decide)) (fun _ hk => hk.2) (.slice Ao73 y159.length co73)) (fun _ hk => ⟨hk.1.1.1, ⟨hk.1.1.2, hk.1.2⟩⟩)) (fun k_ hk => by simp only [slice_ownBlock] at hk ⊢; exact hk)⟩, ⟨by (with_reducible repeat (first | apply Kd.R_alloc | apply Kd.R_drewN | apply Kd.R_drew)); first | exact Kd.R_mono (Kd.R_far (p := ⟨gb122, 3, none⟩) (Kd.R_types HO161.out BK122.out (by decide)) (fun _ hk => hk.2) (.slice Ao73 y159.length co73)) (fun _ hk => ⟨hk.1.1, ⟨hk.1.2.1, hk.1.2.2⟩⟩) | exact Kd.R_mono (Kd.R_mono (Kd.R_far (p := ⟨gb122, 3, none⟩) (Kd.R_types HO161.out BK122.out (by decide)) (fun _ hk => hk.2) (.slice Ao73 y159.length co73)) (fun _ hk => ⟨hk.1.1, ⟨hk.1.2.1, hk.1.2.2⟩⟩)) (fun k_ hk => by simp only [slice_ownBlock] at hk ⊢; exact hk)⟩, ⟨by (with_reducible repeat (first | refine blk_drewN ?_ _ | refine blk_drew ?_ | refine blk_alloc ?_ _)); refine blk_far ?_ NB118_122.out _; (with_reducible repeat (first | refine blk_drewN ?_ _ | refine blk_drew ?_ | refine blk_alloc ?_ _)); exact BK118.out⟩, ⟨by (with_reducible repeat (first | refine blk_drewN ?_ _ | refine blk_drew ?_ | refine blk_alloc ?_ _)); refine blk_put (cs := #[u123000, .string x123001_30, u123002, .slice none 0 0, .slice none 0 0]) ?_ 3 _ rfl; (with_reducible repeat (first | refine blk_drewN ?_ _ | refine blk_drew ?_ | refine blk_alloc ?_ _)); exact BK122.out⟩, ⟨by repeat (first | (with_reducible first | exact HB.out | apply below_alloc | apply pw_below_drewN | apply below_drew1 | refine below_set ?_ GE118.out | refine below_set ?_ GE122.out) | exact HB.out)⟩⟩
                rw [if_neg c69] at H
                exact absurd H (by simp)
               rw [if_neg c68] at H
               exact absurd H (by simp)
              rw [if_neg c67] at H
              exact absurd H (by simp)
             as_aux_lemma =>
             clear HC66
             try clear c1
             try clear p1
             try clear q1
             try clear hx1
             try clear qi1
             try clear c2
             try clear p2
             try clear q2
             try clear c3
             try clear c4
             try clear q4
             try clear c5
             try clear q5
             try clear c6
             try clear p6
             try clear q6
             try clear c7
             try clear q7
             try clear c8
             try clear c9
             try clear c9b0
             try clear c10
             try clear c10b0
             try clear c11
             try clear c11b0
             try clear c12
             try clear c12b0
             try clear p12
             try clear q12
             try clear hx12
             try clear c13
             try clear c13b0
             try clear p13
             try clear q13
             try clear hx13
             try clear c14
             try clear c14b0
             try clear c14b1
             try clear p14
             try clear q14
             try clear hx14
             try clear qi14
             try clear c16
             try clear c16b0
             try clear c17
             try clear c17b0
             try clear c19
             try clear c20
             try clear c23
             try clear c23b0
             try clear c23b1
             try clear c24
             try clear c24b0
             try clear c24b1
             try clear c25
             try clear q27
             try clear c33
             try clear c33b0
             try clear c34
             try clear c34b0
             try clear c35
             try clear c38
             try clear c38b0
             try clear c38b1
             try clear c39
             try clear c39b0
             try clear c39b1
             try clear c42
             try clear q42
             try clear c43
             try clear c43b0
             try clear c43b1
             try clear c44
             try clear c44b0
             try clear c44b1
             try clear c45
             try clear q47
             try clear c51
             try clear c51b0
             try clear c51b1
             try clear c52
             try clear c52b0
             try clear c52b1
             try clear c54
             try clear q54
             try clear c55
             try clear c55b0
             try clear c55b1
             try clear c56
             try clear c56b0
             try clear c56b1
             try clear c58
             try clear c60
             try clear c60b0
             try clear c60b1
             try clear c62
             try clear q62
             try clear c63
             try clear c63b0
             try clear c63b1
             try clear c64
             try clear p64
             try clear c67
             try clear c67b0
             try clear c67b1
             try clear c68
             try clear c68b0
             try clear c68b1
             try clear c69
             try clear c71
             try clear q71
             try clear hcz21_0
             try clear hcz21_1
             try clear hcz21_2
             try clear hcz21_3
             try clear hcz21_4
             try clear hcz36_0
             try clear hcz36_1
             try clear hcz36_2
             try clear hcz36_3
             try clear hcz36_4
             try clear hcz65_0
             try clear hcz65_1
             try clear hcz65_2
             try clear hcz65_3
             try clear hcz65_4
             try clear hfz21_0
             try clear hfz21_1
             try clear hfz21_2
             try clear hfz21_3
             try clear hfz21_4
             try clear hfz36_0
             try clear hfz36_1
             try clear hfz36_2
             try clear hfz36_3
             try clear hfz36_4
             try clear hfz65_0
             try clear hfz65_1
             try clear hfz65_2
             try clear hfz65_3
             try clear hfz65_4
             try clear hx124_0
             try clear hx125_0
             try clear hx134_0
             try clear hx149_0
             try clear p1
             try clear p12
             try clear p124
             try clear p125
             try clear p13
             try clear p134
             try clear p14
             try clear p149
             try clear p2
             try clear p6
             try clear q1
             try clear q12
             try clear q124
             try clear q125
             try clear q13
             try clear q134
             try clear q14
             try clear q149
             try clear q2
             try clear q27
             try clear q4
             try clear q42
             try clear q47
             try clear q5
             try clear q54
             try clear q6
             try clear q62
             try clear q71
             obtain ⟨kq, x123003_65, u123003, HA, HJ65, HO_4, HO_123000, HO_123002, HO_123003, BK118, BK122, HB⟩ := hcut
             cases kq with
             | zero => exact absurd HA.out (by simp [crucibleref1_Words.j6])
             | succ kj65 =>
              have H := HA.out
              clear HA
              simp only [crucibleref1_Words.j6] at H
              obtain ⟨ji75, hji75⟩ : ∃ j_ : Int, (wrap64 (x6_58 + 1)) = j_ := ⟨_, rfl⟩
              replace H : (if 0 ≤ (ji75) then (if (ji75) ≤ (y146.length : Int) then (crucibleref1_Words.j7 kj65 (y146.drop ((ji75) : Int).toNat) x123000_21 x123001_30 x123002_40 x123003_65) else (none)) else (none)) = some (r1, r2, r3, r4, r5, r6) := by first | (rw [hji75] at H; exact H) | (simp only [hji75] at H ⊢; exact H)
              have hji75w : (IntKind.i64.wrap (x6_58 + 1)) = ji75 := (i64_w _).trans hji75
              by_cases c76 : 0 ≤ (ji75)
              ·rw [if_pos c76] at H
               have c76b0 := eq_true c76
               have c76b1 : decide (0 ≤ (ji75)) = true := decide_eq_true c76
               clear c76
               by_cases c77 : (ji75) ≤ (y146.length : Int)
               ·rw [if_pos c77] at H
                have c77b0 := eq_true c77
                have c77b1 : decide ((ji75) ≤ (y146.length : Int)) = true := decide_eq_true c77
                clear c77
                obtain ⟨y162, hy162⟩ : ∃ y_ : List ByteArray, y_ = (y146.drop ((ji75) : Int).toNat) := ⟨_, rfl⟩
                replace H : (crucibleref1_Words.j7 kj65 y162 x123000_21 x123001_30 x123002_40 x123003_65) = some (r1, r2, r3, r4, r5, r6) := by first | (rw [hy162]; with_reducible exact H) | (have H2_ := (Option.bind_some _ _).symm.trans H; rw [hy162]; with_reducible exact H2_) | (have H2_ := (Option.bind_some _ _).symm.trans H; with_reducible exact H2_) | with_reducible exact H | (rw [hy162]; exact H) | exact H
                have Ny162 := Aside0.mk hy162
                clear hy162
                have H' := Aside0.mk H
                clear H
                have q78 : ((ji75) : Int) ≤ ((y146.length : Int) : Int) := of_decide_eq_true (by first | (with_reducible assumption) | assumption)
                obtain ⟨i078, hi078, _, hsz78, _⟩ := info_parts info9
                have hcut78 := cut_from (P := Tryd.prog) 22 9 .i64 Tryd.underlying22 hi078 1 hsz78 A54 y146.length c54 (ji75) (of_decide_eq_true (by first | (with_reducible assumption) | assumption)) q78
                have hr78 := Kd.Q_drop (k := ((ji75) : Int).toNat) HO_4.out (by omega)
                obtain ⟨A78, hA78⟩ : ∃ A1, A1 = (if c54 = ((ji75) : Int).toNat then A54 else (A54 : Option Addr).map (·.add (((ji75) : Int).toNat * 1))) := ⟨_, rfl⟩
                obtain ⟨c78, hc78⟩ : ∃ c1, c1 = c54 - ((ji75) : Int).toNat := ⟨_, rfl⟩
                have hy78 : y162.length = y146.length - ((ji75) : Int).toNat := (by rw [Ny162.out, List.length_drop])
                rw [← Ny162.out] at hr78
                rw [← hy78, ← hA78, ← hc78] at hcut78
                replace hr78 : Kd.Q Kd.string 9 wc w.heap.size (fun k_ => some k_ ≠ (u123000 : Value).ownBlock ∧ some k_ ≠ (u123002 : Value).ownBlock ∧ some k_ ≠ (u123003 : Value).ownBlock) (.slice A78 y162.length c78) y162 := (by rw [hA78, hc78, hy78]; exact hr78)
                have HE78 : Aside0 ((Value.slice A78 y162.length c78).ownBlock = (.slice A54 y146.length c54 : Value).ownBlock) := ⟨by rw [hA78]; split <;> (cases (A54 : Option Addr) <;> first | rfl | (simp [Value.ownBlock, add_block]; done))⟩
                clear hy78 hi078 hsz78 HO_4 hA78 hc78
                have HO164 := Aside0.mk hr78
                clear hr78
                replace q78 := eq_true q78
                have n_ := Aside0.mk (Kd.R_mono (ok' := fun k_ => (some k_ ≠ (.slice A78 y162.length c78 : Value).ownBlock ∧ (some k_ ≠ (u123002 : Value).ownBlock ∧ some k_ ≠ (u123003 : Value).ownBlock))) HO_123000.out (fun k_ hk => ⟨(by rw [HE78.out]; exact hk.1), ⟨hk.2.1, hk.2.2⟩⟩))
                clear HO_123000
                have HO_123000 := n_
                clear n_
                have n_ := Aside0.mk (Kd.R_mono (ok' := fun k_ => (some k_ ≠ (.slice A78 y162.length c78 : Value).ownBlock ∧ (some k_ ≠ (u123000 : Value).ownBlock ∧ some k_ ≠ (u123003 : Value).ownBlock))) HO_123002.out (fun k_ hk => ⟨(by rw [HE78.out]; exact hk.1), ⟨hk.2.1, hk.2.2⟩⟩))
                clear HO_123002
                have HO_123002 := n_
                clear n_
                have n_ := Aside0.mk (Kd.R_mono (ok' := fun k_ => (some k_ ≠ (.slice A78 y162.length c78 : Value).ownBlock ∧ (some k_ ≠ (u123000 : Value).ownBlock ∧ some k_ ≠ (u123002 : Value).ownBlock))) HO_123003.out (fun k_ hk => ⟨(by rw [HE78.out]; exact hk.1), ⟨hk.2.1, hk.2.2⟩⟩))
                clear HO_123003
                have HO_123003 := n_
                clear n_
                go_wp2
                go_meet
                case rel => exact ⟨_, (y162), ((⟨#[]⟩ : ByteArray)), (x123003_65), (u123003), H', ⟨by have := HJ3.out; have := HJ21.out; have := HJ30.out; have := HJ40.out; have := HJ52.out; have := HJ58.out; have := HJ65.out; first | omega | exact Nat.le_refl _⟩, ⟨by (with_reducible repeat (first | apply Kd.Q_alloc | apply Kd.Q_drewN | apply Kd.Q_drew)); first | exact HO164.out | exact Kd.Q_mono (HO164.out) (fun k_ hk => by simp only [slice_ownBlock] at hk ⊢; exact hk)⟩, ⟨by (with_reducible repeat (first | apply Kd.R_alloc | apply Kd.R_drewN | apply Kd.R_drew)); first | exact HO_123000.out | exact Kd.R_mono (HO_123000.out) (fun k_ hk => by simp only [slice_ownBlock] at hk ⊢; exact hk)⟩, ⟨by (with_reducible repeat (first | apply Kd.R_alloc | apply Kd.R_drewN | apply Kd.R_drew)); first | exact HO_123002.out | exact Kd.R_mono (HO_123002.out) (fun k_ hk => by simp only [slice_ownBlock] at hk ⊢; exact hk)⟩, ⟨by (with_reducible repeat (first | apply Kd.R_alloc | apply Kd.R_drewN | apply Kd.R_drew)); first | exact HO_123003.out | exact Kd.R_mono (HO_123003.out) (fun k_ hk => by simp only [slice_ownBlock] at hk ⊢; exact hk)⟩, ⟨by (with_reducible repeat (first | refine blk_drewN ?_ _ | refine blk_drew ?_ | refine blk_alloc ?_ _)); exact BK118.out⟩, ⟨by (with_reducible repeat (first | refine blk_drewN ?_ _ | refine blk_drew ?_ | refine blk_alloc ?_ _)); exact BK122.out⟩, ⟨by repeat (first | (with_reducible first | exact HB.out | apply below_alloc | apply pw_below_drewN | apply below_drew1 | refine below_set ?_ GE118.out | refine below_set ?_ GE122.out) | exact HB.out)⟩⟩
               rw [if_neg c77] at H
               exact absurd H (by simp)
              rw [if_neg c76] at H
              exact absurd H (by simp)
           replace c58 := Bool.eq_false_iff.mpr c58
           subst c58
           have H1 : (crucibleref1_Words.j7 kj52 y146 x123000_21 x123001_30 x123002_40 ([] : List ByteArray)) = some (r1, r2, r3, r4, r5, r6) := by rw [if_neg (show ¬ (false = true) by decide)] at H; exact H
           clear H
           have H := H1
           clear H1
           have H' := Aside0.mk H
           clear H
           go_wp2
           go_meet
           case rel => exact ⟨_, (y146), ((⟨#[]⟩ : ByteArray)), (([] : List ByteArray)), (.slice none 0 0), H', ⟨by have := HJ3.out; have := HJ21.out; have := HJ30.out; have := HJ40.out; have := HJ52.out; first | omega | exact Nat.le_refl _⟩, ⟨by (with_reducible repeat (first | apply Kd.Q_alloc | apply Kd.Q_drewN | apply Kd.Q_drew)); first | exact Kd.Q_mono HO_4.out (fun _ hk => ⟨hk.1, ⟨hk.2, (by simp [Value.ownBlock])⟩⟩) | exact Kd.Q_mono (Kd.Q_mono HO_4.out (fun _ hk => ⟨hk.1, ⟨hk.2, (by simp [Value.ownBlock])⟩⟩)) (fun k_ hk => by simp only [slice_ownBlock] at hk ⊢; exact hk)⟩, ⟨by (with_reducible repeat (first | apply Kd.R_alloc | apply Kd.R_drewN | apply Kd.R_drew)); first | exact Kd.R_mono HO_123000.out (fun _ hk => ⟨hk.1, ⟨hk.2, (by simp [Value.ownBlock])⟩⟩) | exact Kd.R_mono (Kd.R_mono HO_123000.out (fun _ hk => ⟨hk.1, ⟨hk.2, (by simp [Value.ownBlock])⟩⟩)) (fun k_ hk => by simp only [slice_ownBlock] at hk ⊢; exact hk)⟩, ⟨by (with_reducible repeat (first | apply Kd.R_alloc | apply Kd.R_drewN | apply Kd.R_drew)); first | exact Kd.R_mono HO_123002.out (fun _ hk => ⟨hk.1, ⟨hk.2, (by simp [Value.ownBlock])⟩⟩) | exact Kd.R_mono (Kd.R_mono HO_123002.out (fun _ hk => ⟨hk.1, ⟨hk.2, (by simp [Value.ownBlock])⟩⟩)) (fun k_ hk => by simp only [slice_ownBlock] at hk ⊢; exact hk)⟩, ⟨by first | exact Kd.R_nil _ _ _ _ _ | exact Kd.N_nil _ _ _ _ _ | exact Kd.V_nil _ _ _ _ _ | exact Kd.Q_nil _ _ _ _ _ | exact Kd.S_nil _ _ _ _ _⟩, ⟨by (with_reducible repeat (first | refine blk_drewN ?_ _ | refine blk_drew ?_ | refine blk_alloc ?_ _)); exact BK118.out⟩, ⟨by (with_reducible repeat (first | refine blk_drewN ?_ _ | refine blk_drew ?_ | refine blk_alloc ?_ _)); exact BK122.out⟩, ⟨by repeat (first | (with_reducible first | exact HB.out | apply below_alloc | apply pw_below_drewN | apply below_drew1 | refine below_set ?_ GE118.out | refine below_set ?_ GE122.out) | exact HB.out)⟩⟩
          as_aux_lemma =>
          clear HC57
          try clear c1
          try clear p1
          try clear q1
          try clear hx1
          try clear qi1
          try clear c2
          try clear p2
          try clear q2
          try clear c3
          try clear c4
          try clear q4
          try clear c5
          try clear q5
          try clear c6
          try clear p6
          try clear q6
          try clear c7
          try clear q7
          try clear c8
          try clear c9
          try clear c9b0
          try clear c10
          try clear c10b0
          try clear c11
          try clear c11b0
          try clear c12
          try clear c12b0
          try clear p12
          try clear q12
          try clear hx12
          try clear c13
          try clear c13b0
          try clear p13
          try clear q13
          try clear hx13
          try clear c14
          try clear c14b0
          try clear c14b1
          try clear p14
          try clear q14
          try clear hx14
          try clear qi14
          try clear c16
          try clear c16b0
          try clear c17
          try clear c17b0
          try clear c19
          try clear c20
          try clear c23
          try clear c23b0
          try clear c23b1
          try clear c24
          try clear c24b0
          try clear c24b1
          try clear c25
          try clear q27
          try clear c33
          try clear c33b0
          try clear c34
          try clear c34b0
          try clear c35
          try clear c38
          try clear c38b0
          try clear c38b1
          try clear c39
          try clear c39b0
          try clear c39b1
          try clear c42
          try clear q42
          try clear c43
          try clear c43b0
          try clear c43b1
          try clear c44
          try clear c44b0
          try clear c44b1
          try clear c45
          try clear q47
          try clear c51
          try clear c51b0
          try clear c51b1
          try clear c52
          try clear c52b0
          try clear c52b1
          try clear c54
          try clear q54
          try clear c55
          try clear c55b0
          try clear c55b1
          try clear c56
          try clear c56b0
          try clear c56b1
          try clear c58
          try clear c60
          try clear c60b0
          try clear c60b1
          try clear c62
          try clear q62
          try clear c63
          try clear c63b0
          try clear c63b1
          try clear c64
          try clear p64
          try clear c67
          try clear c67b0
          try clear c67b1
          try clear c68
          try clear c68b0
          try clear c68b1
          try clear c69
          try clear c71
          try clear q71
          try clear c76
          try clear c76b0
          try clear c76b1
          try clear c77
          try clear c77b0
          try clear c77b1
          try clear c78
          try clear q78
          try clear hcz21_0
          try clear hcz21_1
          try clear hcz21_2
          try clear hcz21_3
          try clear hcz21_4
          try clear hcz36_0
          try clear hcz36_1
          try clear hcz36_2
          try clear hcz36_3
          try clear hcz36_4
          try clear hcz65_0
          try clear hcz65_1
          try clear hcz65_2
          try clear hcz65_3
          try clear hcz65_4
          try clear hfz21_0
          try clear hfz21_1
          try clear hfz21_2
          try clear hfz21_3
          try clear hfz21_4
          try clear hfz36_0
          try clear hfz36_1
          try clear hfz36_2
          try clear hfz36_3
          try clear hfz36_4
          try clear hfz65_0
          try clear hfz65_1
          try clear hfz65_2
          try clear hfz65_3
          try clear hfz65_4
          try clear hx124_0
          try clear hx125_0
          try clear hx134_0
          try clear hx149_0
          try clear p1
          try clear p12
          try clear p124
          try clear p125
          try clear p13
          try clear p134
          try clear p14
          try clear p149
          try clear p2
          try clear p6
          try clear p64
          try clear q1
          try clear q12
          try clear q124
          try clear q125
          try clear q13
          try clear q134
          try clear q14
          try clear q149
          try clear q2
          try clear q27
          try clear q4
          try clear q42
          try clear q47
          try clear q5
          try clear q54
          try clear q6
          try clear q62
          try clear q7
          try clear q71
          try clear q78
          obtain ⟨kq, x4_56, x119001_56, x123003_56, u123003, HA, HJ56, HO_4, HO_123000, HO_123002, HO_123003, BK118, BK122, HB⟩ := hcut
          cases kq with
          | zero => exact absurd HA.out (by simp [crucibleref1_Words.j7])
          | succ kj56 =>
           have H := HA.out
           clear HA
           simp only [crucibleref1_Words.j7] at H
           have HC79 := Aside0.mk H
           clear H
           go_upto_region 18 with (fail)
           go_cut [105] (fun v105 wc => ∃ (kq : Nat) (x105_78 : Bool), v105 = .bool x105_78 ∧ Aside0 (crucibleref1_Words.j8 kq x4_56 x105_78 x123000_21 x123001_30 x123002_40 x123003_56 = some (r1, r2, r3, r4, r5, r6)) ∧ Aside0 (kq ≤ kj56) ∧ Aside0 (Kd.Q Kd.string 9 wc w.heap.size (fun k_ => some k_ ≠ (u123000 : Value).ownBlock ∧ some k_ ≠ (u123002 : Value).ownBlock ∧ some k_ ≠ (u123003 : Value).ownBlock) u4 x4_56) ∧ Aside0 (Kd.R Kd.string 9 wc w.heap.size (fun k_ => some k_ ≠ (u4 : Value).ownBlock ∧ some k_ ≠ (u123002 : Value).ownBlock ∧ some k_ ≠ (u123003 : Value).ownBlock) u123000 x123000_21) ∧ Aside0 (Kd.R Kd.string 9 wc w.heap.size (fun k_ => some k_ ≠ (u4 : Value).ownBlock ∧ some k_ ≠ (u123000 : Value).ownBlock ∧ some k_ ≠ (u123003 : Value).ownBlock) u123002 x123002_40) ∧ Aside0 (Kd.R Kd.string 9 wc w.heap.size (fun k_ => some k_ ≠ (u4 : Value).ownBlock ∧ some k_ ≠ (u123000 : Value).ownBlock ∧ some k_ ≠ (u123002 : Value).ownBlock) u123003 x123003_56) ∧ Aside0 (wc.heap[gb118]? = some (.cells #[(.slice none 0 0), .string x119001_56, (.slice none 0 0), (.slice none 0 0), (.slice none 0 0)] 27 (0, 0))) ∧ Aside0 (wc.heap[gb122]? = some (.cells #[u123000, .string x123001_30, u123002, u123003, (.slice none 0 0)] 27 (0, 0))) ∧ Aside0 (Below w.heap.size w wc))
           case first => as_aux_lemma =>
            have H := HC79.out
            clear HC79
            by_cases c80 : (x4_56.length : Int) > 0
            ·rw [if_pos c80] at H
             have c80b0 : decide (0 < (x4_56.length : Int)) = true := decide_eq_true c80
             have c80b1 : decide (0 < x4_56.length) = true := decide_eq_true (by omega)
             clear c80
             (first | rw [c80b0] | (simp only [i64_w, i32_w]; rw [c80b0]) | skip)
             by_cases c81 : 0 < (x4_56.length : Int)
             ·rw [if_pos c81] at H
              have c81b0 : decide (0 < (x4_56.length : Int)) = true := decide_eq_true c81
              have c81b1 : decide (0 < x4_56.length) = true := decide_eq_true (by omega)
              clear c81
              have H' := Aside0.mk H
              clear H
              obtain ⟨Ao82, co82, eo82, _⟩ := Kd.Q_slice HO_4.out
              subst eo82
              have p165 : 0 ≤ (0 : Int) := (by omega)
              have q165 : 0 < (x4_56.length : Int) := of_decide_eq_true (by first | (with_reducible assumption) | assumption)
              obtain ⟨ad165, e165, hx165_0⟩ := Kd.at_string (Kd.Q_reads' HO_4.out).2.2 0 p165 q165
              cases e165
              have qi165 : (0 < x4_56.length) = True := eq_true (by omega)
              (try rw [show ((0 : Int)).toNat = 0 from rfl] at hx165_0)
              (try rw [Addr.add_zero'] at hx165_0)
              replace p165 := eq_true p165
              replace q165 := eq_true q165
              go_wp2
              go_meet
              case rel => exact ⟨_, (((rdOf ByteArray.empty x4_56 0).toList == ([124, 124] : List UInt8))), (by first | rfl | (simp; done) | (simp [*]; done)), H', ⟨by have := HJ3.out; have := HJ21.out; have := HJ30.out; have := HJ40.out; have := HJ52.out; have := HJ56.out; first | omega | exact Nat.le_refl _⟩, ⟨by (with_reducible repeat (first | apply Kd.Q_alloc | apply Kd.Q_drewN | apply Kd.Q_drew)); first | exact HO_4.out | exact Kd.Q_mono (HO_4.out) (fun k_ hk => by simp only [slice_ownBlock] at hk ⊢; exact hk)⟩, ⟨by (with_reducible repeat (first | apply Kd.R_alloc | apply Kd.R_drewN | apply Kd.R_drew)); first | exact HO_123000.out | exact Kd.R_mono (HO_123000.out) (fun k_ hk => by simp only [slice_ownBlock] at hk ⊢; exact hk)⟩, ⟨by (with_reducible repeat (first | apply Kd.R_alloc | apply Kd.R_drewN | apply Kd.R_drew)); first | exact HO_123002.out | exact Kd.R_mono (HO_123002.out) (fun k_ hk => by simp only [slice_ownBlock] at hk ⊢; exact hk)⟩, ⟨by (with_reducible repeat (first | apply Kd.R_alloc | apply Kd.R_drewN | apply Kd.R_drew)); first | exact HO_123003.out | exact Kd.R_mono (HO_123003.out) (fun k_ hk => by simp only [slice_ownBlock] at hk ⊢; exact hk)⟩, ⟨by (with_reducible repeat (first | refine blk_drewN ?_ _ | refine blk_drew ?_ | refine blk_alloc ?_ _)); exact BK118.out⟩, ⟨by (with_reducible repeat (first | refine blk_drewN ?_ _ | refine blk_drew ?_ | refine blk_alloc ?_ _)); exact BK122.out⟩, ⟨by repeat (first | (with_reducible first | exact HB.out | apply below_alloc | apply pw_below_drewN | apply below_drew1 | refine below_set ?_ GE118.out | refine below_set ?_ GE122.out) | exact HB.out)⟩⟩
             rw [if_neg c81] at H
             exact absurd H (by simp)
            rw [if_neg c80] at H
            have c80b0 : decide (0 < (x4_56.length : Int)) = false := decide_eq_false c80
            have c80b1 : decide (0 < x4_56.length) = false := decide_eq_false (by omega)
            clear c80
            (first | rw [c80b0] | (simp only [i64_w, i32_w]; rw [c80b0]) | skip)
            have H' := Aside0.mk H
            clear H
            obtain ⟨Ao83, co83, eo83, _⟩ := Kd.Q_slice HO_4.out
            subst eo83
            go_wp2
            go_meet
            case rel => exact ⟨_, (false), (by first | rfl | (simp; done) | (simp [*]; done)), H', ⟨by have := HJ3.out; have := HJ21.out; have := HJ30.out; have := HJ40.out; have := HJ52.out; have := HJ56.out; first | omega | exact Nat.le_refl _⟩, ⟨by (with_reducible repeat (first | apply Kd.Q_alloc | apply Kd.Q_drewN | apply Kd.Q_drew)); first | exact HO_4.out | exact Kd.Q_mono (HO_4.out) (fun k_ hk => by simp only [slice_ownBlock] at hk ⊢; exact hk)⟩, ⟨by (with_reducible repeat (first | apply Kd.R_alloc | apply Kd.R_drewN | apply Kd.R_drew)); first | exact HO_123000.out | exact Kd.R_mono (HO_123000.out) (fun k_ hk => by simp only [slice_ownBlock] at hk ⊢; exact hk)⟩, ⟨by (with_reducible repeat (first | apply Kd.R_alloc | apply Kd.R_drewN | apply Kd.R_drew)); first | exact HO_123002.out | exact Kd.R_mono (HO_123002.out) (fun k_ hk => by simp only [slice_ownBlock] at hk ⊢; exact hk)⟩, ⟨by (with_reducible repeat (first | apply Kd.R_alloc | apply Kd.R_drewN | apply Kd.R_drew)); first | exact HO_123003.out | exact Kd.R_mono (HO_123003.out) (fun k_ hk => by simp only [slice_ownBlock] at hk ⊢; exact hk)⟩, ⟨by (with_reducible repeat (first | refine blk_drewN ?_ _ | refine blk_drew ?_ | refine blk_alloc ?_ _)); exact BK118.out⟩, ⟨by (with_reducible repeat (first | refine blk_drewN ?_ _ | refine blk_drew ?_ | refine blk_alloc ?_ _)); exact BK122.out⟩, ⟨by repeat (first | (with_reducible first | exact HB.out | apply below_alloc | apply pw_below_drewN | apply below_drew1 | refine below_set ?_ GE118.out | refine below_set ?_ GE122.out) | exact HB.out)⟩⟩
           as_aux_lemma =>
           clear HC79
           try clear c1
           try clear p1
           try clear q1
           try clear hx1
           try clear qi1
           try clear c2
           try clear p2
           try clear q2
           try clear c3
           try clear c4
           try clear q4
           try clear c5
           try clear q5
           try clear c6
           try clear p6
           try clear q6
           try clear c7
           try clear q7
           try clear c8
           try clear c9
           try clear c9b0
           try clear c10
           try clear c10b0
           try clear c11
           try clear c11b0
           try clear c12
           try clear c12b0
           try clear p12
           try clear q12
           try clear hx12
           try clear c13
           try clear c13b0
           try clear p13
           try clear q13
           try clear hx13
           try clear c14
           try clear c14b0
           try clear c14b1
           try clear p14
           try clear q14
           try clear hx14
           try clear qi14
           try clear c16
           try clear c16b0
           try clear p16
           try clear q16
           try clear hx16
           try clear qi16
           try clear c17
           try clear c17b0
           try clear c19
           try clear c20
           try clear c23
           try clear c23b0
           try clear c23b1
           try clear c24
           try clear c24b0
           try clear c24b1
           try clear c25
           try clear q27
           try clear c33
           try clear c33b0
           try clear c34
           try clear c34b0
           try clear c35
           try clear c38
           try clear c38b0
           try clear c38b1
           try clear c39
           try clear c39b0
           try clear c39b1
           try clear c42
           try clear q42
           try clear c43
           try clear c43b0
           try clear c43b1
           try clear c44
           try clear c44b0
           try clear c44b1
           try clear c45
           try clear q47
           try clear c51
           try clear c51b0
           try clear c51b1
           try clear c52
           try clear c52b0
           try clear c52b1
           try clear c54
           try clear q54
           try clear c55
           try clear c55b0
           try clear c55b1
           try clear c56
           try clear c56b0
           try clear c56b1
           try clear c58
           try clear c60
           try clear c60b0
           try clear c60b1
           try clear c62
           try clear q62
           try clear c63
           try clear c63b0
           try clear c63b1
           try clear c64
           try clear p64
           try clear c67
           try clear c67b0
           try clear c67b1
           try clear c68
           try clear c68b0
           try clear c68b1
           try clear c69
           try clear c71
           try clear q71
           try clear c76
           try clear c76b0
           try clear c76b1
           try clear c77
           try clear c77b0
           try clear c77b1
           try clear c78
           try clear q78
           try clear c80
           try clear c80b0
           try clear c80b1
           try clear c81
           try clear c81b0
           try clear c81b1
           try clear hcz21_0
           try clear hcz21_1
           try clear hcz21_2
           try clear hcz21_3
           try clear hcz21_4
           try clear hcz36_0
           try clear hcz36_1
           try clear hcz36_2
           try clear hcz36_3
           try clear hcz36_4
           try clear hcz65_0
           try clear hcz65_1
           try clear hcz65_2
           try clear hcz65_3
           try clear hcz65_4
           try clear hfz21_0
           try clear hfz21_1
           try clear hfz21_2
           try clear hfz21_3
           try clear hfz21_4
           try clear hfz36_0
           try clear hfz36_1
           try clear hfz36_2
           try clear hfz36_3
           try clear hfz36_4
           try clear hfz65_0
           try clear hfz65_1
           try clear hfz65_2
           try clear hfz65_3
           try clear hfz65_4
           try clear hx124_0
           try clear hx125_0
           try clear hx134_0
           try clear hx149_0
           try clear hx165_0
           try clear p1
           try clear p12
           try clear p124
           try clear p125
           try clear p13
           try clear p134
           try clear p14
           try clear p149
           try clear p165
           try clear p2
           try clear p6
           try clear p64
           try clear q1
           try clear q12
           try clear q124
           try clear q125
           try clear q13
           try clear q134
           try clear q14
           try clear q149
           try clear q165
           try clear q2
           try clear q27
           try clear q4
           try clear q42
           try clear q47
           try clear q5
           try clear q54
           try clear q6
           try clear q62
           try clear q7
           try clear q71
           try clear q78
           obtain ⟨kq, x105_78, rfl, HA, HJ78, HO_4, HO_123000, HO_123002, HO_123003, BK118, BK122, HB⟩ := hcut
           cases kq with
           | zero => exact absurd HA.out (by simp [crucibleref1_Words.j8])
           | succ kj78 =>
            have H := HA.out
            clear HA
            simp only [crucibleref1_Words.j8] at H
            by_cases c84 : x105_78 = true
            ·subst c84
             have H1 : (if 1 ≤ (x4_56.length : Int) then ((crucibleref1_names.f kj78 (x4_56.drop 1)).bind fun t170 => (crucibleref1_Words.j9 kj78 x4_56 t170 x123000_21 x123001_30 x123002_40 x123003_56)) else (none)) = some (r1, r2, r3, r4, r5, r6) := by rw [if_pos rfl] at H; exact H
             clear H
             have H := H1
             clear H1
             have HC85 := Aside0.mk H
             clear H
             go_upto_region 19 with (fail)
             go_cut [6] (fun v6 wc => ∃ (kq : Nat) (x6_84 : Int), v6 = .int .i64 x6_84 ∧ Aside0 (crucibleref1_Words.j9 kq x4_56 x6_84 x123000_21 x123001_30 x123002_40 x123003_56 = some (r1, r2, r3, r4, r5, r6)) ∧ Aside0 (kq ≤ kj78) ∧ Aside0 (Kd.Q Kd.string 9 wc w.heap.size (fun k_ => some k_ ≠ (u123000 : Value).ownBlock ∧ some k_ ≠ (u123002 : Value).ownBlock ∧ some k_ ≠ (u123003 : Value).ownBlock) u4 x4_56) ∧ Aside0 (Kd.R Kd.string 9 wc w.heap.size (fun k_ => some k_ ≠ (u4 : Value).ownBlock ∧ some k_ ≠ (u123002 : Value).ownBlock ∧ some k_ ≠ (u123003 : Value).ownBlock) u123000 x123000_21) ∧ Aside0 (Kd.R Kd.string 9 wc w.heap.size (fun k_ => some k_ ≠ (u4 : Value).ownBlock ∧ some k_ ≠ (u123000 : Value).ownBlock ∧ some k_ ≠ (u123003 : Value).ownBlock) u123002 x123002_40) ∧ Aside0 (Kd.R Kd.string 9 wc w.heap.size (fun k_ => some k_ ≠ (u4 : Value).ownBlock ∧ some k_ ≠ (u123000 : Value).ownBlock ∧ some k_ ≠ (u123002 : Value).ownBlock) u123003 x123003_56) ∧ Aside0 (wc.heap[gb118]? = some (.cells #[(.slice none 0 0), .string x119001_56, (.slice none 0 0), (.slice none 0 0), (.slice none 0 0)] 27 (0, 0))) ∧ Aside0 (wc.heap[gb122]? = some (.cells #[u123000, .string x123001_30, u123002, u123003, (.slice none 0 0)] 27 (0, 0))) ∧ Aside0 (Below w.heap.size w wc))
             case first => as_aux_lemma =>
              have H := HC85.out
              clear HC85
              by_cases c86 : 1 ≤ (x4_56.length : Int)
              ·rw [if_pos c86] at H
               have c86b0 := eq_true c86
               have c86b1 : decide (1 ≤ (x4_56.length : Int)) = true := decide_eq_true c86
               clear c86
               obtain ⟨y166, hy166⟩ : ∃ y_ : List ByteArray, y_ = (x4_56.drop 1) := ⟨_, rfl⟩
               replace H : ((crucibleref1_names.f kj78 y166).bind fun t170 => (crucibleref1_Words.j9 kj78 x4_56 t170 x123000_21 x123001_30 x123002_40 x123003_56)) = some (r1, r2, r3, r4, r5, r6) := by first | (rw [hy166]; with_reducible exact H) | (have H2_ := (Option.bind_some _ _).symm.trans H; rw [hy166]; with_reducible exact H2_) | (have H2_ := (Option.bind_some _ _).symm.trans H; with_reducible exact H2_) | with_reducible exact H | (rw [hy166]; exact H) | exact H
               have Ny166 := Aside0.mk hy166
               clear hy166
               replace H := Option.bind_eq_some_iff.mp H
               obtain ⟨t170, A870, H⟩ := H
               replace H : (crucibleref1_Words.j9 kj78 x4_56 t170 x123000_21 x123001_30 x123002_40 x123003_56) = some (r1, r2, r3, r4, r5, r6) := H
               have A87 := Aside0.mk A870
               clear A870
               have H' := Aside0.mk H
               clear H
               obtain ⟨Ao89, co89, eo89, _⟩ := Kd.Q_slice HO_4.out
               subst eo89
               have q88 : (1 : Int) ≤ ((x4_56.length : Int) : Int) := of_decide_eq_true (by first | (with_reducible assumption) | assumption)
               obtain ⟨i088, hi088, _, hsz88, _⟩ := info_parts info9
               have hroom88 : x4_56.length ≤ co89 := (Kd.Q_reads' HO_4.out).2.1
               have hC88 : Kd.C Kd.string _ Ao89 x4_56.length x4_56 := (Kd.Q_reads' HO_4.out).2.2
               have hcut88 := cut_from (P := Tryd.prog) 22 9 .i64 Tryd.underlying22 hi088 1 hsz88 Ao89 x4_56.length co89 1 (by omega) q88
               have hr88 := Kd.C_drop (m := (1 : Int).toNat) (c := co89) hC88 (by omega) hroom88
               obtain ⟨A88, hA88⟩ : ∃ A1, A1 = (if co89 = (1 : Int).toNat then Ao89 else (Ao89 : Option Addr).map (·.add ((1 : Int).toNat * 1))) := ⟨_, rfl⟩
               obtain ⟨c88, hc88⟩ : ∃ c1, c1 = co89 - (1 : Int).toNat := ⟨_, rfl⟩
               have hy88 : y166.length = x4_56.length - (1 : Int).toNat := (by rw [Ny166.out, List.length_drop] <;> omega)
               rw [show (x4_56).drop (1 : Int).toNat = y166 from Ny166.out.symm] at hr88
               replace hr88 : Kd.C Kd.string _ A88 y166.length y166 := (by rw [hA88]; exact hr88)
               rw [← hy88, ← hA88, ← hc88] at hcut88
               have HR169 := Aside0.mk hr88
               have HC169 := Aside0.mk (show y166.length ≤ c88 from by rw [hy88, hc88]; exact Nat.sub_le_sub_right hroom88 _)
               clear hr88 hC88 hroom88 hi088 hsz88 hc88
               have KY88 := Aside0.mk hy88
               have KA88 := Aside0.mk hA88
               clear hy88 hA88
               have KL88 := Aside0.mk (show 1 ≤ x4_56.length from by omega)
               replace q88 := eq_true q88
               go_wp2_with (first | ((with_reducible refine gate_callee (f := 42) rfl ?_); refine goesL_ (some 108) rfl rfl Tryd.func42 (by kernel_rfl) rfl #[.slice A88 y166.length c88] rfl (by (try simp only [List.map_toArray, List.map_cons, List.map_nil]); first | done | rfl | (simp only [List.length_drop, List.length_take]; rfl)) ?_; (with_reducible refine (crucibleref1_names.calls kj78 _ _ y166 t170 _ ?side1 ?side2 A87.out).mono ?_); (case side1 => repeat (first | exact (by repeat (first | (with_reducible exact HR169.out) | (with_reducible refine Kd.C_alloc ?_ _) | (with_reducible refine Kd.C_drewN ?_ _) | (with_reducible refine Kd.C_drew ?_) | exact HR169.out)) | (with_reducible refine Kd.C_alloc ?_ _) | (with_reducible refine Kd.C_drewN ?_ _) | (with_reducible refine Kd.C_drew ?_))); (case side2 => exact HC169.out); rintro e w' ⟨rfl, ⟨nd, rfl⟩⟩; refine ⟨_, rfl, ?_⟩))
               go_meet
               case rel => exact ⟨_, (t170), (by first | rfl | (simp; done) | (simp [*]; done)), H', ⟨by have := HJ3.out; have := HJ21.out; have := HJ30.out; have := HJ40.out; have := HJ52.out; have := HJ56.out; have := HJ78.out; first | omega | exact Nat.le_refl _⟩, ⟨by (with_reducible repeat (first | apply Kd.Q_alloc | apply Kd.Q_drewN | apply Kd.Q_drew)); first | exact HO_4.out | exact Kd.Q_mono (HO_4.out) (fun k_ hk => by simp only [slice_ownBlock] at hk ⊢; exact hk)⟩, ⟨by (with_reducible repeat (first | apply Kd.R_alloc | apply Kd.R_drewN | apply Kd.R_drew)); first | exact HO_123000.out | exact Kd.R_mono (HO_123000.out) (fun k_ hk => by simp only [slice_ownBlock] at hk ⊢; exact hk)⟩, ⟨by (with_reducible repeat (first | apply Kd.R_alloc | apply Kd.R_drewN | apply Kd.R_drew)); first | exact HO_123002.out | exact Kd.R_mono (HO_123002.out) (fun k_ hk => by simp only [slice_ownBlock] at hk ⊢; exact hk)⟩, ⟨by (with_reducible repeat (first | apply Kd.R_alloc | apply Kd.R_drewN | apply Kd.R_drew)); first | exact HO_123003.out | exact Kd.R_mono (HO_123003.out) (fun k_ hk => by simp only [slice_ownBlock] at hk ⊢; exact hk)⟩, ⟨by (with_reducible repeat (first | refine blk_drewN ?_ _ | refine blk_drew ?_ | refine blk_alloc ?_ _)); exact BK118.out⟩, ⟨by (with_reducible repeat (first | refine blk_drewN ?_ _ | refine blk_drew ?_ | refine blk_alloc ?_ _)); exact BK122.out⟩, ⟨by repeat (first | (with_reducible first | exact HB.out | apply below_alloc | apply pw_below_drewN | apply below_drew1 | refine below_set ?_ GE118.out | refine below_set ?_ GE122.out) | exact HB.out)⟩⟩
              rw [if_neg c86] at H
              exact absurd H (by simp)
             as_aux_lemma =>
             clear HC85
             try clear c1
             try clear p1
             try clear q1
             try clear hx1
             try clear qi1
             try clear c2
             try clear p2
             try clear q2
             try clear c3
             try clear c4
             try clear q4
             try clear c5
             try clear q5
             try clear c6
             try clear p6
             try clear q6
             try clear c7
             try clear q7
             try clear c8
             try clear q8
             try clear c9
             try clear c9b0
             try clear c10
             try clear c10b0
             try clear c11
             try clear c11b0
             try clear c12
             try clear c12b0
             try clear p12
             try clear q12
             try clear hx12
             try clear c13
             try clear c13b0
             try clear p13
             try clear q13
             try clear hx13
             try clear c14
             try clear c14b0
             try clear c14b1
             try clear p14
             try clear q14
             try clear hx14
             try clear qi14
             try clear c16
             try clear c16b0
             try clear p16
             try clear q16
             try clear hx16
             try clear qi16
             try clear c17
             try clear c17b0
             try clear c19
             try clear c20
             try clear c23
             try clear c23b0
             try clear c23b1
             try clear c24
             try clear c24b0
             try clear c24b1
             try clear c25
             try clear q27
             try clear c33
             try clear c33b0
             try clear c34
             try clear c34b0
             try clear c35
             try clear c38
             try clear c38b0
             try clear c38b1
             try clear c39
             try clear c39b0
             try clear c39b1
             try clear c42
             try clear q42
             try clear c43
             try clear c43b0
             try clear c43b1
             try clear c44
             try clear c44b0
             try clear c44b1
             try clear c45
             try clear q47
             try clear c51
             try clear c51b0
             try clear c51b1
             try clear c52
             try clear c52b0
             try clear c52b1
             try clear c54
             try clear q54
             try clear c55
             try clear c55b0
             try clear c55b1
             try clear c56
             try clear c56b0
             try clear c56b1
             try clear c58
             try clear c60
             try clear c60b0
             try clear c60b1
             try clear c62
             try clear q62
             try clear c63
             try clear c63b0
             try clear c63b1
             try clear c64
             try clear p64
             try clear c67
             try clear c67b0
             try clear c67b1
             try clear c68
             try clear c68b0
             try clear c68b1
             try clear c69
             try clear c71
             try clear q71
             try clear c76
             try clear c76b0
             try clear c76b1
             try clear c77
             try clear c77b0
             try clear c77b1
             try clear c78
             try clear q78
             try clear c80
             try clear c80b0
             try clear c80b1
             try clear c81
             try clear c81b0
             try clear c81b1
             try clear c84
             try clear c86
             try clear c86b0
             try clear c86b1
             try clear c88
             try clear q88
             try clear hcz21_0
             try clear hcz21_1
             try clear hcz21_2
             try clear hcz21_3
             try clear hcz21_4
             try clear hcz36_0
             try clear hcz36_1
             try clear hcz36_2
             try clear hcz36_3
             try clear hcz36_4
             try clear hcz65_0
             try clear hcz65_1
             try clear hcz65_2
             try clear hcz65_3
             try clear hcz65_4
             try clear hfz21_0
             try clear hfz21_1
             try clear hfz21_2
             try clear hfz21_3
             try clear hfz21_4
             try clear hfz36_0
             try clear hfz36_1
             try clear hfz36_2
             try clear hfz36_3
             try clear hfz36_4
             try clear hfz65_0
             try clear hfz65_1
             try clear hfz65_2
             try clear hfz65_3
             try clear hfz65_4
             try clear hx124_0
             try clear hx125_0
             try clear hx134_0
             try clear hx149_0
             try clear hx165_0
             try clear p1
             try clear p12
             try clear p124
             try clear p125
             try clear p13
             try clear p134
             try clear p14
             try clear p149
             try clear p16
             try clear p165
             try clear p2
             try clear p6
             try clear p64
             try clear q1
             try clear q12
             try clear q124
             try clear q125
             try clear q13
             try clear q134
             try clear q14
             try clear q149
             try clear q16
             try clear q165
             try clear q2
             try clear q27
             try clear q4
             try clear q42
             try clear q47
             try clear q5
             try clear q54
             try clear q6
             try clear q62
             try clear q7
             try clear q71
             try clear q78
             try clear q88
             obtain ⟨kq, x6_84, rfl, HA, HJ84, HO_4, HO_123000, HO_123002, HO_123003, BK118, BK122, HB⟩ := hcut
             cases kq with
             | zero => exact absurd HA.out (by simp [crucibleref1_Words.j9])
             | succ kj84 =>
              have H := HA.out
              clear HA
              simp only [crucibleref1_Words.j9] at H
              by_cases c90 : x6_84 = 0
              ·rw [if_pos c90] at H
               have c90b0 : (x6_84 == 0) = true := beq_iff_eq.mpr c90
               have c90b1 : (x6_84 != 0) = false := bne_eq_false_iff_eq.mpr c90
               clear c90
               simp only [Option.some.injEq, Prod.mk.injEq] at H
               obtain ⟨rfl, rfl, rfl, rfl, rfl, rfl⟩ := H
               have hnb91 := NB118_122.out
               have hnc91 := NB122_118.out
               have hcz92_0 : wc.cell? ⟨gb118, 0, none⟩ = some (.slice none 0 0) := (blk_cell BK118.out 0).trans rfl
               have hcz92_1 : wc.cell? ⟨gb118, 1, none⟩ = some (.string x119001_56) := (blk_cell BK118.out 1).trans rfl
               have hcz92_2 : wc.cell? ⟨gb118, 2, none⟩ = some (.slice none 0 0) := (blk_cell BK118.out 2).trans rfl
               have hcz92_3 : wc.cell? ⟨gb118, 3, none⟩ = some (.slice none 0 0) := (blk_cell BK118.out 3).trans rfl
               have hcz92_4 : wc.cell? ⟨gb118, 4, none⟩ = some (.slice none 0 0) := (blk_cell BK118.out 4).trans rfl
               have hfz92_0 := blk_frozen BK118.out 0
               have hfz92_1 := blk_frozen BK118.out 1
               have hfz92_2 := blk_frozen BK118.out 2
               have hfz92_3 := blk_frozen BK118.out 3
               have hfz92_4 := blk_frozen BK118.out 4
               go_wp2
               refine bodyPost_ret (results_ct rfl _ _ gb118 27 #[.slice none 0 0, .string (⟨#[]⟩ : ByteArray), .slice none 0 0, .slice none 0 0, .slice none 0 0] (0, 0) _ rfl (by (with_reducible repeat (first | refine blk_drewN ?_ _ | refine blk_drew ?_ | refine blk_alloc ?_ _)); refine blk_put (cs := #[.slice none 0 0, .string (⟨#[]⟩ : ByteArray), .slice none 0 0, .slice none 0 0, .slice none 0 0]) ?_ 4 _ rfl; (with_reducible repeat (first | refine blk_drewN ?_ _ | refine blk_drew ?_ | refine blk_alloc ?_ _)); refine blk_put (cs := #[.slice none 0 0, .string (⟨#[]⟩ : ByteArray), .slice none 0 0, .slice none 0 0, .slice none 0 0]) ?_ 3 _ rfl; (with_reducible repeat (first | refine blk_drewN ?_ _ | refine blk_drew ?_ | refine blk_alloc ?_ _)); refine blk_put (cs := #[.slice none 0 0, .string (⟨#[]⟩ : ByteArray), .slice none 0 0, .slice none 0 0, .slice none 0 0]) ?_ 2 _ rfl; (with_reducible repeat (first | refine blk_drewN ?_ _ | refine blk_drew ?_ | refine blk_alloc ?_ _)); refine blk_put (cs := #[.slice none 0 0, .string x119001_56, .slice none 0 0, .slice none 0 0, .slice none 0 0]) ?_ 1 _ rfl; (with_reducible repeat (first | refine blk_drewN ?_ _ | refine blk_drew ?_ | refine blk_alloc ?_ _)); refine blk_put (cs := #[.slice none 0 0, .string x119001_56, .slice none 0 0, .slice none 0 0, .slice none 0 0]) ?_ 0 _ rfl; (with_reducible repeat (first | refine blk_drewN ?_ _ | refine blk_drew ?_ | refine blk_alloc ?_ _)); exact BK118.out) Tryd.underlying27 rfl (by kernel_rfl)) rfl ?_
               exact ⟨_, _, _, _, by first | rfl | (simp [errW_none, errW_some] <;> rfl) | (simp only [← hji37]; first | rfl | (simp [errW_none, errW_some] <;> rfl)) | (simp [*, errW_none, errW_some] <;> rfl), by first | exact Kd.R_nil _ _ _ _ _ | exact Kd.N_nil _ _ _ _ _ | exact Kd.V_nil _ _ _ _ _ | exact Kd.Q_nil _ _ _ _ _ | exact Kd.S_nil _ _ _ _ _, by first | exact Kd.R_nil _ _ _ _ _ | exact Kd.N_nil _ _ _ _ _ | exact Kd.V_nil _ _ _ _ _ | exact Kd.Q_nil _ _ _ _ _ | exact Kd.S_nil _ _ _ _ _, by first | exact Kd.R_nil _ _ _ _ _ | exact Kd.N_nil _ _ _ _ _ | exact Kd.V_nil _ _ _ _ _ | exact Kd.Q_nil _ _ _ _ _ | exact Kd.S_nil _ _ _ _ _, by first | exact Kd.R_nil _ _ _ _ _ | exact Kd.N_nil _ _ _ _ _ | exact Kd.V_nil _ _ _ _ _ | exact Kd.Q_nil _ _ _ _ _ | exact Kd.S_nil _ _ _ _ _, by repeat (first | (with_reducible first | exact HB.out | apply below_alloc | apply pw_below_drewN | apply below_drew1 | refine below_set ?_ GE118.out | refine below_set ?_ GE122.out) | exact HB.out)⟩
              rw [if_neg c90] at H
              have c90b0 : (x6_84 == 0) = false := beq_eq_false_iff_ne.mpr c90
              have c90b1 : (x6_84 != 0) = true := bne_iff_ne.mpr c90
              have HC93 := Aside0.mk H
              clear H
              go_upto_region 22 with (fail)
              go_cut [] (fun wc => ∃ (kq : Nat) (x123004_92 : List ByteArray) (u123004 : Value), Aside0 (crucibleref1_Words.j10 kq x4_56 x6_84 x123000_21 x123001_30 x123002_40 x123003_56 x123004_92 = some (r1, r2, r3, r4, r5, r6)) ∧ Aside0 (kq ≤ kj84) ∧ Aside0 (Kd.Q Kd.string 9 wc w.heap.size (fun k_ => some k_ ≠ (u123000 : Value).ownBlock ∧ some k_ ≠ (u123002 : Value).ownBlock ∧ some k_ ≠ (u123003 : Value).ownBlock ∧ some k_ ≠ (u123004 : Value).ownBlock) u4 x4_56) ∧ Aside0 (Kd.R Kd.string 9 wc w.heap.size (fun k_ => some k_ ≠ (u4 : Value).ownBlock ∧ some k_ ≠ (u123002 : Value).ownBlock ∧ some k_ ≠ (u123003 : Value).ownBlock ∧ some k_ ≠ (u123004 : Value).ownBlock) u123000 x123000_21) ∧ Aside0 (Kd.R Kd.string 9 wc w.heap.size (fun k_ => some k_ ≠ (u4 : Value).ownBlock ∧ some k_ ≠ (u123000 : Value).ownBlock ∧ some k_ ≠ (u123003 : Value).ownBlock ∧ some k_ ≠ (u123004 : Value).ownBlock) u123002 x123002_40) ∧ Aside0 (Kd.R Kd.string 9 wc w.heap.size (fun k_ => some k_ ≠ (u4 : Value).ownBlock ∧ some k_ ≠ (u123000 : Value).ownBlock ∧ some k_ ≠ (u123002 : Value).ownBlock ∧ some k_ ≠ (u123004 : Value).ownBlock) u123003 x123003_56) ∧ Aside0 (Kd.R Kd.string 9 wc w.heap.size (fun k_ => some k_ ≠ (u4 : Value).ownBlock ∧ some k_ ≠ (u123000 : Value).ownBlock ∧ some k_ ≠ (u123002 : Value).ownBlock ∧ some k_ ≠ (u123003 : Value).ownBlock) u123004 x123004_92) ∧ Aside0 (wc.heap[gb118]? = some (.cells #[(.slice none 0 0), .string x119001_56, (.slice none 0 0), (.slice none 0 0), (.slice none 0 0)] 27 (0, 0))) ∧ Aside0 (wc.heap[gb122]? = some (.cells #[u123000, .string x123001_30, u123002, u123003, u123004] 27 (0, 0))) ∧ Aside0 (Below w.heap.size w wc))
              case first => as_aux_lemma =>
               have H := HC93.out
               clear HC93
               by_cases c94 : 1 ≤ (wrap64 (x6_84 + 1))
               ·rw [if_pos c94] at H
                have c94b0 := eq_true c94
                have c94b1 : decide (1 ≤ (wrap64 (x6_84 + 1))) = true := decide_eq_true c94
                by_cases c95 : (wrap64 (x6_84 + 1)) ≤ (x4_56.length : Int)
                ·rw [if_pos c95] at H
                 have c95b0 := eq_true c95
                 have c95b1 : decide ((wrap64 (x6_84 + 1)) ≤ (x4_56.length : Int)) = true := decide_eq_true c95
                 obtain ⟨y171, hy171⟩ : ∃ y_ : List ByteArray, y_ = ((x4_56.take ((wrap64 (x6_84 + 1)) : Int).toNat).drop 1) := ⟨_, rfl⟩
                 replace H : (if ([] : List ByteArray).length + y171.length < 8796093022208 then (crucibleref1_Words.j10 kj84 x4_56 x6_84 x123000_21 x123001_30 x123002_40 x123003_56 (([] : List ByteArray) ++ y171)) else (none)) = some (r1, r2, r3, r4, r5, r6) := by first | (rw [hy171]; with_reducible exact H) | (have H2_ := (Option.bind_some _ _).symm.trans H; rw [hy171]; with_reducible exact H2_) | (have H2_ := (Option.bind_some _ _).symm.trans H; with_reducible exact H2_) | with_reducible exact H | (rw [hy171]; exact H) | exact H
                 have Ny171 := Aside0.mk hy171
                 clear hy171
                 by_cases c96 : ([] : List ByteArray).length + y171.length < 8796093022208
                 ·rw [if_pos c96] at H
                  have LMc96 := Aside0.mk c96
                  clear c96
                  obtain ⟨y175, hy175⟩ : ∃ y_ : List ByteArray, y_ = (([] : List ByteArray) ++ y171) := ⟨_, rfl⟩
                  replace H : (crucibleref1_Words.j10 kj84 x4_56 x6_84 x123000_21 x123001_30 x123002_40 x123003_56 y175) = some (r1, r2, r3, r4, r5, r6) := by first | (rw [hy175]; with_reducible exact H) | (have H2_ := (Option.bind_some _ _).symm.trans H; rw [hy175]; with_reducible exact H2_) | (have H2_ := (Option.bind_some _ _).symm.trans H; with_reducible exact H2_) | with_reducible exact H | (rw [hy175]; exact H) | exact H
                  have Ny175 := Aside0.mk hy175
                  clear hy175
                  have H' := Aside0.mk H
                  clear H
                  try go_wp2
                  (try (rw [drewN_self wc]; generalize hq_ : World.drewN wc _ = wc; have n0_ : Aside0 (Kd.R Kd.string 9 wc w.heap.size (fun k_ => some k_ ≠ (u123002 : Value).ownBlock ∧ some k_ ≠ (u123003 : Value).ownBlock ∧ some k_ ≠ (u4 : Value).ownBlock) u123000 x123000_21) := ⟨by rw [← hq_]; exact (by (with_reducible repeat (first | apply Kd.R_alloc | apply Kd.R_drewN | apply Kd.R_drew)); first | exact Kd.R_mono HO_123000.out (fun _ hk => ⟨hk.2.1, ⟨hk.2.2, hk.1⟩⟩) | exact Kd.R_mono (Kd.R_mono HO_123000.out (fun _ hk => ⟨hk.2.1, ⟨hk.2.2, hk.1⟩⟩)) (fun k_ hk => by simp only [slice_ownBlock] at hk ⊢; exact hk))⟩; have n1_ : Aside0 (Kd.R Kd.string 9 wc w.heap.size (fun k_ => some k_ ≠ (u123000 : Value).ownBlock ∧ some k_ ≠ (u123003 : Value).ownBlock ∧ some k_ ≠ (u4 : Value).ownBlock) u123002 x123002_40) := ⟨by rw [← hq_]; exact (by (with_reducible repeat (first | apply Kd.R_alloc | apply Kd.R_drewN | apply Kd.R_drew)); first | exact Kd.R_mono HO_123002.out (fun _ hk => ⟨hk.2.1, ⟨hk.2.2, hk.1⟩⟩) | exact Kd.R_mono (Kd.R_mono HO_123002.out (fun _ hk => ⟨hk.2.1, ⟨hk.2.2, hk.1⟩⟩)) (fun k_ hk => by simp only [slice_ownBlock] at hk ⊢; exact hk))⟩; have n2_ : Aside0 (Kd.R Kd.string 9 wc w.heap.size (fun k_ => some k_ ≠ (u123000 : Value).ownBlock ∧ some k_ ≠ (u123002 : Value).ownBlock ∧ some k_ ≠ (u4 : Value).ownBlock) u123003 x123003_56) := ⟨by rw [← hq_]; exact (by (with_reducible repeat (first | apply Kd.R_alloc | apply Kd.R_drewN | apply Kd.R_drew)); first | exact Kd.R_mono HO_123003.out (fun _ hk => ⟨hk.2.1, ⟨hk.2.2, hk.1⟩⟩) | exact Kd.R_mono (Kd.R_mono HO_123003.out (fun _ hk => ⟨hk.2.1, ⟨hk.2.2, hk.1⟩⟩)) (fun k_ hk => by simp only [slice_ownBlock] at hk ⊢; exact hk))⟩; have n3_ : Aside0 (Kd.Q Kd.string 9 wc w.heap.size (fun k_ => some k_ ≠ (u123000 : Value).ownBlock ∧ some k_ ≠ (u123002 : Value).ownBlock ∧ some k_ ≠ (u123003 : Value).ownBlock) u4 x4_56) := ⟨by rw [← hq_]; exact (by (with_reducible repeat (first | apply Kd.Q_alloc | apply Kd.Q_drewN | apply Kd.Q_drew)); first | exact HO_4.out | exact Kd.Q_mono (HO_4.out) (fun k_ hk => by simp only [slice_ownBlock] at hk ⊢; exact hk))⟩; have n4_ : Aside0 (wc.heap[gb118]? = some (.cells #[.slice none 0 0, .string x119001_56, .slice none 0 0, .slice none 0 0, .slice none 0 0] 27 (0, 0))) := ⟨by rw [← hq_]; exact (by (with_reducible repeat (first | refine blk_drewN ?_ _ | refine blk_drew ?_ | refine blk_alloc ?_ _)); exact BK118.out)⟩; have n5_ : Aside0 (wc.heap[gb122]? = some (.cells #[u123000, .string x123001_30, u123002, u123003, .slice none 0 0] 27 (0, 0))) := ⟨by rw [← hq_]; exact (by (with_reducible repeat (first | refine blk_drewN ?_ _ | refine blk_drew ?_ | refine blk_alloc ?_ _)); exact BK122.out)⟩; have n6_ : Aside0 (Below w.heap.size w wc) := ⟨by rw [← hq_]; exact (by repeat (first | (with_reducible first | exact HB.out | apply below_alloc | apply pw_below_drewN | apply below_drew1 | refine below_set ?_ GE118.out | refine below_set ?_ GE122.out) | exact HB.out))⟩; clear HO_123000 HO_123002 HO_123003 HO_4 BK118 BK122 HB hq_; have HO_123000 := n0_; have HO_123002 := n1_; have HO_123003 := n2_; have HO_4 := n3_; have BK118 := n4_; have BK122 := n5_; have HB := n6_; clear n0_ n1_ n2_ n3_ n4_ n5_ n6_))
                  have n0_ := Aside0.mk (Kd.Q_drew HO_4.out)
                  have n1_ := Aside0.mk (Kd.R_drew HO_123000.out)
                  have n2_ := Aside0.mk (Kd.R_drew HO_123002.out)
                  have n3_ := Aside0.mk (Kd.R_drew HO_123003.out)
                  have n4_ := Aside0.mk (blk_drew BK118.out)
                  have n5_ := Aside0.mk (blk_drew BK122.out)
                  have n6_ := Aside0.mk (below_drew1 HB.out)
                  clear HO_4 HO_123000 HO_123002 HO_123003 BK118 BK122 HB
                  have HO_4 := n0_
                  have HO_123000 := n1_
                  have HO_123002 := n2_
                  have HO_123003 := n3_
                  have BK118 := n4_
                  have BK122 := n5_
                  have HB := n6_
                  clear n0_ n1_ n2_ n3_ n4_ n5_ n6_
                  obtain ⟨Ao99, co99, eo99, _⟩ := Kd.Q_slice HO_4.out
                  (first | subst eo99 | (injection eo99 with f1_ f2_ f3_; have f4_ := f1_.symm; have f5_ := f3_.symm; clear f1_ f2_ f3_; subst f4_; subst f5_))
                  have q98 : ((wrap64 (x6_84 + 1)) : Int) ≤ ((x4_56.length : Int) : Int) := of_decide_eq_true (by first | (with_reducible assumption) | assumption)
                  obtain ⟨i098, hi098, _, hsz98, _⟩ := info_parts info9
                  have hroom98 : x4_56.length ≤ co99 := (Kd.Q_reads' HO_4.out).2.1
                  have hC98 : Kd.C Kd.string _ Ao99 x4_56.length x4_56 := (Kd.Q_reads' HO_4.out).2.2
                  have ql98 : (1 : Int) ≤ ((wrap64 (x6_84 + 1)) : Int) := of_decide_eq_true (by first | (with_reducible assumption) | assumption)
                  have hcut98 := cut_mid (P := Tryd.prog) 22 9 .i64 .i64 Tryd.underlying22 hi098 1 hsz98 Ao99 x4_56.length co99 1 (wrap64 (x6_84 + 1)) (by omega) ql98 q98 hroom98
                  have hr98 := Kd.C_mid (lo := (1 : Int).toNat) (hi := ((wrap64 (x6_84 + 1)) : Int).toNat) (c := co99) hC98 (by omega) (by omega) hroom98
                  obtain ⟨A98, hA98⟩ : ∃ A1, A1 = (if co99 = (1 : Int).toNat then Ao99 else (Ao99 : Option Addr).map (·.add ((1 : Int).toNat * 1))) := ⟨_, rfl⟩
                  obtain ⟨c98, hc98⟩ : ∃ c1, c1 = co99 - (1 : Int).toNat := ⟨_, rfl⟩
                  have hy98 : y171.length = ((wrap64 (x6_84 + 1)) : Int).toNat - (1 : Int).toNat := (by rw [Ny171.out, List.length_drop, List.length_take] <;> omega)
                  rw [show ((x4_56).take ((wrap64 (x6_84 + 1)) : Int).toNat).drop (1 : Int).toNat = y171 from Ny171.out.symm] at hr98
                  replace hr98 : Kd.C Kd.string _ A98 y171.length y171 := (by rw [hA98]; exact hr98)
                  rw [← hy98, ← hA98, ← hc98] at hcut98
                  have HR174 := Aside0.mk hr98
                  have HC174 := Aside0.mk (show y171.length ≤ c98 from by rw [hy98, hc98]; exact Nat.sub_le_sub_right (Nat.le_trans (by omega) hroom98) _)
                  clear hr98 hC98 hroom98 hi098 hsz98 hc98
                  have KY98 := Aside0.mk hy98
                  have KA98 := Aside0.mk hA98
                  clear hy98 hA98
                  have KL98 := Aside0.mk (show ((wrap64 (x6_84 + 1)) : Int).toNat ≤ x4_56.length from by omega)
                  have KM98 := Aside0.mk (show 1 ≤ ((wrap64 (x6_84 + 1)) : Int).toNat from by omega)
                  replace q98 := eq_true q98
                  refine start_ (n := 9) (S := fun w' => w'.cell? ⟨gb122, 0, none⟩ = some (u123000) ∧ w'.cell? ⟨gb122, 1, none⟩ = some (.string x123001_30) ∧ w'.cell? ⟨gb122, 2, none⟩ = some (u123002) ∧ w'.cell? ⟨gb122, 3, none⟩ = some (u123003) ∧ w'.cell? ⟨gb122, 4, none⟩ = some (.slice none 0 0)) (ds := [8]) #[false, false, false, false, false, false, false, false, false] (by kernel_rfl) rfl rfl ⟨(blk_cell BK122.out 0).trans rfl, (blk_cell BK122.out 1).trans rfl, (blk_cell BK122.out 2).trans rfl, (blk_cell BK122.out 3).trans rfl, (blk_cell BK122.out 4).trans rfl⟩ (fun hHeld => ?_); refine with_tabW crucibleref1_Words.tab22 crucibleref1_Words.bits22 (fun HT_ HW_ => ?_)
                  generalize wc.drew = w97 at HO_4 HO_123000 HO_123002 HO_123003 BK118 BK122 HB HR174 hHeld ⊢
                  refine pure_ (i := 0) (N := some 112) (v := ?_) (a' := ?_) #[true, false, false, false, false, false, false, false, false] rfl rfl (any_of HT_.out (by kernel_rfl)) (fun _ _ _ h => h) (Or.inl ⟨by rfl, ?_⟩) ?_ ?_
                  rotate_left
                  ·intro w'
                   go_simp
                   with_reducible rfl
                  rotate_left
                  ·simp only [Act.put, List.setIfInBounds_toArray, List.set_cons_zero, List.set_cons_succ, i64_w, i32_w]
                   rfl
                  refine pure_ (i := 2) (N := some 114) (v := ?_) (a' := ?_) #[true, false, true, false, false, false, false, false, false] rfl rfl (any_of HT_.out (by kernel_rfl)) (fun _ _ _ h => h) (Or.inl ⟨by rfl, ?_⟩) ?_ ?_
                  rotate_left
                  ·intro w'
                   go_simp
                   with_reducible rfl
                  rotate_left
                  ·simp only [Act.put, List.setIfInBounds_toArray, List.set_cons_zero, List.set_cons_succ, i64_w, i32_w]
                   rfl
                  refine pure_ (i := 3) (N := some 115) (v := ?_) (a' := ?_) #[true, false, true, true, false, false, false, false, false] rfl rfl (any_of HT_.out (by kernel_rfl)) (fun _ _ _ h => h) (Or.inl ⟨by rfl, ?_⟩) ?_ ?_
                  rotate_left
                  ·intro w'
                   go_simp
                   with_reducible rfl
                  rotate_left
                  ·simp only [Act.put, List.setIfInBounds_toArray, List.set_cons_zero, List.set_cons_succ, i64_w, i32_w]
                   rfl
                  refine pure_ (i := 4) (N := some 116) (v := ?_) (a' := ?_) #[true, false, true, true, true, false, false, false, false] rfl rfl (any_of HT_.out (by kernel_rfl)) (fun _ _ _ h => h) (Or.inl ⟨by rfl, ?_⟩) ?_ ?_
                  rotate_left
                  ·intro w'
                   go_simp
                   with_reducible rfl
                  rotate_left
                  ·simp only [Act.put, List.setIfInBounds_toArray, List.set_cons_zero, List.set_cons_succ, i64_w, i32_w]
                   rfl
                  refine pure_ (i := 5) (N := some 117) (v := ?_) (a' := ?_) #[true, false, true, true, true, true, false, false, false] rfl rfl (any_of HT_.out (by kernel_rfl)) (fun _ _ _ h => h) (Or.inl ⟨by rfl, ?_⟩) ?_ ?_
                  rotate_left
                  ·intro w'
                   go_simp
                   with_reducible rfl
                  rotate_left
                  ·simp only [Act.put, List.setIfInBounds_toArray, List.set_cons_zero, List.set_cons_succ, i64_w, i32_w]
                   rfl
                  refine take_ (i := 1) (N := some 113) (v := ?_) (a' := ?_) #[true, true, true, true, true, true, false, false, false] rfl rfl (take_ofW HT_.out HW_.out (by kernel_rfl)) (fun _ _ _ h => h) (Or.inl ⟨by rfl, ?_⟩) hHeld ?_ ?_
                  rotate_left
                  ·rintro w' ⟨s0, s1, s2, s3, s4⟩
                   go_simp
                   with_reducible rfl
                  rotate_left
                  ·simp only [Act.put, List.setIfInBounds_toArray, List.set_cons_zero, List.set_cons_succ, i64_w, i32_w]
                   rfl
                  refine one_ (i := 6) (N := some 118) #[true, true, true, true, true, true, true, false, false] rfl rfl (one_of HT_.out (by kernel_rfl)) (by decide) (fun K hK => ?_)
                  refine Kd.R_append_rows_step Kd.string (w0 := w) w.heap.size (by rfl) (.tmp 113) (.tmp 117) 22 9 (.string ⟨#[]⟩) 16 rfl Tryd.underlying22 info9 rfl (by decide) (by omega) (.slice none 0 0) ([] : List ByteArray) y171 _ _ _ (fun k_ => some k_ ≠ (.slice Ao99 x4_56.length co99 : Value).ownBlock ∧ some k_ ≠ (u123000 : Value).ownBlock ∧ some k_ ≠ (u123002 : Value).ownBlock ∧ some k_ ≠ (u123003 : Value).ownBlock) (fun _ => False) rfl rfl ?aO ?aR (fun _ _ h => h) (fun _ h => h.elim) ?aF ?aB ?aS ?aL ?_
                  (case aR => repeat (first | exact (by repeat (first | (with_reducible exact HR174.out) | (with_reducible refine Kd.C_alloc ?_ _) | (with_reducible refine Kd.C_drewN ?_ _) | (with_reducible refine Kd.C_drew ?_) | exact HR174.out)) | (with_reducible refine Kd.C_alloc ?_ _) | (with_reducible refine Kd.C_drewN ?_ _) | (with_reducible refine Kd.C_drew ?_)))
                  (case aB => exact (by repeat (first | (with_reducible first | exact HB.out | apply below_alloc | apply pw_below_drewN | apply below_drew1 | refine below_set ?_ GE118.out | refine below_set ?_ GE122.out) | exact HB.out)))
                  (case aF => exact (fun k_ hk => ⟨Kd.fresh' (Kd.Q_lt (by (with_reducible repeat (first | apply Kd.Q_alloc | apply Kd.Q_drewN | apply Kd.Q_drew)); first | exact HO_4.out | exact Kd.Q_mono (HO_4.out) (fun k_ hk => by simp only [slice_ownBlock] at hk ⊢; exact hk))) k_ hk, Kd.fresh' (Kd.R_lt (by (with_reducible repeat (first | apply Kd.R_alloc | apply Kd.R_drewN | apply Kd.R_drew)); first | exact HO_123000.out | exact Kd.R_mono (HO_123000.out) (fun k_ hk => by simp only [slice_ownBlock] at hk ⊢; exact hk))) k_ hk, Kd.fresh' (Kd.R_lt (by (with_reducible repeat (first | apply Kd.R_alloc | apply Kd.R_drewN | apply Kd.R_drew)); first | exact HO_123002.out | exact Kd.R_mono (HO_123002.out) (fun k_ hk => by simp only [slice_ownBlock] at hk ⊢; exact hk))) k_ hk, Kd.fresh' (Kd.R_lt (by (with_reducible repeat (first | apply Kd.R_alloc | apply Kd.R_drewN | apply Kd.R_drew)); first | exact HO_123003.out | exact Kd.R_mono (HO_123003.out) (fun k_ hk => by simp only [slice_ownBlock] at hk ⊢; exact hk))) k_ hk⟩))
                  (case aO => exact ((Kd.R_nil _ _ _ _ (fun k_ => some k_ ≠ (.slice Ao99 x4_56.length co99 : Value).ownBlock ∧ some k_ ≠ (u123000 : Value).ownBlock ∧ some k_ ≠ (u123002 : Value).ownBlock ∧ some k_ ≠ (u123003 : Value).ownBlock))))
                  (case aS => exact (below_size (by repeat (first | (with_reducible first | exact HB.out | apply below_alloc | apply pw_below_drewN | apply below_drew1 | refine below_set ?_ GE118.out | refine below_set ?_ GE122.out) | exact HB.out))))
                  (case aL => have := LMc96.out; omega)
                  intro v176 w100 ho hb hg hat
                  rw [← Ny175.out] at ho
                  have n0_ := Aside0.mk (Kd.Q_after (Kd.Q_apart_nil (by (with_reducible repeat (first | apply Kd.Q_alloc | apply Kd.Q_drewN | apply Kd.Q_drew)); first | exact HO_4.out | exact Kd.Q_mono (HO_4.out) (fun k_ hk => by simp only [slice_ownBlock] at hk ⊢; exact hk))) hg hat)
                  have n1_ := Aside0.mk (Kd.R_after (Kd.R_apart_nil (by (with_reducible repeat (first | apply Kd.R_alloc | apply Kd.R_drewN | apply Kd.R_drew)); first | exact HO_123000.out | exact Kd.R_mono (HO_123000.out) (fun k_ hk => by simp only [slice_ownBlock] at hk ⊢; exact hk))) hg hat)
                  have n2_ := Aside0.mk (Kd.R_after (Kd.R_apart_nil (by (with_reducible repeat (first | apply Kd.R_alloc | apply Kd.R_drewN | apply Kd.R_drew)); first | exact HO_123002.out | exact Kd.R_mono (HO_123002.out) (fun k_ hk => by simp only [slice_ownBlock] at hk ⊢; exact hk))) hg hat)
                  have n3_ := Aside0.mk (Kd.R_after (Kd.R_apart_nil (by (with_reducible repeat (first | apply Kd.R_alloc | apply Kd.R_drewN | apply Kd.R_drew)); first | exact HO_123003.out | exact Kd.R_mono (HO_123003.out) (fun k_ hk => by simp only [slice_ownBlock] at hk ⊢; exact hk))) hg hat)
                  have n4_ := Aside0.mk (blk_grown (g := gb118) (o := .cells #[.slice none 0 0, .string x119001_56, .slice none 0 0, .slice none 0 0, .slice none 0 0] 27 (0, 0)) (by (with_reducible repeat (first | refine blk_drewN ?_ _ | refine blk_drew ?_ | refine blk_alloc ?_ _)); exact BK118.out) hg (by simp [Value.ownBlock]))
                  have n5_ := Aside0.mk (blk_grown (g := gb122) (o := .cells #[u123000, .string x123001_30, u123002, u123003, .slice none 0 0] 27 (0, 0)) (by (with_reducible repeat (first | refine blk_drewN ?_ _ | refine blk_drew ?_ | refine blk_alloc ?_ _)); exact BK122.out) hg (by simp [Value.ownBlock]))
                  have n6_ := Aside0.mk (hb)
                  have n7_ := Aside0.mk ((show Kd.C Kd.string w100 A98 y171.length y171 from by rw [Ny171.out, KA98.out]; exact Kd.C_mid (lo := 1) (hi := ((wrap64 (x6_84 + 1)) : Int).toNat) (c := co99) ((Kd.Q_reads' (Kd.Q_after (Kd.Q_apart_nil (by (with_reducible repeat (first | apply Kd.Q_alloc | apply Kd.Q_drewN | apply Kd.Q_drew)); first | exact HO_4.out | exact Kd.Q_mono (HO_4.out) (fun k_ hk => by simp only [slice_ownBlock] at hk ⊢; exact hk))) hg hat)).2.2) KM98.out KL98.out ((Kd.Q_reads' (Kd.Q_after (Kd.Q_apart_nil (by (with_reducible repeat (first | apply Kd.Q_alloc | apply Kd.Q_drewN | apply Kd.Q_drew)); first | exact HO_4.out | exact Kd.Q_mono (HO_4.out) (fun k_ hk => by simp only [slice_ownBlock] at hk ⊢; exact hk))) hg hat)).2.1)))
                  have n8_ := Aside0.mk (ho)
                  clear HO_4 HO_123000 HO_123002 HO_123003 BK118 BK122 HB HR174
                  have HO_4 := n0_
                  have HO_123000 := n1_
                  have HO_123002 := n2_
                  have HO_123003 := n3_
                  have BK118 := n4_
                  have BK122 := n5_
                  have HB := n6_
                  have HR174 := n7_
                  have HO177 := n8_
                  clear n0_ n1_ n2_ n3_ n4_ n5_ n6_ n7_ n8_ ho hb hg hat
                  obtain ⟨Ao101, co101, eo101⟩ := Kd.R_slice HO177.out
                  (first | subst eo101 | (injection eo101 with f1_ f2_ f3_; have f4_ := f1_.symm; have f5_ := f3_.symm; clear f1_ f2_ f3_; subst f4_; subst f5_))
                  refine hK.out _ _ ⟨(blk_cell BK122.out 0).trans rfl, (blk_cell BK122.out 1).trans rfl, (blk_cell BK122.out 2).trans rfl, (blk_cell BK122.out 3).trans rfl, (blk_cell BK122.out 4).trans rfl⟩ (fun hHeld => ?_)
                  clear hK K
                  refine norm_ (a' := ?_) ?_ ?_
                  rotate_left
                  ·show Act.put _ (some 118) _ = _
                   simp only [Act.put, List.setIfInBounds_toArray, List.set_cons_zero, List.set_cons_succ, i64_w, i32_w]
                   rfl
                  refine pure_ (i := 7) (N := some 119) (v := ?_) (a' := ?_) #[true, true, true, true, true, true, true, true, false] rfl rfl (any_of HT_.out (by kernel_rfl)) (fun _ _ _ h => h) (Or.inl ⟨by rfl, ?_⟩) ?_ ?_
                  rotate_left
                  ·intro w'
                   go_simp
                   with_reducible rfl
                  rotate_left
                  ·simp only [Act.put, List.setIfInBounds_toArray, List.set_cons_zero, List.set_cons_succ, i64_w, i32_w]
                   rfl
                  refine last_ (i := 8) (N := none) #[true, true, true, true, true, true, true, true, true] rfl rfl (one_of HT_.out (by kernel_rfl)) (by decide) (fun K hK => ?_)
                  have hs102 : w100.cell? ⟨gb122, 4, none⟩ = some (.slice none 0 0) := (blk_cell BK122.out 4).trans rfl
                  have hfs102 := blk_frozen BK122.out 4
                  have hns102_0 := NB118_122.out
                  have hms102_0 := NB122_118.out
                  refine skip_ (w1 := ?_) (by rfl) rfl ?_ ?_
                  rotate_left
                  ·go_simp
                   rfl
                  refine hK.out _ _ ?_
                  clear hK K
                  refine done_ (done_of HT_.out (by kernel_rfl)) ?_
                  try go_wp2
                  go_meet
                  case rel => exact ⟨_, (y175), (.slice Ao101 y175.length co101), H', ⟨by have := HJ3.out; have := HJ21.out; have := HJ30.out; have := HJ40.out; have := HJ52.out; have := HJ56.out; have := HJ78.out; have := HJ84.out; first | omega | exact Nat.le_refl _⟩, ⟨by (with_reducible repeat (first | apply Kd.Q_alloc | apply Kd.Q_drewN | apply Kd.Q_drew)); first | exact Kd.Q_mono (Kd.Q_far (p := ⟨gb122, 4, none⟩) (Kd.Q_types HO_4.out BK122.out (by decide)) (fun _ hk => hk.2) (.slice Ao101 y175.length co101)) (fun _ hk => ⟨hk.1.1.1, ⟨hk.1.1.2.1, ⟨hk.1.1.2.2, hk.1.2⟩⟩⟩) | exact Kd.Q_mono (Kd.Q_mono (Kd.Q_far (p := ⟨gb122, 4, none⟩) (Kd.Q_types HO_4.out BK122.out (by decide)) (fun _ hk => hk.2) (.slice Ao101 y175.length co101)) (fun _ hk => ⟨hk.1.1.1, ⟨hk.1.1.2.1, ⟨hk.1.1.2.2, hk.1.2⟩⟩⟩)) (fun k_ hk => by simp only [slice_ownBlock] at hk ⊢; exact hk)⟩, ⟨by (with_reducible repeat (first | apply Kd.R_alloc | apply Kd.R_drewN | apply Kd.R_drew)); first | exact Kd.R_mono (Kd.R_far (p := ⟨gb122, 4, none⟩) (Kd.R_types HO_123000.out BK122.out (by decide)) (fun _ hk => hk.2) (.slice Ao101 y175.length co101)) (fun _ hk => ⟨hk.1.1.1, ⟨hk.1.1.2.1, ⟨hk.1.1.2.2, hk.1.2⟩⟩⟩) | exact Kd.R_mono (Kd.R_mono (Kd.R_far (p := ⟨gb122, 4, none⟩) (Kd.R_types HO_123000.out BK122.out (by decide)) (fun _ hk => hk.2) (.slice Ao101 y175.length co101)) (fun _ hk => ⟨hk.1.1.1, ⟨hk.1.1.2.1, ⟨hk.1.1.2.2, hk.1.2⟩⟩⟩)) (fun k_ hk => by simp only [slice_ownBlock] at hk ⊢; exact hk)⟩, ⟨by (with_reducible repeat (first | apply Kd.R_alloc | apply Kd.R_drewN | apply Kd.R_drew)); first | exact Kd.R_mono (Kd.R_far (p := ⟨gb122, 4, none⟩) (Kd.R_types HO_123002.out BK122.out (by decide)) (fun _ hk => hk.2) (.slice Ao101 y175.length co101)) (fun _ hk => ⟨hk.1.1.1, ⟨hk.1.1.2.1, ⟨hk.1.1.2.2, hk.1.2⟩⟩⟩) | exact Kd.R_mono (Kd.R_mono (Kd.R_far (p := ⟨gb122, 4, none⟩) (Kd.R_types HO_123002.out BK122.out (by decide)) (fun _ hk => hk.2) (.slice Ao101 y175.length co101)) (fun _ hk => ⟨hk.1.1.1, ⟨hk.1.1.2.1, ⟨hk.1.1.2.2, hk.1.2⟩⟩⟩)) (fun k_ hk => by simp only [slice_ownBlock] at hk ⊢; exact hk)⟩, ⟨by (with_reducible repeat (first | apply Kd.R_alloc | apply Kd.R_drewN | apply Kd.R_drew)); first | exact Kd.R_mono (Kd.R_far (p := ⟨gb122, 4, none⟩) (Kd.R_types HO_123003.out BK122.out (by decide)) (fun _ hk => hk.2) (.slice Ao101 y175.length co101)) (fun _ hk => ⟨hk.1.1.1, ⟨hk.1.1.2.1, ⟨hk.1.1.2.2, hk.1.2⟩⟩⟩) | exact Kd.R_mono (Kd.R_mono (Kd.R_far (p := ⟨gb122, 4, none⟩) (Kd.R_types HO_123003.out BK122.out (by decide)) (fun _ hk => hk.2) (.slice Ao101 y175.length co101)) (fun _ hk => ⟨hk.1.1.1, ⟨hk.1.1.2.1, ⟨hk.1.1.2.2, hk.1.2⟩⟩⟩)) (fun k_ hk => by simp only [slice_ownBlock] at hk ⊢; exact hk)⟩, ⟨by (with_reducible repeat (first | apply Kd.R_alloc | apply Kd.R_drewN | apply Kd.R_drew)); first | exact Kd.R_mono (Kd.R_far (p := ⟨gb122, 4, none⟩) (Kd.R_types HO177.out BK122.out (by decide)) (fun _ hk => hk.2) (.slice Ao101 y175.length co101)) (fun _ hk => ⟨hk.1.1, ⟨hk.1.2.1, ⟨hk.1.2.2.1, hk.1.2.2.2⟩⟩⟩) | exact Kd.R_mono (Kd.R_mono (Kd.R_far (p := ⟨gb122, 4, none⟩) (Kd.R_types HO177.out BK122.out (by decide)) (fun _ hk => hk.2) (.slice Ao101 y175.length co101)) (fun _ hk => ⟨hk.1.1, ⟨hk.1.2.1, ⟨hk.1.2.2.1, hk.1.2.2.2⟩⟩⟩)) (fun k_ hk => by simp only [slice_ownBlock] at hk ⊢; exact hk)⟩, ⟨by (with_reducible repeat (first | refine blk_drewN ?_ _ | refine blk_drew ?_ | refine blk_alloc ?_ _)); refine blk_far ?_ NB118_122.out _; (with_reducible repeat (first | refine blk_drewN ?_ _ | refine blk_drew ?_ | refine blk_alloc ?_ _)); exact BK118.out⟩, ⟨by (with_reducible repeat (first | refine blk_drewN ?_ _ | refine blk_drew ?_ | refine blk_alloc ?_ _)); refine blk_put (cs := #[u123000, .string x123001_30, u123002, u123003, .slice none 0 0]) ?_ 4 _ rfl; (with_reducible repeat (first | refine blk_drewN ?_ _ | refine blk_drew ?_ | refine blk_alloc ?_ _)); exact BK122.out⟩, ⟨by repeat (first | (with_reducible first | exact HB.out | apply below_alloc | apply pw_below_drewN | apply below_drew1 | refine below_set ?_ GE118.out | refine below_set ?_ GE122.out) | exact HB.out)⟩⟩
                 rw [if_neg c96] at H
                 exact absurd H (by simp)
                rw [if_neg c95] at H
                exact absurd H (by simp)
               rw [if_neg c94] at H
               exact absurd H (by simp)
              as_aux_lemma =>
              clear HC93
              try clear c1
              try clear p1
              try clear q1
              try clear hx1
              try clear qi1
              try clear c2
              try clear p2
              try clear q2
              try clear c3
              try clear c4
              try clear q4
              try clear c5
              try clear q5
              try clear c6
              try clear p6
              try clear q6
              try clear c7
              try clear q7
              try clear c8
              try clear q8
              try clear c9
              try clear c9b0
              try clear q9
              try clear c10
              try clear c10b0
              try clear c11
              try clear c11b0
              try clear c12
              try clear c12b0
              try clear p12
              try clear q12
              try clear hx12
              try clear c13
              try clear c13b0
              try clear p13
              try clear q13
              try clear hx13
              try clear c14
              try clear c14b0
              try clear c14b1
              try clear p14
              try clear q14
              try clear hx14
              try clear qi14
              try clear c16
              try clear c16b0
              try clear p16
              try clear q16
              try clear hx16
              try clear qi16
              try clear c17
              try clear c17b0
              try clear c19
              try clear c20
              try clear c23
              try clear c23b0
              try clear c23b1
              try clear c24
              try clear c24b0
              try clear c24b1
              try clear c25
              try clear q27
              try clear c33
              try clear c33b0
              try clear c34
              try clear c34b0
              try clear c35
              try clear c38
              try clear c38b0
              try clear c38b1
              try clear c39
              try clear c39b0
              try clear c39b1
              try clear c42
              try clear q42
              try clear c43
              try clear c43b0
              try clear c43b1
              try clear c44
              try clear c44b0
              try clear c44b1
              try clear c45
              try clear q47
              try clear c51
              try clear c51b0
              try clear c51b1
              try clear c52
              try clear c52b0
              try clear c52b1
              try clear c54
              try clear q54
              try clear c55
              try clear c55b0
              try clear c55b1
              try clear c56
              try clear c56b0
              try clear c56b1
              try clear c58
              try clear c60
              try clear c60b0
              try clear c60b1
              try clear c62
              try clear q62
              try clear c63
              try clear c63b0
              try clear c63b1
              try clear c64
              try clear p64
              try clear c67
              try clear c67b0
              try clear c67b1
              try clear c68
              try clear c68b0
              try clear c68b1
              try clear c69
              try clear c71
              try clear q71
              try clear c76
              try clear c76b0
              try clear c76b1
              try clear c77
              try clear c77b0
              try clear c77b1
              try clear c78
              try clear q78
              try clear c80
              try clear c80b0
              try clear c80b1
              try clear c81
              try clear c81b0
              try clear c81b1
              try clear c84
              try clear c86
              try clear c86b0
              try clear c86b1
              try clear c88
              try clear q88
              try clear c90
              try clear c90b0
              try clear c90b1
              try clear c91
              try clear c94
              try clear c94b0
              try clear c94b1
              try clear c95
              try clear c95b0
              try clear c95b1
              try clear c96
              try clear c98
              try clear q98
              try clear hcz21_0
              try clear hcz21_1
              try clear hcz21_2
              try clear hcz21_3
              try clear hcz21_4
              try clear hcz36_0
              try clear hcz36_1
              try clear hcz36_2
              try clear hcz36_3
              try clear hcz36_4
              try clear hcz65_0
              try clear hcz65_1
              try clear hcz65_2
              try clear hcz65_3
              try clear hcz65_4
              try clear hcz92_0
              try clear hcz92_1
              try clear hcz92_2
              try clear hcz92_3
              try clear hcz92_4
              try clear hfz21_0
              try clear hfz21_1
              try clear hfz21_2
              try clear hfz21_3
              try clear hfz21_4
              try clear hfz36_0
              try clear hfz36_1
              try clear hfz36_2
              try clear hfz36_3
              try clear hfz36_4
              try clear hfz65_0
              try clear hfz65_1
              try clear hfz65_2
              try clear hfz65_3
              try clear hfz65_4
              try clear hfz92_0
              try clear hfz92_1
              try clear hfz92_2
              try clear hfz92_3
              try clear hfz92_4
              try clear hx124_0
              try clear hx125_0
              try clear hx134_0
              try clear hx149_0
              try clear hx165_0
              try clear p1
              try clear p12
              try clear p124
              try clear p125
              try clear p13
              try clear p134
              try clear p14
              try clear p149
              try clear p16
              try clear p165
              try clear p2
              try clear p6
              try clear p64
              try clear q1
              try clear q12
              try clear q124
              try clear q125
              try clear q13
              try clear q134
              try clear q14
              try clear q149
              try clear q16
              try clear q165
              try clear q2
              try clear q27
              try clear q4
              try clear q42
              try clear q47
              try clear q5
              try clear q54
              try clear q6
              try clear q62
              try clear q7
              try clear q71
              try clear q78
              try clear q8
              try clear q88
              try clear q98
              obtain ⟨kq, x123004_92, u123004, HA, HJ92, HO_4, HO_123000, HO_123002, HO_123003, HO_123004, BK118, BK122, HB⟩ := hcut
              cases kq with
              | zero => exact absurd HA.out (by simp [crucibleref1_Words.j10])
              | succ kj92 =>
               have H := HA.out
               clear HA
               simp only [crucibleref1_Words.j10] at H
               obtain ⟨ji103, hji103⟩ : ∃ j_ : Int, (wrap64 (x6_84 + 1)) = j_ := ⟨_, rfl⟩
               replace H : (if 0 ≤ (ji103) then (if (ji103) ≤ (x4_56.length : Int) then (if ((x4_56.drop ((ji103) : Int).toNat).length : Int) > 0 then (some (([] : List ByteArray), (⟨#[]⟩ : ByteArray), ([] : List ByteArray), ([] : List ByteArray), ([] : List ByteArray), 700)) else (if (x123002_40.length : Int) > 8 then (some (([] : List ByteArray), (⟨#[]⟩ : ByteArray), ([] : List ByteArray), ([] : List ByteArray), ([] : List ByteArray), 700)) else (if (x123003_56.length : Int) > 8 then (some (([] : List ByteArray), (⟨#[]⟩ : ByteArray), ([] : List ByteArray), ([] : List ByteArray), ([] : List ByteArray), 700)) else (if (x123004_92.length : Int) > 8 then (some (([] : List ByteArray), (⟨#[]⟩ : ByteArray), ([] : List ByteArray), ([] : List ByteArray), ([] : List ByteArray), 700)) else (some (x123000_21, x123001_30, x123002_40, x123003_56, x123004_92, 0)))))) else (none)) else (none)) = some (r1, r2, r3, r4, r5, r6) := by first | (rw [hji103] at H; exact H) | (simp only [hji103] at H ⊢; exact H)
               have hji103w : (IntKind.i64.wrap (x6_84 + 1)) = ji103 := (i64_w _).trans hji103
               by_cases c104 : 0 ≤ (ji103)
               ·rw [if_pos c104] at H
                have c104b0 := eq_true c104
                have c104b1 : decide (0 ≤ (ji103)) = true := decide_eq_true c104
                clear c104
                by_cases c105 : (ji103) ≤ (x4_56.length : Int)
                ·rw [if_pos c105] at H
                 have c105b0 := eq_true c105
                 have c105b1 : decide ((ji103) ≤ (x4_56.length : Int)) = true := decide_eq_true c105
                 clear c105
                 obtain ⟨y178, hy178⟩ : ∃ y_ : List ByteArray, y_ = (x4_56.drop ((ji103) : Int).toNat) := ⟨_, rfl⟩
                 replace H : (if (y178.length : Int) > 0 then (some (([] : List ByteArray), (⟨#[]⟩ : ByteArray), ([] : List ByteArray), ([] : List ByteArray), ([] : List ByteArray), 700)) else (if (x123002_40.length : Int) > 8 then (some (([] : List ByteArray), (⟨#[]⟩ : ByteArray), ([] : List ByteArray), ([] : List ByteArray), ([] : List ByteArray), 700)) else (if (x123003_56.length : Int) > 8 then (some (([] : List ByteArray), (⟨#[]⟩ : ByteArray), ([] : List ByteArray), ([] : List ByteArray), ([] : List ByteArray), 700)) else (if (x123004_92.length : Int) > 8 then (some (([] : List ByteArray), (⟨#[]⟩ : ByteArray), ([] : List ByteArray), ([] : List ByteArray), ([] : List ByteArray), 700)) else (some (x123000_21, x123001_30, x123002_40, x123003_56, x123004_92, 0)))))) = some (r1, r2, r3, r4, r5, r6) := by first | (rw [hy178]; with_reducible exact H) | (have H2_ := (Option.bind_some _ _).symm.trans H; rw [hy178]; with_reducible exact H2_) | (have H2_ := (Option.bind_some _ _).symm.trans H; with_reducible exact H2_) | with_reducible exact H | (rw [hy178]; exact H) | exact H
                 have Ny178 := Aside0.mk hy178
                 clear hy178
                 by_cases c106 : (y178.length : Int) > 0
                 ·rw [if_pos c106] at H
                  have c106b0 : decide (0 < (y178.length : Int)) = true := decide_eq_true c106
                  have c106b1 : decide (0 < y178.length) = true := decide_eq_true (by omega)
                  clear c106
                  simp only [Option.some.injEq, Prod.mk.injEq] at H
                  obtain ⟨rfl, rfl, rfl, rfl, rfl, rfl⟩ := H
                  obtain ⟨Ao107, co107, eo107, _⟩ := Kd.Q_slice HO_4.out
                  subst eo107
                  have q108 : ((ji103) : Int) ≤ ((x4_56.length : Int) : Int) := of_decide_eq_true (by first | (with_reducible assumption) | assumption)
                  obtain ⟨i0108, hi0108, _, hsz108, _⟩ := info_parts info9
                  have hcut108 := cut_from (P := Tryd.prog) 22 9 .i64 Tryd.underlying22 hi0108 1 hsz108 Ao107 x4_56.length co107 (ji103) (of_decide_eq_true (by first | (with_reducible assumption) | assumption)) q108
                  have hr108 := Kd.Q_drop (k := ((ji103) : Int).toNat) HO_4.out (by omega)
                  obtain ⟨A108, hA108⟩ : ∃ A1, A1 = (if co107 = ((ji103) : Int).toNat then Ao107 else (Ao107 : Option Addr).map (·.add (((ji103) : Int).toNat * 1))) := ⟨_, rfl⟩
                  obtain ⟨c108, hc108⟩ : ∃ c1, c1 = co107 - ((ji103) : Int).toNat := ⟨_, rfl⟩
                  have hy108 : y178.length = x4_56.length - ((ji103) : Int).toNat := (by rw [Ny178.out, List.length_drop])
                  rw [← Ny178.out] at hr108
                  rw [← hy108, ← hA108, ← hc108] at hcut108
                  replace hr108 : Kd.Q Kd.string 9 wc w.heap.size (fun k_ => some k_ ≠ (u123000 : Value).ownBlock ∧ some k_ ≠ (u123002 : Value).ownBlock ∧ some k_ ≠ (u123003 : Value).ownBlock ∧ some k_ ≠ (u123004 : Value).ownBlock) (.slice A108 y178.length c108) y178 := (by rw [hA108, hc108, hy108]; exact hr108)
                  have HE108 : Aside0 ((Value.slice A108 y178.length c108).ownBlock = (.slice Ao107 x4_56.length co107 : Value).ownBlock) := ⟨by rw [hA108]; split <;> (cases (Ao107 : Option Addr) <;> first | rfl | (simp [Value.ownBlock, add_block]; done))⟩
                  clear hy108 hi0108 hsz108 HO_4 hA108 hc108
                  have HO180 := Aside0.mk hr108
                  clear hr108
                  replace q108 := eq_true q108
                  have n_ := Aside0.mk (Kd.R_mono (ok' := fun k_ => (some k_ ≠ (.slice A108 y178.length c108 : Value).ownBlock ∧ (some k_ ≠ (u123002 : Value).ownBlock ∧ (some k_ ≠ (u123003 : Value).ownBlock ∧ some k_ ≠ (u123004 : Value).ownBlock)))) HO_123000.out (fun k_ hk => ⟨(by rw [HE108.out]; exact hk.1), ⟨hk.2.1, ⟨hk.2.2.1, hk.2.2.2⟩⟩⟩))
                  clear HO_123000
                  have HO_123000 := n_
                  clear n_
                  have n_ := Aside0.mk (Kd.R_mono (ok' := fun k_ => (some k_ ≠ (.slice A108 y178.length c108 : Value).ownBlock ∧ (some k_ ≠ (u123000 : Value).ownBlock ∧ (some k_ ≠ (u123003 : Value).ownBlock ∧ some k_ ≠ (u123004 : Value).ownBlock)))) HO_123002.out (fun k_ hk => ⟨(by rw [HE108.out]; exact hk.1), ⟨hk.2.1, ⟨hk.2.2.1, hk.2.2.2⟩⟩⟩))
                  clear HO_123002
                  have HO_123002 := n_
                  clear n_
                  have n_ := Aside0.mk (Kd.R_mono (ok' := fun k_ => (some k_ ≠ (.slice A108 y178.length c108 : Value).ownBlock ∧ (some k_ ≠ (u123000 : Value).ownBlock ∧ (some k_ ≠ (u123002 : Value).ownBlock ∧ some k_ ≠ (u123004 : Value).ownBlock)))) HO_123003.out (fun k_ hk => ⟨(by rw [HE108.out]; exact hk.1), ⟨hk.2.1, ⟨hk.2.2.1, hk.2.2.2⟩⟩⟩))
                  clear HO_123003
                  have HO_123003 := n_
                  clear n_
                  have n_ := Aside0.mk (Kd.R_mono (ok' := fun k_ => (some k_ ≠ (.slice A108 y178.length c108 : Value).ownBlock ∧ (some k_ ≠ (u123000 : Value).ownBlock ∧ (some k_ ≠ (u123002 : Value).ownBlock ∧ some k_ ≠ (u123003 : Value).ownBlock)))) HO_123004.out (fun k_ hk => ⟨(by rw [HE108.out]; exact hk.1), ⟨hk.2.1, ⟨hk.2.2.1, hk.2.2.2⟩⟩⟩))
                  clear HO_123004
                  have HO_123004 := n_
                  clear n_
                  have hnb109 := NB118_122.out
                  have hnc109 := NB122_118.out
                  have hcz110_0 : wc.cell? ⟨gb118, 0, none⟩ = some (.slice none 0 0) := (blk_cell BK118.out 0).trans rfl
                  have hcz110_1 : wc.cell? ⟨gb118, 1, none⟩ = some (.string x119001_56) := (blk_cell BK118.out 1).trans rfl
                  have hcz110_2 : wc.cell? ⟨gb118, 2, none⟩ = some (.slice none 0 0) := (blk_cell BK118.out 2).trans rfl
                  have hcz110_3 : wc.cell? ⟨gb118, 3, none⟩ = some (.slice none 0 0) := (blk_cell BK118.out 3).trans rfl
                  have hcz110_4 : wc.cell? ⟨gb118, 4, none⟩ = some (.slice none 0 0) := (blk_cell BK118.out 4).trans rfl
                  have hfz110_0 := blk_frozen BK118.out 0
                  have hfz110_1 := blk_frozen BK118.out 1
                  have hfz110_2 := blk_frozen BK118.out 2
                  have hfz110_3 := blk_frozen BK118.out 3
                  have hfz110_4 := blk_frozen BK118.out 4
                  go_wp2
                  refine bodyPost_ret (results_ct rfl _ _ gb118 27 #[.slice none 0 0, .string (⟨#[]⟩ : ByteArray), .slice none 0 0, .slice none 0 0, .slice none 0 0] (0, 0) _ rfl (by (with_reducible repeat (first | refine blk_drewN ?_ _ | refine blk_drew ?_ | refine blk_alloc ?_ _)); refine blk_put (cs := #[.slice none 0 0, .string (⟨#[]⟩ : ByteArray), .slice none 0 0, .slice none 0 0, .slice none 0 0]) ?_ 4 _ rfl; (with_reducible repeat (first | refine blk_drewN ?_ _ | refine blk_drew ?_ | refine blk_alloc ?_ _)); refine blk_put (cs := #[.slice none 0 0, .string (⟨#[]⟩ : ByteArray), .slice none 0 0, .slice none 0 0, .slice none 0 0]) ?_ 3 _ rfl; (with_reducible repeat (first | refine blk_drewN ?_ _ | refine blk_drew ?_ | refine blk_alloc ?_ _)); refine blk_put (cs := #[.slice none 0 0, .string (⟨#[]⟩ : ByteArray), .slice none 0 0, .slice none 0 0, .slice none 0 0]) ?_ 2 _ rfl; (with_reducible repeat (first | refine blk_drewN ?_ _ | refine blk_drew ?_ | refine blk_alloc ?_ _)); refine blk_put (cs := #[.slice none 0 0, .string x119001_56, .slice none 0 0, .slice none 0 0, .slice none 0 0]) ?_ 1 _ rfl; (with_reducible repeat (first | refine blk_drewN ?_ _ | refine blk_drew ?_ | refine blk_alloc ?_ _)); refine blk_put (cs := #[.slice none 0 0, .string x119001_56, .slice none 0 0, .slice none 0 0, .slice none 0 0]) ?_ 0 _ rfl; (with_reducible repeat (first | refine blk_drewN ?_ _ | refine blk_drew ?_ | refine blk_alloc ?_ _)); exact BK118.out) Tryd.underlying27 rfl (by kernel_rfl)) rfl ?_
                  exact ⟨_, _, _, _, by first | rfl | (simp [errW_none, errW_some] <;> rfl) | (simp only [← hji37, ← hji103]; first | rfl | (simp [errW_none, errW_some] <;> rfl)) | (simp [*, errW_none, errW_some] <;> rfl), by first | exact Kd.R_nil _ _ _ _ _ | exact Kd.N_nil _ _ _ _ _ | exact Kd.V_nil _ _ _ _ _ | exact Kd.Q_nil _ _ _ _ _ | exact Kd.S_nil _ _ _ _ _, by first | exact Kd.R_nil _ _ _ _ _ | exact Kd.N_nil _ _ _ _ _ | exact Kd.V_nil _ _ _ _ _ | exact Kd.Q_nil _ _ _ _ _ | exact Kd.S_nil _ _ _ _ _, by first | exact Kd.R_nil _ _ _ _ _ | exact Kd.N_nil _ _ _ _ _ | exact Kd.V_nil _ _ _ _ _ | exact Kd.Q_nil _ _ _ _ _ | exact Kd.S_nil _ _ _ _ _, by first | exact Kd.R_nil _ _ _ _ _ | exact Kd.N_nil _ _ _ _ _ | exact Kd.V_nil _ _ _ _ _ | exact Kd.Q_nil _ _ _ _ _ | exact Kd.S_nil _ _ _ _ _, by repeat (first | (with_reducible first | exact HB.out | apply below_alloc | apply pw_below_drewN | apply below_drew1 | refine below_set ?_ GE118.out | refine below_set ?_ GE122.out) | exact HB.out)⟩
                 rw [if_neg c106] at H
                 have c106b0 : decide (0 < (y178.length : Int)) = false := decide_eq_false c106
                 have c106b1 : decide (0 < y178.length) = false := decide_eq_false (by omega)
                 clear c106
                 by_cases c111 : (x123002_40.length : Int) > 8
                 ·rw [if_pos c111] at H
                  have c111b0 : decide (8 < (x123002_40.length : Int)) = true := decide_eq_true c111
                  have c111b1 : decide (8 < x123002_40.length) = true := decide_eq_true (by omega)
                  clear c111
                  simp only [Option.some.injEq, Prod.mk.injEq] at H
                  obtain ⟨rfl, rfl, rfl, rfl, rfl, rfl⟩ := H
                  obtain ⟨Ao112, co112, eo112, _⟩ := Kd.Q_slice HO_4.out
                  subst eo112
                  have q113 : ((ji103) : Int) ≤ ((x4_56.length : Int) : Int) := of_decide_eq_true (by first | (with_reducible assumption) | assumption)
                  obtain ⟨i0113, hi0113, _, hsz113, _⟩ := info_parts info9
                  have hcut113 := cut_from (P := Tryd.prog) 22 9 .i64 Tryd.underlying22 hi0113 1 hsz113 Ao112 x4_56.length co112 (ji103) (of_decide_eq_true (by first | (with_reducible assumption) | assumption)) q113
                  have hr113 := Kd.Q_drop (k := ((ji103) : Int).toNat) HO_4.out (by omega)
                  obtain ⟨A113, hA113⟩ : ∃ A1, A1 = (if co112 = ((ji103) : Int).toNat then Ao112 else (Ao112 : Option Addr).map (·.add (((ji103) : Int).toNat * 1))) := ⟨_, rfl⟩
                  obtain ⟨c113, hc113⟩ : ∃ c1, c1 = co112 - ((ji103) : Int).toNat := ⟨_, rfl⟩
                  have hy113 : y178.length = x4_56.length - ((ji103) : Int).toNat := (by rw [Ny178.out, List.length_drop])
                  rw [← Ny178.out] at hr113
                  rw [← hy113, ← hA113, ← hc113] at hcut113
                  replace hr113 : Kd.Q Kd.string 9 wc w.heap.size (fun k_ => some k_ ≠ (u123000 : Value).ownBlock ∧ some k_ ≠ (u123002 : Value).ownBlock ∧ some k_ ≠ (u123003 : Value).ownBlock ∧ some k_ ≠ (u123004 : Value).ownBlock) (.slice A113 y178.length c113) y178 := (by rw [hA113, hc113, hy113]; exact hr113)
                  have HE113 : Aside0 ((Value.slice A113 y178.length c113).ownBlock = (.slice Ao112 x4_56.length co112 : Value).ownBlock) := ⟨by rw [hA113]; split <;> (cases (Ao112 : Option Addr) <;> first | rfl | (simp [Value.ownBlock, add_block]; done))⟩
                  clear hy113 hi0113 hsz113 HO_4 hA113 hc113
                  have HO180 := Aside0.mk hr113
                  clear hr113
                  replace q113 := eq_true q113
                  have n_ := Aside0.mk (Kd.R_mono (ok' := fun k_ => (some k_ ≠ (.slice A113 y178.length c113 : Value).ownBlock ∧ (some k_ ≠ (u123002 : Value).ownBlock ∧ (some k_ ≠ (u123003 : Value).ownBlock ∧ some k_ ≠ (u123004 : Value).ownBlock)))) HO_123000.out (fun k_ hk => ⟨(by rw [HE113.out]; exact hk.1), ⟨hk.2.1, ⟨hk.2.2.1, hk.2.2.2⟩⟩⟩))
                  clear HO_123000
                  have HO_123000 := n_
                  clear n_
                  have n_ := Aside0.mk (Kd.R_mono (ok' := fun k_ => (some k_ ≠ (.slice A113 y178.length c113 : Value).ownBlock ∧ (some k_ ≠ (u123000 : Value).ownBlock ∧ (some k_ ≠ (u123003 : Value).ownBlock ∧ some k_ ≠ (u123004 : Value).ownBlock)))) HO_123002.out (fun k_ hk => ⟨(by rw [HE113.out]; exact hk.1), ⟨hk.2.1, ⟨hk.2.2.1, hk.2.2.2⟩⟩⟩))
                  clear HO_123002
                  have HO_123002 := n_
                  clear n_
                  have n_ := Aside0.mk (Kd.R_mono (ok' := fun k_ => (some k_ ≠ (.slice A113 y178.length c113 : Value).ownBlock ∧ (some k_ ≠ (u123000 : Value).ownBlock ∧ (some k_ ≠ (u123002 : Value).ownBlock ∧ some k_ ≠ (u123004 : Value).ownBlock)))) HO_123003.out (fun k_ hk => ⟨(by rw [HE113.out]; exact hk.1), ⟨hk.2.1, ⟨hk.2.2.1, hk.2.2.2⟩⟩⟩))
                  clear HO_123003
                  have HO_123003 := n_
                  clear n_
                  have n_ := Aside0.mk (Kd.R_mono (ok' := fun k_ => (some k_ ≠ (.slice A113 y178.length c113 : Value).ownBlock ∧ (some k_ ≠ (u123000 : Value).ownBlock ∧ (some k_ ≠ (u123002 : Value).ownBlock ∧ some k_ ≠ (u123003 : Value).ownBlock)))) HO_123004.out (fun k_ hk => ⟨(by rw [HE113.out]; exact hk.1), ⟨hk.2.1, ⟨hk.2.2.1, hk.2.2.2⟩⟩⟩))
                  clear HO_123004
                  have HO_123004 := n_
                  clear n_
                  have hnb114 := NB122_118.out
                  have hnc114 := NB118_122.out
                  have hcz115_0 : wc.cell? ⟨gb122, 0, none⟩ = some (u123000) := (blk_cell BK122.out 0).trans rfl
                  have hcz115_1 : wc.cell? ⟨gb122, 1, none⟩ = some (.string x123001_30) := (blk_cell BK122.out 1).trans rfl
                  have hcz115_2 : wc.cell? ⟨gb122, 2, none⟩ = some (u123002) := (blk_cell BK122.out 2).trans rfl
                  have hcz115_3 : wc.cell? ⟨gb122, 3, none⟩ = some (u123003) := (blk_cell BK122.out 3).trans rfl
                  have hcz115_4 : wc.cell? ⟨gb122, 4, none⟩ = some (u123004) := (blk_cell BK122.out 4).trans rfl
                  have hfz115_0 := blk_frozen BK122.out 0
                  have hfz115_1 := blk_frozen BK122.out 1
                  have hfz115_2 := blk_frozen BK122.out 2
                  have hfz115_3 := blk_frozen BK122.out 3
                  have hfz115_4 := blk_frozen BK122.out 4
                  obtain ⟨Ao116, co116, eo116⟩ := Kd.R_slice HO_123002.out
                  subst eo116
                  have hcz117_0 : wc.cell? ⟨gb118, 0, none⟩ = some (.slice none 0 0) := (blk_cell BK118.out 0).trans rfl
                  have hcz117_1 : wc.cell? ⟨gb118, 1, none⟩ = some (.string x119001_56) := (blk_cell BK118.out 1).trans rfl
                  have hcz117_2 : wc.cell? ⟨gb118, 2, none⟩ = some (.slice none 0 0) := (blk_cell BK118.out 2).trans rfl
                  have hcz117_3 : wc.cell? ⟨gb118, 3, none⟩ = some (.slice none 0 0) := (blk_cell BK118.out 3).trans rfl
                  have hcz117_4 : wc.cell? ⟨gb118, 4, none⟩ = some (.slice none 0 0) := (blk_cell BK118.out 4).trans rfl
                  have hfz117_0 := blk_frozen BK118.out 0
                  have hfz117_1 := blk_frozen BK118.out 1
                  have hfz117_2 := blk_frozen BK118.out 2
                  have hfz117_3 := blk_frozen BK118.out 3
                  have hfz117_4 := blk_frozen BK118.out 4
                  go_wp2
                  refine bodyPost_ret (results_ct rfl _ _ gb118 27 #[.slice none 0 0, .string (⟨#[]⟩ : ByteArray), .slice none 0 0, .slice none 0 0, .slice none 0 0] (0, 0) _ rfl (by (with_reducible repeat (first | refine blk_drewN ?_ _ | refine blk_drew ?_ | refine blk_alloc ?_ _)); refine blk_put (cs := #[.slice none 0 0, .string (⟨#[]⟩ : ByteArray), .slice none 0 0, .slice none 0 0, .slice none 0 0]) ?_ 4 _ rfl; (with_reducible repeat (first | refine blk_drewN ?_ _ | refine blk_drew ?_ | refine blk_alloc ?_ _)); refine blk_put (cs := #[.slice none 0 0, .string (⟨#[]⟩ : ByteArray), .slice none 0 0, .slice none 0 0, .slice none 0 0]) ?_ 3 _ rfl; (with_reducible repeat (first | refine blk_drewN ?_ _ | refine blk_drew ?_ | refine blk_alloc ?_ _)); refine blk_put (cs := #[.slice none 0 0, .string (⟨#[]⟩ : ByteArray), .slice none 0 0, .slice none 0 0, .slice none 0 0]) ?_ 2 _ rfl; (with_reducible repeat (first | refine blk_drewN ?_ _ | refine blk_drew ?_ | refine blk_alloc ?_ _)); refine blk_put (cs := #[.slice none 0 0, .string x119001_56, .slice none 0 0, .slice none 0 0, .slice none 0 0]) ?_ 1 _ rfl; (with_reducible repeat (first | refine blk_drewN ?_ _ | refine blk_drew ?_ | refine blk_alloc ?_ _)); refine blk_put (cs := #[.slice none 0 0, .string x119001_56, .slice none 0 0, .slice none 0 0, .slice none 0 0]) ?_ 0 _ rfl; (with_reducible repeat (first | refine blk_drewN ?_ _ | refine blk_drew ?_ | refine blk_alloc ?_ _)); exact BK118.out) Tryd.underlying27 rfl (by kernel_rfl)) rfl ?_
                  exact ⟨_, _, _, _, by first | rfl | (simp [errW_none, errW_some] <;> rfl) | (simp only [← hji37, ← hji103]; first | rfl | (simp [errW_none, errW_some] <;> rfl)) | (simp [*, errW_none, errW_some] <;> rfl), by first | exact Kd.R_nil _ _ _ _ _ | exact Kd.N_nil _ _ _ _ _ | exact Kd.V_nil _ _ _ _ _ | exact Kd.Q_nil _ _ _ _ _ | exact Kd.S_nil _ _ _ _ _, by first | exact Kd.R_nil _ _ _ _ _ | exact Kd.N_nil _ _ _ _ _ | exact Kd.V_nil _ _ _ _ _ | exact Kd.Q_nil _ _ _ _ _ | exact Kd.S_nil _ _ _ _ _, by first | exact Kd.R_nil _ _ _ _ _ | exact Kd.N_nil _ _ _ _ _ | exact Kd.V_nil _ _ _ _ _ | exact Kd.Q_nil _ _ _ _ _ | exact Kd.S_nil _ _ _ _ _, by first | exact Kd.R_nil _ _ _ _ _ | exact Kd.N_nil _ _ _ _ _ | exact Kd.V_nil _ _ _ _ _ | exact Kd.Q_nil _ _ _ _ _ | exact Kd.S_nil _ _ _ _ _, by repeat (first | (with_reducible first | exact HB.out | apply below_alloc | apply pw_below_drewN | apply below_drew1 | refine below_set ?_ GE118.out | refine below_set ?_ GE122.out) | exact HB.out)⟩
                 rw [if_neg c111] at H
                 have c111b0 : decide (8 < (x123002_40.length : Int)) = false := decide_eq_false c111
                 have c111b1 : decide (8 < x123002_40.length) = false := decide_eq_false (by omega)
                 clear c111
                 by_cases c118 : (x123003_56.length : Int) > 8
                 ·rw [if_pos c118] at H
                  have c118b0 : decide (8 < (x123003_56.length : Int)) = true := decide_eq_true c118
                  have c118b1 : decide (8 < x123003_56.length) = true := decide_eq_true (by omega)
                  clear c118
                  simp only [Option.some.injEq, Prod.mk.injEq] at H
                  obtain ⟨rfl, rfl, rfl, rfl, rfl, rfl⟩ := H
                  obtain ⟨Ao119, co119, eo119, _⟩ := Kd.Q_slice HO_4.out
                  subst eo119
                  have q120 : ((ji103) : Int) ≤ ((x4_56.length : Int) : Int) := of_decide_eq_true (by first | (with_reducible assumption) | assumption)
                  obtain ⟨i0120, hi0120, _, hsz120, _⟩ := info_parts info9
                  have hcut120 := cut_from (P := Tryd.prog) 22 9 .i64 Tryd.underlying22 hi0120 1 hsz120 Ao119 x4_56.length co119 (ji103) (of_decide_eq_true (by first | (with_reducible assumption) | assumption)) q120
                  have hr120 := Kd.Q_drop (k := ((ji103) : Int).toNat) HO_4.out (by omega)
                  obtain ⟨A120, hA120⟩ : ∃ A1, A1 = (if co119 = ((ji103) : Int).toNat then Ao119 else (Ao119 : Option Addr).map (·.add (((ji103) : Int).toNat * 1))) := ⟨_, rfl⟩
                  obtain ⟨c120, hc120⟩ : ∃ c1, c1 = co119 - ((ji103) : Int).toNat := ⟨_, rfl⟩
                  have hy120 : y178.length = x4_56.length - ((ji103) : Int).toNat := (by rw [Ny178.out, List.length_drop])
                  rw [← Ny178.out] at hr120
                  rw [← hy120, ← hA120, ← hc120] at hcut120
                  replace hr120 : Kd.Q Kd.string 9 wc w.heap.size (fun k_ => some k_ ≠ (u123000 : Value).ownBlock ∧ some k_ ≠ (u123002 : Value).ownBlock ∧ some k_ ≠ (u123003 : Value).ownBlock ∧ some k_ ≠ (u123004 : Value).ownBlock) (.slice A120 y178.length c120) y178 := (by rw [hA120, hc120, hy120]; exact hr120)
                  have HE120 : Aside0 ((Value.slice A120 y178.length c120).ownBlock = (.slice Ao119 x4_56.length co119 : Value).ownBlock) := ⟨by rw [hA120]; split <;> (cases (Ao119 : Option Addr) <;> first | rfl | (simp [Value.ownBlock, add_block]; done))⟩
                  clear hy120 hi0120 hsz120 HO_4 hA120 hc120
                  have HO180 := Aside0.mk hr120
                  clear hr120
                  replace q120 := eq_true q120
                  have n_ := Aside0.mk (Kd.R_mono (ok' := fun k_ => (some k_ ≠ (.slice A120 y178.length c120 : Value).ownBlock ∧ (some k_ ≠ (u123002 : Value).ownBlock ∧ (some k_ ≠ (u123003 : Value).ownBlock ∧ some k_ ≠ (u123004 : Value).ownBlock)))) HO_123000.out (fun k_ hk => ⟨(by rw [HE120.out]; exact hk.1), ⟨hk.2.1, ⟨hk.2.2.1, hk.2.2.2⟩⟩⟩))
                  clear HO_123000
                  have HO_123000 := n_
                  clear n_
                  have n_ := Aside0.mk (Kd.R_mono (ok' := fun k_ => (some k_ ≠ (.slice A120 y178.length c120 : Value).ownBlock ∧ (some k_ ≠ (u123000 : Value).ownBlock ∧ (some k_ ≠ (u123003 : Value).ownBlock ∧ some k_ ≠ (u123004 : Value).ownBlock)))) HO_123002.out (fun k_ hk => ⟨(by rw [HE120.out]; exact hk.1), ⟨hk.2.1, ⟨hk.2.2.1, hk.2.2.2⟩⟩⟩))
                  clear HO_123002
                  have HO_123002 := n_
                  clear n_
                  have n_ := Aside0.mk (Kd.R_mono (ok' := fun k_ => (some k_ ≠ (.slice A120 y178.length c120 : Value).ownBlock ∧ (some k_ ≠ (u123000 : Value).ownBlock ∧ (some k_ ≠ (u123002 : Value).ownBlock ∧ some k_ ≠ (u123004 : Value).ownBlock)))) HO_123003.out (fun k_ hk => ⟨(by rw [HE120.out]; exact hk.1), ⟨hk.2.1, ⟨hk.2.2.1, hk.2.2.2⟩⟩⟩))
                  clear HO_123003
                  have HO_123003 := n_
                  clear n_
                  have n_ := Aside0.mk (Kd.R_mono (ok' := fun k_ => (some k_ ≠ (.slice A120 y178.length c120 : Value).ownBlock ∧ (some k_ ≠ (u123000 : Value).ownBlock ∧ (some k_ ≠ (u123002 : Value).ownBlock ∧ some k_ ≠ (u123003 : Value).ownBlock)))) HO_123004.out (fun k_ hk => ⟨(by rw [HE120.out]; exact hk.1), ⟨hk.2.1, ⟨hk.2.2.1, hk.2.2.2⟩⟩⟩))
                  clear HO_123004
                  have HO_123004 := n_
                  clear n_
                  have hnb121 := NB122_118.out
                  have hnc121 := NB118_122.out
                  have hcz122_0 : wc.cell? ⟨gb122, 0, none⟩ = some (u123000) := (blk_cell BK122.out 0).trans rfl
                  have hcz122_1 : wc.cell? ⟨gb122, 1, none⟩ = some (.string x123001_30) := (blk_cell BK122.out 1).trans rfl
                  have hcz122_2 : wc.cell? ⟨gb122, 2, none⟩ = some (u123002) := (blk_cell BK122.out 2).trans rfl
                  have hcz122_3 : wc.cell? ⟨gb122, 3, none⟩ = some (u123003) := (blk_cell BK122.out 3).trans rfl
                  have hcz122_4 : wc.cell? ⟨gb122, 4, none⟩ = some (u123004) := (blk_cell BK122.out 4).trans rfl
                  have hfz122_0 := blk_frozen BK122.out 0
                  have hfz122_1 := blk_frozen BK122.out 1
                  have hfz122_2 := blk_frozen BK122.out 2
                  have hfz122_3 := blk_frozen BK122.out 3
                  have hfz122_4 := blk_frozen BK122.out 4
                  obtain ⟨Ao123, co123, eo123⟩ := Kd.R_slice HO_123002.out
                  subst eo123
                  obtain ⟨Ao124, co124, eo124⟩ := Kd.R_slice HO_123003.out
                  subst eo124
                  have hcz125_0 : wc.cell? ⟨gb118, 0, none⟩ = some (.slice none 0 0) := (blk_cell BK118.out 0).trans rfl
                  have hcz125_1 : wc.cell? ⟨gb118, 1, none⟩ = some (.string x119001_56) := (blk_cell BK118.out 1).trans rfl
                  have hcz125_2 : wc.cell? ⟨gb118, 2, none⟩ = some (.slice none 0 0) := (blk_cell BK118.out 2).trans rfl
                  have hcz125_3 : wc.cell? ⟨gb118, 3, none⟩ = some (.slice none 0 0) := (blk_cell BK118.out 3).trans rfl
                  have hcz125_4 : wc.cell? ⟨gb118, 4, none⟩ = some (.slice none 0 0) := (blk_cell BK118.out 4).trans rfl
                  have hfz125_0 := blk_frozen BK118.out 0
                  have hfz125_1 := blk_frozen BK118.out 1
                  have hfz125_2 := blk_frozen BK118.out 2
                  have hfz125_3 := blk_frozen BK118.out 3
                  have hfz125_4 := blk_frozen BK118.out 4
                  go_wp2
                  refine bodyPost_ret (results_ct rfl _ _ gb118 27 #[.slice none 0 0, .string (⟨#[]⟩ : ByteArray), .slice none 0 0, .slice none 0 0, .slice none 0 0] (0, 0) _ rfl (by (with_reducible repeat (first | refine blk_drewN ?_ _ | refine blk_drew ?_ | refine blk_alloc ?_ _)); refine blk_put (cs := #[.slice none 0 0, .string (⟨#[]⟩ : ByteArray), .slice none 0 0, .slice none 0 0, .slice none 0 0]) ?_ 4 _ rfl; (with_reducible repeat (first | refine blk_drewN ?_ _ | refine blk_drew ?_ | refine blk_alloc ?_ _)); refine blk_put (cs := #[.slice none 0 0, .string (⟨#[]⟩ : ByteArray), .slice none 0 0, .slice none 0 0, .slice none 0 0]) ?_ 3 _ rfl; (with_reducible repeat (first | refine blk_drewN ?_ _ | refine blk_drew ?_ | refine blk_alloc ?_ _)); refine blk_put (cs := #[.slice none 0 0, .string (⟨#[]⟩ : ByteArray), .slice none 0 0, .slice none 0 0, .slice none 0 0]) ?_ 2 _ rfl; (with_reducible repeat (first | refine blk_drewN ?_ _ | refine blk_drew ?_ | refine blk_alloc ?_ _)); refine blk_put (cs := #[.slice none 0 0, .string x119001_56, .slice none 0 0, .slice none 0 0, .slice none 0 0]) ?_ 1 _ rfl; (with_reducible repeat (first | refine blk_drewN ?_ _ | refine blk_drew ?_ | refine blk_alloc ?_ _)); refine blk_put (cs := #[.slice none 0 0, .string x119001_56, .slice none 0 0, .slice none 0 0, .slice none 0 0]) ?_ 0 _ rfl; (with_reducible repeat (first | refine blk_drewN ?_ _ | refine blk_drew ?_ | refine blk_alloc ?_ _)); exact BK118.out) Tryd.underlying27 rfl (by kernel_rfl)) rfl ?_
                  exact ⟨_, _, _, _, by first | rfl | (simp [errW_none, errW_some] <;> rfl) | (simp only [← hji37, ← hji103]; first | rfl | (simp [errW_none, errW_some] <;> rfl)) | (simp [*, errW_none, errW_some] <;> rfl), by first | exact Kd.R_nil _ _ _ _ _ | exact Kd.N_nil _ _ _ _ _ | exact Kd.V_nil _ _ _ _ _ | exact Kd.Q_nil _ _ _ _ _ | exact Kd.S_nil _ _ _ _ _, by first | exact Kd.R_nil _ _ _ _ _ | exact Kd.N_nil _ _ _ _ _ | exact Kd.V_nil _ _ _ _ _ | exact Kd.Q_nil _ _ _ _ _ | exact Kd.S_nil _ _ _ _ _, by first | exact Kd.R_nil _ _ _ _ _ | exact Kd.N_nil _ _ _ _ _ | exact Kd.V_nil _ _ _ _ _ | exact Kd.Q_nil _ _ _ _ _ | exact Kd.S_nil _ _ _ _ _, by first | exact Kd.R_nil _ _ _ _ _ | exact Kd.N_nil _ _ _ _ _ | exact Kd.V_nil _ _ _ _ _ | exact Kd.Q_nil _ _ _ _ _ | exact Kd.S_nil _ _ _ _ _, by repeat (first | (with_reducible first | exact HB.out | apply below_alloc | apply pw_below_drewN | apply below_drew1 | refine below_set ?_ GE118.out | refine below_set ?_ GE122.out) | exact HB.out)⟩
                 rw [if_neg c118] at H
                 have c118b0 : decide (8 < (x123003_56.length : Int)) = false := decide_eq_false c118
                 have c118b1 : decide (8 < x123003_56.length) = false := decide_eq_false (by omega)
                 clear c118
                 by_cases c126 : (x123004_92.length : Int) > 8
                 ·rw [if_pos c126] at H
                  have c126b0 : decide (8 < (x123004_92.length : Int)) = true := decide_eq_true c126
                  have c126b1 : decide (8 < x123004_92.length) = true := decide_eq_true (by omega)
                  clear c126
                  simp only [Option.some.injEq, Prod.mk.injEq] at H
                  obtain ⟨rfl, rfl, rfl, rfl, rfl, rfl⟩ := H
                  obtain ⟨Ao127, co127, eo127, _⟩ := Kd.Q_slice HO_4.out
                  subst eo127
                  have q128 : ((ji103) : Int) ≤ ((x4_56.length : Int) : Int) := of_decide_eq_true (by first | (with_reducible assumption) | assumption)
                  obtain ⟨i0128, hi0128, _, hsz128, _⟩ := info_parts info9
                  have hcut128 := cut_from (P := Tryd.prog) 22 9 .i64 Tryd.underlying22 hi0128 1 hsz128 Ao127 x4_56.length co127 (ji103) (of_decide_eq_true (by first | (with_reducible assumption) | assumption)) q128
                  have hr128 := Kd.Q_drop (k := ((ji103) : Int).toNat) HO_4.out (by omega)
                  obtain ⟨A128, hA128⟩ : ∃ A1, A1 = (if co127 = ((ji103) : Int).toNat then Ao127 else (Ao127 : Option Addr).map (·.add (((ji103) : Int).toNat * 1))) := ⟨_, rfl⟩
                  obtain ⟨c128, hc128⟩ : ∃ c1, c1 = co127 - ((ji103) : Int).toNat := ⟨_, rfl⟩
                  have hy128 : y178.length = x4_56.length - ((ji103) : Int).toNat := (by rw [Ny178.out, List.length_drop])
                  rw [← Ny178.out] at hr128
                  rw [← hy128, ← hA128, ← hc128] at hcut128
                  replace hr128 : Kd.Q Kd.string 9 wc w.heap.size (fun k_ => some k_ ≠ (u123000 : Value).ownBlock ∧ some k_ ≠ (u123002 : Value).ownBlock ∧ some k_ ≠ (u123003 : Value).ownBlock ∧ some k_ ≠ (u123004 : Value).ownBlock) (.slice A128 y178.length c128) y178 := (by rw [hA128, hc128, hy128]; exact hr128)
                  have HE128 : Aside0 ((Value.slice A128 y178.length c128).ownBlock = (.slice Ao127 x4_56.length co127 : Value).ownBlock) := ⟨by rw [hA128]; split <;> (cases (Ao127 : Option Addr) <;> first | rfl | (simp [Value.ownBlock, add_block]; done))⟩
                  clear hy128 hi0128 hsz128 HO_4 hA128 hc128
                  have HO180 := Aside0.mk hr128
                  clear hr128
                  replace q128 := eq_true q128
                  have n_ := Aside0.mk (Kd.R_mono (ok' := fun k_ => (some k_ ≠ (.slice A128 y178.length c128 : Value).ownBlock ∧ (some k_ ≠ (u123002 : Value).ownBlock ∧ (some k_ ≠ (u123003 : Value).ownBlock ∧ some k_ ≠ (u123004 : Value).ownBlock)))) HO_123000.out (fun k_ hk => ⟨(by rw [HE128.out]; exact hk.1), ⟨hk.2.1, ⟨hk.2.2.1, hk.2.2.2⟩⟩⟩))
                  clear HO_123000
                  have HO_123000 := n_
                  clear n_
                  have n_ := Aside0.mk (Kd.R_mono (ok' := fun k_ => (some k_ ≠ (.slice A128 y178.length c128 : Value).ownBlock ∧ (some k_ ≠ (u123000 : Value).ownBlock ∧ (some k_ ≠ (u123003 : Value).ownBlock ∧ some k_ ≠ (u123004 : Value).ownBlock)))) HO_123002.out (fun k_ hk => ⟨(by rw [HE128.out]; exact hk.1), ⟨hk.2.1, ⟨hk.2.2.1, hk.2.2.2⟩⟩⟩))
                  clear HO_123002
                  have HO_123002 := n_
                  clear n_
                  have n_ := Aside0.mk (Kd.R_mono (ok' := fun k_ => (some k_ ≠ (.slice A128 y178.length c128 : Value).ownBlock ∧ (some k_ ≠ (u123000 : Value).ownBlock ∧ (some k_ ≠ (u123002 : Value).ownBlock ∧ some k_ ≠ (u123004 : Value).ownBlock)))) HO_123003.out (fun k_ hk => ⟨(by rw [HE128.out]; exact hk.1), ⟨hk.2.1, ⟨hk.2.2.1, hk.2.2.2⟩⟩⟩))
                  clear HO_123003
                  have HO_123003 := n_
                  clear n_
                  have n_ := Aside0.mk (Kd.R_mono (ok' := fun k_ => (some k_ ≠ (.slice A128 y178.length c128 : Value).ownBlock ∧ (some k_ ≠ (u123000 : Value).ownBlock ∧ (some k_ ≠ (u123002 : Value).ownBlock ∧ some k_ ≠ (u123003 : Value).ownBlock)))) HO_123004.out (fun k_ hk => ⟨(by rw [HE128.out]; exact hk.1), ⟨hk.2.1, ⟨hk.2.2.1, hk.2.2.2⟩⟩⟩))
                  clear HO_123004
                  have HO_123004 := n_
                  clear n_
                  have hnb129 := NB122_118.out
                  have hnc129 := NB118_122.out
                  have hcz130_0 : wc.cell? ⟨gb122, 0, none⟩ = some (u123000) := (blk_cell BK122.out 0).trans rfl
                  have hcz130_1 : wc.cell? ⟨gb122, 1, none⟩ = some (.string x123001_30) := (blk_cell BK122.out 1).trans rfl
                  have hcz130_2 : wc.cell? ⟨gb122, 2, none⟩ = some (u123002) := (blk_cell BK122.out 2).trans rfl
                  have hcz130_3 : wc.cell? ⟨gb122, 3, none⟩ = some (u123003) := (blk_cell BK122.out 3).trans rfl
                  have hcz130_4 : wc.cell? ⟨gb122, 4, none⟩ = some (u123004) := (blk_cell BK122.out 4).trans rfl
                  have hfz130_0 := blk_frozen BK122.out 0
                  have hfz130_1 := blk_frozen BK122.out 1
                  have hfz130_2 := blk_frozen BK122.out 2
                  have hfz130_3 := blk_frozen BK122.out 3
                  have hfz130_4 := blk_frozen BK122.out 4
                  obtain ⟨Ao131, co131, eo131⟩ := Kd.R_slice HO_123002.out
                  subst eo131
                  obtain ⟨Ao132, co132, eo132⟩ := Kd.R_slice HO_123003.out
                  subst eo132
                  obtain ⟨Ao133, co133, eo133⟩ := Kd.R_slice HO_123004.out
                  subst eo133
                  have hcz134_0 : wc.cell? ⟨gb118, 0, none⟩ = some (.slice none 0 0) := (blk_cell BK118.out 0).trans rfl
                  have hcz134_1 : wc.cell? ⟨gb118, 1, none⟩ = some (.string x119001_56) := (blk_cell BK118.out 1).trans rfl
                  have hcz134_2 : wc.cell? ⟨gb118, 2, none⟩ = some (.slice none 0 0) := (blk_cell BK118.out 2).trans rfl
                  have hcz134_3 : wc.cell? ⟨gb118, 3, none⟩ = some (.slice none 0 0) := (blk_cell BK118.out 3).trans rfl
                  have hcz134_4 : wc.cell? ⟨gb118, 4, none⟩ = some (.slice none 0 0) := (blk_cell BK118.out 4).trans rfl
                  have hfz134_0 := blk_frozen BK118.out 0
                  have hfz134_1 := blk_frozen BK118.out 1
                  have hfz134_2 := blk_frozen BK118.out 2
                  have hfz134_3 := blk_frozen BK118.out 3
                  have hfz134_4 := blk_frozen BK118.out 4
                  go_wp2
                  refine bodyPost_ret (results_ct rfl _ _ gb118 27 #[.slice none 0 0, .string (⟨#[]⟩ : ByteArray), .slice none 0 0, .slice none 0 0, .slice none 0 0] (0, 0) _ rfl (by (with_reducible repeat (first | refine blk_drewN ?_ _ | refine blk_drew ?_ | refine blk_alloc ?_ _)); refine blk_put (cs := #[.slice none 0 0, .string (⟨#[]⟩ : ByteArray), .slice none 0 0, .slice none 0 0, .slice none 0 0]) ?_ 4 _ rfl; (with_reducible repeat (first | refine blk_drewN ?_ _ | refine blk_drew ?_ | refine blk_alloc ?_ _)); refine blk_put (cs := #[.slice none 0 0, .string (⟨#[]⟩ : ByteArray), .slice none 0 0, .slice none 0 0, .slice none 0 0]) ?_ 3 _ rfl; (with_reducible repeat (first | refine blk_drewN ?_ _ | refine blk_drew ?_ | refine blk_alloc ?_ _)); refine blk_put (cs := #[.slice none 0 0, .string (⟨#[]⟩ : ByteArray), .slice none 0 0, .slice none 0 0, .slice none 0 0]) ?_ 2 _ rfl; (with_reducible repeat (first | refine blk_drewN ?_ _ | refine blk_drew ?_ | refine blk_alloc ?_ _)); refine blk_put (cs := #[.slice none 0 0, .string x119001_56, .slice none 0 0, .slice none 0 0, .slice none 0 0]) ?_ 1 _ rfl; (with_reducible repeat (first | refine blk_drewN ?_ _ | refine blk_drew ?_ | refine blk_alloc ?_ _)); refine blk_put (cs := #[.slice none 0 0, .string x119001_56, .slice none 0 0, .slice none 0 0, .slice none 0 0]) ?_ 0 _ rfl; (with_reducible repeat (first | refine blk_drewN ?_ _ | refine blk_drew ?_ | refine blk_alloc ?_ _)); exact BK118.out) Tryd.underlying27 rfl (by kernel_rfl)) rfl ?_
                  exact ⟨_, _, _, _, by first | rfl | (simp [errW_none, errW_some] <;> rfl) | (simp only [← hji37, ← hji103]; first | rfl | (simp [errW_none, errW_some] <;> rfl)) | (simp [*, errW_none, errW_some] <;> rfl), by first | exact Kd.R_nil _ _ _ _ _ | exact Kd.N_nil _ _ _ _ _ | exact Kd.V_nil _ _ _ _ _ | exact Kd.Q_nil _ _ _ _ _ | exact Kd.S_nil _ _ _ _ _, by first | exact Kd.R_nil _ _ _ _ _ | exact Kd.N_nil _ _ _ _ _ | exact Kd.V_nil _ _ _ _ _ | exact Kd.Q_nil _ _ _ _ _ | exact Kd.S_nil _ _ _ _ _, by first | exact Kd.R_nil _ _ _ _ _ | exact Kd.N_nil _ _ _ _ _ | exact Kd.V_nil _ _ _ _ _ | exact Kd.Q_nil _ _ _ _ _ | exact Kd.S_nil _ _ _ _ _, by first | exact Kd.R_nil _ _ _ _ _ | exact Kd.N_nil _ _ _ _ _ | exact Kd.V_nil _ _ _ _ _ | exact Kd.Q_nil _ _ _ _ _ | exact Kd.S_nil _ _ _ _ _, by repeat (first | (with_reducible first | exact HB.out | apply below_alloc | apply pw_below_drewN | apply below_drew1 | refine below_set ?_ GE118.out | refine below_set ?_ GE122.out) | exact HB.out)⟩
                 rw [if_neg c126] at H
                 have c126b0 : decide (8 < (x123004_92.length : Int)) = false := decide_eq_false c126
                 have c126b1 : decide (8 < x123004_92.length) = false := decide_eq_false (by omega)
                 clear c126
                 simp only [Option.some.injEq, Prod.mk.injEq] at H
                 obtain ⟨rfl, rfl, rfl, rfl, rfl, rfl⟩ := H
                 obtain ⟨Ao135, co135, eo135, _⟩ := Kd.Q_slice HO_4.out
                 subst eo135
                 have q136 : ((ji103) : Int) ≤ ((x4_56.length : Int) : Int) := of_decide_eq_true (by first | (with_reducible assumption) | assumption)
                 obtain ⟨i0136, hi0136, _, hsz136, _⟩ := info_parts info9
                 have hcut136 := cut_from (P := Tryd.prog) 22 9 .i64 Tryd.underlying22 hi0136 1 hsz136 Ao135 x4_56.length co135 (ji103) (of_decide_eq_true (by first | (with_reducible assumption) | assumption)) q136
                 have hr136 := Kd.Q_drop (k := ((ji103) : Int).toNat) HO_4.out (by omega)
                 obtain ⟨A136, hA136⟩ : ∃ A1, A1 = (if co135 = ((ji103) : Int).toNat then Ao135 else (Ao135 : Option Addr).map (·.add (((ji103) : Int).toNat * 1))) := ⟨_, rfl⟩
                 obtain ⟨c136, hc136⟩ : ∃ c1, c1 = co135 - ((ji103) : Int).toNat := ⟨_, rfl⟩
                 have hy136 : y178.length = x4_56.length - ((ji103) : Int).toNat := (by rw [Ny178.out, List.length_drop])
                 rw [← Ny178.out] at hr136
                 rw [← hy136, ← hA136, ← hc136] at hcut136
                 replace hr136 : Kd.Q Kd.string 9 wc w.heap.size (fun k_ => some k_ ≠ (u123000 : Value).ownBlock ∧ some k_ ≠ (u123002 : Value).ownBlock ∧ some k_ ≠ (u123003 : Value).ownBlock ∧ some k_ ≠ (u123004 : Value).ownBlock) (.slice A136 y178.length c136) y178 := (by rw [hA136, hc136, hy136]; exact hr136)
                 have HE136 : Aside0 ((Value.slice A136 y178.length c136).ownBlock = (.slice Ao135 x4_56.length co135 : Value).ownBlock) := ⟨by rw [hA136]; split <;> (cases (Ao135 : Option Addr) <;> first | rfl | (simp [Value.ownBlock, add_block]; done))⟩
                 clear hy136 hi0136 hsz136 HO_4 hA136 hc136
                 have HO180 := Aside0.mk hr136
                 clear hr136
                 replace q136 := eq_true q136
                 have n_ := Aside0.mk (Kd.R_mono (ok' := fun k_ => (some k_ ≠ (.slice A136 y178.length c136 : Value).ownBlock ∧ (some k_ ≠ (u123002 : Value).ownBlock ∧ (some k_ ≠ (u123003 : Value).ownBlock ∧ some k_ ≠ (u123004 : Value).ownBlock)))) HO_123000.out (fun k_ hk => ⟨(by rw [HE136.out]; exact hk.1), ⟨hk.2.1, ⟨hk.2.2.1, hk.2.2.2⟩⟩⟩))
                 clear HO_123000
                 have HO_123000 := n_
                 clear n_
                 have n_ := Aside0.mk (Kd.R_mono (ok' := fun k_ => (some k_ ≠ (.slice A136 y178.length c136 : Value).ownBlock ∧ (some k_ ≠ (u123000 : Value).ownBlock ∧ (some k_ ≠ (u123003 : Value).ownBlock ∧ some k_ ≠ (u123004 : Value).ownBlock)))) HO_123002.out (fun k_ hk => ⟨(by rw [HE136.out]; exact hk.1), ⟨hk.2.1, ⟨hk.2.2.1, hk.2.2.2⟩⟩⟩))
                 clear HO_123002
                 have HO_123002 := n_
                 clear n_
                 have n_ := Aside0.mk (Kd.R_mono (ok' := fun k_ => (some k_ ≠ (.slice A136 y178.length c136 : Value).ownBlock ∧ (some k_ ≠ (u123000 : Value).ownBlock ∧ (some k_ ≠ (u123002 : Value).ownBlock ∧ some k_ ≠ (u123004 : Value).ownBlock)))) HO_123003.out (fun k_ hk => ⟨(by rw [HE136.out]; exact hk.1), ⟨hk.2.1, ⟨hk.2.2.1, hk.2.2.2⟩⟩⟩))
                 clear HO_123003
                 have HO_123003 := n_
                 clear n_
                 have n_ := Aside0.mk (Kd.R_mono (ok' := fun k_ => (some k_ ≠ (.slice A136 y178.length c136 : Value).ownBlock ∧ (some k_ ≠ (u123000 : Value).ownBlock ∧ (some k_ ≠ (u123002 : Value).ownBlock ∧ some k_ ≠ (u123003 : Value).ownBlock)))) HO_123004.out (fun k_ hk => ⟨(by rw [HE136.out]; exact hk.1), ⟨hk.2.1, ⟨hk.2.2.1, hk.2.2.2⟩⟩⟩))
                 clear HO_123004
                 have HO_123004 := n_
                 clear n_
                 have hnb137 := NB122_118.out
                 have hnc137 := NB118_122.out
                 have hcz138_0 : wc.cell? ⟨gb122, 0, none⟩ = some (u123000) := (blk_cell BK122.out 0).trans rfl
                 have hcz138_1 : wc.cell? ⟨gb122, 1, none⟩ = some (.string x123001_30) := (blk_cell BK122.out 1).trans rfl
                 have hcz138_2 : wc.cell? ⟨gb122, 2, none⟩ = some (u123002) := (blk_cell BK122.out 2).trans rfl
                 have hcz138_3 : wc.cell? ⟨gb122, 3, none⟩ = some (u123003) := (blk_cell BK122.out 3).trans rfl
                 have hcz138_4 : wc.cell? ⟨gb122, 4, none⟩ = some (u123004) := (blk_cell BK122.out 4).trans rfl
                 have hfz138_0 := blk_frozen BK122.out 0
                 have hfz138_1 := blk_frozen BK122.out 1
                 have hfz138_2 := blk_frozen BK122.out 2
                 have hfz138_3 := blk_frozen BK122.out 3
                 have hfz138_4 := blk_frozen BK122.out 4
                 obtain ⟨Ao139, co139, eo139⟩ := Kd.R_slice HO_123002.out
                 subst eo139
                 obtain ⟨Ao140, co140, eo140⟩ := Kd.R_slice HO_123003.out
                 subst eo140
                 obtain ⟨Ao141, co141, eo141⟩ := Kd.R_slice HO_123004.out
                 subst eo141
                 obtain ⟨Ao142, co142, eo142⟩ := Kd.R_slice HO_123000.out
                 subst eo142
                 have hcz143_0 : wc.cell? ⟨gb118, 0, none⟩ = some (.slice none 0 0) := (blk_cell BK118.out 0).trans rfl
                 have hcz143_1 : wc.cell? ⟨gb118, 1, none⟩ = some (.string x119001_56) := (blk_cell BK118.out 1).trans rfl
                 have hcz143_2 : wc.cell? ⟨gb118, 2, none⟩ = some (.slice none 0 0) := (blk_cell BK118.out 2).trans rfl
                 have hcz143_3 : wc.cell? ⟨gb118, 3, none⟩ = some (.slice none 0 0) := (blk_cell BK118.out 3).trans rfl
                 have hcz143_4 : wc.cell? ⟨gb118, 4, none⟩ = some (.slice none 0 0) := (blk_cell BK118.out 4).trans rfl
                 have hfz143_0 := blk_frozen BK118.out 0
                 have hfz143_1 := blk_frozen BK118.out 1
                 have hfz143_2 := blk_frozen BK118.out 2
                 have hfz143_3 := blk_frozen BK118.out 3
                 have hfz143_4 := blk_frozen BK118.out 4
                 go_wp2
                 refine bodyPost_ret (results_ct rfl _ _ gb118 27 #[.slice Ao142 x123000_21.length co142, .string x123001_30, .slice Ao139 x123002_40.length co139, .slice Ao140 x123003_56.length co140, .slice Ao141 x123004_92.length co141] (0, 0) _ rfl (by (with_reducible repeat (first | refine blk_drewN ?_ _ | refine blk_drew ?_ | refine blk_alloc ?_ _)); refine blk_put (cs := #[.slice Ao142 x123000_21.length co142, .string x123001_30, .slice Ao139 x123002_40.length co139, .slice Ao140 x123003_56.length co140, .slice none 0 0]) ?_ 4 _ rfl; (with_reducible repeat (first | refine blk_drewN ?_ _ | refine blk_drew ?_ | refine blk_alloc ?_ _)); refine blk_put (cs := #[.slice Ao142 x123000_21.length co142, .string x123001_30, .slice Ao139 x123002_40.length co139, .slice none 0 0, .slice none 0 0]) ?_ 3 _ rfl; (with_reducible repeat (first | refine blk_drewN ?_ _ | refine blk_drew ?_ | refine blk_alloc ?_ _)); refine blk_put (cs := #[.slice Ao142 x123000_21.length co142, .string x123001_30, .slice none 0 0, .slice none 0 0, .slice none 0 0]) ?_ 2 _ rfl; (with_reducible repeat (first | refine blk_drewN ?_ _ | refine blk_drew ?_ | refine blk_alloc ?_ _)); refine blk_put (cs := #[.slice Ao142 x123000_21.length co142, .string x119001_56, .slice none 0 0, .slice none 0 0, .slice none 0 0]) ?_ 1 _ rfl; (with_reducible repeat (first | refine blk_drewN ?_ _ | refine blk_drew ?_ | refine blk_alloc ?_ _)); refine blk_put (cs := #[.slice none 0 0, .string x119001_56, .slice none 0 0, .slice none 0 0, .slice none 0 0]) ?_ 0 _ rfl; (with_reducible repeat (first | refine blk_drewN ?_ _ | refine blk_drew ?_ | refine blk_alloc ?_ _)); exact BK118.out) Tryd.underlying27 rfl (by kernel_rfl)) rfl ?_
                 exact ⟨_, _, _, _, by first | rfl | (simp [errW_none, errW_some] <;> rfl) | (simp only [← hji37, ← hji103]; first | rfl | (simp [errW_none, errW_some] <;> rfl)) | (simp [*, errW_none, errW_some] <;> rfl), by (with_reducible repeat (first | apply Kd.R_alloc | apply Kd.R_drewN | apply Kd.R_drew)); first | exact Kd.R_mono (Kd.R_far (p := ⟨gb118, 4, none⟩) (Kd.R_far (p := ⟨gb118, 3, none⟩) (Kd.R_far (p := ⟨gb118, 2, none⟩) (Kd.R_far (p := ⟨gb118, 1, none⟩) (Kd.R_far (p := ⟨gb118, 0, none⟩) (Kd.R_types HO_123000.out BK118.out (by decide)) (fun _ hk => hk.2) (.slice Ao142 x123000_21.length co142)) (fun _ hk => hk.2) (.string x123001_30)) (fun _ hk => hk.2) (.slice Ao139 x123002_40.length co139)) (fun _ hk => hk.2) (.slice Ao140 x123003_56.length co140)) (fun _ hk => hk.2) (.slice Ao141 x123004_92.length co141)) (fun _ hk => ⟨hk.1.2.1, ⟨hk.1.2.2.1, hk.1.2.2.2⟩⟩) | exact Kd.R_mono (Kd.R_mono (Kd.R_far (p := ⟨gb118, 4, none⟩) (Kd.R_far (p := ⟨gb118, 3, none⟩) (Kd.R_far (p := ⟨gb118, 2, none⟩) (Kd.R_far (p := ⟨gb118, 1, none⟩) (Kd.R_far (p := ⟨gb118, 0, none⟩) (Kd.R_types HO_123000.out BK118.out (by decide)) (fun _ hk => hk.2) (.slice Ao142 x123000_21.length co142)) (fun _ hk => hk.2) (.string x123001_30)) (fun _ hk => hk.2) (.slice Ao139 x123002_40.length co139)) (fun _ hk => hk.2) (.slice Ao140 x123003_56.length co140)) (fun _ hk => hk.2) (.slice Ao141 x123004_92.length co141)) (fun _ hk => ⟨hk.1.2.1, ⟨hk.1.2.2.1, hk.1.2.2.2⟩⟩)) (fun k_ hk => by simp only [slice_ownBlock] at hk ⊢; exact hk), by (with_reducible repeat (first | apply Kd.R_alloc | apply Kd.R_drewN | apply Kd.R_drew)); first | exact Kd.R_mono (Kd.R_far (p := ⟨gb118, 4, none⟩) (Kd.R_far (p := ⟨gb118, 3, none⟩) (Kd.R_far (p := ⟨gb118, 2, none⟩) (Kd.R_far (p := ⟨gb118, 1, none⟩) (Kd.R_far (p := ⟨gb118, 0, none⟩) (Kd.R_types HO_123002.out BK118.out (by decide)) (fun _ hk => hk.2) (.slice Ao142 x123000_21.length co142)) (fun _ hk => hk.2) (.string x123001_30)) (fun _ hk => hk.2) (.slice Ao139 x123002_40.length co139)) (fun _ hk => hk.2) (.slice Ao140 x123003_56.length co140)) (fun _ hk => hk.2) (.slice Ao141 x123004_92.length co141)) (fun _ hk => ⟨hk.1.2.1, ⟨hk.1.2.2.1, hk.1.2.2.2⟩⟩) | exact Kd.R_mono (Kd.R_mono (Kd.R_far (p := ⟨gb118, 4, none⟩) (Kd.R_far (p := ⟨gb118, 3, none⟩) (Kd.R_far (p := ⟨gb118, 2, none⟩) (Kd.R_far (p := ⟨gb118, 1, none⟩) (Kd.R_far (p := ⟨gb118, 0, none⟩) (Kd.R_types HO_123002.out BK118.out (by decide)) (fun _ hk => hk.2) (.slice Ao142 x123000_21.length co142)) (fun _ hk => hk.2) (.string x123001_30)) (fun _ hk => hk.2) (.slice Ao139 x123002_40.length co139)) (fun _ hk => hk.2) (.slice Ao140 x123003_56.length co140)) (fun _ hk => hk.2) (.slice Ao141 x123004_92.length co141)) (fun _ hk => ⟨hk.1.2.1, ⟨hk.1.2.2.1, hk.1.2.2.2⟩⟩)) (fun k_ hk => by simp only [slice_ownBlock] at hk ⊢; exact hk), by (with_reducible repeat (first | apply Kd.R_alloc | apply Kd.R_drewN | apply Kd.R_drew)); first | exact Kd.R_mono (Kd.R_far (p := ⟨gb118, 4, none⟩) (Kd.R_far (p := ⟨gb118, 3, none⟩) (Kd.R_far (p := ⟨gb118, 2, none⟩) (Kd.R_far (p := ⟨gb118, 1, none⟩) (Kd.R_far (p := ⟨gb118, 0, none⟩) (Kd.R_types HO_123003.out BK118.out (by decide)) (fun _ hk => hk.2) (.slice Ao142 x123000_21.length co142)) (fun _ hk => hk.2) (.string x123001_30)) (fun _ hk => hk.2) (.slice Ao139 x123002_40.length co139)) (fun _ hk => hk.2) (.slice Ao140 x123003_56.length co140)) (fun _ hk => hk.2) (.slice Ao141 x123004_92.length co141)) (fun _ hk => ⟨hk.1.2.1, ⟨hk.1.2.2.1, hk.1.2.2.2⟩⟩) | exact Kd.R_mono (Kd.R_mono (Kd.R_far (p := ⟨gb118, 4, none⟩) (Kd.R_far (p := ⟨gb118, 3, none⟩) (Kd.R_far (p := ⟨gb118, 2, none⟩) (Kd.R_far (p := ⟨gb118, 1, none⟩) (Kd.R_far (p := ⟨gb118, 0, none⟩) (Kd.R_types HO_123003.out BK118.out (by decide)) (fun _ hk => hk.2) (.slice Ao142 x123000_21.length co142)) (fun _ hk => hk.2) (.string x123001_30)) (fun _ hk => hk.2) (.slice Ao139 x123002_40.length co139)) (fun _ hk => hk.2) (.slice Ao140 x123003_56.length co140)) (fun _ hk => hk.2) (.slice Ao141 x123004_92.length co141)) (fun _ hk => ⟨hk.1.2.1, ⟨hk.1.2.2.1, hk.1.2.2.2⟩⟩)) (fun k_ hk => by simp only [slice_ownBlock] at hk ⊢; exact hk), by (with_reducible repeat (first | apply Kd.R_alloc | apply Kd.R_drewN | apply Kd.R_drew)); first | exact Kd.R_mono (Kd.R_far (p := ⟨gb118, 4, none⟩) (Kd.R_far (p := ⟨gb118, 3, none⟩) (Kd.R_far (p := ⟨gb118, 2, none⟩) (Kd.R_far (p := ⟨gb118, 1, none⟩) (Kd.R_far (p := ⟨gb118, 0, none⟩) (Kd.R_types HO_123004.out BK118.out (by decide)) (fun _ hk => hk.2) (.slice Ao142 x123000_21.length co142)) (fun _ hk => hk.2) (.string x123001_30)) (fun _ hk => hk.2) (.slice Ao139 x123002_40.length co139)) (fun _ hk => hk.2) (.slice Ao140 x123003_56.length co140)) (fun _ hk => hk.2) (.slice Ao141 x123004_92.length co141)) (fun _ hk => ⟨hk.1.2.1, ⟨hk.1.2.2.1, hk.1.2.2.2⟩⟩) | exact Kd.R_mono (Kd.R_mono (Kd.R_far (p := ⟨gb118, 4, none⟩) (Kd.R_far (p := ⟨gb118, 3, none⟩) (Kd.R_far (p := ⟨gb118, 2, none⟩) (Kd.R_far (p := ⟨gb118, 1, none⟩) (Kd.R_far (p := ⟨gb118, 0, none⟩) (Kd.R_types HO_123004.out BK118.out (by decide)) (fun _ hk => hk.2) (.slice Ao142 x123000_21.length co142)) (fun _ hk => hk.2) (.string x123001_30)) (fun _ hk => hk.2) (.slice Ao139 x123002_40.length co139)) (fun _ hk => hk.2) (.slice Ao140 x123003_56.length co140)) (fun _ hk => hk.2) (.slice Ao141 x123004_92.length co141)) (fun _ hk => ⟨hk.1.2.1, ⟨hk.1.2.2.1, hk.1.2.2.2⟩⟩)) (fun k_ hk => by simp only [slice_ownBlock] at hk ⊢; exact hk), by repeat (first | (with_reducible first | exact HB.out | apply below_alloc | apply pw_below_drewN | apply below_drew1 | refine below_set ?_ GE118.out | refine below_set ?_ GE122.out) | exact HB.out)⟩
                rw [if_neg c105] at H
                exact absurd H (by simp)
               rw [if_neg c104] at H
               exact absurd H (by simp)
            replace c84 := Bool.eq_false_iff.mpr c84
            subst c84
            have H1 : (if (x4_56.length : Int) > 0 then (some (([] : List ByteArray), (⟨#[]⟩ : ByteArray), ([] : List ByteArray), ([] : List ByteArray), ([] : List ByteArray), 700)) else (if (x123002_40.length : Int) > 8 then (some (([] : List ByteArray), (⟨#[]⟩ : ByteArray), ([] : List ByteArray), ([] : List ByteArray), ([] : List ByteArray), 700)) else (if (x123003_56.length : Int) > 8 then (some (([] : List ByteArray), (⟨#[]⟩ : ByteArray), ([] : List ByteArray), ([] : List ByteArray), ([] : List ByteArray), 700)) else (if (([] : List ByteArray).length : Int) > 8 then (some (([] : List ByteArray), (⟨#[]⟩ : ByteArray), ([] : List ByteArray), ([] : List ByteArray), ([] : List ByteArray), 700)) else (some (x123000_21, x123001_30, x123002_40, x123003_56, ([] : List ByteArray), 0)))))) = some (r1, r2, r3, r4, r5, r6) := by rw [if_neg (show ¬ (false = true) by decide)] at H; exact H
            clear H
            have H := H1
            clear H1
            by_cases c144 : (x4_56.length : Int) > 0
            ·rw [if_pos c144] at H
             have c144b0 : decide (0 < (x4_56.length : Int)) = true := decide_eq_true c144
             have c144b1 : decide (0 < x4_56.length) = true := decide_eq_true (by omega)
             clear c144
             simp only [Option.some.injEq, Prod.mk.injEq] at H
             obtain ⟨rfl, rfl, rfl, rfl, rfl, rfl⟩ := H
             obtain ⟨Ao145, co145, eo145, _⟩ := Kd.Q_slice HO_4.out
             subst eo145
             have hnb146 := NB118_122.out
             have hnc146 := NB122_118.out
             have hcz147_0 : wc.cell? ⟨gb118, 0, none⟩ = some (.slice none 0 0) := (blk_cell BK118.out 0).trans rfl
             have hcz147_1 : wc.cell? ⟨gb118, 1, none⟩ = some (.string x119001_56) := (blk_cell BK118.out 1).trans rfl
             have hcz147_2 : wc.cell? ⟨gb118, 2, none⟩ = some (.slice none 0 0) := (blk_cell BK118.out 2).trans rfl
             have hcz147_3 : wc.cell? ⟨gb118, 3, none⟩ = some (.slice none 0 0) := (blk_cell BK118.out 3).trans rfl
             have hcz147_4 : wc.cell? ⟨gb118, 4, none⟩ = some (.slice none 0 0) := (blk_cell BK118.out 4).trans rfl
             have hfz147_0 := blk_frozen BK118.out 0
             have hfz147_1 := blk_frozen BK118.out 1
             have hfz147_2 := blk_frozen BK118.out 2
             have hfz147_3 := blk_frozen BK118.out 3
             have hfz147_4 := blk_frozen BK118.out 4
             go_wp2
             refine bodyPost_ret (results_ct rfl _ _ gb118 27 #[.slice none 0 0, .string (⟨#[]⟩ : ByteArray), .slice none 0 0, .slice none 0 0, .slice none 0 0] (0, 0) _ rfl (by (with_reducible repeat (first | refine blk_drewN ?_ _ | refine blk_drew ?_ | refine blk_alloc ?_ _)); refine blk_put (cs := #[.slice none 0 0, .string (⟨#[]⟩ : ByteArray), .slice none 0 0, .slice none 0 0, .slice none 0 0]) ?_ 4 _ rfl; (with_reducible repeat (first | refine blk_drewN ?_ _ | refine blk_drew ?_ | refine blk_alloc ?_ _)); refine blk_put (cs := #[.slice none 0 0, .string (⟨#[]⟩ : ByteArray), .slice none 0 0, .slice none 0 0, .slice none 0 0]) ?_ 3 _ rfl; (with_reducible repeat (first | refine blk_drewN ?_ _ | refine blk_drew ?_ | refine blk_alloc ?_ _)); refine blk_put (cs := #[.slice none 0 0, .string (⟨#[]⟩ : ByteArray), .slice none 0 0, .slice none 0 0, .slice none 0 0]) ?_ 2 _ rfl; (with_reducible repeat (first | refine blk_drewN ?_ _ | refine blk_drew ?_ | refine blk_alloc ?_ _)); refine blk_put (cs := #[.slice none 0 0, .string x119001_56, .slice none 0 0, .slice none 0 0, .slice none 0 0]) ?_ 1 _ rfl; (with_reducible repeat (first | refine blk_drewN ?_ _ | refine blk_drew ?_ | refine blk_alloc ?_ _)); refine blk_put (cs := #[.slice none 0 0, .string x119001_56, .slice none 0 0, .slice none 0 0, .slice none 0 0]) ?_ 0 _ rfl; (with_reducible repeat (first | refine blk_drewN ?_ _ | refine blk_drew ?_ | refine blk_alloc ?_ _)); exact BK118.out) Tryd.underlying27 rfl (by kernel_rfl)) rfl ?_
             exact ⟨_, _, _, _, by first | rfl | (simp [errW_none, errW_some] <;> rfl) | (simp only [← hji37]; first | rfl | (simp [errW_none, errW_some] <;> rfl)) | (simp [*, errW_none, errW_some] <;> rfl), by first | exact Kd.R_nil _ _ _ _ _ | exact Kd.N_nil _ _ _ _ _ | exact Kd.V_nil _ _ _ _ _ | exact Kd.Q_nil _ _ _ _ _ | exact Kd.S_nil _ _ _ _ _, by first | exact Kd.R_nil _ _ _ _ _ | exact Kd.N_nil _ _ _ _ _ | exact Kd.V_nil _ _ _ _ _ | exact Kd.Q_nil _ _ _ _ _ | exact Kd.S_nil _ _ _ _ _, by first | exact Kd.R_nil _ _ _ _ _ | exact Kd.N_nil _ _ _ _ _ | exact Kd.V_nil _ _ _ _ _ | exact Kd.Q_nil _ _ _ _ _ | exact Kd.S_nil _ _ _ _ _, by first | exact Kd.R_nil _ _ _ _ _ | exact Kd.N_nil _ _ _ _ _ | exact Kd.V_nil _ _ _ _ _ | exact Kd.Q_nil _ _ _ _ _ | exact Kd.S_nil _ _ _ _ _, by repeat (first | (with_reducible first | exact HB.out | apply below_alloc | apply pw_below_drewN | apply below_drew1 | refine below_set ?_ GE118.out | refine below_set ?_ GE122.out) | exact HB.out)⟩
            rw [if_neg c144] at H
            have c144b0 : decide (0 < (x4_56.length : Int)) = false := decide_eq_false c144
            have c144b1 : decide (0 < x4_56.length) = false := decide_eq_false (by omega)
            clear c144
            by_cases c148 : (x123002_40.length : Int) > 8
            ·rw [if_pos c148] at H
             have c148b0 : decide (8 < (x123002_40.length : Int)) = true := decide_eq_true c148
             have c148b1 : decide (8 < x123002_40.length) = true := decide_eq_true (by omega)
             clear c148
             simp only [Option.some.injEq, Prod.mk.injEq] at H
             obtain ⟨rfl, rfl, rfl, rfl, rfl, rfl⟩ := H
             obtain ⟨Ao149, co149, eo149, _⟩ := Kd.Q_slice HO_4.out
             subst eo149
             have hnb150 := NB122_118.out
             have hnc150 := NB118_122.out
             have hcz151_0 : wc.cell? ⟨gb122, 0, none⟩ = some (u123000) := (blk_cell BK122.out 0).trans rfl
             have hcz151_1 : wc.cell? ⟨gb122, 1, none⟩ = some (.string x123001_30) := (blk_cell BK122.out 1).trans rfl
             have hcz151_2 : wc.cell? ⟨gb122, 2, none⟩ = some (u123002) := (blk_cell BK122.out 2).trans rfl
             have hcz151_3 : wc.cell? ⟨gb122, 3, none⟩ = some (u123003) := (blk_cell BK122.out 3).trans rfl
             have hcz151_4 : wc.cell? ⟨gb122, 4, none⟩ = some (.slice none 0 0) := (blk_cell BK122.out 4).trans rfl
             have hfz151_0 := blk_frozen BK122.out 0
             have hfz151_1 := blk_frozen BK122.out 1
             have hfz151_2 := blk_frozen BK122.out 2
             have hfz151_3 := blk_frozen BK122.out 3
             have hfz151_4 := blk_frozen BK122.out 4
             obtain ⟨Ao152, co152, eo152⟩ := Kd.R_slice HO_123002.out
             subst eo152
             have hcz153_0 : wc.cell? ⟨gb118, 0, none⟩ = some (.slice none 0 0) := (blk_cell BK118.out 0).trans rfl
             have hcz153_1 : wc.cell? ⟨gb118, 1, none⟩ = some (.string x119001_56) := (blk_cell BK118.out 1).trans rfl
             have hcz153_2 : wc.cell? ⟨gb118, 2, none⟩ = some (.slice none 0 0) := (blk_cell BK118.out 2).trans rfl
             have hcz153_3 : wc.cell? ⟨gb118, 3, none⟩ = some (.slice none 0 0) := (blk_cell BK118.out 3).trans rfl
             have hcz153_4 : wc.cell? ⟨gb118, 4, none⟩ = some (.slice none 0 0) := (blk_cell BK118.out 4).trans rfl
             have hfz153_0 := blk_frozen BK118.out 0
             have hfz153_1 := blk_frozen BK118.out 1
             have hfz153_2 := blk_frozen BK118.out 2
             have hfz153_3 := blk_frozen BK118.out 3
             have hfz153_4 := blk_frozen BK118.out 4
             go_wp2
             refine bodyPost_ret (results_ct rfl _ _ gb118 27 #[.slice none 0 0, .string (⟨#[]⟩ : ByteArray), .slice none 0 0, .slice none 0 0, .slice none 0 0] (0, 0) _ rfl (by (with_reducible repeat (first | refine blk_drewN ?_ _ | refine blk_drew ?_ | refine blk_alloc ?_ _)); refine blk_put (cs := #[.slice none 0 0, .string (⟨#[]⟩ : ByteArray), .slice none 0 0, .slice none 0 0, .slice none 0 0]) ?_ 4 _ rfl; (with_reducible repeat (first | refine blk_drewN ?_ _ | refine blk_drew ?_ | refine blk_alloc ?_ _)); refine blk_put (cs := #[.slice none 0 0, .string (⟨#[]⟩ : ByteArray), .slice none 0 0, .slice none 0 0, .slice none 0 0]) ?_ 3 _ rfl; (with_reducible repeat (first | refine blk_drewN ?_ _ | refine blk_drew ?_ | refine blk_alloc ?_ _)); refine blk_put (cs := #[.slice none 0 0, .string (⟨#[]⟩ : ByteArray), .slice none 0 0, .slice none 0 0, .slice none 0 0]) ?_ 2 _ rfl; (with_reducible repeat (first | refine blk_drewN ?_ _ | refine blk_drew ?_ | refine blk_alloc ?_ _)); refine blk_put (cs := #[.slice none 0 0, .string x119001_56, .slice none 0 0, .slice none 0 0, .slice none 0 0]) ?_ 1 _ rfl; (with_reducible repeat (first | refine blk_drewN ?_ _ | refine blk_drew ?_ | refine blk_alloc ?_ _)); refine blk_put (cs := #[.slice none 0 0, .string x119001_56, .slice none 0 0, .slice none 0 0, .slice none 0 0]) ?_ 0 _ rfl; (with_reducible repeat (first | refine blk_drewN ?_ _ | refine blk_drew ?_ | refine blk_alloc ?_ _)); exact BK118.out) Tryd.underlying27 rfl (by kernel_rfl)) rfl ?_
             exact ⟨_, _, _, _, by first | rfl | (simp [errW_none, errW_some] <;> rfl) | (simp only [← hji37]; first | rfl | (simp [errW_none, errW_some] <;> rfl)) | (simp [*, errW_none, errW_some] <;> rfl), by first | exact Kd.R_nil _ _ _ _ _ | exact Kd.N_nil _ _ _ _ _ | exact Kd.V_nil _ _ _ _ _ | exact Kd.Q_nil _ _ _ _ _ | exact Kd.S_nil _ _ _ _ _, by first | exact Kd.R_nil _ _ _ _ _ | exact Kd.N_nil _ _ _ _ _ | exact Kd.V_nil _ _ _ _ _ | exact Kd.Q_nil _ _ _ _ _ | exact Kd.S_nil _ _ _ _ _, by first | exact Kd.R_nil _ _ _ _ _ | exact Kd.N_nil _ _ _ _ _ | exact Kd.V_nil _ _ _ _ _ | exact Kd.Q_nil _ _ _ _ _ | exact Kd.S_nil _ _ _ _ _, by first | exact Kd.R_nil _ _ _ _ _ | exact Kd.N_nil _ _ _ _ _ | exact Kd.V_nil _ _ _ _ _ | exact Kd.Q_nil _ _ _ _ _ | exact Kd.S_nil _ _ _ _ _, by repeat (first | (with_reducible first | exact HB.out | apply below_alloc | apply pw_below_drewN | apply below_drew1 | refine below_set ?_ GE118.out | refine below_set ?_ GE122.out) | exact HB.out)⟩
            rw [if_neg c148] at H
            have c148b0 : decide (8 < (x123002_40.length : Int)) = false := decide_eq_false c148
            have c148b1 : decide (8 < x123002_40.length) = false := decide_eq_false (by omega)
            clear c148
            by_cases c154 : (x123003_56.length : Int) > 8
            ·rw [if_pos c154] at H
             have c154b0 : decide (8 < (x123003_56.length : Int)) = true := decide_eq_true c154
             have c154b1 : decide (8 < x123003_56.length) = true := decide_eq_true (by omega)
             clear c154
             simp only [Option.some.injEq, Prod.mk.injEq] at H
             obtain ⟨rfl, rfl, rfl, rfl, rfl, rfl⟩ := H
             obtain ⟨Ao155, co155, eo155, _⟩ := Kd.Q_slice HO_4.out
             subst eo155
             have hnb156 := NB122_118.out
             have hnc156 := NB118_122.out
             have hcz157_0 : wc.cell? ⟨gb122, 0, none⟩ = some (u123000) := (blk_cell BK122.out 0).trans rfl
             have hcz157_1 : wc.cell? ⟨gb122, 1, none⟩ = some (.string x123001_30) := (blk_cell BK122.out 1).trans rfl
             have hcz157_2 : wc.cell? ⟨gb122, 2, none⟩ = some (u123002) := (blk_cell BK122.out 2).trans rfl
             have hcz157_3 : wc.cell? ⟨gb122, 3, none⟩ = some (u123003) := (blk_cell BK122.out 3).trans rfl
             have hcz157_4 : wc.cell? ⟨gb122, 4, none⟩ = some (.slice none 0 0) := (blk_cell BK122.out 4).trans rfl
             have hfz157_0 := blk_frozen BK122.out 0
             have hfz157_1 := blk_frozen BK122.out 1
             have hfz157_2 := blk_frozen BK122.out 2
             have hfz157_3 := blk_frozen BK122.out 3
             have hfz157_4 := blk_frozen BK122.out 4
             obtain ⟨Ao158, co158, eo158⟩ := Kd.R_slice HO_123002.out
             subst eo158
             obtain ⟨Ao159, co159, eo159⟩ := Kd.R_slice HO_123003.out
             subst eo159
             have hcz160_0 : wc.cell? ⟨gb118, 0, none⟩ = some (.slice none 0 0) := (blk_cell BK118.out 0).trans rfl
             have hcz160_1 : wc.cell? ⟨gb118, 1, none⟩ = some (.string x119001_56) := (blk_cell BK118.out 1).trans rfl
             have hcz160_2 : wc.cell? ⟨gb118, 2, none⟩ = some (.slice none 0 0) := (blk_cell BK118.out 2).trans rfl
             have hcz160_3 : wc.cell? ⟨gb118, 3, none⟩ = some (.slice none 0 0) := (blk_cell BK118.out 3).trans rfl
             have hcz160_4 : wc.cell? ⟨gb118, 4, none⟩ = some (.slice none 0 0) := (blk_cell BK118.out 4).trans rfl
             have hfz160_0 := blk_frozen BK118.out 0
             have hfz160_1 := blk_frozen BK118.out 1
             have hfz160_2 := blk_frozen BK118.out 2
             have hfz160_3 := blk_frozen BK118.out 3
             have hfz160_4 := blk_frozen BK118.out 4
             go_wp2
             refine bodyPost_ret (results_ct rfl _ _ gb118 27 #[.slice none 0 0, .string (⟨#[]⟩ : ByteArray), .slice none 0 0, .slice none 0 0, .slice none 0 0] (0, 0) _ rfl (by (with_reducible repeat (first | refine blk_drewN ?_ _ | refine blk_drew ?_ | refine blk_alloc ?_ _)); refine blk_put (cs := #[.slice none 0 0, .string (⟨#[]⟩ : ByteArray), .slice none 0 0, .slice none 0 0, .slice none 0 0]) ?_ 4 _ rfl; (with_reducible repeat (first | refine blk_drewN ?_ _ | refine blk_drew ?_ | refine blk_alloc ?_ _)); refine blk_put (cs := #[.slice none 0 0, .string (⟨#[]⟩ : ByteArray), .slice none 0 0, .slice none 0 0, .slice none 0 0]) ?_ 3 _ rfl; (with_reducible repeat (first | refine blk_drewN ?_ _ | refine blk_drew ?_ | refine blk_alloc ?_ _)); refine blk_put (cs := #[.slice none 0 0, .string (⟨#[]⟩ : ByteArray), .slice none 0 0, .slice none 0 0, .slice none 0 0]) ?_ 2 _ rfl; (with_reducible repeat (first | refine blk_drewN ?_ _ | refine blk_drew ?_ | refine blk_alloc ?_ _)); refine blk_put (cs := #[.slice none 0 0, .string x119001_56, .slice none 0 0, .slice none 0 0, .slice none 0 0]) ?_ 1 _ rfl; (with_reducible repeat (first | refine blk_drewN ?_ _ | refine blk_drew ?_ | refine blk_alloc ?_ _)); refine blk_put (cs := #[.slice none 0 0, .string x119001_56, .slice none 0 0, .slice none 0 0, .slice none 0 0]) ?_ 0 _ rfl; (with_reducible repeat (first | refine blk_drewN ?_ _ | refine blk_drew ?_ | refine blk_alloc ?_ _)); exact BK118.out) Tryd.underlying27 rfl (by kernel_rfl)) rfl ?_
             exact ⟨_, _, _, _, by first | rfl | (simp [errW_none, errW_some] <;> rfl) | (simp only [← hji37]; first | rfl | (simp [errW_none, errW_some] <;> rfl)) | (simp [*, errW_none, errW_some] <;> rfl), by first | exact Kd.R_nil _ _ _ _ _ | exact Kd.N_nil _ _ _ _ _ | exact Kd.V_nil _ _ _ _ _ | exact Kd.Q_nil _ _ _ _ _ | exact Kd.S_nil _ _ _ _ _, by first | exact Kd.R_nil _ _ _ _ _ | exact Kd.N_nil _ _ _ _ _ | exact Kd.V_nil _ _ _ _ _ | exact Kd.Q_nil _ _ _ _ _ | exact Kd.S_nil _ _ _ _ _, by first | exact Kd.R_nil _ _ _ _ _ | exact Kd.N_nil _ _ _ _ _ | exact Kd.V_nil _ _ _ _ _ | exact Kd.Q_nil _ _ _ _ _ | exact Kd.S_nil _ _ _ _ _, by first | exact Kd.R_nil _ _ _ _ _ | exact Kd.N_nil _ _ _ _ _ | exact Kd.V_nil _ _ _ _ _ | exact Kd.Q_nil _ _ _ _ _ | exact Kd.S_nil _ _ _ _ _, by repeat (first | (with_reducible first | exact HB.out | apply below_alloc | apply pw_below_drewN | apply below_drew1 | refine below_set ?_ GE118.out | refine below_set ?_ GE122.out) | exact HB.out)⟩
            rw [if_neg c154] at H
            have c154b0 : decide (8 < (x123003_56.length : Int)) = false := decide_eq_false c154
            have c154b1 : decide (8 < x123003_56.length) = false := decide_eq_false (by omega)
            clear c154
            by_cases c161 : (([] : List ByteArray).length : Int) > 8
            ·exact absurd c161 (by decide)
            rw [if_neg c161] at H
            have c161b0 : decide (8 < (([] : List ByteArray).length : Int)) = false := decide_eq_false c161
            have c161b1 : decide (8 < ([] : List ByteArray).length) = false := decide_eq_false (by omega)
            clear c161
            simp only [Option.some.injEq, Prod.mk.injEq] at H
            obtain ⟨rfl, rfl, rfl, rfl, rfl, rfl⟩ := H
            obtain ⟨Ao168, co168, eo168, _⟩ := Kd.Q_slice HO_4.out
            subst eo168
            have hnb169 := NB122_118.out
            have hnc169 := NB118_122.out
            have hcz170_0 : wc.cell? ⟨gb122, 0, none⟩ = some (u123000) := (blk_cell BK122.out 0).trans rfl
            have hcz170_1 : wc.cell? ⟨gb122, 1, none⟩ = some (.string x123001_30) := (blk_cell BK122.out 1).trans rfl
            have hcz170_2 : wc.cell? ⟨gb122, 2, none⟩ = some (u123002) := (blk_cell BK122.out 2).trans rfl
            have hcz170_3 : wc.cell? ⟨gb122, 3, none⟩ = some (u123003) := (blk_cell BK122.out 3).trans rfl
            have hcz170_4 : wc.cell? ⟨gb122, 4, none⟩ = some (.slice none 0 0) := (blk_cell BK122.out 4).trans rfl
            have hfz170_0 := blk_frozen BK122.out 0
            have hfz170_1 := blk_frozen BK122.out 1
            have hfz170_2 := blk_frozen BK122.out 2
            have hfz170_3 := blk_frozen BK122.out 3
            have hfz170_4 := blk_frozen BK122.out 4
            obtain ⟨Ao171, co171, eo171⟩ := Kd.R_slice HO_123002.out
            subst eo171
            obtain ⟨Ao172, co172, eo172⟩ := Kd.R_slice HO_123003.out
            subst eo172
            obtain ⟨Ao173, co173, eo173⟩ := Kd.R_slice HO_123000.out
            subst eo173
            have hcz174_0 : wc.cell? ⟨gb118, 0, none⟩ = some (.slice none 0 0) := (blk_cell BK118.out 0).trans rfl
            have hcz174_1 : wc.cell? ⟨gb118, 1, none⟩ = some (.string x119001_56) := (blk_cell BK118.out 1).trans rfl
            have hcz174_2 : wc.cell? ⟨gb118, 2, none⟩ = some (.slice none 0 0) := (blk_cell BK118.out 2).trans rfl
            have hcz174_3 : wc.cell? ⟨gb118, 3, none⟩ = some (.slice none 0 0) := (blk_cell BK118.out 3).trans rfl
            have hcz174_4 : wc.cell? ⟨gb118, 4, none⟩ = some (.slice none 0 0) := (blk_cell BK118.out 4).trans rfl
            have hfz174_0 := blk_frozen BK118.out 0
            have hfz174_1 := blk_frozen BK118.out 1
            have hfz174_2 := blk_frozen BK118.out 2
            have hfz174_3 := blk_frozen BK118.out 3
            have hfz174_4 := blk_frozen BK118.out 4
            go_wp2
            refine bodyPost_ret (results_ct rfl _ _ gb118 27 #[.slice Ao173 x123000_21.length co173, .string x123001_30, .slice Ao171 x123002_40.length co171, .slice Ao172 x123003_56.length co172, .slice none 0 0] (0, 0) _ rfl (by (with_reducible repeat (first | refine blk_drewN ?_ _ | refine blk_drew ?_ | refine blk_alloc ?_ _)); refine blk_put (cs := #[.slice Ao173 x123000_21.length co173, .string x123001_30, .slice Ao171 x123002_40.length co171, .slice Ao172 x123003_56.length co172, .slice none 0 0]) ?_ 4 _ rfl; (with_reducible repeat (first | refine blk_drewN ?_ _ | refine blk_drew ?_ | refine blk_alloc ?_ _)); refine blk_put (cs := #[.slice Ao173 x123000_21.length co173, .string x123001_30, .slice Ao171 x123002_40.length co171, .slice none 0 0, .slice none 0 0]) ?_ 3 _ rfl; (with_reducible repeat (first | refine blk_drewN ?_ _ | refine blk_drew ?_ | refine blk_alloc ?_ _)); refine blk_put (cs := #[.slice Ao173 x123000_21.length co173, .string x123001_30, .slice none 0 0, .slice none 0 0, .slice none 0 0]) ?_ 2 _ rfl; (with_reducible repeat (first | refine blk_drewN ?_ _ | refine blk_drew ?_ | refine blk_alloc ?_ _)); refine blk_put (cs := #[.slice Ao173 x123000_21.length co173, .string x119001_56, .slice none 0 0, .slice none 0 0, .slice none 0 0]) ?_ 1 _ rfl; (with_reducible repeat (first | refine blk_drewN ?_ _ | refine blk_drew ?_ | refine blk_alloc ?_ _)); refine blk_put (cs := #[.slice none 0 0, .string x119001_56, .slice none 0 0, .slice none 0 0, .slice none 0 0]) ?_ 0 _ rfl; (with_reducible repeat (first | refine blk_drewN ?_ _ | refine blk_drew ?_ | refine blk_alloc ?_ _)); exact BK118.out) Tryd.underlying27 rfl (by kernel_rfl)) rfl ?_
            exact ⟨_, _, _, _, by first | rfl | (simp [errW_none, errW_some] <;> rfl) | (simp only [← hji37]; first | rfl | (simp [errW_none, errW_some] <;> rfl)) | (simp [*, errW_none, errW_some] <;> rfl), by (with_reducible repeat (first | apply Kd.R_alloc | apply Kd.R_drewN | apply Kd.R_drew)); first | exact Kd.R_mono (Kd.R_far (p := ⟨gb118, 4, none⟩) (Kd.R_far (p := ⟨gb118, 3, none⟩) (Kd.R_far (p := ⟨gb118, 2, none⟩) (Kd.R_far (p := ⟨gb118, 1, none⟩) (Kd.R_far (p := ⟨gb118, 0, none⟩) (Kd.R_types HO_123000.out BK118.out (by decide)) (fun _ hk => hk.2) (.slice Ao173 x123000_21.length co173)) (fun _ hk => hk.2) (.string x123001_30)) (fun _ hk => hk.2) (.slice Ao171 x123002_40.length co171)) (fun _ hk => hk.2) (.slice Ao172 x123003_56.length co172)) (fun _ hk => hk.2) (.slice none 0 0)) (fun _ hk => ⟨hk.1.2.1, ⟨hk.1.2.2, (by simp [Value.ownBlock])⟩⟩) | exact Kd.R_mono (Kd.R_mono (Kd.R_far (p := ⟨gb118, 4, none⟩) (Kd.R_far (p := ⟨gb118, 3, none⟩) (Kd.R_far (p := ⟨gb118, 2, none⟩) (Kd.R_far (p := ⟨gb118, 1, none⟩) (Kd.R_far (p := ⟨gb118, 0, none⟩) (Kd.R_types HO_123000.out BK118.out (by decide)) (fun _ hk => hk.2) (.slice Ao173 x123000_21.length co173)) (fun _ hk => hk.2) (.string x123001_30)) (fun _ hk => hk.2) (.slice Ao171 x123002_40.length co171)) (fun _ hk => hk.2) (.slice Ao172 x123003_56.length co172)) (fun _ hk => hk.2) (.slice none 0 0)) (fun _ hk => ⟨hk.1.2.1, ⟨hk.1.2.2, (by simp [Value.ownBlock])⟩⟩)) (fun k_ hk => by simp only [slice_ownBlock] at hk ⊢; exact hk), by (with_reducible repeat (first | apply Kd.R_alloc | apply Kd.R_drewN | apply Kd.R_drew)); first | exact Kd.R_mono (Kd.R_far (p := ⟨gb118, 4, none⟩) (Kd.R_far (p := ⟨gb118, 3, none⟩) (Kd.R_far (p := ⟨gb118, 2, none⟩) (Kd.R_far (p := ⟨gb118, 1, none⟩) (Kd.R_far (p := ⟨gb118, 0, none⟩) (Kd.R_types HO_123002.out BK118.out (by decide)) (fun _ hk => hk.2) (.slice Ao173 x123000_21.length co173)) (fun _ hk => hk.2) (.string x123001_30)) (fun _ hk => hk.2) (.slice Ao171 x123002_40.length co171)) (fun _ hk => hk.2) (.slice Ao172 x123003_56.length co172)) (fun _ hk => hk.2) (.slice none 0 0)) (fun _ hk => ⟨hk.1.2.1, ⟨hk.1.2.2, (by simp [Value.ownBlock])⟩⟩) | exact Kd.R_mono (Kd.R_mono (Kd.R_far (p := ⟨gb118, 4, none⟩) (Kd.R_far (p := ⟨gb118, 3, none⟩) (Kd.R_far (p := ⟨gb118, 2, none⟩) (Kd.R_far (p := ⟨gb118, 1, none⟩) (Kd.R_far (p := ⟨gb118, 0, none⟩) (Kd.R_types HO_123002.out BK118.out (by decide)) (fun _ hk => hk.2) (.slice Ao173 x123000_21.length co173)) (fun _ hk => hk.2) (.string x123001_30)) (fun _ hk => hk.2) (.slice Ao171 x123002_40.length co171)) (fun _ hk => hk.2) (.slice Ao172 x123003_56.length co172)) (fun _ hk => hk.2) (.slice none 0 0)) (fun _ hk => ⟨hk.1.2.1, ⟨hk.1.2.2, (by simp [Value.ownBlock])⟩⟩)) (fun k_ hk => by simp only [slice_ownBlock] at hk ⊢; exact hk), by (with_reducible repeat (first | apply Kd.R_alloc | apply Kd.R_drewN | apply Kd.R_drew)); first | exact Kd.R_mono (Kd.R_far (p := ⟨gb118, 4, none⟩) (Kd.R_far (p := ⟨gb118, 3, none⟩) (Kd.R_far (p := ⟨gb118, 2, none⟩) (Kd.R_far (p := ⟨gb118, 1, none⟩) (Kd.R_far (p := ⟨gb118, 0, none⟩) (Kd.R_types HO_123003.out BK118.out (by decide)) (fun _ hk => hk.2) (.slice Ao173 x123000_21.length co173)) (fun _ hk => hk.2) (.string x123001_30)) (fun _ hk => hk.2) (.slice Ao171 x123002_40.length co171)) (fun _ hk => hk.2) (.slice Ao172 x123003_56.length co172)) (fun _ hk => hk.2) (.slice none 0 0)) (fun _ hk => ⟨hk.1.2.1, ⟨hk.1.2.2, (by simp [Value.ownBlock])⟩⟩) | exact Kd.R_mono (Kd.R_mono (Kd.R_far (p := ⟨gb118, 4, none⟩) (Kd.R_far (p := ⟨gb118, 3, none⟩) (Kd.R_far (p := ⟨gb118, 2, none⟩) (Kd.R_far (p := ⟨gb118, 1, none⟩) (Kd.R_far (p := ⟨gb118, 0, none⟩) (Kd.R_types HO_123003.out BK118.out (by decide)) (fun _ hk => hk.2) (.slice Ao173 x123000_21.length co173)) (fun _ hk => hk.2) (.string x123001_30)) (fun _ hk => hk.2) (.slice Ao171 x123002_40.length co171)) (fun _ hk => hk.2) (.slice Ao172 x123003_56.length co172)) (fun _ hk => hk.2) (.slice none 0 0)) (fun _ hk => ⟨hk.1.2.1, ⟨hk.1.2.2, (by simp [Value.ownBlock])⟩⟩)) (fun k_ hk => by simp only [slice_ownBlock] at hk ⊢; exact hk), by first | exact Kd.R_nil _ _ _ _ _ | exact Kd.N_nil _ _ _ _ _ | exact Kd.V_nil _ _ _ _ _ | exact Kd.Q_nil _ _ _ _ _ | exact Kd.S_nil _ _ _ _ _, by repeat (first | (with_reducible first | exact HB.out | apply below_alloc | apply pw_below_drewN | apply below_drew1 | refine below_set ?_ GE118.out | refine below_set ?_ GE122.out) | exact HB.out)⟩
        rw [if_neg c52] at H
        exact absurd H (by simp)
       rw [if_neg c51] at H
       exact absurd H (by simp)
     rw [if_neg c39] at H
     exact absurd H (by simp)
    rw [if_neg c38] at H
    exact absurd H (by simp)
end Go.Proofs.YtnlipeiamnknbaaDoor.A
end
