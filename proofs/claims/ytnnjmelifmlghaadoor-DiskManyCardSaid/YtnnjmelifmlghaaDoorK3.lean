-- Texts of this session, put together (wip/tools/merge.py).
import Derived.Test.YtnnjmelifmlghaaDoorK1
import Derived.Test.YtnnjmelifmlghaaDoorK2
section
set_option linter.unusedVariables false
set_option linter.unusedSimpArgs false
namespace Go.Proofs.YtnnjmelifmlghaaDoor.A
open Go.RowKit Go.Proofs.YtnnjmelifmlghaaDoorW.PrintWords Go.Proofs.YtnnjmelifmlghaaDoorW.PrintLast Go.Proofs.YtnnjmelifmlghaaDoorW.PrintMore
attribute [local go_sem] max2_int min2_int max_two min_two max_three min_three max_four min_four   -- for this text's walks alone
set_option linter.unusedVariables false
set_option linter.unusedSimpArgs false

/-! ### disk_Put: function 38 -/
set_option maxHeartbeats 8000000 in
set_option maxRecDepth 100000 in
theorem disk_Put.way1 (clock : Int) (A : Option Addr) (c n at_ : Nat) (fs : List S72) (nm : ByteArray) (ct : Int) (w : World) (HM : Aside0 (∀ W, Below w.heap.size w W → Calls Tryd.prog 43 #[.agg #[.int .i64 clock, .slice A n c]] W fun e w' => e = .returned (.bool false) ∧ Below W.heap.size W w')) :
    Calls Tryd.prog 38 #[.agg #[.int .i64 clock, .slice A n c], .string nm, .int .i64 ct] w fun e w' => ∃ v', e = .returned (.tuple #[.agg #[.int .i64 0, v'], .int .i64 1200]) ∧ w'.ownsRow w.heap.size 72 3 v' (([] : List S72)).length (encFs (([] : List S72))) ∧ Below w.heap.size w w' := by
  go_enter Tryd.func38, Tryd.ntmps38
  go_wp2_with fail
  have M0 : ((w.alloc (.cells #[.int .i64 clock, .slice A n c] 28)).alloc (.cells #[.int .i64 0, .slice none 0 0] 28)).heap[w.heap.size]? = some (.cells #[.int .i64 clock, .slice A n c] 28 (0, 0)) := blk_alloc (heap_alloc_new w _) _
  have M1 : ((w.alloc (.cells #[.int .i64 clock, .slice A n c] 28)).alloc (.cells #[.int .i64 0, .slice none 0 0] 28)).heap[w.heap.size + 1]? = some (.cells #[.int .i64 0, .slice none 0 0] 28 (0, 0)) := by
    have := heap_alloc_new (w.alloc (.cells #[.int .i64 clock, .slice A n c] 28)) (.cells #[.int .i64 0, .slice none 0 0] 28)
    simpa using this
  have MB := below_alloc (below_alloc (Below.refl w.heap.size w) (.cells #[.int .i64 clock, .slice A n c] 28)) (.cells #[.int .i64 0, .slice none 0 0] 28)
  refine (HM.out _ MB).mono ?_
  rintro e w1 ⟨rfl, hb1⟩
  have N01 := Aside0.mk (blk_below M0 hb1)
  have N11 := Aside0.mk (blk_below M1 hb1)
  have B1 := Aside0.mk (below_step MB hb1)
  clear M0 M1 MB hb1
  have q0 : w1.cell? ⟨w.heap.size, 0, none⟩ = some (.int .i64 clock) := (blk_cell N01.out 0).trans rfl
  have q1 : w1.cell? ⟨w.heap.size, 1, none⟩ = some (.slice A n c) := (blk_cell N01.out 1).trans rfl
  have r0 : w1.cell? ⟨w.heap.size + 1, 0, none⟩ = some (.int .i64 0) := (blk_cell N11.out 0).trans rfl
  have r1 : w1.cell? ⟨w.heap.size + 1, 1, none⟩ = some (.slice none 0 0) := (blk_cell N11.out 1).trans rfl
  have k0 := blk_frozen N11.out 0
  have k1 := blk_frozen N11.out 1
  go_wp2
  have b1 : ((w1.setCell ⟨w.heap.size + 1, 0, none⟩ (.int .i64 0)).setCell ⟨w.heap.size + 1, 1, none⟩ (.slice none 0 0)).heap[w.heap.size + 1]? = some (.cells #[.int .i64 0, .slice none 0 0] 28 (0, 0)) := blk_put (cs := #[.int .i64 0, .slice none 0 0]) (blk_put (cs := #[.int .i64 0, .slice none 0 0]) N11.out 0 _ rfl) 1 _ rfl
  refine bodyPost_ret (results_ct rfl _ _ (w.heap.size + 1) 28 #[.int .i64 0, .slice none 0 0] (0, 0) _ rfl b1 Tryd.underlying28 rfl (by kernel_rfl)) rfl ?_
  exact ⟨_, rfl, ⟨rfl, .inl ⟨rfl, rfl⟩⟩, below_set (below_set B1.out (by omega)) (by omega)⟩
set_option maxHeartbeats 8000000 in
set_option maxRecDepth 100000 in
theorem disk_Put.way2 (clock : Int) (A : Option Addr) (c n at_ : Nat) (fs : List S72) (nm : ByteArray) (ct : Int) (w : World) (HM : Aside0 (∀ W, Below w.heap.size w W → Calls Tryd.prog 43 #[.agg #[.int .i64 clock, .slice A n c]] W fun e w' => e = .returned (.bool true) ∧ Below W.heap.size W w')) (HP : Aside0 (∀ W, Calls Tryd.prog 60 #[.string nm] W fun e w' => e = .returned (.bool false) ∧ Below W.heap.size W w')) :
    Calls Tryd.prog 38 #[.agg #[.int .i64 clock, .slice A n c], .string nm, .int .i64 ct] w fun e w' => ∃ v', e = .returned (.tuple #[.agg #[.int .i64 0, v'], .int .i64 1200]) ∧ w'.ownsRow w.heap.size 72 3 v' (([] : List S72)).length (encFs (([] : List S72))) ∧ Below w.heap.size w w' := by
  go_enter Tryd.func38, Tryd.ntmps38
  go_wp2_with fail
  have M0 : ((w.alloc (.cells #[.int .i64 clock, .slice A n c] 28)).alloc (.cells #[.int .i64 0, .slice none 0 0] 28)).heap[w.heap.size]? = some (.cells #[.int .i64 clock, .slice A n c] 28 (0, 0)) := blk_alloc (heap_alloc_new w _) _
  have M1 : ((w.alloc (.cells #[.int .i64 clock, .slice A n c] 28)).alloc (.cells #[.int .i64 0, .slice none 0 0] 28)).heap[w.heap.size + 1]? = some (.cells #[.int .i64 0, .slice none 0 0] 28 (0, 0)) := by
    have := heap_alloc_new (w.alloc (.cells #[.int .i64 clock, .slice A n c] 28)) (.cells #[.int .i64 0, .slice none 0 0] 28)
    simpa using this
  have MB := below_alloc (below_alloc (Below.refl w.heap.size w) (.cells #[.int .i64 clock, .slice A n c] 28)) (.cells #[.int .i64 0, .slice none 0 0] 28)
  refine (HM.out _ MB).mono ?_
  rintro e w1 ⟨rfl, hb1⟩
  have N01 := Aside0.mk (blk_below M0 hb1)
  have N11 := Aside0.mk (blk_below M1 hb1)
  have B1 := Aside0.mk (below_step MB hb1)
  clear M0 M1 MB hb1
  have q0 : w1.cell? ⟨w.heap.size, 0, none⟩ = some (.int .i64 clock) := (blk_cell N01.out 0).trans rfl
  have q1 : w1.cell? ⟨w.heap.size, 1, none⟩ = some (.slice A n c) := (blk_cell N01.out 1).trans rfl
  have r0 : w1.cell? ⟨w.heap.size + 1, 0, none⟩ = some (.int .i64 0) := (blk_cell N11.out 0).trans rfl
  have r1 : w1.cell? ⟨w.heap.size + 1, 1, none⟩ = some (.slice none 0 0) := (blk_cell N11.out 1).trans rfl
  have k0 := blk_frozen N11.out 0
  have k1 := blk_frozen N11.out 1
  go_wp2_with fail
  refine (HP.out _).mono ?_
  rintro e w2 ⟨rfl, hb2⟩
  clear q0 q1 r0 r1 k0 k1
  have N02 := Aside0.mk (blk_below N01.out hb2)
  have N12 := Aside0.mk (blk_below N11.out hb2)
  have B2 := Aside0.mk (below_step B1.out hb2)
  clear hb2
  have q0 : w2.cell? ⟨w.heap.size, 0, none⟩ = some (.int .i64 clock) := (blk_cell N02.out 0).trans rfl
  have q1 : w2.cell? ⟨w.heap.size, 1, none⟩ = some (.slice A n c) := (blk_cell N02.out 1).trans rfl
  have r0 : w2.cell? ⟨w.heap.size + 1, 0, none⟩ = some (.int .i64 0) := (blk_cell N12.out 0).trans rfl
  have r1 : w2.cell? ⟨w.heap.size + 1, 1, none⟩ = some (.slice none 0 0) := (blk_cell N12.out 1).trans rfl
  have k0 := blk_frozen N12.out 0
  have k1 := blk_frozen N12.out 1
  go_wp2
  have b1 : ((w2.setCell ⟨w.heap.size + 1, 0, none⟩ (.int .i64 0)).setCell ⟨w.heap.size + 1, 1, none⟩ (.slice none 0 0)).heap[w.heap.size + 1]? = some (.cells #[.int .i64 0, .slice none 0 0] 28 (0, 0)) := blk_put (cs := #[.int .i64 0, .slice none 0 0]) (blk_put (cs := #[.int .i64 0, .slice none 0 0]) N12.out 0 _ rfl) 1 _ rfl
  refine bodyPost_ret (results_ct rfl _ _ (w.heap.size + 1) 28 #[.int .i64 0, .slice none 0 0] (0, 0) _ rfl b1 Tryd.underlying28 rfl (by kernel_rfl)) rfl ?_
  exact ⟨_, rfl, ⟨rfl, .inl ⟨rfl, rfl⟩⟩, below_set (below_set B2.out (by omega)) (by omega)⟩
set_option maxHeartbeats 8000000 in
set_option maxRecDepth 100000 in
theorem disk_Put.way3 (clock : Int) (A : Option Addr) (c n at_ : Nat) (fs : List S72) (nm : ByteArray) (ct : Int) (w : World) (HM : Aside0 (∀ W, Below w.heap.size w W → Calls Tryd.prog 43 #[.agg #[.int .i64 clock, .slice A n c]] W fun e w' => e = .returned (.bool true) ∧ Below W.heap.size W w')) (HP : Aside0 (∀ W, Calls Tryd.prog 60 #[.string nm] W fun e w' => e = .returned (.bool true) ∧ Below W.heap.size W w')) (HT : Aside0 (∀ W, Calls Tryd.prog 61 #[.int .i64 ct] W fun e w' => e = .returned (.bool false) ∧ Drawn0 W w')) :
    Calls Tryd.prog 38 #[.agg #[.int .i64 clock, .slice A n c], .string nm, .int .i64 ct] w fun e w' => ∃ v', e = .returned (.tuple #[.agg #[.int .i64 0, v'], .int .i64 1200]) ∧ w'.ownsRow w.heap.size 72 3 v' (([] : List S72)).length (encFs (([] : List S72))) ∧ Below w.heap.size w w' := by
  go_enter Tryd.func38, Tryd.ntmps38
  go_wp2_with fail
  have M0 : ((w.alloc (.cells #[.int .i64 clock, .slice A n c] 28)).alloc (.cells #[.int .i64 0, .slice none 0 0] 28)).heap[w.heap.size]? = some (.cells #[.int .i64 clock, .slice A n c] 28 (0, 0)) := blk_alloc (heap_alloc_new w _) _
  have M1 : ((w.alloc (.cells #[.int .i64 clock, .slice A n c] 28)).alloc (.cells #[.int .i64 0, .slice none 0 0] 28)).heap[w.heap.size + 1]? = some (.cells #[.int .i64 0, .slice none 0 0] 28 (0, 0)) := by
    have := heap_alloc_new (w.alloc (.cells #[.int .i64 clock, .slice A n c] 28)) (.cells #[.int .i64 0, .slice none 0 0] 28)
    simpa using this
  have MB := below_alloc (below_alloc (Below.refl w.heap.size w) (.cells #[.int .i64 clock, .slice A n c] 28)) (.cells #[.int .i64 0, .slice none 0 0] 28)
  refine (HM.out _ MB).mono ?_
  rintro e w1 ⟨rfl, hb1⟩
  have N01 := Aside0.mk (blk_below M0 hb1)
  have N11 := Aside0.mk (blk_below M1 hb1)
  have B1 := Aside0.mk (below_step MB hb1)
  clear M0 M1 MB hb1
  have q0 : w1.cell? ⟨w.heap.size, 0, none⟩ = some (.int .i64 clock) := (blk_cell N01.out 0).trans rfl
  have q1 : w1.cell? ⟨w.heap.size, 1, none⟩ = some (.slice A n c) := (blk_cell N01.out 1).trans rfl
  have r0 : w1.cell? ⟨w.heap.size + 1, 0, none⟩ = some (.int .i64 0) := (blk_cell N11.out 0).trans rfl
  have r1 : w1.cell? ⟨w.heap.size + 1, 1, none⟩ = some (.slice none 0 0) := (blk_cell N11.out 1).trans rfl
  have k0 := blk_frozen N11.out 0
  have k1 := blk_frozen N11.out 1
  go_wp2_with fail
  refine (HP.out _).mono ?_
  rintro e w2 ⟨rfl, hb2⟩
  clear q0 q1 r0 r1 k0 k1
  have N02 := Aside0.mk (blk_below N01.out hb2)
  have N12 := Aside0.mk (blk_below N11.out hb2)
  have B2 := Aside0.mk (below_step B1.out hb2)
  clear hb2
  have q0 : w2.cell? ⟨w.heap.size, 0, none⟩ = some (.int .i64 clock) := (blk_cell N02.out 0).trans rfl
  have q1 : w2.cell? ⟨w.heap.size, 1, none⟩ = some (.slice A n c) := (blk_cell N02.out 1).trans rfl
  have r0 : w2.cell? ⟨w.heap.size + 1, 0, none⟩ = some (.int .i64 0) := (blk_cell N12.out 0).trans rfl
  have r1 : w2.cell? ⟨w.heap.size + 1, 1, none⟩ = some (.slice none 0 0) := (blk_cell N12.out 1).trans rfl
  have k0 := blk_frozen N12.out 0
  have k1 := blk_frozen N12.out 1
  go_wp2_with fail
  refine (HT.out _).mono ?_
  rintro e w3 ⟨rfl, ⟨nd, rfl⟩⟩
  clear q0 q1 r0 r1 k0 k1
  have N02d := Aside0.mk (blk_drewN N02.out nd)
  have N12d := Aside0.mk (blk_drewN N12.out nd)
  have B2d := Aside0.mk (pw_below_drewN B2.out nd)
  have q0 : (w2.drewN nd).cell? ⟨w.heap.size, 0, none⟩ = some (.int .i64 clock) := (blk_cell N02d.out 0).trans rfl
  have q1 : (w2.drewN nd).cell? ⟨w.heap.size, 1, none⟩ = some (.slice A n c) := (blk_cell N02d.out 1).trans rfl
  have r0 : (w2.drewN nd).cell? ⟨w.heap.size + 1, 0, none⟩ = some (.int .i64 0) := (blk_cell N12d.out 0).trans rfl
  have r1 : (w2.drewN nd).cell? ⟨w.heap.size + 1, 1, none⟩ = some (.slice none 0 0) := (blk_cell N12d.out 1).trans rfl
  have k0 := blk_frozen N12d.out 0
  have k1 := blk_frozen N12d.out 1
  go_wp2
  have b1 : (((w2.drewN nd).setCell ⟨w.heap.size + 1, 0, none⟩ (.int .i64 0)).setCell ⟨w.heap.size + 1, 1, none⟩ (.slice none 0 0)).heap[w.heap.size + 1]? = some (.cells #[.int .i64 0, .slice none 0 0] 28 (0, 0)) := blk_put (cs := #[.int .i64 0, .slice none 0 0]) (blk_put (cs := #[.int .i64 0, .slice none 0 0]) N12d.out 0 _ rfl) 1 _ rfl
  refine bodyPost_ret (results_ct rfl _ _ (w.heap.size + 1) 28 #[.int .i64 0, .slice none 0 0] (0, 0) _ rfl b1 Tryd.underlying28 rfl (by kernel_rfl)) rfl ?_
  exact ⟨_, rfl, ⟨rfl, .inl ⟨rfl, rfl⟩⟩, below_set (below_set B2d.out (by omega)) (by omega)⟩
set_option maxHeartbeats 8000000 in
set_option maxRecDepth 100000 in
theorem disk_Put.way4 (clock : Int) (A : Option Addr) (c n at_ : Nat) (fs : List S72) (nm : ByteArray) (ct : Int) (w : World) (isb : Bool) (HM : Aside0 (∀ W, Below w.heap.size w W → Calls Tryd.prog 43 #[.agg #[.int .i64 clock, .slice A n c]] W fun e w' => e = .returned (.bool true) ∧ Below W.heap.size W w')) (HP : Aside0 (∀ W, Calls Tryd.prog 60 #[.string nm] W fun e w' => e = .returned (.bool true) ∧ Below W.heap.size W w')) (HT : Aside0 (∀ W, Calls Tryd.prog 61 #[.int .i64 ct] W fun e w' => e = .returned (.bool true) ∧ Drawn0 W w')) (HPL : Aside0 (∀ W, W.heap[w.heap.size]? = some (.cells #[.int .i64 clock, .slice A n c] 28 (0, 0)) → Below w.heap.size w W → Calls Tryd.prog 62 #[.pointer (some ⟨w.heap.size, 0, none⟩), .string nm] W fun e w' => e = .returned (.tuple #[.int .i64 at_, .bool isb]) ∧ Below W.heap.size W w')) (hk : clock = 1048576) :
    Calls Tryd.prog 38 #[.agg #[.int .i64 clock, .slice A n c], .string nm, .int .i64 ct] w fun e w' => ∃ v', e = .returned (.tuple #[.agg #[.int .i64 0, v'], .int .i64 1201]) ∧ w'.ownsRow w.heap.size 72 3 v' (([] : List S72)).length (encFs (([] : List S72))) ∧ Below w.heap.size w w' := by
  have d1 : (clock == (1048576 : Int)) = true := by rw [hk]; rfl
  clear hk
  go_enter Tryd.func38, Tryd.ntmps38
  go_wp2_with fail
  have M0 : ((w.alloc (.cells #[.int .i64 clock, .slice A n c] 28)).alloc (.cells #[.int .i64 0, .slice none 0 0] 28)).heap[w.heap.size]? = some (.cells #[.int .i64 clock, .slice A n c] 28 (0, 0)) := blk_alloc (heap_alloc_new w _) _
  have M1 : ((w.alloc (.cells #[.int .i64 clock, .slice A n c] 28)).alloc (.cells #[.int .i64 0, .slice none 0 0] 28)).heap[w.heap.size + 1]? = some (.cells #[.int .i64 0, .slice none 0 0] 28 (0, 0)) := by
    have := heap_alloc_new (w.alloc (.cells #[.int .i64 clock, .slice A n c] 28)) (.cells #[.int .i64 0, .slice none 0 0] 28)
    simpa using this
  have MB := below_alloc (below_alloc (Below.refl w.heap.size w) (.cells #[.int .i64 clock, .slice A n c] 28)) (.cells #[.int .i64 0, .slice none 0 0] 28)
  refine (HM.out _ MB).mono ?_
  rintro e w1 ⟨rfl, hb1⟩
  have N01 := Aside0.mk (blk_below M0 hb1)
  have N11 := Aside0.mk (blk_below M1 hb1)
  have B1 := Aside0.mk (below_step MB hb1)
  clear M0 M1 MB hb1
  have q0 : w1.cell? ⟨w.heap.size, 0, none⟩ = some (.int .i64 clock) := (blk_cell N01.out 0).trans rfl
  have q1 : w1.cell? ⟨w.heap.size, 1, none⟩ = some (.slice A n c) := (blk_cell N01.out 1).trans rfl
  have r0 : w1.cell? ⟨w.heap.size + 1, 0, none⟩ = some (.int .i64 0) := (blk_cell N11.out 0).trans rfl
  have r1 : w1.cell? ⟨w.heap.size + 1, 1, none⟩ = some (.slice none 0 0) := (blk_cell N11.out 1).trans rfl
  have k0 := blk_frozen N11.out 0
  have k1 := blk_frozen N11.out 1
  go_wp2_with fail
  refine (HP.out _).mono ?_
  rintro e w2 ⟨rfl, hb2⟩
  clear q0 q1 r0 r1 k0 k1
  have N02 := Aside0.mk (blk_below N01.out hb2)
  have N12 := Aside0.mk (blk_below N11.out hb2)
  have B2 := Aside0.mk (below_step B1.out hb2)
  clear hb2
  have q0 : w2.cell? ⟨w.heap.size, 0, none⟩ = some (.int .i64 clock) := (blk_cell N02.out 0).trans rfl
  have q1 : w2.cell? ⟨w.heap.size, 1, none⟩ = some (.slice A n c) := (blk_cell N02.out 1).trans rfl
  have r0 : w2.cell? ⟨w.heap.size + 1, 0, none⟩ = some (.int .i64 0) := (blk_cell N12.out 0).trans rfl
  have r1 : w2.cell? ⟨w.heap.size + 1, 1, none⟩ = some (.slice none 0 0) := (blk_cell N12.out 1).trans rfl
  have k0 := blk_frozen N12.out 0
  have k1 := blk_frozen N12.out 1
  go_wp2_with fail
  refine (HT.out _).mono ?_
  rintro e w3 ⟨rfl, ⟨nd, rfl⟩⟩
  clear q0 q1 r0 r1 k0 k1
  have N02d := Aside0.mk (blk_drewN N02.out nd)
  have N12d := Aside0.mk (blk_drewN N12.out nd)
  have B2d := Aside0.mk (pw_below_drewN B2.out nd)
  go_wp2_with fail
  refine (HPL.out _ N02d.out B2d.out).mono ?_
  rintro e w4 ⟨rfl, hb4⟩
  have N04 := Aside0.mk (blk_below N02d.out hb4)
  have N14 := Aside0.mk (blk_below N12d.out hb4)
  have B4 := Aside0.mk (below_step B2d.out hb4)
  clear hb4
  have q0 : w4.cell? ⟨w.heap.size, 0, none⟩ = some (.int .i64 clock) := (blk_cell N04.out 0).trans rfl
  have q1 : w4.cell? ⟨w.heap.size, 1, none⟩ = some (.slice A n c) := (blk_cell N04.out 1).trans rfl
  have r0 : w4.cell? ⟨w.heap.size + 1, 0, none⟩ = some (.int .i64 0) := (blk_cell N14.out 0).trans rfl
  have r1 : w4.cell? ⟨w.heap.size + 1, 1, none⟩ = some (.slice none 0 0) := (blk_cell N14.out 1).trans rfl
  have k0 := blk_frozen N14.out 0
  have k1 := blk_frozen N14.out 1
  go_wp2
  have b1 : ((w4.setCell ⟨w.heap.size + 1, 0, none⟩ (.int .i64 0)).setCell ⟨w.heap.size + 1, 1, none⟩ (.slice none 0 0)).heap[w.heap.size + 1]? = some (.cells #[.int .i64 0, .slice none 0 0] 28 (0, 0)) := blk_put (cs := #[.int .i64 0, .slice none 0 0]) (blk_put (cs := #[.int .i64 0, .slice none 0 0]) N14.out 0 _ rfl) 1 _ rfl
  refine bodyPost_ret (results_ct rfl _ _ (w.heap.size + 1) 28 #[.int .i64 0, .slice none 0 0] (0, 0) _ rfl b1 Tryd.underlying28 rfl (by kernel_rfl)) rfl ?_
  exact ⟨_, rfl, ⟨rfl, .inl ⟨rfl, rfl⟩⟩, below_set (below_set B4.out (by omega)) (by omega)⟩
set_option maxHeartbeats 8000000 in
set_option maxRecDepth 100000 in
theorem disk_Put.way5 (clock : Int) (A : Option Addr) (c n at_ : Nat) (fs : List S72) (nm : ByteArray) (ct : Int) (w : World) (HM : Aside0 (∀ W, Below w.heap.size w W → Calls Tryd.prog 43 #[.agg #[.int .i64 clock, .slice A n c]] W fun e w' => e = .returned (.bool true) ∧ Below W.heap.size W w')) (HP : Aside0 (∀ W, Calls Tryd.prog 60 #[.string nm] W fun e w' => e = .returned (.bool true) ∧ Below W.heap.size W w')) (HT : Aside0 (∀ W, Calls Tryd.prog 61 #[.int .i64 ct] W fun e w' => e = .returned (.bool true) ∧ Drawn0 W w')) (HPL : Aside0 (∀ W, W.heap[w.heap.size]? = some (.cells #[.int .i64 clock, .slice A n c] 28 (0, 0)) → Below w.heap.size w W → Calls Tryd.prog 62 #[.pointer (some ⟨w.heap.size, 0, none⟩), .string nm] W fun e w' => e = .returned (.tuple #[.int .i64 at_, .bool false]) ∧ Below W.heap.size W w')) (hk : clock ≠ 1048576) (hn : n = 64) :
    Calls Tryd.prog 38 #[.agg #[.int .i64 clock, .slice A n c], .string nm, .int .i64 ct] w fun e w' => ∃ v', e = .returned (.tuple #[.agg #[.int .i64 0, v'], .int .i64 1201]) ∧ w'.ownsRow w.heap.size 72 3 v' (([] : List S72)).length (encFs (([] : List S72))) ∧ Below w.heap.size w w' := by
  have d1 : (clock == (1048576 : Int)) = false := beq_eq_false_iff_ne.mpr hk
  have d2 : ((n : Int) == (64 : Int)) = true := by rw [hn]; rfl
  clear hk hn
  go_enter Tryd.func38, Tryd.ntmps38
  go_wp2_with fail
  have M0 : ((w.alloc (.cells #[.int .i64 clock, .slice A n c] 28)).alloc (.cells #[.int .i64 0, .slice none 0 0] 28)).heap[w.heap.size]? = some (.cells #[.int .i64 clock, .slice A n c] 28 (0, 0)) := blk_alloc (heap_alloc_new w _) _
  have M1 : ((w.alloc (.cells #[.int .i64 clock, .slice A n c] 28)).alloc (.cells #[.int .i64 0, .slice none 0 0] 28)).heap[w.heap.size + 1]? = some (.cells #[.int .i64 0, .slice none 0 0] 28 (0, 0)) := by
    have := heap_alloc_new (w.alloc (.cells #[.int .i64 clock, .slice A n c] 28)) (.cells #[.int .i64 0, .slice none 0 0] 28)
    simpa using this
  have MB := below_alloc (below_alloc (Below.refl w.heap.size w) (.cells #[.int .i64 clock, .slice A n c] 28)) (.cells #[.int .i64 0, .slice none 0 0] 28)
  refine (HM.out _ MB).mono ?_
  rintro e w1 ⟨rfl, hb1⟩
  have N01 := Aside0.mk (blk_below M0 hb1)
  have N11 := Aside0.mk (blk_below M1 hb1)
  have B1 := Aside0.mk (below_step MB hb1)
  clear M0 M1 MB hb1
  have q0 : w1.cell? ⟨w.heap.size, 0, none⟩ = some (.int .i64 clock) := (blk_cell N01.out 0).trans rfl
  have q1 : w1.cell? ⟨w.heap.size, 1, none⟩ = some (.slice A n c) := (blk_cell N01.out 1).trans rfl
  have r0 : w1.cell? ⟨w.heap.size + 1, 0, none⟩ = some (.int .i64 0) := (blk_cell N11.out 0).trans rfl
  have r1 : w1.cell? ⟨w.heap.size + 1, 1, none⟩ = some (.slice none 0 0) := (blk_cell N11.out 1).trans rfl
  have k0 := blk_frozen N11.out 0
  have k1 := blk_frozen N11.out 1
  go_wp2_with fail
  refine (HP.out _).mono ?_
  rintro e w2 ⟨rfl, hb2⟩
  clear q0 q1 r0 r1 k0 k1
  have N02 := Aside0.mk (blk_below N01.out hb2)
  have N12 := Aside0.mk (blk_below N11.out hb2)
  have B2 := Aside0.mk (below_step B1.out hb2)
  clear hb2
  have q0 : w2.cell? ⟨w.heap.size, 0, none⟩ = some (.int .i64 clock) := (blk_cell N02.out 0).trans rfl
  have q1 : w2.cell? ⟨w.heap.size, 1, none⟩ = some (.slice A n c) := (blk_cell N02.out 1).trans rfl
  have r0 : w2.cell? ⟨w.heap.size + 1, 0, none⟩ = some (.int .i64 0) := (blk_cell N12.out 0).trans rfl
  have r1 : w2.cell? ⟨w.heap.size + 1, 1, none⟩ = some (.slice none 0 0) := (blk_cell N12.out 1).trans rfl
  have k0 := blk_frozen N12.out 0
  have k1 := blk_frozen N12.out 1
  go_wp2_with fail
  refine (HT.out _).mono ?_
  rintro e w3 ⟨rfl, ⟨nd, rfl⟩⟩
  clear q0 q1 r0 r1 k0 k1
  have N02d := Aside0.mk (blk_drewN N02.out nd)
  have N12d := Aside0.mk (blk_drewN N12.out nd)
  have B2d := Aside0.mk (pw_below_drewN B2.out nd)
  go_wp2_with fail
  refine (HPL.out _ N02d.out B2d.out).mono ?_
  rintro e w4 ⟨rfl, hb4⟩
  have N04 := Aside0.mk (blk_below N02d.out hb4)
  have N14 := Aside0.mk (blk_below N12d.out hb4)
  have B4 := Aside0.mk (below_step B2d.out hb4)
  clear hb4
  have q0 : w4.cell? ⟨w.heap.size, 0, none⟩ = some (.int .i64 clock) := (blk_cell N04.out 0).trans rfl
  have q1 : w4.cell? ⟨w.heap.size, 1, none⟩ = some (.slice A n c) := (blk_cell N04.out 1).trans rfl
  have r0 : w4.cell? ⟨w.heap.size + 1, 0, none⟩ = some (.int .i64 0) := (blk_cell N14.out 0).trans rfl
  have r1 : w4.cell? ⟨w.heap.size + 1, 1, none⟩ = some (.slice none 0 0) := (blk_cell N14.out 1).trans rfl
  have k0 := blk_frozen N14.out 0
  have k1 := blk_frozen N14.out 1
  go_wp2
  have b1 : ((w4.setCell ⟨w.heap.size + 1, 0, none⟩ (.int .i64 0)).setCell ⟨w.heap.size + 1, 1, none⟩ (.slice none 0 0)).heap[w.heap.size + 1]? = some (.cells #[.int .i64 0, .slice none 0 0] 28 (0, 0)) := blk_put (cs := #[.int .i64 0, .slice none 0 0]) (blk_put (cs := #[.int .i64 0, .slice none 0 0]) N14.out 0 _ rfl) 1 _ rfl
  refine bodyPost_ret (results_ct rfl _ _ (w.heap.size + 1) 28 #[.int .i64 0, .slice none 0 0] (0, 0) _ rfl b1 Tryd.underlying28 rfl (by kernel_rfl)) rfl ?_
  exact ⟨_, rfl, ⟨rfl, .inl ⟨rfl, rfl⟩⟩, below_set (below_set B4.out (by omega)) (by omega)⟩
set_option maxHeartbeats 8000000 in
set_option maxRecDepth 100000 in
theorem disk_Put.way7 (clock : Int) (A : Option Addr) (c n at_ : Nat) (fs : List S72) (nm : ByteArray) (ct : Int) (w : World) (HM : Aside0 (∀ W, Below w.heap.size w W → Calls Tryd.prog 43 #[.agg #[.int .i64 clock, .slice A n c]] W fun e w' => e = .returned (.bool true) ∧ Below W.heap.size W w')) (HP : Aside0 (∀ W, Calls Tryd.prog 60 #[.string nm] W fun e w' => e = .returned (.bool true) ∧ Below W.heap.size W w')) (HT : Aside0 (∀ W, Calls Tryd.prog 61 #[.int .i64 ct] W fun e w' => e = .returned (.bool true) ∧ Drawn0 W w')) (HPL : Aside0 (∀ W, W.heap[w.heap.size]? = some (.cells #[.int .i64 clock, .slice A n c] 28 (0, 0)) → Below w.heap.size w W → Calls Tryd.prog 62 #[.pointer (some ⟨w.heap.size, 0, none⟩), .string nm] W fun e w' => e = .returned (.tuple #[.int .i64 at_, .bool true]) ∧ Below W.heap.size W w')) (HC : Aside0 (∀ W, Below w.heap.size w W → Calls Tryd.prog 63 #[.agg #[.int .i64 clock, .slice A n c]] W fun e w' => ∃ v', e = .returned (.agg #[.int .i64 clock, v']) ∧ w'.ownsRow W.heap.size 72 3 v' n (encFs fs) ∧ Below W.heap.size W w')) (hk : clock ≠ 1048576) (hck : 0 ≤ clock ∧ clock ≤ 1048576) (hat : at_ < n) (hfn : fs.length = n) :
    Calls Tryd.prog 38 #[.agg #[.int .i64 clock, .slice A n c], .string nm, .int .i64 ct] w fun e w' => ∃ v', e = .returned (.tuple #[.agg #[.int .i64 (clock + 1), v'], .int .i64 0]) ∧ w'.ownsRow w.heap.size 72 3 v' (fs.set at_ ⟨nm, ct, clock + 1⟩).length (encFs (fs.set at_ ⟨nm, ct, clock + 1⟩)) ∧ Below w.heap.size w w' := by
  have d1 : (clock == (1048576 : Int)) = false := beq_eq_false_iff_ne.mpr hk
  clear hk
  obtain ⟨hc0, hc1⟩ := hck
  go_enter Tryd.func38, Tryd.ntmps38
  go_wp2_with fail
  have M0 : ((w.alloc (.cells #[.int .i64 clock, .slice A n c] 28)).alloc (.cells #[.int .i64 0, .slice none 0 0] 28)).heap[w.heap.size]? = some (.cells #[.int .i64 clock, .slice A n c] 28 (0, 0)) := blk_alloc (heap_alloc_new w _) _
  have M1 : ((w.alloc (.cells #[.int .i64 clock, .slice A n c] 28)).alloc (.cells #[.int .i64 0, .slice none 0 0] 28)).heap[w.heap.size + 1]? = some (.cells #[.int .i64 0, .slice none 0 0] 28 (0, 0)) := by
    have := heap_alloc_new (w.alloc (.cells #[.int .i64 clock, .slice A n c] 28)) (.cells #[.int .i64 0, .slice none 0 0] 28)
    simpa using this
  have MB := below_alloc (below_alloc (Below.refl w.heap.size w) (.cells #[.int .i64 clock, .slice A n c] 28)) (.cells #[.int .i64 0, .slice none 0 0] 28)
  refine (HM.out _ MB).mono ?_
  rintro e w1 ⟨rfl, hb1⟩
  have N01 := Aside0.mk (blk_below M0 hb1)
  have N11 := Aside0.mk (blk_below M1 hb1)
  have B1 := Aside0.mk (below_step MB hb1)
  clear M0 M1 MB hb1
  have q0 : w1.cell? ⟨w.heap.size, 0, none⟩ = some (.int .i64 clock) := (blk_cell N01.out 0).trans rfl
  have q1 : w1.cell? ⟨w.heap.size, 1, none⟩ = some (.slice A n c) := (blk_cell N01.out 1).trans rfl
  have r0 : w1.cell? ⟨w.heap.size + 1, 0, none⟩ = some (.int .i64 0) := (blk_cell N11.out 0).trans rfl
  have r1 : w1.cell? ⟨w.heap.size + 1, 1, none⟩ = some (.slice none 0 0) := (blk_cell N11.out 1).trans rfl
  have k0 := blk_frozen N11.out 0
  have k1 := blk_frozen N11.out 1
  go_wp2_with fail
  refine (HP.out _).mono ?_
  rintro e w2 ⟨rfl, hb2⟩
  clear q0 q1 r0 r1 k0 k1
  have N02 := Aside0.mk (blk_below N01.out hb2)
  have N12 := Aside0.mk (blk_below N11.out hb2)
  have B2 := Aside0.mk (below_step B1.out hb2)
  clear hb2
  have q0 : w2.cell? ⟨w.heap.size, 0, none⟩ = some (.int .i64 clock) := (blk_cell N02.out 0).trans rfl
  have q1 : w2.cell? ⟨w.heap.size, 1, none⟩ = some (.slice A n c) := (blk_cell N02.out 1).trans rfl
  have r0 : w2.cell? ⟨w.heap.size + 1, 0, none⟩ = some (.int .i64 0) := (blk_cell N12.out 0).trans rfl
  have r1 : w2.cell? ⟨w.heap.size + 1, 1, none⟩ = some (.slice none 0 0) := (blk_cell N12.out 1).trans rfl
  have k0 := blk_frozen N12.out 0
  have k1 := blk_frozen N12.out 1
  go_wp2_with fail
  refine (HT.out _).mono ?_
  rintro e w3 ⟨rfl, ⟨nd, rfl⟩⟩
  clear q0 q1 r0 r1 k0 k1
  have N02d := Aside0.mk (blk_drewN N02.out nd)
  have N12d := Aside0.mk (blk_drewN N12.out nd)
  have B2d := Aside0.mk (pw_below_drewN B2.out nd)
  go_wp2_with fail
  refine (HPL.out _ N02d.out B2d.out).mono ?_
  rintro e w4 ⟨rfl, hb4⟩
  have N04 := Aside0.mk (blk_below N02d.out hb4)
  have N14 := Aside0.mk (blk_below N12d.out hb4)
  have B4 := Aside0.mk (below_step B2d.out hb4)
  clear hb4
  have q0 : w4.cell? ⟨w.heap.size, 0, none⟩ = some (.int .i64 clock) := (blk_cell N04.out 0).trans rfl
  have q1 : w4.cell? ⟨w.heap.size, 1, none⟩ = some (.slice A n c) := (blk_cell N04.out 1).trans rfl
  have r0 : w4.cell? ⟨w.heap.size + 1, 0, none⟩ = some (.int .i64 0) := (blk_cell N14.out 0).trans rfl
  have r1 : w4.cell? ⟨w.heap.size + 1, 1, none⟩ = some (.slice none 0 0) := (blk_cell N14.out 1).trans rfl
  have k0 := blk_frozen N14.out 0
  have k1 := blk_frozen N14.out 1
  go_wp2_with fail
  refine (HC.out _ B4.out).mono ?_
  rintro e w5 ⟨v', rfl, ho, hb5⟩
  clear q0 q1 r0 r1 k0 k1
  have N05 := Aside0.mk (blk_below N04.out hb5)
  have N15 := Aside0.mk (blk_below N14.out hb5)
  have B5 := Aside0.mk (below_step B4.out hb5)
  obtain ⟨A', c', rfl⟩ := Go.Proofs.YtnnjmelifmlghaaDoorW.Hand2.ownsRow_slice ho
  have HO5 := Aside0.mk ho
  have S5 := Aside0.mk hb5.size
  have S4 := Aside0.mk (show w.heap.size + 1 < w4.heap.size from blk_lt N14.out)
  clear hb5 ho
  have q0 : w5.cell? ⟨w.heap.size, 0, none⟩ = some (.int .i64 clock) := (blk_cell N05.out 0).trans rfl
  have q1 : w5.cell? ⟨w.heap.size, 1, none⟩ = some (.slice A n c) := (blk_cell N05.out 1).trans rfl
  have r0 : w5.cell? ⟨w.heap.size + 1, 0, none⟩ = some (.int .i64 0) := (blk_cell N15.out 0).trans rfl
  have r1 : w5.cell? ⟨w.heap.size + 1, 1, none⟩ = some (.slice none 0 0) := (blk_cell N15.out 1).trans rfl
  have k0 := blk_frozen N15.out 0
  have k1 := blk_frozen N15.out 1
  obtain ⟨g, hA⟩ : ∃ g, (Value.slice A' n c') = .slice (some ⟨g, 0, none⟩) n c' := by
    rcases HO5.out.2 with ⟨_, h0⟩ | ⟨g, c2, cur, he, _⟩
    · omega
    · injection he with h1 h2 h3
      subst h1
      exact ⟨g, rfl⟩
  injection hA with hA
  subst hA
  have hat' : at_ < fs.length := by omega
  obtain ⟨fo, hfo⟩ : ∃ fo, fs[at_] = fo := ⟨_, rfl⟩
  have e0 : (encFs fs)[at_ * 3]? = some (.string fo.f0) := by have := encFs_get fs at_ 0 hat' (by omega); rw [Nat.add_zero] at this; rw [this, hfo]; rfl
  have e1 : (encFs fs)[at_ * 3 + 1]? = some (.int .i64 fo.f1) := by rw [encFs_get fs at_ 1 hat' (by omega), hfo]; rfl
  have e2 : (encFs fs)[at_ * 3 + 2]? = some (.int .i64 fo.f2) := by rw [encFs_get fs at_ 2 hat' (by omega), hfo]; rfl
  clear hfo
  obtain ⟨x0, y0⟩ := Go.Proofs.YtnnjmelifmlghaaDoorW.Hand2.ownsRow_cell HO5.out _ _ e0
  obtain ⟨x1, y1⟩ := Go.Proofs.YtnnjmelifmlghaaDoorW.Hand2.ownsRow_cell HO5.out _ _ e1
  obtain ⟨x2, y2⟩ := Go.Proofs.YtnnjmelifmlghaaDoorW.Hand2.ownsRow_cell HO5.out _ _ e2
  clear e0 e1 e2
  have HG := Aside0.mk (own_lt HO5.out g rfl)
  have HGB := Aside0.mk (own_base HO5.out g rfl)
  have HAT := Aside0.mk hat'
  have HFN := Aside0.mk hfn
  have hg1 : g < w5.heap.size := HG.out
  have hg2 : ¬ (w.heap.size + 1 = g) := by have := HGB.out; have := S4.out; omega
  have hg3 : ¬ (w.heap.size = g) := by have := HGB.out; have := S4.out; omega
  have hg4 : ¬ (g = w.heap.size + 1) := fun e => hg2 e.symm
  have hat1 : (at_ : Int) < (n : Int) := by omega
  have hr1 : w.heap.size + 1 < w5.heap.size := by have := S4.out; have := S5.out; omega
  clear hat' hfn hat
  go_upto_region 12 with (fail)
  have n8 := Aside0.mk (blk_alloc (heap_alloc_new (((w5.setCell ⟨g, at_ * 3, none⟩ (.string nm)).setCell ⟨g, at_ * 3 + 1, none⟩ (.int .i64 ct)).setCell ⟨g, at_ * 3 + 2, none⟩ (.int .i64 (clock + 1))) (.cells #[.int .i64 (clock + 1), .slice (some ⟨g, 0, none⟩) n c'] 28)) (.cells #[.string nm, .int .i64 ct, .int .i64 (clock + 1)] 72))
  have s8 : (((w5.setCell ⟨g, at_ * 3, none⟩ (.string nm)).setCell ⟨g, at_ * 3 + 1, none⟩ (.int .i64 ct)).setCell ⟨g, at_ * 3 + 2, none⟩ (.int .i64 (clock + 1))).heap.size = w5.heap.size := by simp
  rw [s8] at n8
  have k8 : KeepBut w5 (((w5.setCell ⟨g, at_ * 3, none⟩ (.string nm)).setCell ⟨g, at_ * 3 + 1, none⟩ (.int .i64 ct)).setCell ⟨g, at_ * 3 + 2, none⟩ (.int .i64 (clock + 1))) g none := KeepBut.set_ (KeepBut.set_ (KeepBut.set_ (KeepBut.refl _ _ _) _ _) _ _) _ _
  have r8 := Aside0.mk (blk_alloc (blk_alloc ((k8.2 (w.heap.size + 1) (by omega) hg2 (by simp)).trans N15.out) (.cells #[.int .i64 (clock + 1), .slice (some ⟨g, 0, none⟩) n c'] 28)) (.cells #[.string nm, .int .i64 ct, .int .i64 (clock + 1)] 72))
  have o8a : (((w5.setCell ⟨g, at_ * 3, none⟩ (.string nm)).setCell ⟨g, at_ * 3 + 1, none⟩ (.int .i64 ct)).setCell ⟨g, at_ * 3 + 2, none⟩ (.int .i64 (clock + 1))).ownsRow w4.heap.size 72 3 (.slice (some ⟨g, 0, none⟩) n c') n (encFs (fs.set at_ ⟨nm, ct, clock + 1⟩)) := by
    rw [← encFs_set fs at_ HAT.out]
    exact Go.Proofs.YtnnjmelifmlghaaDoorW.Hand2.ownsRow_put (Go.Proofs.YtnnjmelifmlghaaDoorW.Hand2.ownsRow_put (Go.Proofs.YtnnjmelifmlghaaDoorW.Hand2.ownsRow_put HO5.out _ _) _ _) _ _
  have o8 := Aside0.mk (own_move (w1 := ((((w5.setCell ⟨g, at_ * 3, none⟩ (.string nm)).setCell ⟨g, at_ * 3 + 1, none⟩ (.int .i64 ct)).setCell ⟨g, at_ * 3 + 2, none⟩ (.int .i64 (clock + 1))).alloc (.cells #[.int .i64 (clock + 1), .slice (some ⟨g, 0, none⟩) n c'] 28)).alloc (.cells #[.string nm, .int .i64 ct, .int .i64 (clock + 1)] 72)) o8a (fun k hk => (below_alloc (below_alloc (Below.refl _ _) (.cells #[.int .i64 (clock + 1), .slice (some ⟨g, 0, none⟩) n c'] 28)) (.cells #[.string nm, .int .i64 ct, .int .i64 (clock + 1)] 72)).block k (own_lt o8a k hk)))
  have b8 := Aside0.mk (below_alloc (below_alloc (below_set (j := at_ * 3 + 2) (v := .int .i64 (clock + 1)) (below_set (j := at_ * 3 + 1) (v := .int .i64 ct) (below_set (j := at_ * 3) (v := .string nm) B5.out (show w.heap.size ≤ g by have := HGB.out; have := S4.out; omega)) (show w.heap.size ≤ g by have := HGB.out; have := S4.out; omega)) (show w.heap.size ≤ g by have := HGB.out; have := S4.out; omega)) (.cells #[.int .i64 (clock + 1), .slice (some ⟨g, 0, none⟩) n c'] 28)) (.cells #[.string nm, .int .i64 ct, .int .i64 (clock + 1)] 72))
  clear o8a k8 s8 q0 q1 r0 r1 k0 k1 x0 x1 x2 y0 y1 y2
  generalize ((((w5.setCell ⟨g, at_ * 3, none⟩ (.string nm)).setCell ⟨g, at_ * 3 + 1, none⟩ (.int .i64 ct)).setCell ⟨g, at_ * 3 + 2, none⟩ (.int .i64 (clock + 1))).alloc (.cells #[.int .i64 (clock + 1), .slice (some ⟨g, 0, none⟩) n c'] 28)).alloc (.cells #[.string nm, .int .i64 ct, .int .i64 (clock + 1)] 72) = W8 at n8 r8 o8 b8 ⊢
  have x0 : W8.cell? ⟨w5.heap.size, 0, none⟩ = some (.int .i64 (clock + 1)) := (blk_cell n8.out 0).trans rfl
  have x1 : W8.cell? ⟨w5.heap.size, 1, none⟩ = some (.slice (some ⟨g, 0, none⟩) n c') := (blk_cell n8.out 1).trans rfl
  have z0 : W8.cell? ⟨w.heap.size + 1, 0, none⟩ = some (.int .i64 0) := (blk_cell r8.out 0).trans rfl
  have z1 : W8.cell? ⟨w.heap.size + 1, 1, none⟩ = some (.slice none 0 0) := (blk_cell r8.out 1).trans rfl
  have z2 := blk_frozen r8.out 0
  have z3 := blk_frozen r8.out 1
  go_wp2
  have b1 : ((W8.setCell ⟨w.heap.size + 1, 0, none⟩ (.int .i64 (clock + 1))).setCell ⟨w.heap.size + 1, 1, none⟩ (.slice (some ⟨g, 0, none⟩) n c')).heap[w.heap.size + 1]? = some (.cells #[.int .i64 (clock + 1), .slice (some ⟨g, 0, none⟩) n c'] 28 (0, 0)) := blk_put (cs := #[.int .i64 (clock + 1), .slice none 0 0]) (blk_put (cs := #[.int .i64 0, .slice none 0 0]) r8.out 0 _ rfl) 1 _ rfl
  refine bodyPost_ret (results_ct rfl _ _ (w.heap.size + 1) 28 #[.int .i64 (clock + 1), .slice (some ⟨g, 0, none⟩) n c'] (0, 0) _ rfl b1 Tryd.underlying28 rfl (by kernel_rfl)) rfl ?_
  refine ⟨_, rfl, ?_, below_set (below_set b8.out (by omega)) (by omega)⟩
  rw [List.length_set, HFN.out]
  refine own_weaken (own_setCell (own_setCell o8.out (by show some (w.heap.size + 1) ≠ some g; intro e; injection e with e; exact hg2 e) _) (by show some (w.heap.size + 1) ≠ some g; intro e; injection e with e; exact hg2 e) _) (by have := S4.out; omega)
set_option maxHeartbeats 8000000 in
set_option maxRecDepth 100000 in
theorem disk_Put.way6 (clock : Int) (A : Option Addr) (c n at_ : Nat) (fs : List S72) (nm : ByteArray) (ct : Int) (w : World) (HM : Aside0 (∀ W, Below w.heap.size w W → Calls Tryd.prog 43 #[.agg #[.int .i64 clock, .slice A n c]] W fun e w' => e = .returned (.bool true) ∧ Below W.heap.size W w')) (HP : Aside0 (∀ W, Calls Tryd.prog 60 #[.string nm] W fun e w' => e = .returned (.bool true) ∧ Below W.heap.size W w')) (HT : Aside0 (∀ W, Calls Tryd.prog 61 #[.int .i64 ct] W fun e w' => e = .returned (.bool true) ∧ Drawn0 W w')) (HPL : Aside0 (∀ W, W.heap[w.heap.size]? = some (.cells #[.int .i64 clock, .slice A n c] 28 (0, 0)) → Below w.heap.size w W → Calls Tryd.prog 62 #[.pointer (some ⟨w.heap.size, 0, none⟩), .string nm] W fun e w' => e = .returned (.tuple #[.int .i64 at_, .bool false]) ∧ Below W.heap.size W w')) (HC : Aside0 (∀ W, Below w.heap.size w W → Calls Tryd.prog 63 #[.agg #[.int .i64 clock, .slice A n c]] W fun e w' => ∃ v', e = .returned (.agg #[.int .i64 clock, v']) ∧ w'.ownsRow W.heap.size 72 3 v' n (encFs fs) ∧ Below W.heap.size W w')) (hk : clock ≠ 1048576) (hck : 0 ≤ clock ∧ clock ≤ 1048576) (hn : n ≠ 64) (hn64 : n ≤ 64) (hat : at_ ≤ n) (hfn : fs.length = n) :
    Calls Tryd.prog 38 #[.agg #[.int .i64 clock, .slice A n c], .string nm, .int .i64 ct] w fun e w' => ∃ v', e = .returned (.tuple #[.agg #[.int .i64 (clock + 1), v'], .int .i64 0]) ∧ w'.ownsRow w.heap.size 72 3 v' (fs.take at_ ++ ⟨nm, ct, clock + 1⟩ :: fs.drop at_).length (encFs (fs.take at_ ++ ⟨nm, ct, clock + 1⟩ :: fs.drop at_)) ∧ Below w.heap.size w w' := by
  have d1 : (clock == (1048576 : Int)) = false := beq_eq_false_iff_ne.mpr hk
  clear hk
  obtain ⟨hc0, hc1⟩ := hck
  have d2 : ((n : Int) == (64 : Int)) = false := by rw [beq_eq_false_iff_ne]; omega
  go_enter Tryd.func38, Tryd.ntmps38
  go_wp2_with fail
  have M0 : ((w.alloc (.cells #[.int .i64 clock, .slice A n c] 28)).alloc (.cells #[.int .i64 0, .slice none 0 0] 28)).heap[w.heap.size]? = some (.cells #[.int .i64 clock, .slice A n c] 28 (0, 0)) := blk_alloc (heap_alloc_new w _) _
  have M1 : ((w.alloc (.cells #[.int .i64 clock, .slice A n c] 28)).alloc (.cells #[.int .i64 0, .slice none 0 0] 28)).heap[w.heap.size + 1]? = some (.cells #[.int .i64 0, .slice none 0 0] 28 (0, 0)) := by
    have := heap_alloc_new (w.alloc (.cells #[.int .i64 clock, .slice A n c] 28)) (.cells #[.int .i64 0, .slice none 0 0] 28)
    simpa using this
  have MB := below_alloc (below_alloc (Below.refl w.heap.size w) (.cells #[.int .i64 clock, .slice A n c] 28)) (.cells #[.int .i64 0, .slice none 0 0] 28)
  refine (HM.out _ MB).mono ?_
  rintro e w1 ⟨rfl, hb1⟩
  have N01 := Aside0.mk (blk_below M0 hb1)
  have N11 := Aside0.mk (blk_below M1 hb1)
  have B1 := Aside0.mk (below_step MB hb1)
  clear M0 M1 MB hb1
  have q0 : w1.cell? ⟨w.heap.size, 0, none⟩ = some (.int .i64 clock) := (blk_cell N01.out 0).trans rfl
  have q1 : w1.cell? ⟨w.heap.size, 1, none⟩ = some (.slice A n c) := (blk_cell N01.out 1).trans rfl
  have r0 : w1.cell? ⟨w.heap.size + 1, 0, none⟩ = some (.int .i64 0) := (blk_cell N11.out 0).trans rfl
  have r1 : w1.cell? ⟨w.heap.size + 1, 1, none⟩ = some (.slice none 0 0) := (blk_cell N11.out 1).trans rfl
  have k0 := blk_frozen N11.out 0
  have k1 := blk_frozen N11.out 1
  go_wp2_with fail
  refine (HP.out _).mono ?_
  rintro e w2 ⟨rfl, hb2⟩
  clear q0 q1 r0 r1 k0 k1
  have N02 := Aside0.mk (blk_below N01.out hb2)
  have N12 := Aside0.mk (blk_below N11.out hb2)
  have B2 := Aside0.mk (below_step B1.out hb2)
  clear hb2
  have q0 : w2.cell? ⟨w.heap.size, 0, none⟩ = some (.int .i64 clock) := (blk_cell N02.out 0).trans rfl
  have q1 : w2.cell? ⟨w.heap.size, 1, none⟩ = some (.slice A n c) := (blk_cell N02.out 1).trans rfl
  have r0 : w2.cell? ⟨w.heap.size + 1, 0, none⟩ = some (.int .i64 0) := (blk_cell N12.out 0).trans rfl
  have r1 : w2.cell? ⟨w.heap.size + 1, 1, none⟩ = some (.slice none 0 0) := (blk_cell N12.out 1).trans rfl
  have k0 := blk_frozen N12.out 0
  have k1 := blk_frozen N12.out 1
  go_wp2_with fail
  refine (HT.out _).mono ?_
  rintro e w3 ⟨rfl, ⟨nd, rfl⟩⟩
  clear q0 q1 r0 r1 k0 k1
  have N02d := Aside0.mk (blk_drewN N02.out nd)
  have N12d := Aside0.mk (blk_drewN N12.out nd)
  have B2d := Aside0.mk (pw_below_drewN B2.out nd)
  go_wp2_with fail
  refine (HPL.out _ N02d.out B2d.out).mono ?_
  rintro e w4 ⟨rfl, hb4⟩
  have N04 := Aside0.mk (blk_below N02d.out hb4)
  have N14 := Aside0.mk (blk_below N12d.out hb4)
  have B4 := Aside0.mk (below_step B2d.out hb4)
  clear hb4
  have q0 : w4.cell? ⟨w.heap.size, 0, none⟩ = some (.int .i64 clock) := (blk_cell N04.out 0).trans rfl
  have q1 : w4.cell? ⟨w.heap.size, 1, none⟩ = some (.slice A n c) := (blk_cell N04.out 1).trans rfl
  have r0 : w4.cell? ⟨w.heap.size + 1, 0, none⟩ = some (.int .i64 0) := (blk_cell N14.out 0).trans rfl
  have r1 : w4.cell? ⟨w.heap.size + 1, 1, none⟩ = some (.slice none 0 0) := (blk_cell N14.out 1).trans rfl
  have k0 := blk_frozen N14.out 0
  have k1 := blk_frozen N14.out 1
  go_wp2_with fail
  refine (HC.out _ B4.out).mono ?_
  rintro e w5 ⟨v', rfl, ho, hb5⟩
  clear q0 q1 r0 r1 k0 k1
  have N05 := Aside0.mk (blk_below N04.out hb5)
  have N15 := Aside0.mk (blk_below N14.out hb5)
  have B5 := Aside0.mk (below_step B4.out hb5)
  obtain ⟨A', c', rfl⟩ := Go.Proofs.YtnnjmelifmlghaaDoorW.Hand2.ownsRow_slice ho
  have HO5 := Aside0.mk ho
  have S5 := Aside0.mk hb5.size
  have S4 := Aside0.mk (show w.heap.size + 1 < w4.heap.size from blk_lt N14.out)
  clear hb5 ho
  have q0 : w5.cell? ⟨w.heap.size, 0, none⟩ = some (.int .i64 clock) := (blk_cell N05.out 0).trans rfl
  have q1 : w5.cell? ⟨w.heap.size, 1, none⟩ = some (.slice A n c) := (blk_cell N05.out 1).trans rfl
  have r0 : w5.cell? ⟨w.heap.size + 1, 0, none⟩ = some (.int .i64 0) := (blk_cell N15.out 0).trans rfl
  have r1 : w5.cell? ⟨w.heap.size + 1, 1, none⟩ = some (.slice none 0 0) := (blk_cell N15.out 1).trans rfl
  have k0 := blk_frozen N15.out 0
  have k1 := blk_frozen N15.out 1
  have HFN := Aside0.mk hfn
  have h5 : Below w5.heap.size w5 (((w5.alloc (.cells #[.int .i64 (clock + 1), .slice A' n c'] 28)).alloc (.cells #[.string nm, .int .i64 ct, .int .i64 (clock + 1)] 72)).alloc (.cells #[.string nm, .int .i64 ct, .int .i64 (clock + 1)] 72)) := below_alloc (below_alloc (below_alloc (Below.refl _ _) _) _) _
  have hO6 : (((w5.alloc (.cells #[.int .i64 (clock + 1), .slice A' n c'] 28)).alloc (.cells #[.string nm, .int .i64 ct, .int .i64 (clock + 1)] 72)).alloc (.cells #[.string nm, .int .i64 ct, .int .i64 (clock + 1)] 72)).ownsRow w4.heap.size 72 3 (.slice A' n c') fs.length (encFs fs) := by
    rw [hfn]
    exact own_move HO5.out (fun k hk => h5.block k (own_lt HO5.out k hk))
  have hv6 : (((w5.alloc (.cells #[.int .i64 (clock + 1), .slice A' n c'] 28)).alloc (.cells #[.string nm, .int .i64 ct, .int .i64 (clock + 1)] 72)).alloc (.cells #[.string nm, .int .i64 ct, .int .i64 (clock + 1)] 72)).heap[w5.heap.size + 1 + 1]? = some (.cells #[.string nm, .int .i64 ct, .int .i64 (clock + 1)] 72 (0, 0)) := by
    have := heap_alloc_new ((w5.alloc (.cells #[.int .i64 (clock + 1), .slice A' n c'] 28)).alloc (.cells #[.string nm, .int .i64 ct, .int .i64 (clock + 1)] 72)) (.cells #[.string nm, .int .i64 ct, .int .i64 (clock + 1)] 72)
    simpa using this
  have hx6 : (((w5.alloc (.cells #[.int .i64 (clock + 1), .slice A' n c'] 28)).alloc (.cells #[.string nm, .int .i64 ct, .int .i64 (clock + 1)] 72)).alloc (.cells #[.string nm, .int .i64 ct, .int .i64 (clock + 1)] 72)).heap[w5.heap.size]? = some (.cells #[.int .i64 (clock + 1), .slice A' n c'] 28 (0, 0)) := blk_alloc (blk_alloc (heap_alloc_new w5 _) _) _
  have hr6 := blk_below N15.out h5
  go_wp2_with fail
  refine (file_Insert.calls (.slice A' n c') at_ (w5.heap.size + 1 + 1) w4.heap.size fs ⟨nm, ct, clock + 1⟩ _ hO6 (by omega) (by omega) ?_ hv6 ?_).mono ?_
  · have := S5.out; have := h5.size; omega
  · intro e; have := own_lt HO5.out _ e; omega
  rintro e w7 ⟨v7, rfl, ho7, hg7⟩
  obtain ⟨A7, c7, rfl⟩ := Go.Proofs.YtnnjmelifmlghaaDoorW.Hand2.ownsRow_slice ho7
  have hnx : some w5.heap.size ≠ (Value.slice A' n c').ownBlock := fun e => by have := own_lt HO5.out _ e.symm; omega
  have hnr : some (w.heap.size + 1) ≠ (Value.slice A' n c').ownBlock := fun e => by have := own_base HO5.out _ e.symm; have := S4.out; omega
  have hX7 : w7.heap[w5.heap.size]? = some (.cells #[.int .i64 (clock + 1), .slice A' n c'] 28 (0, 0)) := (hg7.block _ (blk_lt hx6) hnx).trans hx6
  have hR7 : w7.heap[w.heap.size + 1]? = some (.cells #[.int .i64 0, .slice none 0 0] 28 (0, 0)) := (hg7.block _ (blk_lt hr6) hnr).trans hr6
  have HX7 := Aside0.mk hX7
  have HR7 := Aside0.mk hR7
  have HO7 := Aside0.mk ho7
  have HG7 := Aside0.mk hg7
  have H5 := Aside0.mk h5
  have x0 : w7.cell? ⟨w5.heap.size, 0, none⟩ = some (.int .i64 (clock + 1)) := (blk_cell hX7 0).trans rfl
  have x1 : w7.cell? ⟨w5.heap.size, 1, none⟩ = some (.slice A' n c') := (blk_cell hX7 1).trans rfl
  have y0 := blk_frozen hX7 0
  have y1 := blk_frozen hX7 1
  have z0 : w7.cell? ⟨w.heap.size + 1, 0, none⟩ = some (.int .i64 0) := (blk_cell hR7 0).trans rfl
  have z1 : w7.cell? ⟨w.heap.size + 1, 1, none⟩ = some (.slice none 0 0) := (blk_cell hR7 1).trans rfl
  have z2 := blk_frozen hR7 0
  have z3 := blk_frozen hR7 1
  have hg2 : ¬ (w.heap.size + 1 = w5.heap.size) := by have := S5.out; have := S4.out; omega
  have hg4 : ¬ (w5.heap.size = w.heap.size + 1) := fun e => hg2 e.symm
  have HNX := Aside0.mk hnx
  have HNR := Aside0.mk hnr
  clear hO6 hv6 hx6 hr6 hX7 hR7 ho7 hg7 h5 hfn hnx hnr
  go_upto_region 12 with (fail)
  have n8 := Aside0.mk (blk_put (cs := #[.int .i64 (clock + 1), .slice A' n c']) (cs' := #[.int .i64 (clock + 1), .slice A7 (fs.length + 1) c7]) HX7.out 1 (.slice A7 (fs.length + 1) c7) rfl)
  have r8 := Aside0.mk (blk_far (p := ⟨w5.heap.size, 1, none⟩) HR7.out (by show w.heap.size + 1 ≠ w5.heap.size; exact hg2) (.slice A7 (fs.length + 1) c7))
  have hty : ∀ k, (Value.slice A7 (fs.length + 1) c7).ownBlock = some k → k ≠ w5.heap.size ∧ k ≠ w.heap.size + 1 := by
    intro k hk
    obtain ⟨cells, hc⟩ := own_typed HO7.out k hk
    constructor
    · rintro rfl
      rw [HX7.out] at hc
      injection hc with hc
      injection hc with _ hc
      exact absurd hc (by decide)
    · rintro rfl
      rw [HR7.out] at hc
      injection hc with hc
      injection hc with _ hc
      exact absurd hc (by decide)
  have o8 := Aside0.mk (own_setCell (p := ⟨w5.heap.size, 1, none⟩) HO7.out (by show some w5.heap.size ≠ _; intro e; exact (hty _ e.symm).1 rfl) (.slice A7 (fs.length + 1) c7))
  have b7 : Below w.heap.size w w7 := (below_then B5.out B5.out.size H5.out).grown HG7.out (by have := S5.out; have := S4.out; have := H5.out.size; omega) (fun k hk => by have := own_base HO5.out k hk; have := S4.out; omega)
  have b8 := Aside0.mk (below_set (j := 1) (v := .slice A7 (fs.length + 1) c7) b7 (show w.heap.size ≤ w5.heap.size by have := S5.out; have := S4.out; omega))
  have HTY := Aside0.mk hty
  clear b7 hty x0 x1 y0 y1 z0 z1 z2 z3 q0 q1 r0 r1 k0 k1
  generalize w7.setCell ⟨w5.heap.size, 1, none⟩ (.slice A7 (fs.length + 1) c7) = W8 at n8 r8 o8 b8 ⊢
  have x0 : W8.cell? ⟨w5.heap.size, 0, none⟩ = some (.int .i64 (clock + 1)) := (blk_cell n8.out 0).trans rfl
  have x1 : W8.cell? ⟨w5.heap.size, 1, none⟩ = some (.slice A7 (fs.length + 1) c7) := (blk_cell n8.out 1).trans rfl
  have z0 : W8.cell? ⟨w.heap.size + 1, 0, none⟩ = some (.int .i64 0) := (blk_cell r8.out 0).trans rfl
  have z1 : W8.cell? ⟨w.heap.size + 1, 1, none⟩ = some (.slice none 0 0) := (blk_cell r8.out 1).trans rfl
  have z2 := blk_frozen r8.out 0
  have z3 := blk_frozen r8.out 1
  go_wp2
  have b1 : ((W8.setCell ⟨w.heap.size + 1, 0, none⟩ (.int .i64 (clock + 1))).setCell ⟨w.heap.size + 1, 1, none⟩ (.slice A7 (fs.length + 1) c7)).heap[w.heap.size + 1]? = some (.cells #[.int .i64 (clock + 1), .slice A7 (fs.length + 1) c7] 28 (0, 0)) := blk_put (cs := #[.int .i64 (clock + 1), .slice none 0 0]) (blk_put (cs := #[.int .i64 0, .slice none 0 0]) r8.out 0 _ rfl) 1 _ rfl
  refine bodyPost_ret (results_ct rfl _ _ (w.heap.size + 1) 28 #[.int .i64 (clock + 1), .slice A7 (fs.length + 1) c7] (0, 0) _ rfl b1 Tryd.underlying28 rfl (by kernel_rfl)) rfl ?_
  refine ⟨_, rfl, ?_, below_set (below_set b8.out (by omega)) (by omega)⟩
  rw [show (fs.take at_ ++ (⟨nm, ct, clock + 1⟩ : S72) :: fs.drop at_).length = fs.length + 1 by have := HFN.out; simp; omega]
  refine own_weaken (own_setCell (own_setCell o8.out (by show some (w.heap.size + 1) ≠ _; intro e; exact (HTY.out _ e.symm).2 rfl) _) (by show some (w.heap.size + 1) ≠ _; intro e; exact (HTY.out _ e.symm).2 rfl) _) (by have := S4.out; omega)
theorem bsI_le (p : Nat → Bool) : ∀ f i j, i ≤ j → i ≤ bsI p f i j ∧ bsI p f i j ≤ j
  | 0, i, j, h => ⟨Nat.le_refl _, h⟩
  | f + 1, i, j, h => by
    rw [bsI]
    split
    · split
      · have := bsI_le p f ((i + j) / 2 + 1) j (by omega); omega
      · have := bsI_le p f i ((i + j) / 2) (by omega); omega
    · omega
theorem placeI_le (fs : List S72) (s : ByteArray) : placeI fs s ≤ fs.length := (bsI_le _ _ 0 fs.length (Nat.zero_le _)).2
theorem placeB_lt {fs : List S72} {s : ByteArray} (h : placeB fs s = true) : placeI fs s < fs.length := by
  unfold placeB at h
  rw [Bool.and_eq_true, decide_eq_true_eq] at h
  exact h.1
theorem diskOk_bounds {clock : Int} {fs : List S72} (h : diskOk clock fs = true) : 0 ≤ clock ∧ clock ≤ 1048576 ∧ fs.length ≤ 64 := by
  unfold diskOk at h
  simp only [Bool.and_eq_true, decide_eq_true_eq] at h
  exact ⟨h.1.2.1, h.1.2.2, h.2⟩
def contentOk (x : Int) : Bool := decide (0 ≤ x) && decide (x ≤ 2147483647)
/-- What a write comes to. -/
def putF (clock : Int) (fs : List S72) (nm : ByteArray) (ct : Int) : Int × List S72 × Int :=
  if (diskOk clock fs && Cru.pathOk nm && contentOk ct) = true then
    if clock = 1048576 ∨ (placeB fs nm = false ∧ fs.length = 64) then (0, [], 1201)
    else if placeB fs nm = true then (clock + 1, fs.set (placeI fs nm) ⟨nm, ct, clock + 1⟩, 0)
    else (clock + 1, fs.take (placeI fs nm) ++ ⟨nm, ct, clock + 1⟩ :: fs.drop (placeI fs nm), 0)
  else (0, [], 1200)
def disk_Put.f (a0_0 : Int) (l0_1 : List S72) (a1 : ByteArray) (a2 : Int) : Option (Int × List S72 × Int) := if a0_0 ≤ 9223372036854775807 then some (putF a0_0 l0_1 a1 a2) else none
theorem disk_May.any {clock : Int} {A : Option Addr} {c : Nat} {fs : List S72} {w : World} (hr : Kd.C k72 w A fs.length fs) (hc : fs.length ≤ c) (hk : clock ≤ 9223372036854775807) : ∀ W, Below w.heap.size w W → Calls Tryd.prog 43 #[.agg #[.int .i64 clock, .slice A fs.length c]] W fun e w' => e = .returned (.bool (diskOk clock fs)) ∧ Below W.heap.size W w' :=
  fun W hW => disk_May.walk clock A c fs W (Kd.C_below hr hW) hc hk
theorem path_Is.any (s : ByteArray) : ∀ W, Calls Tryd.prog 60 #[.string s] W fun e w' => e = .returned (.bool (Cru.pathOk s)) ∧ Below W.heap.size W w' := fun W => by
  obtain ⟨k, hk⟩ := (path_Is.tells s).rounds
  exact path_Is.calls k s _ W hk
theorem disk_content.any (ct : Int) : ∀ W, Calls Tryd.prog 61 #[.int .i64 ct] W fun e w' => e = .returned (.bool (contentOk ct)) ∧ Drawn0 W w' := fun W => by
  refine disk_content.calls ct _ W ?_
  unfold disk_content.f contentOk
  by_cases h0 : ct ≥ 0
  · rw [if_pos h0, decide_eq_true h0]; simp
  · rw [if_neg h0, decide_eq_false h0]; simp
set_option maxHeartbeats 8000000 in
set_option maxRecDepth 100000 in
theorem disk_Put.calls (a0_0 : Int) (A0_1 : Option Addr) (c0_1 : Nat) (l0_1 : List (S72)) (a1 : ByteArray) (a2 : Int) (r1 : Int) (r2 : List (S72)) (r3 : Int) (w : World) (hr0_1 : Kd.C k72 w A0_1 l0_1.length l0_1) (hc0_1 : l0_1.length ≤ c0_1) (h : disk_Put.f a0_0 l0_1 a1 a2 = some (r1, r2, r3)) :
    Calls Tryd.prog 38 #[.agg #[.int .i64 a0_0, .slice A0_1 l0_1.length c0_1], .string a1, .int .i64 a2] w fun e w' => ∃ v1_ : Value, e = .returned (.tuple #[.agg #[.int .i64 r1, v1_], .int .i64 r3]) ∧ Kd.R k72 72 w' w.heap.size (fun _ => True) v1_ r2 ∧ Below w.heap.size w w' := by
  unfold disk_Put.f at h
  by_cases hk : a0_0 ≤ 9223372036854775807
  · rw [if_pos hk] at h
    have HM := Aside0.mk (disk_May.any hr0_1 hc0_1 hk)
    have HP := Aside0.mk (path_Is.any a1)
    have HT := Aside0.mk (disk_content.any a2)
    have e0 : ∀ {r1 : Int} {r2 : List S72} {r3 : Int}, (Calls Tryd.prog 38 #[.agg #[.int .i64 a0_0, .slice A0_1 l0_1.length c0_1], .string a1, .int .i64 a2] w fun e w' => ∃ v', e = .returned (.tuple #[.agg #[.int .i64 r1, v'], .int .i64 r3]) ∧ w'.ownsRow w.heap.size 72 3 v' r2.length (encFs r2) ∧ Below w.heap.size w w') → Calls Tryd.prog 38 #[.agg #[.int .i64 a0_0, .slice A0_1 l0_1.length c0_1], .string a1, .int .i64 a2] w fun e w' => ∃ v', e = .returned (.tuple #[.agg #[.int .i64 r1, v'], .int .i64 r3]) ∧ Kd.R k72 72 w' w.heap.size (fun _ => True) v' r2 ∧ Below w.heap.size w w' := by
      intro r1 r2 r3 hh
      refine hh.mono ?_
      rintro e w' ⟨v', rfl, ho, hb⟩
      exact ⟨v', rfl, R72_of_own ho (fun _ _ => trivial), hb⟩
    unfold putF at h
    obtain ⟨n, hn⟩ : ∃ n, l0_1.length = n := ⟨_, rfl⟩
    cases hd : diskOk a0_0 l0_1 with
    | false =>
      rw [hd] at h HM
      simp only [Bool.false_and, Bool.false_eq_true, if_false, Option.some.injEq, Prod.mk.injEq] at h
      obtain ⟨rfl, rfl, rfl⟩ := h
      exact e0 (disk_Put.way1 a0_0 A0_1 c0_1 l0_1.length 0 l0_1 a1 a2 w HM)
    | true =>
      rw [hd] at h HM
      obtain ⟨hc0, hc1, hl⟩ := diskOk_bounds hd
      cases hp : Cru.pathOk a1 with
      | false =>
        rw [hp] at h HP
        simp only [Bool.and_false, Bool.false_and, Bool.false_eq_true, if_false, Option.some.injEq, Prod.mk.injEq] at h
        obtain ⟨rfl, rfl, rfl⟩ := h
        exact e0 (disk_Put.way2 a0_0 A0_1 c0_1 l0_1.length 0 l0_1 a1 a2 w HM HP)
      | true =>
        rw [hp] at h HP
        cases ht : contentOk a2 with
        | false =>
          rw [ht] at h HT
          simp only [Bool.and_false, Bool.false_eq_true, if_false, Option.some.injEq, Prod.mk.injEq] at h
          obtain ⟨rfl, rfl, rfl⟩ := h
          exact e0 (disk_Put.way3 a0_0 A0_1 c0_1 l0_1.length 0 l0_1 a1 a2 w HM HP HT)
        | true =>
          rw [ht] at h HT
          simp only [Bool.and_true, if_true] at h
          have HPL := Aside0.mk (fun W (hW : W.heap[w.heap.size]? = some (.cells #[.int .i64 a0_0, .slice A0_1 l0_1.length c0_1] 28 (0, 0))) (hB : Below w.heap.size w W) => disk_place.calls w.heap.size a0_0 A0_1 c0_1 l0_1 a1 W hW (Kd.C_below hr0_1 hB) (by omega))
          have HC := Aside0.mk (fun W (hB : Below w.heap.size w W) => disk_Copy.calls a0_0 A0_1 c0_1 l0_1 W (Kd.C_below hr0_1 hB) (by omega))
          by_cases hf : a0_0 = 1048576 ∨ (placeB l0_1 a1 = false ∧ l0_1.length = 64)
          · rw [if_pos hf] at h
            simp only [Option.some.injEq, Prod.mk.injEq] at h
            obtain ⟨rfl, rfl, rfl⟩ := h
            by_cases hk1 : a0_0 = 1048576
            · exact e0 (disk_Put.way4 a0_0 A0_1 c0_1 l0_1.length (placeI l0_1 a1) l0_1 a1 a2 w (placeB l0_1 a1) HM HP HT HPL hk1)
            · rcases hf with hf | ⟨hf1, hf2⟩
              · exact absurd hf hk1
              · rw [hf1] at HPL
                exact e0 (disk_Put.way5 a0_0 A0_1 c0_1 l0_1.length (placeI l0_1 a1) l0_1 a1 a2 w HM HP HT HPL hk1 hf2)
          · rw [if_neg hf] at h
            have hk1 : a0_0 ≠ 1048576 := fun e => hf (.inl e)
            cases hb : placeB l0_1 a1 with
            | true =>
              rw [hb] at h HPL
              simp only [if_true, Option.some.injEq, Prod.mk.injEq] at h
              obtain ⟨rfl, rfl, rfl⟩ := h
              exact e0 (disk_Put.way7 a0_0 A0_1 c0_1 l0_1.length (placeI l0_1 a1) l0_1 a1 a2 w HM HP HT HPL HC hk1 ⟨hc0, hc1⟩ (placeB_lt hb) rfl)
            | false =>
              rw [hb] at h HPL
              simp only [Bool.false_eq_true, if_false, Option.some.injEq, Prod.mk.injEq] at h
              obtain ⟨rfl, rfl, rfl⟩ := h
              exact e0 (disk_Put.way6 a0_0 A0_1 c0_1 l0_1.length (placeI l0_1 a1) l0_1 a1 a2 w HM HP HT HPL HC hk1 ⟨hc0, hc1⟩ (fun e => hf (.inr ⟨hb, e⟩)) hl (placeI_le _ _) rfl)
  · rw [if_neg hk] at h
    cases h


end Go.Proofs.YtnnjmelifmlghaaDoor.A
end

section
set_option linter.unusedVariables false
set_option linter.unusedSimpArgs false
namespace Go.Proofs.YtnnjmelifmlghaaDoor.A
open Go.RowKit Go.Proofs.YtnnjmelifmlghaaDoorW.PrintWords Go.Proofs.YtnnjmelifmlghaaDoorW.PrintLast Go.Proofs.YtnnjmelifmlghaaDoorW.PrintMore
attribute [local go_sem] max2_int min2_int max_two min_two max_three min_three max_four min_four   -- for this text's walks alone
set_option linter.unusedVariables false
set_option linter.unusedSimpArgs false

/-! ### disk_Remove: function 39 -/
set_option maxHeartbeats 8000000 in
set_option maxRecDepth 100000 in
theorem disk_Remove.way1 (clock : Int) (A : Option Addr) (c n at_ : Nat) (fs : List S72) (nm : ByteArray) (w : World) (HM : Aside0 (∀ W, Below w.heap.size w W → Calls Tryd.prog 43 #[.agg #[.int .i64 clock, .slice A n c]] W fun e w' => e = .returned (.bool false) ∧ Below W.heap.size W w')) :
    Calls Tryd.prog 39 #[.agg #[.int .i64 clock, .slice A n c], .string nm] w fun e w' => ∃ v', e = .returned (.tuple #[.agg #[.int .i64 0, v'], .int .i64 1200]) ∧ w'.ownsRow w.heap.size 72 3 v' (([] : List S72)).length (encFs (([] : List S72))) ∧ Below w.heap.size w w' := by
  go_enter Tryd.func39, Tryd.ntmps39
  go_wp2_with fail
  have M0 : ((w.alloc (.cells #[.int .i64 clock, .slice A n c] 28)).alloc (.cells #[.int .i64 0, .slice none 0 0] 28)).heap[w.heap.size]? = some (.cells #[.int .i64 clock, .slice A n c] 28 (0, 0)) := blk_alloc (heap_alloc_new w _) _
  have M1 : ((w.alloc (.cells #[.int .i64 clock, .slice A n c] 28)).alloc (.cells #[.int .i64 0, .slice none 0 0] 28)).heap[w.heap.size + 1]? = some (.cells #[.int .i64 0, .slice none 0 0] 28 (0, 0)) := by
    have := heap_alloc_new (w.alloc (.cells #[.int .i64 clock, .slice A n c] 28)) (.cells #[.int .i64 0, .slice none 0 0] 28)
    simpa using this
  have MB := below_alloc (below_alloc (Below.refl w.heap.size w) (.cells #[.int .i64 clock, .slice A n c] 28)) (.cells #[.int .i64 0, .slice none 0 0] 28)
  refine (HM.out _ MB).mono ?_
  rintro e w1 ⟨rfl, hb1⟩
  have N01 := Aside0.mk (blk_below M0 hb1)
  have N11 := Aside0.mk (blk_below M1 hb1)
  have B1 := Aside0.mk (below_step MB hb1)
  clear M0 M1 MB hb1
  have q0 : w1.cell? ⟨w.heap.size, 0, none⟩ = some (.int .i64 clock) := (blk_cell N01.out 0).trans rfl
  have q1 : w1.cell? ⟨w.heap.size, 1, none⟩ = some (.slice A n c) := (blk_cell N01.out 1).trans rfl
  have r0 : w1.cell? ⟨w.heap.size + 1, 0, none⟩ = some (.int .i64 0) := (blk_cell N11.out 0).trans rfl
  have k0 := blk_frozen N11.out 0
  have r1 : w1.cell? ⟨w.heap.size + 1, 1, none⟩ = some (.slice none 0 0) := (blk_cell N11.out 1).trans rfl
  have k1 := blk_frozen N11.out 1
  go_wp2
  have b1 : ((w1.setCell ⟨w.heap.size + 1, 0, none⟩ (.int .i64 0)).setCell ⟨w.heap.size + 1, 1, none⟩ (.slice none 0 0)).heap[w.heap.size + 1]? = some (.cells #[.int .i64 0, .slice none 0 0] 28 (0, 0)) := blk_put (cs := #[.int .i64 0, .slice none 0 0]) (blk_put (cs := #[.int .i64 0, .slice none 0 0]) N11.out 0 _ rfl) 1 _ rfl
  refine bodyPost_ret (results_ct rfl _ _ (w.heap.size + 1) 28 #[.int .i64 0, .slice none 0 0] (0, 0) _ rfl b1 Tryd.underlying28 rfl (by kernel_rfl)) rfl ?_
  exact ⟨_, rfl, ⟨rfl, .inl ⟨rfl, rfl⟩⟩, below_set (below_set B1.out (by omega)) (by omega)⟩
set_option maxHeartbeats 8000000 in
set_option maxRecDepth 100000 in
theorem disk_Remove.way2 (clock : Int) (A : Option Addr) (c n at_ : Nat) (fs : List S72) (nm : ByteArray) (w : World) (HM : Aside0 (∀ W, Below w.heap.size w W → Calls Tryd.prog 43 #[.agg #[.int .i64 clock, .slice A n c]] W fun e w' => e = .returned (.bool true) ∧ Below W.heap.size W w')) (HP : Aside0 (∀ W, Calls Tryd.prog 60 #[.string nm] W fun e w' => e = .returned (.bool false) ∧ Below W.heap.size W w')) :
    Calls Tryd.prog 39 #[.agg #[.int .i64 clock, .slice A n c], .string nm] w fun e w' => ∃ v', e = .returned (.tuple #[.agg #[.int .i64 0, v'], .int .i64 1200]) ∧ w'.ownsRow w.heap.size 72 3 v' (([] : List S72)).length (encFs (([] : List S72))) ∧ Below w.heap.size w w' := by
  go_enter Tryd.func39, Tryd.ntmps39
  go_wp2_with fail
  have M0 : ((w.alloc (.cells #[.int .i64 clock, .slice A n c] 28)).alloc (.cells #[.int .i64 0, .slice none 0 0] 28)).heap[w.heap.size]? = some (.cells #[.int .i64 clock, .slice A n c] 28 (0, 0)) := blk_alloc (heap_alloc_new w _) _
  have M1 : ((w.alloc (.cells #[.int .i64 clock, .slice A n c] 28)).alloc (.cells #[.int .i64 0, .slice none 0 0] 28)).heap[w.heap.size + 1]? = some (.cells #[.int .i64 0, .slice none 0 0] 28 (0, 0)) := by
    have := heap_alloc_new (w.alloc (.cells #[.int .i64 clock, .slice A n c] 28)) (.cells #[.int .i64 0, .slice none 0 0] 28)
    simpa using this
  have MB := below_alloc (below_alloc (Below.refl w.heap.size w) (.cells #[.int .i64 clock, .slice A n c] 28)) (.cells #[.int .i64 0, .slice none 0 0] 28)
  refine (HM.out _ MB).mono ?_
  rintro e w1 ⟨rfl, hb1⟩
  have N01 := Aside0.mk (blk_below M0 hb1)
  have N11 := Aside0.mk (blk_below M1 hb1)
  have B1 := Aside0.mk (below_step MB hb1)
  clear M0 M1 MB hb1
  have q0 : w1.cell? ⟨w.heap.size, 0, none⟩ = some (.int .i64 clock) := (blk_cell N01.out 0).trans rfl
  have q1 : w1.cell? ⟨w.heap.size, 1, none⟩ = some (.slice A n c) := (blk_cell N01.out 1).trans rfl
  have r0 : w1.cell? ⟨w.heap.size + 1, 0, none⟩ = some (.int .i64 0) := (blk_cell N11.out 0).trans rfl
  have k0 := blk_frozen N11.out 0
  have r1 : w1.cell? ⟨w.heap.size + 1, 1, none⟩ = some (.slice none 0 0) := (blk_cell N11.out 1).trans rfl
  have k1 := blk_frozen N11.out 1
  go_wp2_with fail
  refine (HP.out _).mono ?_
  rintro e w2 ⟨rfl, hb2⟩
  clear q0 q1 r0 k0 r1 k1
  have N02 := Aside0.mk (blk_below N01.out hb2)
  have N12 := Aside0.mk (blk_below N11.out hb2)
  have B2 := Aside0.mk (below_step B1.out hb2)
  clear hb2
  have q0 : w2.cell? ⟨w.heap.size, 0, none⟩ = some (.int .i64 clock) := (blk_cell N02.out 0).trans rfl
  have q1 : w2.cell? ⟨w.heap.size, 1, none⟩ = some (.slice A n c) := (blk_cell N02.out 1).trans rfl
  have r0 : w2.cell? ⟨w.heap.size + 1, 0, none⟩ = some (.int .i64 0) := (blk_cell N12.out 0).trans rfl
  have k0 := blk_frozen N12.out 0
  have r1 : w2.cell? ⟨w.heap.size + 1, 1, none⟩ = some (.slice none 0 0) := (blk_cell N12.out 1).trans rfl
  have k1 := blk_frozen N12.out 1
  go_wp2
  have b1 : ((w2.setCell ⟨w.heap.size + 1, 0, none⟩ (.int .i64 0)).setCell ⟨w.heap.size + 1, 1, none⟩ (.slice none 0 0)).heap[w.heap.size + 1]? = some (.cells #[.int .i64 0, .slice none 0 0] 28 (0, 0)) := blk_put (cs := #[.int .i64 0, .slice none 0 0]) (blk_put (cs := #[.int .i64 0, .slice none 0 0]) N12.out 0 _ rfl) 1 _ rfl
  refine bodyPost_ret (results_ct rfl _ _ (w.heap.size + 1) 28 #[.int .i64 0, .slice none 0 0] (0, 0) _ rfl b1 Tryd.underlying28 rfl (by kernel_rfl)) rfl ?_
  exact ⟨_, rfl, ⟨rfl, .inl ⟨rfl, rfl⟩⟩, below_set (below_set B2.out (by omega)) (by omega)⟩
set_option maxHeartbeats 8000000 in
set_option maxRecDepth 100000 in
theorem disk_Remove.way3 (clock : Int) (A : Option Addr) (c n at_ : Nat) (fs : List S72) (nm : ByteArray) (w : World) (HM : Aside0 (∀ W, Below w.heap.size w W → Calls Tryd.prog 43 #[.agg #[.int .i64 clock, .slice A n c]] W fun e w' => e = .returned (.bool true) ∧ Below W.heap.size W w')) (HP : Aside0 (∀ W, Calls Tryd.prog 60 #[.string nm] W fun e w' => e = .returned (.bool true) ∧ Below W.heap.size W w')) (HPL : Aside0 (∀ W, W.heap[w.heap.size]? = some (.cells #[.int .i64 clock, .slice A n c] 28 (0, 0)) → Below w.heap.size w W → Calls Tryd.prog 62 #[.pointer (some ⟨w.heap.size, 0, none⟩), .string nm] W fun e w' => e = .returned (.tuple #[.int .i64 at_, .bool false]) ∧ Below W.heap.size W w')) :
    Calls Tryd.prog 39 #[.agg #[.int .i64 clock, .slice A n c], .string nm] w fun e w' => ∃ v', e = .returned (.tuple #[.agg #[.int .i64 0, v'], .int .i64 1202]) ∧ w'.ownsRow w.heap.size 72 3 v' (([] : List S72)).length (encFs (([] : List S72))) ∧ Below w.heap.size w w' := by
  go_enter Tryd.func39, Tryd.ntmps39
  go_wp2_with fail
  have M0 : ((w.alloc (.cells #[.int .i64 clock, .slice A n c] 28)).alloc (.cells #[.int .i64 0, .slice none 0 0] 28)).heap[w.heap.size]? = some (.cells #[.int .i64 clock, .slice A n c] 28 (0, 0)) := blk_alloc (heap_alloc_new w _) _
  have M1 : ((w.alloc (.cells #[.int .i64 clock, .slice A n c] 28)).alloc (.cells #[.int .i64 0, .slice none 0 0] 28)).heap[w.heap.size + 1]? = some (.cells #[.int .i64 0, .slice none 0 0] 28 (0, 0)) := by
    have := heap_alloc_new (w.alloc (.cells #[.int .i64 clock, .slice A n c] 28)) (.cells #[.int .i64 0, .slice none 0 0] 28)
    simpa using this
  have MB := below_alloc (below_alloc (Below.refl w.heap.size w) (.cells #[.int .i64 clock, .slice A n c] 28)) (.cells #[.int .i64 0, .slice none 0 0] 28)
  refine (HM.out _ MB).mono ?_
  rintro e w1 ⟨rfl, hb1⟩
  have N01 := Aside0.mk (blk_below M0 hb1)
  have N11 := Aside0.mk (blk_below M1 hb1)
  have B1 := Aside0.mk (below_step MB hb1)
  clear M0 M1 MB hb1
  have q0 : w1.cell? ⟨w.heap.size, 0, none⟩ = some (.int .i64 clock) := (blk_cell N01.out 0).trans rfl
  have q1 : w1.cell? ⟨w.heap.size, 1, none⟩ = some (.slice A n c) := (blk_cell N01.out 1).trans rfl
  have r0 : w1.cell? ⟨w.heap.size + 1, 0, none⟩ = some (.int .i64 0) := (blk_cell N11.out 0).trans rfl
  have k0 := blk_frozen N11.out 0
  have r1 : w1.cell? ⟨w.heap.size + 1, 1, none⟩ = some (.slice none 0 0) := (blk_cell N11.out 1).trans rfl
  have k1 := blk_frozen N11.out 1
  go_wp2_with fail
  refine (HP.out _).mono ?_
  rintro e w2 ⟨rfl, hb2⟩
  clear q0 q1 r0 k0 r1 k1
  have N02 := Aside0.mk (blk_below N01.out hb2)
  have N12 := Aside0.mk (blk_below N11.out hb2)
  have B2 := Aside0.mk (below_step B1.out hb2)
  clear hb2
  have q0 : w2.cell? ⟨w.heap.size, 0, none⟩ = some (.int .i64 clock) := (blk_cell N02.out 0).trans rfl
  have q1 : w2.cell? ⟨w.heap.size, 1, none⟩ = some (.slice A n c) := (blk_cell N02.out 1).trans rfl
  have r0 : w2.cell? ⟨w.heap.size + 1, 0, none⟩ = some (.int .i64 0) := (blk_cell N12.out 0).trans rfl
  have k0 := blk_frozen N12.out 0
  have r1 : w2.cell? ⟨w.heap.size + 1, 1, none⟩ = some (.slice none 0 0) := (blk_cell N12.out 1).trans rfl
  have k1 := blk_frozen N12.out 1
  go_wp2_with fail
  refine (HPL.out _ N02.out B2.out).mono ?_
  rintro e w4 ⟨rfl, hb4⟩
  clear q0 q1 r0 k0 r1 k1
  have N04 := Aside0.mk (blk_below N02.out hb4)
  have N14 := Aside0.mk (blk_below N12.out hb4)
  have B4 := Aside0.mk (below_step B2.out hb4)
  clear hb4
  have q0 : w4.cell? ⟨w.heap.size, 0, none⟩ = some (.int .i64 clock) := (blk_cell N04.out 0).trans rfl
  have q1 : w4.cell? ⟨w.heap.size, 1, none⟩ = some (.slice A n c) := (blk_cell N04.out 1).trans rfl
  have r0 : w4.cell? ⟨w.heap.size + 1, 0, none⟩ = some (.int .i64 0) := (blk_cell N14.out 0).trans rfl
  have k0 := blk_frozen N14.out 0
  have r1 : w4.cell? ⟨w.heap.size + 1, 1, none⟩ = some (.slice none 0 0) := (blk_cell N14.out 1).trans rfl
  have k1 := blk_frozen N14.out 1
  go_wp2
  have b1 : ((w4.setCell ⟨w.heap.size + 1, 0, none⟩ (.int .i64 0)).setCell ⟨w.heap.size + 1, 1, none⟩ (.slice none 0 0)).heap[w.heap.size + 1]? = some (.cells #[.int .i64 0, .slice none 0 0] 28 (0, 0)) := blk_put (cs := #[.int .i64 0, .slice none 0 0]) (blk_put (cs := #[.int .i64 0, .slice none 0 0]) N14.out 0 _ rfl) 1 _ rfl
  refine bodyPost_ret (results_ct rfl _ _ (w.heap.size + 1) 28 #[.int .i64 0, .slice none 0 0] (0, 0) _ rfl b1 Tryd.underlying28 rfl (by kernel_rfl)) rfl ?_
  exact ⟨_, rfl, ⟨rfl, .inl ⟨rfl, rfl⟩⟩, below_set (below_set B4.out (by omega)) (by omega)⟩
set_option maxHeartbeats 8000000 in
set_option maxRecDepth 100000 in
theorem disk_Remove.way4 (clock : Int) (A : Option Addr) (c n at_ : Nat) (fs : List S72) (nm : ByteArray) (w : World) (HM : Aside0 (∀ W, Below w.heap.size w W → Calls Tryd.prog 43 #[.agg #[.int .i64 clock, .slice A n c]] W fun e w' => e = .returned (.bool true) ∧ Below W.heap.size W w')) (HP : Aside0 (∀ W, Calls Tryd.prog 60 #[.string nm] W fun e w' => e = .returned (.bool true) ∧ Below W.heap.size W w')) (HPL : Aside0 (∀ W, W.heap[w.heap.size]? = some (.cells #[.int .i64 clock, .slice A n c] 28 (0, 0)) → Below w.heap.size w W → Calls Tryd.prog 62 #[.pointer (some ⟨w.heap.size, 0, none⟩), .string nm] W fun e w' => e = .returned (.tuple #[.int .i64 at_, .bool true]) ∧ Below W.heap.size W w')) (HC : Aside0 (∀ W, Below w.heap.size w W → Calls Tryd.prog 63 #[.agg #[.int .i64 clock, .slice A n c]] W fun e w' => ∃ v', e = .returned (.agg #[.int .i64 clock, v']) ∧ w'.ownsRow W.heap.size 72 3 v' n (encFs fs) ∧ Below W.heap.size W w')) (hat : at_ < n) (hn64 : n ≤ 64) (hfn : fs.length = n) :
    Calls Tryd.prog 39 #[.agg #[.int .i64 clock, .slice A n c], .string nm] w fun e w' => ∃ v', e = .returned (.tuple #[.agg #[.int .i64 clock, v'], .int .i64 0]) ∧ w'.ownsRow w.heap.size 72 3 v' (fs.take at_ ++ fs.drop (at_ + 1)).length (encFs (fs.take at_ ++ fs.drop (at_ + 1))) ∧ Below w.heap.size w w' := by
  go_enter Tryd.func39, Tryd.ntmps39
  go_wp2_with fail
  have M0 : ((w.alloc (.cells #[.int .i64 clock, .slice A n c] 28)).alloc (.cells #[.int .i64 0, .slice none 0 0] 28)).heap[w.heap.size]? = some (.cells #[.int .i64 clock, .slice A n c] 28 (0, 0)) := blk_alloc (heap_alloc_new w _) _
  have M1 : ((w.alloc (.cells #[.int .i64 clock, .slice A n c] 28)).alloc (.cells #[.int .i64 0, .slice none 0 0] 28)).heap[w.heap.size + 1]? = some (.cells #[.int .i64 0, .slice none 0 0] 28 (0, 0)) := by
    have := heap_alloc_new (w.alloc (.cells #[.int .i64 clock, .slice A n c] 28)) (.cells #[.int .i64 0, .slice none 0 0] 28)
    simpa using this
  have MB := below_alloc (below_alloc (Below.refl w.heap.size w) (.cells #[.int .i64 clock, .slice A n c] 28)) (.cells #[.int .i64 0, .slice none 0 0] 28)
  refine (HM.out _ MB).mono ?_
  rintro e w1 ⟨rfl, hb1⟩
  have N01 := Aside0.mk (blk_below M0 hb1)
  have N11 := Aside0.mk (blk_below M1 hb1)
  have B1 := Aside0.mk (below_step MB hb1)
  clear M0 M1 MB hb1
  have q0 : w1.cell? ⟨w.heap.size, 0, none⟩ = some (.int .i64 clock) := (blk_cell N01.out 0).trans rfl
  have q1 : w1.cell? ⟨w.heap.size, 1, none⟩ = some (.slice A n c) := (blk_cell N01.out 1).trans rfl
  have r0 : w1.cell? ⟨w.heap.size + 1, 0, none⟩ = some (.int .i64 0) := (blk_cell N11.out 0).trans rfl
  have k0 := blk_frozen N11.out 0
  have r1 : w1.cell? ⟨w.heap.size + 1, 1, none⟩ = some (.slice none 0 0) := (blk_cell N11.out 1).trans rfl
  have k1 := blk_frozen N11.out 1
  go_wp2_with fail
  refine (HP.out _).mono ?_
  rintro e w2 ⟨rfl, hb2⟩
  clear q0 q1 r0 k0 r1 k1
  have N02 := Aside0.mk (blk_below N01.out hb2)
  have N12 := Aside0.mk (blk_below N11.out hb2)
  have B2 := Aside0.mk (below_step B1.out hb2)
  clear hb2
  have q0 : w2.cell? ⟨w.heap.size, 0, none⟩ = some (.int .i64 clock) := (blk_cell N02.out 0).trans rfl
  have q1 : w2.cell? ⟨w.heap.size, 1, none⟩ = some (.slice A n c) := (blk_cell N02.out 1).trans rfl
  have r0 : w2.cell? ⟨w.heap.size + 1, 0, none⟩ = some (.int .i64 0) := (blk_cell N12.out 0).trans rfl
  have k0 := blk_frozen N12.out 0
  have r1 : w2.cell? ⟨w.heap.size + 1, 1, none⟩ = some (.slice none 0 0) := (blk_cell N12.out 1).trans rfl
  have k1 := blk_frozen N12.out 1
  go_wp2_with fail
  refine (HPL.out _ N02.out B2.out).mono ?_
  rintro e w4 ⟨rfl, hb4⟩
  clear q0 q1 r0 k0 r1 k1
  have N04 := Aside0.mk (blk_below N02.out hb4)
  have N14 := Aside0.mk (blk_below N12.out hb4)
  have B4 := Aside0.mk (below_step B2.out hb4)
  clear hb4
  have q0 : w4.cell? ⟨w.heap.size, 0, none⟩ = some (.int .i64 clock) := (blk_cell N04.out 0).trans rfl
  have q1 : w4.cell? ⟨w.heap.size, 1, none⟩ = some (.slice A n c) := (blk_cell N04.out 1).trans rfl
  have r0 : w4.cell? ⟨w.heap.size + 1, 0, none⟩ = some (.int .i64 0) := (blk_cell N14.out 0).trans rfl
  have k0 := blk_frozen N14.out 0
  have r1 : w4.cell? ⟨w.heap.size + 1, 1, none⟩ = some (.slice none 0 0) := (blk_cell N14.out 1).trans rfl
  have k1 := blk_frozen N14.out 1
  go_wp2_with fail
  refine (HC.out _ B4.out).mono ?_
  rintro e w5 ⟨v', rfl, ho, hb5⟩
  clear q0 q1 r0 k0 r1 k1
  have N05 := Aside0.mk (blk_below N04.out hb5)
  have N15 := Aside0.mk (blk_below N14.out hb5)
  have B5 := Aside0.mk (below_step B4.out hb5)
  obtain ⟨A', c', rfl⟩ := Go.Proofs.YtnnjmelifmlghaaDoorW.Hand2.ownsRow_slice ho
  have HO5 := Aside0.mk ho
  have S5 := Aside0.mk hb5.size
  have S4 := Aside0.mk (show w.heap.size + 1 < w4.heap.size from blk_lt N14.out)
  clear hb5 ho
  have q0 : w5.cell? ⟨w.heap.size, 0, none⟩ = some (.int .i64 clock) := (blk_cell N05.out 0).trans rfl
  have q1 : w5.cell? ⟨w.heap.size, 1, none⟩ = some (.slice A n c) := (blk_cell N05.out 1).trans rfl
  have r0 : w5.cell? ⟨w.heap.size + 1, 0, none⟩ = some (.int .i64 0) := (blk_cell N15.out 0).trans rfl
  have k0 := blk_frozen N15.out 0
  have r1 : w5.cell? ⟨w.heap.size + 1, 1, none⟩ = some (.slice none 0 0) := (blk_cell N15.out 1).trans rfl
  have k1 := blk_frozen N15.out 1
  obtain ⟨g, hA⟩ : ∃ g, (Value.slice A' n c') = .slice (some ⟨g, 0, none⟩) n c' := by
    rcases HO5.out.2 with ⟨_, h0⟩ | ⟨g, c2, cur, he, _⟩
    · omega
    · injection he with h1 h2 h3
      subst h1
      exact ⟨g, rfl⟩
  injection hA with hA
  subst hA
  have HG := Aside0.mk (own_lt HO5.out g rfl)
  have HGB := Aside0.mk (own_base HO5.out g rfl)
  have h5 : Below w5.heap.size w5 (w5.alloc (.cells #[.int .i64 clock, .slice (some ⟨g, 0, none⟩) n c'] 28)) := below_alloc (Below.refl _ _) _
  have hO6 : (w5.alloc (.cells #[.int .i64 clock, .slice (some ⟨g, 0, none⟩) n c'] 28)).ownsRow w4.heap.size 72 3 (.slice (some ⟨g, 0, none⟩) n c') n (encFs fs) := own_move HO5.out (fun k hk => h5.block k (own_lt HO5.out k hk))
  have hx6 : (w5.alloc (.cells #[.int .i64 clock, .slice (some ⟨g, 0, none⟩) n c'] 28)).heap[w5.heap.size]? = some (.cells #[.int .i64 clock, .slice (some ⟨g, 0, none⟩) n c'] 28 (0, 0)) := heap_alloc_new w5 _
  have hr6 := blk_below N15.out h5
  have hat1 : (at_ : Int) < (n : Int) := by omega
  have hat2 : (n : Int) ≤ 64 := by omega
  go_wp2_with fail
  refine (file_Delete.calls g n c' at_ w4.heap.size fs _ hO6 hfn hat).mono ?_
  rintro e w7 ⟨rfl, ho7, hg7⟩
  have hg1 : w5.heap.size ≠ g := fun e => by have := HG.out; omega
  have hg2 : w.heap.size + 1 ≠ g := fun e => by have := HGB.out; have := S4.out; omega
  have hX7 : w7.heap[w5.heap.size]? = some (.cells #[.int .i64 clock, .slice (some ⟨g, 0, none⟩) n c'] 28 (0, 0)) := (hg7.block _ (blk_lt hx6) (by intro e; injection e with e; exact hg1 e)).trans hx6
  have hR7 : w7.heap[w.heap.size + 1]? = some (.cells #[.int .i64 0, .slice none 0 0] 28 (0, 0)) := (hg7.block _ (blk_lt hr6) (by intro e; injection e with e; exact hg2 e)).trans hr6
  have HX7 := Aside0.mk hX7
  have HR7 := Aside0.mk hR7
  have HO7 := Aside0.mk ho7
  have HG7 := Aside0.mk hg7
  have H5 := Aside0.mk h5
  have x0 : w7.cell? ⟨w5.heap.size, 0, none⟩ = some (.int .i64 clock) := (blk_cell hX7 0).trans rfl
  have x1 : w7.cell? ⟨w5.heap.size, 1, none⟩ = some (.slice (some ⟨g, 0, none⟩) n c') := (blk_cell hX7 1).trans rfl
  have y0 := blk_frozen hX7 0
  have y1 := blk_frozen hX7 1
  have hg3 : w.heap.size + 1 ≠ w5.heap.size := by have := S5.out; have := S4.out; omega
  have HFN := Aside0.mk hfn
  clear hO6 hx6 hr6 hX7 hR7 ho7 hg7 h5 hfn
  go_upto_region 8 with (fail)
  have n8 := Aside0.mk (blk_put (cs := #[.int .i64 clock, .slice (some ⟨g, 0, none⟩) n c']) (cs' := #[.int .i64 clock, (.slice (some ⟨g, 0, none⟩) (n - 1) c')]) HX7.out 1 (.slice (some ⟨g, 0, none⟩) (n - 1) c') rfl)
  have r8 := Aside0.mk (blk_far (p := ⟨w5.heap.size, 1, none⟩) HR7.out (by show w.heap.size + 1 ≠ w5.heap.size; exact hg3) (.slice (some ⟨g, 0, none⟩) (n - 1) c'))
  have o8 := Aside0.mk (own_setCell (p := ⟨w5.heap.size, 1, none⟩) HO7.out (by show some w5.heap.size ≠ some g; intro e; injection e with e; exact hg1 e) (.slice (some ⟨g, 0, none⟩) (n - 1) c'))
  have b7 : Below w.heap.size w w7 := (below_then B5.out B5.out.size H5.out).grown HG7.out (by have := S5.out; have := S4.out; have := H5.out.size; omega) (fun k hk => by injection hk with hk; have := HGB.out; have := S4.out; omega)
  have b8 := Aside0.mk (below_set (j := 1) (v := (.slice (some ⟨g, 0, none⟩) (n - 1) c')) b7 (show w.heap.size ≤ w5.heap.size by have := S5.out; have := S4.out; omega))
  clear b7 x0 x1 y0 y1 q0 q1 r0 r1 k0 k1
  generalize w7.setCell ⟨w5.heap.size, 1, none⟩ (.slice (some ⟨g, 0, none⟩) (n - 1) c') = W8 at n8 r8 o8 b8 ⊢
  have x0 : W8.cell? ⟨w5.heap.size, 0, none⟩ = some (.int .i64 clock) := (blk_cell n8.out 0).trans rfl
  have x1 : W8.cell? ⟨w5.heap.size, 1, none⟩ = some (.slice (some ⟨g, 0, none⟩) (n - 1) c') := (blk_cell n8.out 1).trans rfl
  have z0 : W8.cell? ⟨w.heap.size + 1, 0, none⟩ = some (.int .i64 0) := (blk_cell r8.out 0).trans rfl
  have z1 : W8.cell? ⟨w.heap.size + 1, 1, none⟩ = some (.slice none 0 0) := (blk_cell r8.out 1).trans rfl
  have z2 := blk_frozen r8.out 0
  have z3 := blk_frozen r8.out 1
  go_wp2
  have b1 : ((W8.setCell ⟨w.heap.size + 1, 0, none⟩ (.int .i64 clock)).setCell ⟨w.heap.size + 1, 1, none⟩ (.slice (some ⟨g, 0, none⟩) (n - 1) c')).heap[w.heap.size + 1]? = some (.cells #[.int .i64 clock, (.slice (some ⟨g, 0, none⟩) (n - 1) c')] 28 (0, 0)) := blk_put (cs := #[.int .i64 clock, .slice none 0 0]) (blk_put (cs := #[.int .i64 0, .slice none 0 0]) r8.out 0 _ rfl) 1 _ rfl
  refine bodyPost_ret (results_ct rfl _ _ (w.heap.size + 1) 28 #[.int .i64 clock, (.slice (some ⟨g, 0, none⟩) (n - 1) c')] (0, 0) _ rfl b1 Tryd.underlying28 rfl (by kernel_rfl)) rfl ?_
  refine ⟨_, rfl, ?_, below_set (below_set b8.out (by omega)) (by omega)⟩
  rw [show (fs.take at_ ++ fs.drop (at_ + 1)).length = n - 1 by have := HFN.out; simp; omega]
  refine own_weaken (own_setCell (own_setCell o8.out (by show some (w.heap.size + 1) ≠ some g; intro e; injection e with e; exact hg2 e) _) (by show some (w.heap.size + 1) ≠ some g; intro e; injection e with e; exact hg2 e) _) (by have := S4.out; omega)
/-- What a taking away comes to. -/
def removeF (clock : Int) (fs : List S72) (nm : ByteArray) : Int × List S72 × Int :=
  if (diskOk clock fs && Cru.pathOk nm) = true then
    if placeB fs nm = true then (clock, fs.take (placeI fs nm) ++ fs.drop (placeI fs nm + 1), 0) else (0, [], 1202)
  else (0, [], 1200)
def disk_Remove.f (a0_0 : Int) (l0_1 : List S72) (a1 : ByteArray) : Option (Int × List S72 × Int) := if a0_0 ≤ 9223372036854775807 then some (removeF a0_0 l0_1 a1) else none
set_option maxHeartbeats 8000000 in
set_option maxRecDepth 100000 in
theorem disk_Remove.calls (a0_0 : Int) (A0_1 : Option Addr) (c0_1 : Nat) (l0_1 : List (S72)) (a1 : ByteArray) (r1 : Int) (r2 : List (S72)) (r3 : Int) (w : World) (hr0_1 : Kd.C k72 w A0_1 l0_1.length l0_1) (hc0_1 : l0_1.length ≤ c0_1) (h : disk_Remove.f a0_0 l0_1 a1 = some (r1, r2, r3)) :
    Calls Tryd.prog 39 #[.agg #[.int .i64 a0_0, .slice A0_1 l0_1.length c0_1], .string a1] w fun e w' => ∃ v1_ : Value, e = .returned (.tuple #[.agg #[.int .i64 r1, v1_], .int .i64 r3]) ∧ Kd.R k72 72 w' w.heap.size (fun _ => True) v1_ r2 ∧ Below w.heap.size w w' := by
  unfold disk_Remove.f at h
  by_cases hk : a0_0 ≤ 9223372036854775807
  · rw [if_pos hk] at h
    have HM := Aside0.mk (disk_May.any hr0_1 hc0_1 hk)
    have HP := Aside0.mk (path_Is.any a1)
    have e0 : ∀ {r1 : Int} {r2 : List S72} {r3 : Int}, (Calls Tryd.prog 39 #[.agg #[.int .i64 a0_0, .slice A0_1 l0_1.length c0_1], .string a1] w fun e w' => ∃ v', e = .returned (.tuple #[.agg #[.int .i64 r1, v'], .int .i64 r3]) ∧ w'.ownsRow w.heap.size 72 3 v' r2.length (encFs r2) ∧ Below w.heap.size w w') → Calls Tryd.prog 39 #[.agg #[.int .i64 a0_0, .slice A0_1 l0_1.length c0_1], .string a1] w fun e w' => ∃ v', e = .returned (.tuple #[.agg #[.int .i64 r1, v'], .int .i64 r3]) ∧ Kd.R k72 72 w' w.heap.size (fun _ => True) v' r2 ∧ Below w.heap.size w w' := by
      intro r1 r2 r3 hh
      refine hh.mono ?_
      rintro e w' ⟨v', rfl, ho, hb⟩
      exact ⟨v', rfl, R72_of_own ho (fun _ _ => trivial), hb⟩
    unfold removeF at h
    cases hd : diskOk a0_0 l0_1 with
    | false =>
      rw [hd] at h HM
      simp only [Bool.false_and, Bool.false_eq_true, if_false, Option.some.injEq, Prod.mk.injEq] at h
      obtain ⟨rfl, rfl, rfl⟩ := h
      exact e0 (disk_Remove.way1 a0_0 A0_1 c0_1 l0_1.length 0 l0_1 a1 w HM)
    | true =>
      rw [hd] at h HM
      obtain ⟨hc0, hc1, hl⟩ := diskOk_bounds hd
      cases hp : Cru.pathOk a1 with
      | false =>
        rw [hp] at h HP
        simp only [Bool.and_false, Bool.false_eq_true, if_false, Option.some.injEq, Prod.mk.injEq] at h
        obtain ⟨rfl, rfl, rfl⟩ := h
        exact e0 (disk_Remove.way2 a0_0 A0_1 c0_1 l0_1.length 0 l0_1 a1 w HM HP)
      | true =>
        rw [hp] at h HP
        simp only [Bool.and_true, if_true] at h
        have HPL := Aside0.mk (fun W (hW : W.heap[w.heap.size]? = some (.cells #[.int .i64 a0_0, .slice A0_1 l0_1.length c0_1] 28 (0, 0))) (hB : Below w.heap.size w W) => disk_place.calls w.heap.size a0_0 A0_1 c0_1 l0_1 a1 W hW (Kd.C_below hr0_1 hB) (by omega))
        have HC := Aside0.mk (fun W (hB : Below w.heap.size w W) => disk_Copy.calls a0_0 A0_1 c0_1 l0_1 W (Kd.C_below hr0_1 hB) (by omega))
        cases hb : placeB l0_1 a1 with
        | true =>
          rw [hb] at h HPL
          simp only [if_true, Option.some.injEq, Prod.mk.injEq] at h
          obtain ⟨rfl, rfl, rfl⟩ := h
          exact e0 (disk_Remove.way4 a0_0 A0_1 c0_1 l0_1.length (placeI l0_1 a1) l0_1 a1 w HM HP HPL HC (placeB_lt hb) hl rfl)
        | false =>
          rw [hb] at h HPL
          simp only [Bool.false_eq_true, if_false, Option.some.injEq, Prod.mk.injEq] at h
          obtain ⟨rfl, rfl, rfl⟩ := h
          exact e0 (disk_Remove.way3 a0_0 A0_1 c0_1 l0_1.length (placeI l0_1 a1) l0_1 a1 w HM HP HPL)
  · rw [if_neg hk] at h
    cases h


end Go.Proofs.YtnnjmelifmlghaaDoor.A
end

section
set_option linter.unusedVariables false
set_option linter.unusedSimpArgs false
namespace Go.Proofs.YtnnjmelifmlghaaDoor.A
open Go.RowKit Go.Proofs.YtnnjmelifmlghaaDoorW.PrintWords Go.Proofs.YtnnjmelifmlghaaDoorW.PrintLast Go.Proofs.YtnnjmelifmlghaaDoorW.PrintMore
attribute [local go_sem] max2_int min2_int max_two min_two max_three min_three max_four min_four   -- for this text's walks alone
set_option linter.unusedVariables false
set_option linter.unusedSimpArgs false

/-! ### disk_Find: function 41 -/
set_option maxHeartbeats 8000000 in
set_option maxRecDepth 100000 in
theorem disk_Find.way1 (clock : Int) (A : Option Addr) (c n at_ : Nat) (fs : List S72) (nm : ByteArray) (w : World) (HPL : Aside0 (∀ W, W.heap[w.heap.size]? = some (.cells #[.int .i64 clock, .slice A n c] 28 (0, 0)) → Below w.heap.size w W → Calls Tryd.prog 62 #[.pointer (some ⟨w.heap.size, 0, none⟩), .string nm] W fun e w' => e = .returned (.tuple #[.int .i64 at_, .bool false]) ∧ Below W.heap.size W w')) :
    Calls Tryd.prog 41 #[.agg #[.int .i64 clock, .slice A n c], .string nm] w fun e w' => e = .returned (.tuple #[.agg #[.string (⟨#[]⟩ : ByteArray), .int .i64 0, .int .i64 0], .bool false]) ∧ Below w.heap.size w w' := by
  go_enter Tryd.func41, Tryd.ntmps41
  go_wp2_with fail
  have M0 : ((w.alloc (.cells #[.int .i64 clock, .slice A n c] 28)).alloc (.cells #[.string (⟨#[]⟩ : ByteArray), .int .i64 0, .int .i64 0] 72)).heap[w.heap.size]? = some (.cells #[.int .i64 clock, .slice A n c] 28 (0, 0)) := blk_alloc (heap_alloc_new w _) _
  have M1 : ((w.alloc (.cells #[.int .i64 clock, .slice A n c] 28)).alloc (.cells #[.string (⟨#[]⟩ : ByteArray), .int .i64 0, .int .i64 0] 72)).heap[w.heap.size + 1]? = some (.cells #[.string (⟨#[]⟩ : ByteArray), .int .i64 0, .int .i64 0] 72 (0, 0)) := by
    have := heap_alloc_new (w.alloc (.cells #[.int .i64 clock, .slice A n c] 28)) (.cells #[.string (⟨#[]⟩ : ByteArray), .int .i64 0, .int .i64 0] 72)
    simpa using this
  have MB := below_alloc (below_alloc (Below.refl w.heap.size w) (.cells #[.int .i64 clock, .slice A n c] 28)) (.cells #[.string (⟨#[]⟩ : ByteArray), .int .i64 0, .int .i64 0] 72)
  refine (HPL.out _ M0 MB).mono ?_
  rintro e w1 ⟨rfl, hb1⟩
  have N01 := Aside0.mk (blk_below M0 hb1)
  have N11 := Aside0.mk (blk_below M1 hb1)
  have B1 := Aside0.mk (below_step MB hb1)
  clear M0 M1 MB hb1
  have q0 : w1.cell? ⟨w.heap.size, 0, none⟩ = some (.int .i64 clock) := (blk_cell N01.out 0).trans rfl
  have q1 : w1.cell? ⟨w.heap.size, 1, none⟩ = some (.slice A n c) := (blk_cell N01.out 1).trans rfl
  have r0 : w1.cell? ⟨w.heap.size + 1, 0, none⟩ = some (.string (⟨#[]⟩ : ByteArray)) := (blk_cell N11.out 0).trans rfl
  have k0 := blk_frozen N11.out 0
  have r1 : w1.cell? ⟨w.heap.size + 1, 1, none⟩ = some (.int .i64 0) := (blk_cell N11.out 1).trans rfl
  have k1 := blk_frozen N11.out 1
  have r2 : w1.cell? ⟨w.heap.size + 1, 2, none⟩ = some (.int .i64 0) := (blk_cell N11.out 2).trans rfl
  have k2 := blk_frozen N11.out 2
  go_wp2
  have b1 : (((w1.setCell ⟨w.heap.size + 1, 0, none⟩ (.string ⟨#[]⟩)).setCell ⟨w.heap.size + 1, 1, none⟩ (.int .i64 0)).setCell ⟨w.heap.size + 1, 2, none⟩ (.int .i64 0)).heap[w.heap.size + 1]? = some (.cells #[.string (⟨#[]⟩ : ByteArray), .int .i64 0, .int .i64 0] 72 (0, 0)) := blk_put (cs := #[.string (⟨#[]⟩ : ByteArray), .int .i64 0, .int .i64 0]) (blk_put (cs := #[.string (⟨#[]⟩ : ByteArray), .int .i64 0, .int .i64 0]) (blk_put (cs := #[.string (⟨#[]⟩ : ByteArray), .int .i64 0, .int .i64 0]) N11.out 0 _ rfl) 1 _ rfl) 2 _ rfl
  refine bodyPost_ret (results_ct rfl _ _ (w.heap.size + 1) 72 #[.string (⟨#[]⟩ : ByteArray), .int .i64 0, .int .i64 0] (0, 0) _ rfl b1 Tryd.underlying72 rfl (by kernel_rfl)) rfl ?_
  exact ⟨rfl, below_set (below_set (below_set B1.out (by omega)) (by omega)) (by omega)⟩
set_option maxHeartbeats 8000000 in
set_option maxRecDepth 100000 in
theorem disk_Find.way2 (clock : Int) (A : Option Addr) (c n at_ : Nat) (fs : List S72) (nm : ByteArray) (w : World) (HPL : Aside0 (∀ W, W.heap[w.heap.size]? = some (.cells #[.int .i64 clock, .slice A n c] 28 (0, 0)) → Below w.heap.size w W → Calls Tryd.prog 62 #[.pointer (some ⟨w.heap.size, 0, none⟩), .string nm] W fun e w' => e = .returned (.tuple #[.int .i64 at_, .bool true]) ∧ Below W.heap.size W w')) (HM : Aside0 (∀ W, Below w.heap.size w W → Calls Tryd.prog 43 #[.agg #[.int .i64 clock, .slice A n c]] W fun e w' => e = .returned (.bool false) ∧ Below W.heap.size W w')) :
    Calls Tryd.prog 41 #[.agg #[.int .i64 clock, .slice A n c], .string nm] w fun e w' => e = .returned (.tuple #[.agg #[.string (⟨#[]⟩ : ByteArray), .int .i64 0, .int .i64 0], .bool false]) ∧ Below w.heap.size w w' := by
  go_enter Tryd.func41, Tryd.ntmps41
  go_wp2_with fail
  have M0 : ((w.alloc (.cells #[.int .i64 clock, .slice A n c] 28)).alloc (.cells #[.string (⟨#[]⟩ : ByteArray), .int .i64 0, .int .i64 0] 72)).heap[w.heap.size]? = some (.cells #[.int .i64 clock, .slice A n c] 28 (0, 0)) := blk_alloc (heap_alloc_new w _) _
  have M1 : ((w.alloc (.cells #[.int .i64 clock, .slice A n c] 28)).alloc (.cells #[.string (⟨#[]⟩ : ByteArray), .int .i64 0, .int .i64 0] 72)).heap[w.heap.size + 1]? = some (.cells #[.string (⟨#[]⟩ : ByteArray), .int .i64 0, .int .i64 0] 72 (0, 0)) := by
    have := heap_alloc_new (w.alloc (.cells #[.int .i64 clock, .slice A n c] 28)) (.cells #[.string (⟨#[]⟩ : ByteArray), .int .i64 0, .int .i64 0] 72)
    simpa using this
  have MB := below_alloc (below_alloc (Below.refl w.heap.size w) (.cells #[.int .i64 clock, .slice A n c] 28)) (.cells #[.string (⟨#[]⟩ : ByteArray), .int .i64 0, .int .i64 0] 72)
  refine (HPL.out _ M0 MB).mono ?_
  rintro e w1 ⟨rfl, hb1⟩
  have N01 := Aside0.mk (blk_below M0 hb1)
  have N11 := Aside0.mk (blk_below M1 hb1)
  have B1 := Aside0.mk (below_step MB hb1)
  clear M0 M1 MB hb1
  have q0 : w1.cell? ⟨w.heap.size, 0, none⟩ = some (.int .i64 clock) := (blk_cell N01.out 0).trans rfl
  have q1 : w1.cell? ⟨w.heap.size, 1, none⟩ = some (.slice A n c) := (blk_cell N01.out 1).trans rfl
  have r0 : w1.cell? ⟨w.heap.size + 1, 0, none⟩ = some (.string (⟨#[]⟩ : ByteArray)) := (blk_cell N11.out 0).trans rfl
  have k0 := blk_frozen N11.out 0
  have r1 : w1.cell? ⟨w.heap.size + 1, 1, none⟩ = some (.int .i64 0) := (blk_cell N11.out 1).trans rfl
  have k1 := blk_frozen N11.out 1
  have r2 : w1.cell? ⟨w.heap.size + 1, 2, none⟩ = some (.int .i64 0) := (blk_cell N11.out 2).trans rfl
  have k2 := blk_frozen N11.out 2
  go_wp2_with fail
  refine (HM.out _ B1.out).mono ?_
  rintro e w2 ⟨rfl, hb2⟩
  clear q0 q1 r0 k0 r1 k1 r2 k2
  have N02 := Aside0.mk (blk_below N01.out hb2)
  have N12 := Aside0.mk (blk_below N11.out hb2)
  have B2 := Aside0.mk (below_step B1.out hb2)
  clear hb2
  have q0 : w2.cell? ⟨w.heap.size, 0, none⟩ = some (.int .i64 clock) := (blk_cell N02.out 0).trans rfl
  have q1 : w2.cell? ⟨w.heap.size, 1, none⟩ = some (.slice A n c) := (blk_cell N02.out 1).trans rfl
  have r0 : w2.cell? ⟨w.heap.size + 1, 0, none⟩ = some (.string (⟨#[]⟩ : ByteArray)) := (blk_cell N12.out 0).trans rfl
  have k0 := blk_frozen N12.out 0
  have r1 : w2.cell? ⟨w.heap.size + 1, 1, none⟩ = some (.int .i64 0) := (blk_cell N12.out 1).trans rfl
  have k1 := blk_frozen N12.out 1
  have r2 : w2.cell? ⟨w.heap.size + 1, 2, none⟩ = some (.int .i64 0) := (blk_cell N12.out 2).trans rfl
  have k2 := blk_frozen N12.out 2
  go_wp2
  have b1 : (((w2.setCell ⟨w.heap.size + 1, 0, none⟩ (.string ⟨#[]⟩)).setCell ⟨w.heap.size + 1, 1, none⟩ (.int .i64 0)).setCell ⟨w.heap.size + 1, 2, none⟩ (.int .i64 0)).heap[w.heap.size + 1]? = some (.cells #[.string (⟨#[]⟩ : ByteArray), .int .i64 0, .int .i64 0] 72 (0, 0)) := blk_put (cs := #[.string (⟨#[]⟩ : ByteArray), .int .i64 0, .int .i64 0]) (blk_put (cs := #[.string (⟨#[]⟩ : ByteArray), .int .i64 0, .int .i64 0]) (blk_put (cs := #[.string (⟨#[]⟩ : ByteArray), .int .i64 0, .int .i64 0]) N12.out 0 _ rfl) 1 _ rfl) 2 _ rfl
  refine bodyPost_ret (results_ct rfl _ _ (w.heap.size + 1) 72 #[.string (⟨#[]⟩ : ByteArray), .int .i64 0, .int .i64 0] (0, 0) _ rfl b1 Tryd.underlying72 rfl (by kernel_rfl)) rfl ?_
  exact ⟨rfl, below_set (below_set (below_set B2.out (by omega)) (by omega)) (by omega)⟩
set_option maxHeartbeats 8000000 in
set_option maxRecDepth 100000 in
theorem disk_Find.way3 (clock : Int) (A : Option Addr) (c n at_ : Nat) (fs : List S72) (nm : ByteArray) (w : World) (HPL : Aside0 (∀ W, W.heap[w.heap.size]? = some (.cells #[.int .i64 clock, .slice A n c] 28 (0, 0)) → Below w.heap.size w W → Calls Tryd.prog 62 #[.pointer (some ⟨w.heap.size, 0, none⟩), .string nm] W fun e w' => e = .returned (.tuple #[.int .i64 at_, .bool true]) ∧ Below W.heap.size W w')) (HM : Aside0 (∀ W, Below w.heap.size w W → Calls Tryd.prog 43 #[.agg #[.int .i64 clock, .slice A n c]] W fun e w' => e = .returned (.bool true) ∧ Below W.heap.size W w')) (f : S72) (hfe : fs.getD at_ z72 = f) (HR : Aside0 (Kd.C k72 w A n fs)) (hat : at_ < n) :
    Calls Tryd.prog 41 #[.agg #[.int .i64 clock, .slice A n c], .string nm] w fun e w' => e = .returned (.tuple #[.agg #[.string f.f0, .int .i64 f.f1, .int .i64 f.f2], .bool true]) ∧ Below w.heap.size w w' := by
  go_enter Tryd.func41, Tryd.ntmps41
  go_wp2_with fail
  have M0 : ((w.alloc (.cells #[.int .i64 clock, .slice A n c] 28)).alloc (.cells #[.string (⟨#[]⟩ : ByteArray), .int .i64 0, .int .i64 0] 72)).heap[w.heap.size]? = some (.cells #[.int .i64 clock, .slice A n c] 28 (0, 0)) := blk_alloc (heap_alloc_new w _) _
  have M1 : ((w.alloc (.cells #[.int .i64 clock, .slice A n c] 28)).alloc (.cells #[.string (⟨#[]⟩ : ByteArray), .int .i64 0, .int .i64 0] 72)).heap[w.heap.size + 1]? = some (.cells #[.string (⟨#[]⟩ : ByteArray), .int .i64 0, .int .i64 0] 72 (0, 0)) := by
    have := heap_alloc_new (w.alloc (.cells #[.int .i64 clock, .slice A n c] 28)) (.cells #[.string (⟨#[]⟩ : ByteArray), .int .i64 0, .int .i64 0] 72)
    simpa using this
  have MB := below_alloc (below_alloc (Below.refl w.heap.size w) (.cells #[.int .i64 clock, .slice A n c] 28)) (.cells #[.string (⟨#[]⟩ : ByteArray), .int .i64 0, .int .i64 0] 72)
  refine (HPL.out _ M0 MB).mono ?_
  rintro e w1 ⟨rfl, hb1⟩
  have N01 := Aside0.mk (blk_below M0 hb1)
  have N11 := Aside0.mk (blk_below M1 hb1)
  have B1 := Aside0.mk (below_step MB hb1)
  clear M0 M1 MB hb1
  have q0 : w1.cell? ⟨w.heap.size, 0, none⟩ = some (.int .i64 clock) := (blk_cell N01.out 0).trans rfl
  have q1 : w1.cell? ⟨w.heap.size, 1, none⟩ = some (.slice A n c) := (blk_cell N01.out 1).trans rfl
  have r0 : w1.cell? ⟨w.heap.size + 1, 0, none⟩ = some (.string (⟨#[]⟩ : ByteArray)) := (blk_cell N11.out 0).trans rfl
  have k0 := blk_frozen N11.out 0
  have r1 : w1.cell? ⟨w.heap.size + 1, 1, none⟩ = some (.int .i64 0) := (blk_cell N11.out 1).trans rfl
  have k1 := blk_frozen N11.out 1
  have r2 : w1.cell? ⟨w.heap.size + 1, 2, none⟩ = some (.int .i64 0) := (blk_cell N11.out 2).trans rfl
  have k2 := blk_frozen N11.out 2
  go_wp2_with fail
  refine (HM.out _ B1.out).mono ?_
  rintro e w2 ⟨rfl, hb2⟩
  clear q0 q1 r0 k0 r1 k1 r2 k2
  have N02 := Aside0.mk (blk_below N01.out hb2)
  have N12 := Aside0.mk (blk_below N11.out hb2)
  have B2 := Aside0.mk (below_step B1.out hb2)
  clear hb2
  have q0 : w2.cell? ⟨w.heap.size, 0, none⟩ = some (.int .i64 clock) := (blk_cell N02.out 0).trans rfl
  have q1 : w2.cell? ⟨w.heap.size, 1, none⟩ = some (.slice A n c) := (blk_cell N02.out 1).trans rfl
  have r0 : w2.cell? ⟨w.heap.size + 1, 0, none⟩ = some (.string (⟨#[]⟩ : ByteArray)) := (blk_cell N12.out 0).trans rfl
  have k0 := blk_frozen N12.out 0
  have r1 : w2.cell? ⟨w.heap.size + 1, 1, none⟩ = some (.int .i64 0) := (blk_cell N12.out 1).trans rfl
  have k1 := blk_frozen N12.out 1
  have r2 : w2.cell? ⟨w.heap.size + 1, 2, none⟩ = some (.int .i64 0) := (blk_cell N12.out 2).trans rfl
  have k2 := blk_frozen N12.out 2
  obtain ⟨ad, e1, hx0, hx1, hx2⟩ := at_T72 (Kd.C_below HR.out B2.out) (at_ : Int) (by omega) (by omega)
  cases e1
  rw [show Int.toNat (at_ : Int) = at_ from rfl] at hx0 hx1 hx2
  have hf : rd_T72 fs (at_ : Int) = f := hfe
  rw [hf] at hx0 hx1 hx2
  clear hf hfe
  have hat1 : (at_ : Int) < (n : Int) := by omega
  go_wp2
  have b1 : (((w2.setCell ⟨w.heap.size + 1, 0, none⟩ (.string f.f0)).setCell ⟨w.heap.size + 1, 1, none⟩ (.int .i64 f.f1)).setCell ⟨w.heap.size + 1, 2, none⟩ (.int .i64 f.f2)).heap[w.heap.size + 1]? = some (.cells #[.string f.f0, .int .i64 f.f1, .int .i64 f.f2] 72 (0, 0)) := blk_put (cs := #[.string f.f0, .int .i64 f.f1, .int .i64 0]) (blk_put (cs := #[.string f.f0, .int .i64 0, .int .i64 0]) (blk_put (cs := #[.string (⟨#[]⟩ : ByteArray), .int .i64 0, .int .i64 0]) N12.out 0 _ rfl) 1 _ rfl) 2 _ rfl
  refine bodyPost_ret (results_ct rfl _ _ (w.heap.size + 1) 72 #[.string f.f0, .int .i64 f.f1, .int .i64 f.f2] (0, 0) _ rfl b1 Tryd.underlying72 rfl (by kernel_rfl)) rfl ?_
  exact ⟨rfl, below_set (below_set (below_set B2.out (by omega)) (by omega)) (by omega)⟩
/-- What a look comes to. -/
def findF (clock : Int) (fs : List S72) (nm : ByteArray) : ByteArray × Int × Int × Bool :=
  if (placeB fs nm && diskOk clock fs) = true then ((fs.getD (placeI fs nm) z72).f0, (fs.getD (placeI fs nm) z72).f1, (fs.getD (placeI fs nm) z72).f2, true) else ((⟨#[]⟩ : ByteArray), 0, 0, false)
def disk_Find.f (a0_0 : Int) (l0_1 : List S72) (a1 : ByteArray) : Option (ByteArray × Int × Int × Bool) := if a0_0 ≤ 9223372036854775807 ∧ l0_1.length ≤ 4611686018427387903 then some (findF a0_0 l0_1 a1) else none
set_option maxHeartbeats 8000000 in
set_option maxRecDepth 100000 in
theorem disk_Find.calls (a0_0 : Int) (A0_1 : Option Addr) (c0_1 : Nat) (l0_1 : List (S72)) (a1 : ByteArray) (r1 : ByteArray) (r2 : Int) (r3 : Int) (r4 : Bool) (w : World) (hr0_1 : Kd.C k72 w A0_1 l0_1.length l0_1) (hc0_1 : l0_1.length ≤ c0_1) (h : disk_Find.f a0_0 l0_1 a1 = some (r1, r2, r3, r4)) :
    Calls Tryd.prog 41 #[.agg #[.int .i64 a0_0, .slice A0_1 l0_1.length c0_1], .string a1] w fun e w' => e = .returned (.tuple #[.agg #[.string r1, .int .i64 r2, .int .i64 r3], .bool r4]) ∧ Below w.heap.size w w' := by
  unfold disk_Find.f at h
  by_cases hk : a0_0 ≤ 9223372036854775807 ∧ l0_1.length ≤ 4611686018427387903
  · rw [if_pos hk] at h
    obtain ⟨hk, hl⟩ := hk
    have HM := Aside0.mk (disk_May.any hr0_1 hc0_1 hk)
    have HPL := Aside0.mk (fun W (hW : W.heap[w.heap.size]? = some (.cells #[.int .i64 a0_0, .slice A0_1 l0_1.length c0_1] 28 (0, 0))) (hB : Below w.heap.size w W) => disk_place.calls w.heap.size a0_0 A0_1 c0_1 l0_1 a1 W hW (Kd.C_below hr0_1 hB) hl)
    unfold findF at h
    cases hb : placeB l0_1 a1 with
    | false =>
      rw [hb] at h HPL
      simp only [Bool.false_and, Bool.false_eq_true, if_false, Option.some.injEq, Prod.mk.injEq] at h
      obtain ⟨rfl, rfl, rfl, rfl⟩ := h
      exact disk_Find.way1 a0_0 A0_1 c0_1 l0_1.length (placeI l0_1 a1) l0_1 a1 w HPL
    | true =>
      rw [hb] at h HPL
      cases hd : diskOk a0_0 l0_1 with
      | false =>
        rw [hd] at h HM
        simp only [Bool.and_false, Bool.false_eq_true, if_false, Option.some.injEq, Prod.mk.injEq] at h
        obtain ⟨rfl, rfl, rfl, rfl⟩ := h
        exact disk_Find.way2 a0_0 A0_1 c0_1 l0_1.length (placeI l0_1 a1) l0_1 a1 w HPL HM
      | true =>
        rw [hd] at h HM
        simp only [Bool.and_true, if_true, Option.some.injEq, Prod.mk.injEq] at h
        obtain ⟨rfl, rfl, rfl, rfl⟩ := h
        exact disk_Find.way3 a0_0 A0_1 c0_1 l0_1.length (placeI l0_1 a1) l0_1 a1 w HPL HM _ rfl ⟨hr0_1⟩ (placeB_lt hb)
  · rw [if_neg hk] at h
    cases h


end Go.Proofs.YtnnjmelifmlghaaDoor.A
end

section
set_option linter.unusedVariables false
set_option linter.unusedSimpArgs false
namespace Go.Proofs.YtnnjmelifmlghaaDoor.A
open Go.RowKit Go.Proofs.YtnnjmelifmlghaaDoorW.PrintWords Go.Proofs.YtnnjmelifmlghaaDoorW.PrintLast Go.Proofs.YtnnjmelifmlghaaDoorW.PrintMore
attribute [local go_sem] max2_int min2_int max_two min_two max_three min_three max_four min_four   -- for this text's walks alone
set_option linter.unusedVariables false
set_option linter.unusedSimpArgs false

attribute [local go_sem high] eqA72
/-! ### cruciblelaw0_SameFiles: function 46 -/
def cruciblelaw0_SameFiles.l0 : Nat → List (S72) → List (S72) → Int → Option (Bool)
  | 0, _, _, _ => none
  | k + 1, x0, x1, x5 => if x5 < (x0.length : Int) then (if 0 ≤ x5 then (if x5 < (x1.length : Int) then (if (!((((rd_T72 x0 x5).f0).toList) == (((rd_T72 x1 x5).f0).toList)) || (!(((rd_T72 x0 x5).f1) == ((rd_T72 x1 x5).f1)) || (!(((rd_T72 x0 x5).f2) == ((rd_T72 x1 x5).f2))))) = true then (some false) else (cruciblelaw0_SameFiles.l0 k x0 x1 (wrap64 (x5 + 1)))) else (none)) else (none)) else (some true)
def cruciblelaw0_SameFiles.f (k : Nat) (l0 : List (S72)) (l1 : List (S72)) : Option (Bool) := if (l0.length : Int) = (l1.length : Int) then (cruciblelaw0_SameFiles.l0 k l0 l1 0) else (some false)
theorem cruciblelaw0_SameFiles.mono_l : ∀ k, (∀ y0 y1 y2, LeO (cruciblelaw0_SameFiles.l0 k y0 y1 y2) (cruciblelaw0_SameFiles.l0 (k + 1) y0 y1 y2))
  | 0 => fun _ _ _ r h => by simp [cruciblelaw0_SameFiles.l0] at h
  | k + 1 => by
    have ih0 := cruciblelaw0_SameFiles.mono_l k
    · intro y0 y1 y2
      unfold cruciblelaw0_SameFiles.l0
      repeat' first
      | (with_reducible exact ih0 _ _ _)
      | (with_reducible exact LeO.refl _)
      | (with_reducible exact LeO.none _)
      | (with_reducible refine LeO.ite ?_ ?_)
      | (with_reducible refine LeO.bind ?_ (fun _ => ?_))
      | exact ih0 _ _ _
      | exact LeO.none _
      | refine LeO.ite ?_ ?_
      | refine LeO.bind ?_ (fun _ => ?_)
theorem cruciblelaw0_SameFiles.mono : ∀ a0 a1 k, LeO (cruciblelaw0_SameFiles.f k a0 a1) (cruciblelaw0_SameFiles.f (k + 1) a0 a1) := by
  intro a0 a1 k
  have ih0 := cruciblelaw0_SameFiles.mono_l k
  unfold cruciblelaw0_SameFiles.f
  repeat' first
      | (with_reducible exact ih0 _ _ _)
      | (with_reducible exact LeO.refl _)
      | (with_reducible exact LeO.none _)
      | (with_reducible refine LeO.ite ?_ ?_)
      | (with_reducible refine LeO.bind ?_ (fun _ => ?_))
      | exact ih0 _ _ _
      | exact LeO.none _
      | refine LeO.ite ?_ ?_
      | refine LeO.bind ?_ (fun _ => ?_)
set_option maxHeartbeats 8000000 in
set_option maxRecDepth 100000 in
theorem cruciblelaw0_SameFiles.calls (k : Nat) (A0 : Option Addr) (c0 : Nat) (l0 : List (S72)) (A1 : Option Addr) (c1 : Nat) (l1 : List (S72)) (r : Bool) (w : World) (hr0 : Kd.C k72 w A0 l0.length l0) (hc0 : l0.length ≤ c0) (hr1 : Kd.C k72 w A1 l1.length l1) (hc1 : l1.length ≤ c1) (h : cruciblelaw0_SameFiles.f k l0 l1 = some r) :
    Calls Tryd.prog 46 #[.slice A0 l0.length c0, .slice A1 l1.length c1] w fun e w' => e = .returned (.bool r) ∧ Drawn0 w w' := by
  have hu72 := Tryd.underlying72
  have HR0 := Aside0.mk hr0
  have HC0 := Aside0.mk hc0
  clear hr0 hc0
  have HR1 := Aside0.mk hr1
  have HC1 := Aside0.mk hc1
  clear hr1 hc1
  have H : (if (l0.length : Int) = (l1.length : Int) then (cruciblelaw0_SameFiles.l0 k l0 l1 0) else (some false)) = some r := h
  clear h
  by_cases c3 : (l0.length : Int) = (l1.length : Int)
  · rw [if_pos c3] at H
    have c3b0 : ((l0.length : Int) == (l1.length : Int)) = true := beq_iff_eq.mpr c3
    have c3b1 : ((l0.length : Int) != (l1.length : Int)) = false := bne_eq_false_iff_eq.mpr c3
    have c3b2 : (l0.length == l1.length) = true := by first | simpa using c3 | (simp at c3 ⊢; omega)
    clear c3
    have H' := Aside0.mk H
    clear H
    go_enter Tryd.func46, Tryd.ntmps46
    go_wp2
    repeat (go_quiet (fail); try go_wp2)
    go_loopg [5] k (fun kq v5 w' => ∃ (x5_1 : Int), v5 = .int .i64 x5_1 ∧ Aside0 (cruciblelaw0_SameFiles.l0 kq l0 l1 x5_1 = some r) ∧ Aside0 (kq ≤ k) ∧ Drawn0 w w')
    case atStart => exact ⟨(0), (by first | rfl | (simp; done) | (simp [*]; done)), H', ⟨Nat.le_refl _⟩, by repeat (first | exact Drawn0.refl _ | apply Drawn0.step)⟩
    case round =>
      clear H'
      try clear c1
      try clear p2
      try clear c3
      try clear c3b0
      try clear c3b1
      try clear c3b2
      obtain ⟨x5_1, rfl, HA, HK1, ⟨m1, rfl⟩⟩ := hrel
      cases gk with
      | zero => exact absurd HA.out (by simp [cruciblelaw0_SameFiles.l0])
      | succ k1 =>
        have H := HA.out
        clear HA
        simp only [cruciblelaw0_SameFiles.l0] at H
        by_cases c4 : x5_1 < (l0.length : Int)
        · rw [if_pos c4] at H
          have c4b0 : decide (x5_1 < (l0.length : Int)) = true := decide_eq_true c4
          clear c4
          by_cases c5 : 0 ≤ x5_1
          · rw [if_pos c5] at H
            have c5b0 : decide (0 ≤ x5_1) = true := decide_eq_true c5
            clear c5
            by_cases c6 : x5_1 < (l1.length : Int)
            · rw [if_pos c6] at H
              have c6b0 : decide (x5_1 < (l1.length : Int)) = true := decide_eq_true c6
              clear c6
              by_cases c7 : (!((((rd_T72 l0 x5_1).f0).toList) == (((rd_T72 l1 x5_1).f0).toList)) || (!(((rd_T72 l0 x5_1).f1) == ((rd_T72 l1 x5_1).f1)) || (!(((rd_T72 l0 x5_1).f2) == ((rd_T72 l1 x5_1).f2))))) = true
              · rw [if_pos c7] at H
                have c7b0 : (!((((rd_T72 l0 x5_1).f0).toList) == (((rd_T72 l1 x5_1).f0).toList)) || (!(((rd_T72 l0 x5_1).f1) == ((rd_T72 l1 x5_1).f1)) || (!(((rd_T72 l0 x5_1).f2) == ((rd_T72 l1 x5_1).f2))))) = true := c7
                clear c7
                obtain rfl := Option.some.inj H
                have p115 : 0 ≤ (x5_1 : Int) := of_decide_eq_true (by first | (with_reducible assumption) | assumption)
                have q115 : x5_1 < (l0.length : Int) := of_decide_eq_true (by first | (with_reducible assumption) | assumption)
                obtain ⟨ad115, e115, hx115_0, hx115_1, hx115_2⟩ := at_T72 HR0.out x5_1 p115 q115
                cases e115
                replace p115 := eq_true p115
                replace q115 := eq_true q115
                have p116 : 0 ≤ (x5_1 : Int) := of_decide_eq_true (by first | (with_reducible assumption) | assumption)
                have q116 : x5_1 < (l1.length : Int) := of_decide_eq_true (by first | (with_reducible assumption) | assumption)
                obtain ⟨ad116, e116, hx116_0, hx116_1, hx116_2⟩ := at_T72 HR1.out x5_1 p116 q116
                cases e116
                replace p116 := eq_true p116
                replace q116 := eq_true q116
                go_wp2
                repeat (go_quiet (fail); try go_wp2)
                go_ret
                exact ⟨by first | rfl | (simp; done) | (simp [*]; done), by repeat (first | exact Drawn0.refl _ | apply Drawn0.step)⟩
              · rw [if_neg c7] at H
                have c7b0 : (!((((rd_T72 l0 x5_1).f0).toList) == (((rd_T72 l1 x5_1).f0).toList)) || (!(((rd_T72 l0 x5_1).f1) == ((rd_T72 l1 x5_1).f1)) || (!(((rd_T72 l0 x5_1).f2) == ((rd_T72 l1 x5_1).f2))))) = false := by simpa using c7
                clear c7
                have H' := Aside0.mk H
                clear H
                have p115 : 0 ≤ (x5_1 : Int) := of_decide_eq_true (by first | (with_reducible assumption) | assumption)
                have q115 : x5_1 < (l0.length : Int) := of_decide_eq_true (by first | (with_reducible assumption) | assumption)
                obtain ⟨ad115, e115, hx115_0, hx115_1, hx115_2⟩ := at_T72 HR0.out x5_1 p115 q115
                cases e115
                replace p115 := eq_true p115
                replace q115 := eq_true q115
                have p116 : 0 ≤ (x5_1 : Int) := of_decide_eq_true (by first | (with_reducible assumption) | assumption)
                have q116 : x5_1 < (l1.length : Int) := of_decide_eq_true (by first | (with_reducible assumption) | assumption)
                obtain ⟨ad116, e116, hx116_0, hx116_1, hx116_2⟩ := at_T72 HR1.out x5_1 p116 q116
                cases e116
                replace p116 := eq_true p116
                replace q116 := eq_true q116
                go_wp2
                repeat (go_quiet (fail); try go_wp2)
                go_roundg k1
                case measure => have := HK1.out; omega
                case rel => exact ⟨(wrap64 (x5_1 + 1)), (by first | rfl | (simp; done) | (simp [*]; done)), H', ⟨by have := HK1.out; omega⟩, by repeat (first | exact Drawn0.refl _ | apply Drawn0.step)⟩
            · rw [if_neg c6] at H
              exact absurd H (by simp)
          · rw [if_neg c5] at H
            exact absurd H (by simp)
        · rw [if_neg c4] at H
          have c4b0 : decide (x5_1 < (l0.length : Int)) = false := decide_eq_false c4
          clear c4
          obtain rfl := Option.some.inj H
          go_wp2
          repeat (go_quiet (fail); try go_wp2)
          go_ret
          exact ⟨by first | rfl | (simp; done) | (simp [*]; done), by repeat (first | exact Drawn0.refl _ | apply Drawn0.step)⟩
  · rw [if_neg c3] at H
    have c3b0 : ((l0.length : Int) == (l1.length : Int)) = false := beq_eq_false_iff_ne.mpr c3
    have c3b1 : ((l0.length : Int) != (l1.length : Int)) = true := bne_iff_ne.mpr c3
    have c3b2 : (l0.length == l1.length) = false := by first | simpa using c3 | (simp at c3 ⊢; omega)
    obtain rfl := Option.some.inj H
    go_enter Tryd.func46, Tryd.ntmps46
    go_wp2
    repeat (go_quiet (fail); try go_wp2)
    go_ret
    exact ⟨by first | rfl | (simp; done) | (simp [*]; done), by repeat (first | exact Drawn0.refl _ | apply Drawn0.step)⟩

end Go.Proofs.YtnnjmelifmlghaaDoor.A
end

section
set_option linter.unusedVariables false
set_option linter.unusedSimpArgs false
namespace Go.Proofs.YtnnjmelifmlghaaDoor.A
open Go.RowKit Go.Proofs.YtnnjmelifmlghaaDoorW.PrintWords Go.Proofs.YtnnjmelifmlghaaDoorW.PrintLast Go.Proofs.YtnnjmelifmlghaaDoorW.PrintMore
attribute [local go_sem] max2_int min2_int max_two min_two max_three min_three max_four min_four   -- for this text's walks alone
set_option linter.unusedVariables false
set_option linter.unusedSimpArgs false

/-! ### cruciblelaw0_SameDisk: function 31 -/
def cruciblelaw0_SameDisk.f (k : Nat) (a0_0 : Int) (l0_1 : List (S72)) (a1_0 : Int) (l1_1 : List (S72)) : Option (Bool) := if a0_0 = a1_0 then ((cruciblelaw0_SameFiles.f k l0_1 l1_1).bind fun t119 => (some t119)) else (some false)
theorem cruciblelaw0_SameDisk.mono : ∀ a0 a1 a2 a3 k, LeO (cruciblelaw0_SameDisk.f k a0 a1 a2 a3) (cruciblelaw0_SameDisk.f (k + 1) a0 a1 a2 a3) := by
  intro a0 a1 a2 a3 k
  unfold cruciblelaw0_SameDisk.f
  repeat' first
      | (with_reducible exact cruciblelaw0_SameFiles.mono _ _ _)
      | (with_reducible exact LeO.refl _)
      | (with_reducible exact LeO.none _)
      | (with_reducible refine LeO.ite ?_ ?_)
      | (with_reducible refine LeO.bind ?_ (fun _ => ?_))
      | exact cruciblelaw0_SameFiles.mono _ _ _
      | exact LeO.none _
      | refine LeO.ite ?_ ?_
      | refine LeO.bind ?_ (fun _ => ?_)
set_option maxHeartbeats 8000000 in
set_option maxRecDepth 100000 in
theorem cruciblelaw0_SameDisk.calls (k : Nat) (a0_0 : Int) (A0_1 : Option Addr) (c0_1 : Nat) (l0_1 : List (S72)) (a1_0 : Int) (A1_1 : Option Addr) (c1_1 : Nat) (l1_1 : List (S72)) (r : Bool) (w : World) (hr0_1 : Kd.C k72 w A0_1 l0_1.length l0_1) (hc0_1 : l0_1.length ≤ c0_1) (hr1_1 : Kd.C k72 w A1_1 l1_1.length l1_1) (hc1_1 : l1_1.length ≤ c1_1) (h : cruciblelaw0_SameDisk.f k a0_0 l0_1 a1_0 l1_1 = some r) :
    Calls Tryd.prog 31 #[.agg #[.int .i64 a0_0, .slice A0_1 l0_1.length c0_1], .agg #[.int .i64 a1_0, .slice A1_1 l1_1.length c1_1]] w fun e w' => e = .returned (.bool r) ∧ Below w.heap.size w w' := by
  have hu28 := Tryd.underlying28
  have HR0_1 := Aside0.mk hr0_1
  have HC0_1 := Aside0.mk hc0_1
  clear hr0_1 hc0_1
  have HR1_1 := Aside0.mk hr1_1
  have HC1_1 := Aside0.mk hc1_1
  clear hr1_1 hc1_1
  have HB := Aside0.mk (Below.refl w.heap.size w)
  have H : (if a0_0 = a1_0 then ((cruciblelaw0_SameFiles.f k l0_1 l1_1).bind fun t119 => (some t119)) else (some false)) = some r := h
  clear h
  by_cases c3 : a0_0 = a1_0
  · rw [if_pos c3] at H
    have c3b0 : (a0_0 == a1_0) = true := beq_iff_eq.mpr c3
    have c3b1 : (a0_0 != a1_0) = false := bne_eq_false_iff_eq.mpr c3
    clear c3
    replace H := Option.bind_eq_some_iff.mp H
    obtain ⟨t119, A40, H⟩ := H
    replace H : (some t119) = some r := H
    have A4 := Aside0.mk A40
    clear A40
    obtain rfl := Option.some.inj H
    go_enter Tryd.func31, Tryd.ntmps31
    go_wp2_with (first | ((with_reducible refine gate_dst (N := 2) rfl ?_); refine box_event ?hg (N := 2) ?hd (cs := #[.int .i64 a0_0, .slice A0_1 l0_1.length c0_1]) (t := 28) ?hr ?_; (case hd => rfl); (case hg => rfl); (case hr => first | (go_simp; done) | (go_simp; rfl)); intro gb117 hg w5 hbox hb; have n0_ := Aside0.mk (below_step (by repeat (first | (with_reducible first | exact HB.out | apply below_alloc | apply pw_below_drewN | apply below_drew1) | exact HB.out)) hb); have n1_ := Aside0.mk (hbox); have n2_ := Aside0.mk ((by rw [hg]; exact (below_size (by repeat (first | (with_reducible first | exact HB.out | apply below_alloc | apply pw_below_drewN | apply below_drew1) | exact HB.out))) : w.heap.size ≤ gb117)); have n3_ := Aside0.mk ((by rw [hg]; exact (below_size (by repeat (first | (with_reducible first | exact HB.out | apply below_alloc | apply pw_below_drewN | apply below_drew1) | exact HB.out))) : w.heap.size ≤ gb117)); clear HB; have HB := n0_; have BK117 := n1_; have GW117 := n2_; have GE117 := n3_; clear n0_ n1_ n2_ n3_; clear hb hbox hg) | ((with_reducible refine gate_dst (N := 3) rfl ?_); refine box_event ?hg (N := 3) ?hd (cs := #[.int .i64 a1_0, .slice A1_1 l1_1.length c1_1]) (t := 28) ?hr ?_; (case hd => rfl); (case hg => rfl); (case hr => first | (go_simp; done) | (go_simp; rfl)); intro gb118 hg w6 hbox hb; have n0_ := Aside0.mk (blk_below (g := gb117) (o := .cells #[.int .i64 a0_0, .slice A0_1 l0_1.length c0_1] 28 (0, 0)) (by (with_reducible repeat (first | refine blk_drewN ?_ _ | refine blk_drew ?_ | refine blk_alloc ?_ _)); exact BK117.out) hb); have n1_ := Aside0.mk (below_step (by repeat (first | (with_reducible first | exact HB.out | apply below_alloc | apply pw_below_drewN | apply below_drew1 | refine below_set ?_ GE117.out) | exact HB.out)) hb); have n2_ := Aside0.mk (hbox); have n3_ := Aside0.mk ((by rw [hg]; exact (below_size (by repeat (first | (with_reducible first | exact HB.out | apply below_alloc | apply pw_below_drewN | apply below_drew1 | refine below_set ?_ GE117.out) | exact HB.out))) : w.heap.size ≤ gb118)); have n4_ := Aside0.mk ((by rw [hg]; exact (below_size (by repeat (first | (with_reducible first | exact HB.out | apply below_alloc | apply pw_below_drewN | apply below_drew1 | refine below_set ?_ GE117.out) | exact HB.out))) : w.heap.size ≤ gb118)); have n5_ := Aside0.mk ((by rw [hg]; exact Nat.ne_of_lt (blk_lt (g := gb117) (o := .cells #[.int .i64 a0_0, .slice A0_1 l0_1.length c0_1] 28 (0, 0)) (by (with_reducible repeat (first | refine blk_drewN ?_ _ | refine blk_drew ?_ | refine blk_alloc ?_ _)); exact BK117.out)) : gb117 ≠ gb118)); have n6_ := Aside0.mk ((by rw [hg]; exact Nat.ne_of_gt (blk_lt (g := gb117) (o := .cells #[.int .i64 a0_0, .slice A0_1 l0_1.length c0_1] 28 (0, 0)) (by (with_reducible repeat (first | refine blk_drewN ?_ _ | refine blk_drew ?_ | refine blk_alloc ?_ _)); exact BK117.out)) : gb118 ≠ gb117)); clear BK117; clear HB; have BK117 := n0_; have HB := n1_; have BK118 := n2_; have GW118 := n3_; have GE118 := n4_; have NB117_118 := n5_; have NB118_117 := n6_; clear n0_ n1_ n2_ n3_ n4_ n5_ n6_; clear hb hbox hg; have hnb7 := NB117_118.out; have hnc7 := NB118_117.out; have hcz8_0 : w6.cell? ⟨gb117, 0, none⟩ = some (.int .i64 a0_0) := (blk_cell BK117.out 0).trans rfl; have hcz8_1 : w6.cell? ⟨gb117, 1, none⟩ = some (.slice A0_1 l0_1.length c0_1) := (blk_cell BK117.out 1).trans rfl; have hfz8_0 := blk_frozen BK117.out 0; have hfz8_1 := blk_frozen BK117.out 1; have hcz9_0 : w6.cell? ⟨gb118, 0, none⟩ = some (.int .i64 a1_0) := (blk_cell BK118.out 0).trans rfl; have hcz9_1 : w6.cell? ⟨gb118, 1, none⟩ = some (.slice A1_1 l1_1.length c1_1) := (blk_cell BK118.out 1).trans rfl; have hfz9_0 := blk_frozen BK118.out 0; have hfz9_1 := blk_frozen BK118.out 1) | (go_at_call 46; (with_reducible refine (cruciblelaw0_SameFiles.calls k _ _ l0_1 _ _ l1_1 t119 _ ?side1 ?side2 ?side3 ?side4 A4.out).mono ?_); (case side1 => repeat (first | exact (Kd.C_below HR0_1.out HB.out) | (with_reducible refine Kd.C_alloc ?_ _) | (with_reducible refine Kd.C_drewN ?_ _) | (with_reducible refine Kd.C_drew ?_))); (case side2 => exact HC0_1.out); (case side3 => repeat (first | exact (Kd.C_below HR1_1.out HB.out) | (with_reducible refine Kd.C_alloc ?_ _) | (with_reducible refine Kd.C_drewN ?_ _) | (with_reducible refine Kd.C_drew ?_))); (case side4 => exact HC1_1.out); rintro e w' ⟨rfl, ⟨nd, rfl⟩⟩))
    go_ret
    exact ⟨by first | rfl | (simp [errW_none, errW_some] <;> rfl) | (simp [*, errW_none, errW_some] <;> rfl), by repeat (first | (with_reducible first | exact HB.out | apply below_alloc | apply pw_below_drewN | apply below_drew1 | refine below_set ?_ GE117.out | refine below_set ?_ GE118.out) | exact HB.out)⟩
  · rw [if_neg c3] at H
    have c3b0 : (a0_0 == a1_0) = false := beq_eq_false_iff_ne.mpr c3
    have c3b1 : (a0_0 != a1_0) = true := bne_iff_ne.mpr c3
    obtain rfl := Option.some.inj H
    go_enter Tryd.func31, Tryd.ntmps31
    go_wp2_with (first | ((with_reducible refine gate_dst (N := 2) rfl ?_); refine box_event ?hg (N := 2) ?hd (cs := #[.int .i64 a0_0, .slice A0_1 l0_1.length c0_1]) (t := 28) ?hr ?_; (case hd => rfl); (case hg => rfl); (case hr => first | (go_simp; done) | (go_simp; rfl)); intro gb117 hg w10 hbox hb; have n0_ := Aside0.mk (below_step (by repeat (first | (with_reducible first | exact HB.out | apply below_alloc | apply pw_below_drewN | apply below_drew1) | exact HB.out)) hb); have n1_ := Aside0.mk (hbox); have n2_ := Aside0.mk ((by rw [hg]; exact (below_size (by repeat (first | (with_reducible first | exact HB.out | apply below_alloc | apply pw_below_drewN | apply below_drew1) | exact HB.out))) : w.heap.size ≤ gb117)); have n3_ := Aside0.mk ((by rw [hg]; exact (below_size (by repeat (first | (with_reducible first | exact HB.out | apply below_alloc | apply pw_below_drewN | apply below_drew1) | exact HB.out))) : w.heap.size ≤ gb117)); clear HB; have HB := n0_; have BK117 := n1_; have GW117 := n2_; have GE117 := n3_; clear n0_ n1_ n2_ n3_; clear hb hbox hg) | ((with_reducible refine gate_dst (N := 3) rfl ?_); refine box_event ?hg (N := 3) ?hd (cs := #[.int .i64 a1_0, .slice A1_1 l1_1.length c1_1]) (t := 28) ?hr ?_; (case hd => rfl); (case hg => rfl); (case hr => first | (go_simp; done) | (go_simp; rfl)); intro gb118 hg w11 hbox hb; have n0_ := Aside0.mk (blk_below (g := gb117) (o := .cells #[.int .i64 a0_0, .slice A0_1 l0_1.length c0_1] 28 (0, 0)) (by (with_reducible repeat (first | refine blk_drewN ?_ _ | refine blk_drew ?_ | refine blk_alloc ?_ _)); exact BK117.out) hb); have n1_ := Aside0.mk (below_step (by repeat (first | (with_reducible first | exact HB.out | apply below_alloc | apply pw_below_drewN | apply below_drew1 | refine below_set ?_ GE117.out) | exact HB.out)) hb); have n2_ := Aside0.mk (hbox); have n3_ := Aside0.mk ((by rw [hg]; exact (below_size (by repeat (first | (with_reducible first | exact HB.out | apply below_alloc | apply pw_below_drewN | apply below_drew1 | refine below_set ?_ GE117.out) | exact HB.out))) : w.heap.size ≤ gb118)); have n4_ := Aside0.mk ((by rw [hg]; exact (below_size (by repeat (first | (with_reducible first | exact HB.out | apply below_alloc | apply pw_below_drewN | apply below_drew1 | refine below_set ?_ GE117.out) | exact HB.out))) : w.heap.size ≤ gb118)); have n5_ := Aside0.mk ((by rw [hg]; exact Nat.ne_of_lt (blk_lt (g := gb117) (o := .cells #[.int .i64 a0_0, .slice A0_1 l0_1.length c0_1] 28 (0, 0)) (by (with_reducible repeat (first | refine blk_drewN ?_ _ | refine blk_drew ?_ | refine blk_alloc ?_ _)); exact BK117.out)) : gb117 ≠ gb118)); have n6_ := Aside0.mk ((by rw [hg]; exact Nat.ne_of_gt (blk_lt (g := gb117) (o := .cells #[.int .i64 a0_0, .slice A0_1 l0_1.length c0_1] 28 (0, 0)) (by (with_reducible repeat (first | refine blk_drewN ?_ _ | refine blk_drew ?_ | refine blk_alloc ?_ _)); exact BK117.out)) : gb118 ≠ gb117)); clear BK117; clear HB; have BK117 := n0_; have HB := n1_; have BK118 := n2_; have GW118 := n3_; have GE118 := n4_; have NB117_118 := n5_; have NB118_117 := n6_; clear n0_ n1_ n2_ n3_ n4_ n5_ n6_; clear hb hbox hg; have hnb12 := NB117_118.out; have hnc12 := NB118_117.out; have hcz13_0 : w11.cell? ⟨gb117, 0, none⟩ = some (.int .i64 a0_0) := (blk_cell BK117.out 0).trans rfl; have hcz13_1 : w11.cell? ⟨gb117, 1, none⟩ = some (.slice A0_1 l0_1.length c0_1) := (blk_cell BK117.out 1).trans rfl; have hfz13_0 := blk_frozen BK117.out 0; have hfz13_1 := blk_frozen BK117.out 1; have hcz14_0 : w11.cell? ⟨gb118, 0, none⟩ = some (.int .i64 a1_0) := (blk_cell BK118.out 0).trans rfl; have hcz14_1 : w11.cell? ⟨gb118, 1, none⟩ = some (.slice A1_1 l1_1.length c1_1) := (blk_cell BK118.out 1).trans rfl; have hfz14_0 := blk_frozen BK118.out 0; have hfz14_1 := blk_frozen BK118.out 1))
    go_ret
    exact ⟨by first | rfl | (simp [errW_none, errW_some] <;> rfl) | (simp [*, errW_none, errW_some] <;> rfl), by repeat (first | (with_reducible first | exact HB.out | apply below_alloc | apply pw_below_drewN | apply below_drew1 | refine below_set ?_ GE117.out | refine below_set ?_ GE118.out) | exact HB.out)⟩

end Go.Proofs.YtnnjmelifmlghaaDoor.A
end

section
set_option linter.unusedVariables false
set_option linter.unusedSimpArgs false
namespace Go.Proofs.YtnnjmelifmlghaaDoor.A
open Go.RowKit Go.Proofs.YtnnjmelifmlghaaDoorW.PrintWords Go.Proofs.YtnnjmelifmlghaaDoorW.PrintLast Go.Proofs.YtnnjmelifmlghaaDoorW.PrintMore
attribute [local go_sem] max2_int min2_int max_two min_two max_three min_three max_four min_four   -- for this text's walks alone
set_option linter.unusedVariables false
set_option linter.unusedSimpArgs false

/-! ### cruciblelaw12_awake: function 45 -/
def cruciblelaw12_awake.f (k : Nat)  : Option (Bool) := (disk_Put.f 0 ([] : List (S72)) (⟨#[98]⟩ : ByteArray) 7).bind fun bt120 => ((disk_Put.f bt120.1 bt120.2.1 (⟨#[97]⟩ : ByteArray) 9).bind fun bt126 => ((disk_Remove.f bt126.1 bt126.2.1 (⟨#[98]⟩ : ByteArray)).bind fun bt132 => ((disk_Find.f bt126.1 bt126.2.1 (⟨#[98]⟩ : ByteArray)).bind fun bt138 => ((disk_Find.f bt132.1 bt132.2.1 (⟨#[98]⟩ : ByteArray)).bind fun bt143 => ((disk_Remove.f bt132.1 bt132.2.1 (⟨#[98]⟩ : ByteArray)).bind fun bt148 => ((disk_Put.f bt132.1 bt132.2.1 (⟨#[47, 98]⟩ : ByteArray) 9).bind fun bt154 => ((cruciblelaw0_SameDisk.f k bt126.1 bt126.2.1 2 (([(⟨(⟨#[97]⟩ : ByteArray), 9, 2⟩ : S72), (⟨(⟨#[98]⟩ : ByteArray), 7, 1⟩ : S72)] : List (S72)))).bind fun t163 => (if t163 = true then ((cruciblelaw0_Num.f bt120.2.2).bind fun t164 => (if t164 = 0 then ((cruciblelaw0_Num.f bt126.2.2).bind fun t165 => (if t165 = 0 then ((cruciblelaw0_SameDisk.f k bt132.1 bt132.2.1 2 (([(⟨(⟨#[97]⟩ : ByteArray), 9, 2⟩ : S72)] : List (S72)))).bind fun t169 => (if t169 = true then ((cruciblelaw0_Num.f bt132.2.2).bind fun t170 => (if t170 = 0 then (if bt138.2.1 = 7 then (if bt138.2.2.2 = true then (if bt143.2.2.2 = true then (none) else ((cruciblelaw0_Num.f bt148.2.2).bind fun t171 => (if t171 = 1202 then ((cruciblelaw0_Num.f bt154.2.2).bind fun t172 => (if t172 = 1200 then ((disk_May.f bt126.1 bt126.2.1).bind fun t173 => (some t173)) else (none))) else (none)))) else (none)) else (none)) else (none))) else (none))) else (none))) else (none))) else (none)))))))))
theorem cruciblelaw12_awake.mono : ∀ k, LeO (cruciblelaw12_awake.f k ) (cruciblelaw12_awake.f (k + 1) ) := by
  intro  k
  unfold cruciblelaw12_awake.f
  repeat' first
      | (with_reducible exact cruciblelaw0_SameDisk.mono _ _ _ _ _)
      | (with_reducible exact LeO.refl _)
      | (with_reducible exact LeO.none _)
      | (with_reducible refine LeO.ite ?_ ?_)
      | (with_reducible refine LeO.bind ?_ (fun _ => ?_))
      | exact cruciblelaw0_SameDisk.mono _ _ _ _ _
      | exact LeO.none _
      | refine LeO.ite ?_ ?_
      | refine LeO.bind ?_ (fun _ => ?_)
set_option maxHeartbeats 8000000 in
set_option maxRecDepth 100000 in
theorem cruciblelaw12_awake.calls (k : Nat)  (r : Bool) (w : World) (h : cruciblelaw12_awake.f k  = some r) :
    Calls Tryd.prog 45 #[] w fun e w' => e = .returned (.bool r) ∧ Below w.heap.size w w' := by
  have hu28 := Tryd.underlying28
  have hu72 := Tryd.underlying72
  have HB := Aside0.mk (Below.refl w.heap.size w)
  have H : ((disk_Put.f 0 ([] : List (S72)) (⟨#[98]⟩ : ByteArray) 7).bind fun bt120 => ((disk_Put.f bt120.1 bt120.2.1 (⟨#[97]⟩ : ByteArray) 9).bind fun bt126 => ((disk_Remove.f bt126.1 bt126.2.1 (⟨#[98]⟩ : ByteArray)).bind fun bt132 => ((disk_Find.f bt126.1 bt126.2.1 (⟨#[98]⟩ : ByteArray)).bind fun bt138 => ((disk_Find.f bt132.1 bt132.2.1 (⟨#[98]⟩ : ByteArray)).bind fun bt143 => ((disk_Remove.f bt132.1 bt132.2.1 (⟨#[98]⟩ : ByteArray)).bind fun bt148 => ((disk_Put.f bt132.1 bt132.2.1 (⟨#[47, 98]⟩ : ByteArray) 9).bind fun bt154 => ((cruciblelaw0_SameDisk.f k bt126.1 bt126.2.1 2 (([(⟨(⟨#[97]⟩ : ByteArray), 9, 2⟩ : S72), (⟨(⟨#[98]⟩ : ByteArray), 7, 1⟩ : S72)] : List (S72)))).bind fun t163 => (if t163 = true then ((cruciblelaw0_Num.f bt120.2.2).bind fun t164 => (if t164 = 0 then ((cruciblelaw0_Num.f bt126.2.2).bind fun t165 => (if t165 = 0 then ((cruciblelaw0_SameDisk.f k bt132.1 bt132.2.1 2 (([(⟨(⟨#[97]⟩ : ByteArray), 9, 2⟩ : S72)] : List (S72)))).bind fun t169 => (if t169 = true then ((cruciblelaw0_Num.f bt132.2.2).bind fun t170 => (if t170 = 0 then (if bt138.2.1 = 7 then (if bt138.2.2.2 = true then (if bt143.2.2.2 = true then (none) else ((cruciblelaw0_Num.f bt148.2.2).bind fun t171 => (if t171 = 1202 then ((cruciblelaw0_Num.f bt154.2.2).bind fun t172 => (if t172 = 1200 then ((disk_May.f bt126.1 bt126.2.1).bind fun t173 => (some t173)) else (none))) else (none)))) else (none)) else (none)) else (none))) else (none))) else (none))) else (none))) else (none)))))))))) = some r := h
  clear h
  replace H := Option.bind_eq_some_iff.mp H
  obtain ⟨⟨t120, t121, t124⟩, A10, H⟩ := H
  replace H : ((disk_Put.f t120 t121 (⟨#[97]⟩ : ByteArray) 9).bind fun bt126 => ((disk_Remove.f bt126.1 bt126.2.1 (⟨#[98]⟩ : ByteArray)).bind fun bt132 => ((disk_Find.f bt126.1 bt126.2.1 (⟨#[98]⟩ : ByteArray)).bind fun bt138 => ((disk_Find.f bt132.1 bt132.2.1 (⟨#[98]⟩ : ByteArray)).bind fun bt143 => ((disk_Remove.f bt132.1 bt132.2.1 (⟨#[98]⟩ : ByteArray)).bind fun bt148 => ((disk_Put.f bt132.1 bt132.2.1 (⟨#[47, 98]⟩ : ByteArray) 9).bind fun bt154 => ((cruciblelaw0_SameDisk.f k bt126.1 bt126.2.1 2 (([(⟨(⟨#[97]⟩ : ByteArray), 9, 2⟩ : S72), (⟨(⟨#[98]⟩ : ByteArray), 7, 1⟩ : S72)] : List (S72)))).bind fun t163 => (if t163 = true then ((cruciblelaw0_Num.f t124).bind fun t164 => (if t164 = 0 then ((cruciblelaw0_Num.f bt126.2.2).bind fun t165 => (if t165 = 0 then ((cruciblelaw0_SameDisk.f k bt132.1 bt132.2.1 2 (([(⟨(⟨#[97]⟩ : ByteArray), 9, 2⟩ : S72)] : List (S72)))).bind fun t169 => (if t169 = true then ((cruciblelaw0_Num.f bt132.2.2).bind fun t170 => (if t170 = 0 then (if bt138.2.1 = 7 then (if bt138.2.2.2 = true then (if bt143.2.2.2 = true then (none) else ((cruciblelaw0_Num.f bt148.2.2).bind fun t171 => (if t171 = 1202 then ((cruciblelaw0_Num.f bt154.2.2).bind fun t172 => (if t172 = 1200 then ((disk_May.f bt126.1 bt126.2.1).bind fun t173 => (some t173)) else (none))) else (none)))) else (none)) else (none)) else (none))) else (none))) else (none))) else (none))) else (none))))))))) = some r := H
  have A1 := Aside0.mk A10
  clear A10
  replace H := Option.bind_eq_some_iff.mp H
  obtain ⟨⟨t126, t127, t130⟩, A20, H⟩ := H
  replace H : ((disk_Remove.f t126 t127 (⟨#[98]⟩ : ByteArray)).bind fun bt132 => ((disk_Find.f t126 t127 (⟨#[98]⟩ : ByteArray)).bind fun bt138 => ((disk_Find.f bt132.1 bt132.2.1 (⟨#[98]⟩ : ByteArray)).bind fun bt143 => ((disk_Remove.f bt132.1 bt132.2.1 (⟨#[98]⟩ : ByteArray)).bind fun bt148 => ((disk_Put.f bt132.1 bt132.2.1 (⟨#[47, 98]⟩ : ByteArray) 9).bind fun bt154 => ((cruciblelaw0_SameDisk.f k t126 t127 2 (([(⟨(⟨#[97]⟩ : ByteArray), 9, 2⟩ : S72), (⟨(⟨#[98]⟩ : ByteArray), 7, 1⟩ : S72)] : List (S72)))).bind fun t163 => (if t163 = true then ((cruciblelaw0_Num.f t124).bind fun t164 => (if t164 = 0 then ((cruciblelaw0_Num.f t130).bind fun t165 => (if t165 = 0 then ((cruciblelaw0_SameDisk.f k bt132.1 bt132.2.1 2 (([(⟨(⟨#[97]⟩ : ByteArray), 9, 2⟩ : S72)] : List (S72)))).bind fun t169 => (if t169 = true then ((cruciblelaw0_Num.f bt132.2.2).bind fun t170 => (if t170 = 0 then (if bt138.2.1 = 7 then (if bt138.2.2.2 = true then (if bt143.2.2.2 = true then (none) else ((cruciblelaw0_Num.f bt148.2.2).bind fun t171 => (if t171 = 1202 then ((cruciblelaw0_Num.f bt154.2.2).bind fun t172 => (if t172 = 1200 then ((disk_May.f t126 t127).bind fun t173 => (some t173)) else (none))) else (none)))) else (none)) else (none)) else (none))) else (none))) else (none))) else (none))) else (none)))))))) = some r := H
  have A2 := Aside0.mk A20
  clear A20
  replace H := Option.bind_eq_some_iff.mp H
  obtain ⟨⟨t132, t133, t136⟩, A30, H⟩ := H
  replace H : ((disk_Find.f t126 t127 (⟨#[98]⟩ : ByteArray)).bind fun bt138 => ((disk_Find.f t132 t133 (⟨#[98]⟩ : ByteArray)).bind fun bt143 => ((disk_Remove.f t132 t133 (⟨#[98]⟩ : ByteArray)).bind fun bt148 => ((disk_Put.f t132 t133 (⟨#[47, 98]⟩ : ByteArray) 9).bind fun bt154 => ((cruciblelaw0_SameDisk.f k t126 t127 2 (([(⟨(⟨#[97]⟩ : ByteArray), 9, 2⟩ : S72), (⟨(⟨#[98]⟩ : ByteArray), 7, 1⟩ : S72)] : List (S72)))).bind fun t163 => (if t163 = true then ((cruciblelaw0_Num.f t124).bind fun t164 => (if t164 = 0 then ((cruciblelaw0_Num.f t130).bind fun t165 => (if t165 = 0 then ((cruciblelaw0_SameDisk.f k t132 t133 2 (([(⟨(⟨#[97]⟩ : ByteArray), 9, 2⟩ : S72)] : List (S72)))).bind fun t169 => (if t169 = true then ((cruciblelaw0_Num.f t136).bind fun t170 => (if t170 = 0 then (if bt138.2.1 = 7 then (if bt138.2.2.2 = true then (if bt143.2.2.2 = true then (none) else ((cruciblelaw0_Num.f bt148.2.2).bind fun t171 => (if t171 = 1202 then ((cruciblelaw0_Num.f bt154.2.2).bind fun t172 => (if t172 = 1200 then ((disk_May.f t126 t127).bind fun t173 => (some t173)) else (none))) else (none)))) else (none)) else (none)) else (none))) else (none))) else (none))) else (none))) else (none))))))) = some r := H
  have A3 := Aside0.mk A30
  clear A30
  replace H := Option.bind_eq_some_iff.mp H
  obtain ⟨⟨t138, t139, t140, t141⟩, A40, H⟩ := H
  replace H : ((disk_Find.f t132 t133 (⟨#[98]⟩ : ByteArray)).bind fun bt143 => ((disk_Remove.f t132 t133 (⟨#[98]⟩ : ByteArray)).bind fun bt148 => ((disk_Put.f t132 t133 (⟨#[47, 98]⟩ : ByteArray) 9).bind fun bt154 => ((cruciblelaw0_SameDisk.f k t126 t127 2 (([(⟨(⟨#[97]⟩ : ByteArray), 9, 2⟩ : S72), (⟨(⟨#[98]⟩ : ByteArray), 7, 1⟩ : S72)] : List (S72)))).bind fun t163 => (if t163 = true then ((cruciblelaw0_Num.f t124).bind fun t164 => (if t164 = 0 then ((cruciblelaw0_Num.f t130).bind fun t165 => (if t165 = 0 then ((cruciblelaw0_SameDisk.f k t132 t133 2 (([(⟨(⟨#[97]⟩ : ByteArray), 9, 2⟩ : S72)] : List (S72)))).bind fun t169 => (if t169 = true then ((cruciblelaw0_Num.f t136).bind fun t170 => (if t170 = 0 then (if t139 = 7 then (if t141 = true then (if bt143.2.2.2 = true then (none) else ((cruciblelaw0_Num.f bt148.2.2).bind fun t171 => (if t171 = 1202 then ((cruciblelaw0_Num.f bt154.2.2).bind fun t172 => (if t172 = 1200 then ((disk_May.f t126 t127).bind fun t173 => (some t173)) else (none))) else (none)))) else (none)) else (none)) else (none))) else (none))) else (none))) else (none))) else (none)))))) = some r := H
  have A4 := Aside0.mk A40
  clear A40
  replace H := Option.bind_eq_some_iff.mp H
  obtain ⟨⟨t143, t144, t145, t146⟩, A50, H⟩ := H
  replace H : ((disk_Remove.f t132 t133 (⟨#[98]⟩ : ByteArray)).bind fun bt148 => ((disk_Put.f t132 t133 (⟨#[47, 98]⟩ : ByteArray) 9).bind fun bt154 => ((cruciblelaw0_SameDisk.f k t126 t127 2 (([(⟨(⟨#[97]⟩ : ByteArray), 9, 2⟩ : S72), (⟨(⟨#[98]⟩ : ByteArray), 7, 1⟩ : S72)] : List (S72)))).bind fun t163 => (if t163 = true then ((cruciblelaw0_Num.f t124).bind fun t164 => (if t164 = 0 then ((cruciblelaw0_Num.f t130).bind fun t165 => (if t165 = 0 then ((cruciblelaw0_SameDisk.f k t132 t133 2 (([(⟨(⟨#[97]⟩ : ByteArray), 9, 2⟩ : S72)] : List (S72)))).bind fun t169 => (if t169 = true then ((cruciblelaw0_Num.f t136).bind fun t170 => (if t170 = 0 then (if t139 = 7 then (if t141 = true then (if t146 = true then (none) else ((cruciblelaw0_Num.f bt148.2.2).bind fun t171 => (if t171 = 1202 then ((cruciblelaw0_Num.f bt154.2.2).bind fun t172 => (if t172 = 1200 then ((disk_May.f t126 t127).bind fun t173 => (some t173)) else (none))) else (none)))) else (none)) else (none)) else (none))) else (none))) else (none))) else (none))) else (none))))) = some r := H
  have A5 := Aside0.mk A50
  clear A50
  replace H := Option.bind_eq_some_iff.mp H
  obtain ⟨⟨t148, t149, t152⟩, A60, H⟩ := H
  replace H : ((disk_Put.f t132 t133 (⟨#[47, 98]⟩ : ByteArray) 9).bind fun bt154 => ((cruciblelaw0_SameDisk.f k t126 t127 2 (([(⟨(⟨#[97]⟩ : ByteArray), 9, 2⟩ : S72), (⟨(⟨#[98]⟩ : ByteArray), 7, 1⟩ : S72)] : List (S72)))).bind fun t163 => (if t163 = true then ((cruciblelaw0_Num.f t124).bind fun t164 => (if t164 = 0 then ((cruciblelaw0_Num.f t130).bind fun t165 => (if t165 = 0 then ((cruciblelaw0_SameDisk.f k t132 t133 2 (([(⟨(⟨#[97]⟩ : ByteArray), 9, 2⟩ : S72)] : List (S72)))).bind fun t169 => (if t169 = true then ((cruciblelaw0_Num.f t136).bind fun t170 => (if t170 = 0 then (if t139 = 7 then (if t141 = true then (if t146 = true then (none) else ((cruciblelaw0_Num.f t152).bind fun t171 => (if t171 = 1202 then ((cruciblelaw0_Num.f bt154.2.2).bind fun t172 => (if t172 = 1200 then ((disk_May.f t126 t127).bind fun t173 => (some t173)) else (none))) else (none)))) else (none)) else (none)) else (none))) else (none))) else (none))) else (none))) else (none)))) = some r := H
  have A6 := Aside0.mk A60
  clear A60
  replace H := Option.bind_eq_some_iff.mp H
  obtain ⟨⟨t154, t155, t158⟩, A70, H⟩ := H
  replace H : ((cruciblelaw0_SameDisk.f k t126 t127 2 (([(⟨(⟨#[97]⟩ : ByteArray), 9, 2⟩ : S72), (⟨(⟨#[98]⟩ : ByteArray), 7, 1⟩ : S72)] : List (S72)))).bind fun t163 => (if t163 = true then ((cruciblelaw0_Num.f t124).bind fun t164 => (if t164 = 0 then ((cruciblelaw0_Num.f t130).bind fun t165 => (if t165 = 0 then ((cruciblelaw0_SameDisk.f k t132 t133 2 (([(⟨(⟨#[97]⟩ : ByteArray), 9, 2⟩ : S72)] : List (S72)))).bind fun t169 => (if t169 = true then ((cruciblelaw0_Num.f t136).bind fun t170 => (if t170 = 0 then (if t139 = 7 then (if t141 = true then (if t146 = true then (none) else ((cruciblelaw0_Num.f t152).bind fun t171 => (if t171 = 1202 then ((cruciblelaw0_Num.f t158).bind fun t172 => (if t172 = 1200 then ((disk_May.f t126 t127).bind fun t173 => (some t173)) else (none))) else (none)))) else (none)) else (none)) else (none))) else (none))) else (none))) else (none))) else (none))) = some r := H
  have A7 := Aside0.mk A70
  clear A70
  obtain ⟨y160, hy160⟩ : ∃ y_ : List (S72), y_ = (([(⟨(⟨#[97]⟩ : ByteArray), 9, 2⟩ : S72), (⟨(⟨#[98]⟩ : ByteArray), 7, 1⟩ : S72)] : List (S72))) := ⟨_, rfl⟩
  replace H : ((cruciblelaw0_SameDisk.f k t126 t127 2 y160).bind fun t163 => (if t163 = true then ((cruciblelaw0_Num.f t124).bind fun t164 => (if t164 = 0 then ((cruciblelaw0_Num.f t130).bind fun t165 => (if t165 = 0 then ((cruciblelaw0_SameDisk.f k t132 t133 2 (([(⟨(⟨#[97]⟩ : ByteArray), 9, 2⟩ : S72)] : List (S72)))).bind fun t169 => (if t169 = true then ((cruciblelaw0_Num.f t136).bind fun t170 => (if t170 = 0 then (if t139 = 7 then (if t141 = true then (if t146 = true then (none) else ((cruciblelaw0_Num.f t152).bind fun t171 => (if t171 = 1202 then ((cruciblelaw0_Num.f t158).bind fun t172 => (if t172 = 1200 then ((disk_May.f t126 t127).bind fun t173 => (some t173)) else (none))) else (none)))) else (none)) else (none)) else (none))) else (none))) else (none))) else (none))) else (none))) = some r := by first | (rw [hy160]; with_reducible exact H) | (have H2_ := (Option.bind_some _ _).symm.trans H; rw [hy160]; with_reducible exact H2_) | (have H2_ := (Option.bind_some _ _).symm.trans H; with_reducible exact H2_) | with_reducible exact H | (rw [hy160]; exact H) | exact H
  have Ny160 := Aside0.mk hy160
  clear hy160
  replace H := Option.bind_eq_some_iff.mp H
  obtain ⟨t163, A80, H⟩ := H
  replace H : (if t163 = true then ((cruciblelaw0_Num.f t124).bind fun t164 => (if t164 = 0 then ((cruciblelaw0_Num.f t130).bind fun t165 => (if t165 = 0 then ((cruciblelaw0_SameDisk.f k t132 t133 2 (([(⟨(⟨#[97]⟩ : ByteArray), 9, 2⟩ : S72)] : List (S72)))).bind fun t169 => (if t169 = true then ((cruciblelaw0_Num.f t136).bind fun t170 => (if t170 = 0 then (if t139 = 7 then (if t141 = true then (if t146 = true then (none) else ((cruciblelaw0_Num.f t152).bind fun t171 => (if t171 = 1202 then ((cruciblelaw0_Num.f t158).bind fun t172 => (if t172 = 1200 then ((disk_May.f t126 t127).bind fun t173 => (some t173)) else (none))) else (none)))) else (none)) else (none)) else (none))) else (none))) else (none))) else (none))) else (none)) = some r := H
  have A8 := Aside0.mk A80
  clear A80
  by_cases c9 : t163 = true
  · subst c9
    have H1 : ((cruciblelaw0_Num.f t124).bind fun t164 => (if t164 = 0 then ((cruciblelaw0_Num.f t130).bind fun t165 => (if t165 = 0 then ((cruciblelaw0_SameDisk.f k t132 t133 2 (([(⟨(⟨#[97]⟩ : ByteArray), 9, 2⟩ : S72)] : List (S72)))).bind fun t169 => (if t169 = true then ((cruciblelaw0_Num.f t136).bind fun t170 => (if t170 = 0 then (if t139 = 7 then (if t141 = true then (if t146 = true then (none) else ((cruciblelaw0_Num.f t152).bind fun t171 => (if t171 = 1202 then ((cruciblelaw0_Num.f t158).bind fun t172 => (if t172 = 1200 then ((disk_May.f t126 t127).bind fun t173 => (some t173)) else (none))) else (none)))) else (none)) else (none)) else (none))) else (none))) else (none))) else (none))) = some r := by rw [if_pos rfl] at H; exact H
    clear H
    have H := H1
    clear H1
    replace H := Option.bind_eq_some_iff.mp H
    obtain ⟨t164, A100, H⟩ := H
    replace H : (if t164 = 0 then ((cruciblelaw0_Num.f t130).bind fun t165 => (if t165 = 0 then ((cruciblelaw0_SameDisk.f k t132 t133 2 (([(⟨(⟨#[97]⟩ : ByteArray), 9, 2⟩ : S72)] : List (S72)))).bind fun t169 => (if t169 = true then ((cruciblelaw0_Num.f t136).bind fun t170 => (if t170 = 0 then (if t139 = 7 then (if t141 = true then (if t146 = true then (none) else ((cruciblelaw0_Num.f t152).bind fun t171 => (if t171 = 1202 then ((cruciblelaw0_Num.f t158).bind fun t172 => (if t172 = 1200 then ((disk_May.f t126 t127).bind fun t173 => (some t173)) else (none))) else (none)))) else (none)) else (none)) else (none))) else (none))) else (none))) else (none)) = some r := H
    have A10 := Aside0.mk A100
    clear A100
    by_cases c11 : t164 = 0
    · rw [if_pos c11] at H
      have c11b0 : (t164 == 0) = true := beq_iff_eq.mpr c11
      have c11b1 : (t164 != 0) = false := bne_eq_false_iff_eq.mpr c11
      clear c11
      replace H := Option.bind_eq_some_iff.mp H
      obtain ⟨t165, A120, H⟩ := H
      replace H : (if t165 = 0 then ((cruciblelaw0_SameDisk.f k t132 t133 2 (([(⟨(⟨#[97]⟩ : ByteArray), 9, 2⟩ : S72)] : List (S72)))).bind fun t169 => (if t169 = true then ((cruciblelaw0_Num.f t136).bind fun t170 => (if t170 = 0 then (if t139 = 7 then (if t141 = true then (if t146 = true then (none) else ((cruciblelaw0_Num.f t152).bind fun t171 => (if t171 = 1202 then ((cruciblelaw0_Num.f t158).bind fun t172 => (if t172 = 1200 then ((disk_May.f t126 t127).bind fun t173 => (some t173)) else (none))) else (none)))) else (none)) else (none)) else (none))) else (none))) else (none)) = some r := H
      have A12 := Aside0.mk A120
      clear A120
      by_cases c13 : t165 = 0
      · rw [if_pos c13] at H
        have c13b0 : (t165 == 0) = true := beq_iff_eq.mpr c13
        have c13b1 : (t165 != 0) = false := bne_eq_false_iff_eq.mpr c13
        clear c13
        obtain ⟨y166, hy166⟩ : ∃ y_ : List (S72), y_ = (([(⟨(⟨#[97]⟩ : ByteArray), 9, 2⟩ : S72)] : List (S72))) := ⟨_, rfl⟩
        replace H : ((cruciblelaw0_SameDisk.f k t132 t133 2 y166).bind fun t169 => (if t169 = true then ((cruciblelaw0_Num.f t136).bind fun t170 => (if t170 = 0 then (if t139 = 7 then (if t141 = true then (if t146 = true then (none) else ((cruciblelaw0_Num.f t152).bind fun t171 => (if t171 = 1202 then ((cruciblelaw0_Num.f t158).bind fun t172 => (if t172 = 1200 then ((disk_May.f t126 t127).bind fun t173 => (some t173)) else (none))) else (none)))) else (none)) else (none)) else (none))) else (none))) = some r := by first | (rw [hy166]; with_reducible exact H) | (have H2_ := (Option.bind_some _ _).symm.trans H; rw [hy166]; with_reducible exact H2_) | (have H2_ := (Option.bind_some _ _).symm.trans H; with_reducible exact H2_) | with_reducible exact H | (rw [hy166]; exact H) | exact H
        have Ny166 := Aside0.mk hy166
        clear hy166
        replace H := Option.bind_eq_some_iff.mp H
        obtain ⟨t169, A140, H⟩ := H
        replace H : (if t169 = true then ((cruciblelaw0_Num.f t136).bind fun t170 => (if t170 = 0 then (if t139 = 7 then (if t141 = true then (if t146 = true then (none) else ((cruciblelaw0_Num.f t152).bind fun t171 => (if t171 = 1202 then ((cruciblelaw0_Num.f t158).bind fun t172 => (if t172 = 1200 then ((disk_May.f t126 t127).bind fun t173 => (some t173)) else (none))) else (none)))) else (none)) else (none)) else (none))) else (none)) = some r := H
        have A14 := Aside0.mk A140
        clear A140
        by_cases c15 : t169 = true
        · subst c15
          have H1 : ((cruciblelaw0_Num.f t136).bind fun t170 => (if t170 = 0 then (if t139 = 7 then (if t141 = true then (if t146 = true then (none) else ((cruciblelaw0_Num.f t152).bind fun t171 => (if t171 = 1202 then ((cruciblelaw0_Num.f t158).bind fun t172 => (if t172 = 1200 then ((disk_May.f t126 t127).bind fun t173 => (some t173)) else (none))) else (none)))) else (none)) else (none)) else (none))) = some r := by rw [if_pos rfl] at H; exact H
          clear H
          have H := H1
          clear H1
          replace H := Option.bind_eq_some_iff.mp H
          obtain ⟨t170, A160, H⟩ := H
          replace H : (if t170 = 0 then (if t139 = 7 then (if t141 = true then (if t146 = true then (none) else ((cruciblelaw0_Num.f t152).bind fun t171 => (if t171 = 1202 then ((cruciblelaw0_Num.f t158).bind fun t172 => (if t172 = 1200 then ((disk_May.f t126 t127).bind fun t173 => (some t173)) else (none))) else (none)))) else (none)) else (none)) else (none)) = some r := H
          have A16 := Aside0.mk A160
          clear A160
          by_cases c17 : t170 = 0
          · rw [if_pos c17] at H
            have c17b0 : (t170 == 0) = true := beq_iff_eq.mpr c17
            have c17b1 : (t170 != 0) = false := bne_eq_false_iff_eq.mpr c17
            clear c17
            by_cases c18 : t139 = 7
            · rw [if_pos c18] at H
              have c18b0 : (t139 == 7) = true := beq_iff_eq.mpr c18
              have c18b1 : (t139 != 7) = false := bne_eq_false_iff_eq.mpr c18
              clear c18
              by_cases c19 : t141 = true
              · subst c19
                have H1 : (if t146 = true then (none) else ((cruciblelaw0_Num.f t152).bind fun t171 => (if t171 = 1202 then ((cruciblelaw0_Num.f t158).bind fun t172 => (if t172 = 1200 then ((disk_May.f t126 t127).bind fun t173 => (some t173)) else (none))) else (none)))) = some r := by rw [if_pos rfl] at H; exact H
                clear H
                have H := H1
                clear H1
                by_cases c20 : t146 = true
                · subst c20
                  have H1 : (none) = some r := by rw [if_pos rfl] at H; exact H
                  clear H
                  have H := H1
                  clear H1
                  exact absurd H (by simp)
                · replace c20 := Bool.eq_false_iff.mpr c20
                  subst c20
                  have H1 : ((cruciblelaw0_Num.f t152).bind fun t171 => (if t171 = 1202 then ((cruciblelaw0_Num.f t158).bind fun t172 => (if t172 = 1200 then ((disk_May.f t126 t127).bind fun t173 => (some t173)) else (none))) else (none))) = some r := by rw [if_neg (show ¬ (false = true) by decide)] at H; exact H
                  clear H
                  have H := H1
                  clear H1
                  replace H := Option.bind_eq_some_iff.mp H
                  obtain ⟨t171, A210, H⟩ := H
                  replace H : (if t171 = 1202 then ((cruciblelaw0_Num.f t158).bind fun t172 => (if t172 = 1200 then ((disk_May.f t126 t127).bind fun t173 => (some t173)) else (none))) else (none)) = some r := H
                  have A21 := Aside0.mk A210
                  clear A210
                  by_cases c22 : t171 = 1202
                  · rw [if_pos c22] at H
                    have c22b0 : (t171 == 1202) = true := beq_iff_eq.mpr c22
                    have c22b1 : (t171 != 1202) = false := bne_eq_false_iff_eq.mpr c22
                    clear c22
                    replace H := Option.bind_eq_some_iff.mp H
                    obtain ⟨t172, A230, H⟩ := H
                    replace H : (if t172 = 1200 then ((disk_May.f t126 t127).bind fun t173 => (some t173)) else (none)) = some r := H
                    have A23 := Aside0.mk A230
                    clear A230
                    by_cases c24 : t172 = 1200
                    · rw [if_pos c24] at H
                      have c24b0 : (t172 == 1200) = true := beq_iff_eq.mpr c24
                      have c24b1 : (t172 != 1200) = false := bne_eq_false_iff_eq.mpr c24
                      clear c24
                      replace H := Option.bind_eq_some_iff.mp H
                      obtain ⟨t173, A250, H⟩ := H
                      replace H : (some t173) = some r := H
                      have A25 := Aside0.mk A250
                      clear A250
                      obtain rfl := Option.some.inj H
                      go_enter Tryd.func45, Tryd.ntmps45
                      go_wp2_with (first | ((with_reducible refine gate_callee (f := 38) rfl ?_); refine goesL_ (some 17) rfl rfl Tryd.func38 (by kernel_rfl) rfl #[.agg #[.int .i64 0, .slice none 0 0], .string (⟨#[98]⟩ : ByteArray), .int .i64 7] rfl (by (try simp only [List.map_toArray, List.map_cons, List.map_nil]); first | done | rfl | (simp only [List.length_drop, List.length_take]; rfl)) ?_; (refine (disk_Put.calls 0 _ _ ([] : List (S72)) (⟨#[98]⟩ : ByteArray) 7 t120 t121 t124 _ ?side1 ?side2 A1.out).mono ?_); (case side1 => exact Kd.C_nil _ _); (case side2 => exact Nat.le_refl _); rintro e w26 ⟨v122, rfl, ho0, hb⟩; refine ⟨_, rfl, ?_⟩; have n0_ := Aside0.mk (Kd.R_lower ho0 (below_size (by repeat (first | (with_reducible first | exact HB.out | apply below_alloc | apply pw_below_drewN | apply below_drew1) | exact HB.out)))); have n1_ := Aside0.mk (below_step (by repeat (first | (with_reducible first | exact HB.out | apply below_alloc | apply pw_below_drewN | apply below_drew1) | exact HB.out)) hb); clear HB; have HO123 := n0_; have HB := n1_; clear n0_ n1_; (try clear hb); (try clear hb2); (try clear hk); (try clear hi); (try clear ho0)) | ((with_reducible refine gate_dst (N := 1) rfl ?_); (try (refine gate_guard (by rfl) ?_; dsimp only)); refine box_event ?hg (N := 1) ?hd (cs := #[.int .i64 0, .slice none 0 0]) (t := 28) ?hr ?_; (case hd => rfl); (case hg => rfl); (case hr => first | (go_simp; done) | (go_simp; rfl)); intro gb125 hg w27 hbox hb; have n0_ := Aside0.mk (Kd.R_below (by (with_reducible repeat (first | apply Kd.R_alloc | apply Kd.R_drewN | apply Kd.R_drew)); first | exact HO123.out | exact Kd.R_mono (HO123.out) (fun k_ hk => by simp only [Go.Proofs.YtnnjmelifmlghaaDoorW.Hand.slice_ownBlock] at hk ⊢; exact hk)) hb); have n1_ := Aside0.mk (below_step (by repeat (first | (with_reducible first | exact HB.out | apply below_alloc | apply pw_below_drewN | apply below_drew1) | exact HB.out)) hb); have n2_ := Aside0.mk (hbox); have n3_ := Aside0.mk ((by rw [hg]; exact (below_size (by repeat (first | (with_reducible first | exact HB.out | apply below_alloc | apply pw_below_drewN | apply below_drew1) | exact HB.out))) : w.heap.size ≤ gb125)); have n4_ := Aside0.mk ((by rw [hg]; exact (below_size (by repeat (first | (with_reducible first | exact HB.out | apply below_alloc | apply pw_below_drewN | apply below_drew1) | exact HB.out))) : w.heap.size ≤ gb125)); clear HO123; clear HB; have HO123 := n0_; have HB := n1_; have BK125 := n2_; have GW125 := n3_; have GE125 := n4_; clear n0_ n1_ n2_ n3_ n4_; clear hb hbox hg; have hcz28_0 : w27.cell? ⟨gb125, 0, none⟩ = some (.int .i64 0) := (blk_cell BK125.out 0).trans rfl; have hcz28_1 : w27.cell? ⟨gb125, 1, none⟩ = some (.slice none 0 0) := (blk_cell BK125.out 1).trans rfl; have hfz28_0 := blk_frozen BK125.out 0; have hfz28_1 := blk_frozen BK125.out 1; obtain ⟨Ao29, co29, eo29⟩ := Kd.R_slice HO123.out; subst eo29) | ((with_reducible refine gate_callee (f := 38) rfl ?_); refine goesL_ (some 22) rfl rfl Tryd.func38 (by kernel_rfl) rfl #[.agg #[.int .i64 t120, .slice Ao29 t121.length co29], .string (⟨#[97]⟩ : ByteArray), .int .i64 9] rfl (by (try simp only [List.map_toArray, List.map_cons, List.map_nil]); first | done | rfl | (simp only [List.length_drop, List.length_take]; rfl)) ?_; (with_reducible refine (disk_Put.calls t120 _ _ t121 (⟨#[97]⟩ : ByteArray) 9 t126 t127 t130 _ ?side1 ?side2 A2.out).mono ?_); (case side1 => refine (Kd.R_reads' (e := 72) (base := w.heap.size) (ok := fun k_ => True) (n := t121.length) (c := co29) ?_).2.2; exact (by (with_reducible repeat (first | apply Kd.R_alloc | apply Kd.R_drewN | apply Kd.R_drew)); first | exact (Kd.R_mono (Kd.R_far (p := ⟨gb125, 1, none⟩) (Kd.R_far (p := ⟨gb125, 0, none⟩) (Kd.R_types HO123.out BK125.out (by decide)) (fun _ hk => hk.2) (.int .i64 t120)) (fun _ hk => hk.2) (.slice Ao29 t121.length co29)) (fun _ h_ => h_.1)) | exact Kd.R_mono ((Kd.R_mono (Kd.R_far (p := ⟨gb125, 1, none⟩) (Kd.R_far (p := ⟨gb125, 0, none⟩) (Kd.R_types HO123.out BK125.out (by decide)) (fun _ hk => hk.2) (.int .i64 t120)) (fun _ hk => hk.2) (.slice Ao29 t121.length co29)) (fun _ h_ => h_.1))) (fun k_ hk => by simp only [Go.Proofs.YtnnjmelifmlghaaDoorW.Hand.slice_ownBlock] at hk ⊢; exact hk))); (case side2 => exact (Kd.R_reads' HO123.out).2.1); rintro e w30 ⟨v128, rfl, ho0, hb⟩; refine ⟨_, rfl, ?_⟩; have n0_ := Aside0.mk (Kd.R_elder' (by (with_reducible repeat (first | apply Kd.R_alloc | apply Kd.R_drewN | apply Kd.R_drew)); first | exact (Kd.R_mono (Kd.R_far (p := ⟨gb125, 1, none⟩) (Kd.R_far (p := ⟨gb125, 0, none⟩) (Kd.R_types HO123.out BK125.out (by decide)) (fun _ hk => hk.2) (.int .i64 t120)) (fun _ hk => hk.2) (.slice Ao29 t121.length co29)) (fun _ h_ => h_.1)) | exact Kd.R_mono ((Kd.R_mono (Kd.R_far (p := ⟨gb125, 1, none⟩) (Kd.R_far (p := ⟨gb125, 0, none⟩) (Kd.R_types HO123.out BK125.out (by decide)) (fun _ hk => hk.2) (.int .i64 t120)) (fun _ hk => hk.2) (.slice Ao29 t121.length co29)) (fun _ h_ => h_.1))) (fun k_ hk => by simp only [Go.Proofs.YtnnjmelifmlghaaDoorW.Hand.slice_ownBlock] at hk ⊢; exact hk)) (Kd.R_base ho0) hb); have n1_ := Aside0.mk (Kd.R_lower (Kd.R_new' ho0 (Kd.R_lt (by (with_reducible repeat (first | apply Kd.R_alloc | apply Kd.R_drewN | apply Kd.R_drew)); first | exact (Kd.R_mono (Kd.R_far (p := ⟨gb125, 1, none⟩) (Kd.R_far (p := ⟨gb125, 0, none⟩) (Kd.R_types HO123.out BK125.out (by decide)) (fun _ hk => hk.2) (.int .i64 t120)) (fun _ hk => hk.2) (.slice Ao29 t121.length co29)) (fun _ h_ => h_.1)) | exact Kd.R_mono ((Kd.R_mono (Kd.R_far (p := ⟨gb125, 1, none⟩) (Kd.R_far (p := ⟨gb125, 0, none⟩) (Kd.R_types HO123.out BK125.out (by decide)) (fun _ hk => hk.2) (.int .i64 t120)) (fun _ hk => hk.2) (.slice Ao29 t121.length co29)) (fun _ h_ => h_.1))) (fun k_ hk => by simp only [Go.Proofs.YtnnjmelifmlghaaDoorW.Hand.slice_ownBlock] at hk ⊢; exact hk)))) (below_size (by repeat (first | (with_reducible first | exact HB.out | apply below_alloc | apply pw_below_drewN | apply below_drew1 | refine below_set ?_ GE125.out) | exact HB.out)))); have n2_ := Aside0.mk (blk_below (g := gb125) (o := .cells #[.int .i64 t120, .slice Ao29 t121.length co29] 28 (0, 0)) (by (with_reducible repeat (first | refine blk_drewN ?_ _ | refine blk_drew ?_ | refine blk_alloc ?_ _)); refine blk_put (cs := #[.int .i64 t120, .slice none 0 0]) ?_ 1 _ rfl; (with_reducible repeat (first | refine blk_drewN ?_ _ | refine blk_drew ?_ | refine blk_alloc ?_ _)); refine blk_put (cs := #[.int .i64 0, .slice none 0 0]) ?_ 0 _ rfl; (with_reducible repeat (first | refine blk_drewN ?_ _ | refine blk_drew ?_ | refine blk_alloc ?_ _)); exact BK125.out) hb); have n3_ := Aside0.mk (below_step (by repeat (first | (with_reducible first | exact HB.out | apply below_alloc | apply pw_below_drewN | apply below_drew1 | refine below_set ?_ GE125.out) | exact HB.out)) hb); clear HO123; clear BK125; clear HB; have HO123 := n0_; have HO129 := n1_; have BK125 := n2_; have HB := n3_; clear n0_ n1_ n2_ n3_; (try clear hb); (try clear hb2); (try clear hk); (try clear hi); (try clear ho0)) | ((with_reducible refine gate_dst (N := 3) rfl ?_); (try (refine gate_guard (by rfl) ?_; dsimp only)); refine box_event ?hg (N := 3) ?hd (cs := #[.int .i64 0, .slice none 0 0]) (t := 28) ?hr ?_; (case hd => rfl); (case hg => rfl); (case hr => first | (go_simp; done) | (go_simp; rfl)); intro gb131 hg w31 hbox hb; have n0_ := Aside0.mk (Kd.R_below (by (with_reducible repeat (first | apply Kd.R_alloc | apply Kd.R_drewN | apply Kd.R_drew)); first | exact HO123.out | exact Kd.R_mono (HO123.out) (fun k_ hk => by simp only [Go.Proofs.YtnnjmelifmlghaaDoorW.Hand.slice_ownBlock] at hk ⊢; exact hk)) hb); have n1_ := Aside0.mk (Kd.R_below (by (with_reducible repeat (first | apply Kd.R_alloc | apply Kd.R_drewN | apply Kd.R_drew)); first | exact HO129.out | exact Kd.R_mono (HO129.out) (fun k_ hk => by simp only [Go.Proofs.YtnnjmelifmlghaaDoorW.Hand.slice_ownBlock] at hk ⊢; exact hk)) hb); have n2_ := Aside0.mk (blk_below (g := gb125) (o := .cells #[.int .i64 t120, .slice Ao29 t121.length co29] 28 (0, 0)) (by (with_reducible repeat (first | refine blk_drewN ?_ _ | refine blk_drew ?_ | refine blk_alloc ?_ _)); exact BK125.out) hb); have n3_ := Aside0.mk (below_step (by repeat (first | (with_reducible first | exact HB.out | apply below_alloc | apply pw_below_drewN | apply below_drew1 | refine below_set ?_ GE125.out) | exact HB.out)) hb); have n4_ := Aside0.mk (hbox); have n5_ := Aside0.mk ((by rw [hg]; exact (below_size (by repeat (first | (with_reducible first | exact HB.out | apply below_alloc | apply pw_below_drewN | apply below_drew1 | refine below_set ?_ GE125.out) | exact HB.out))) : w.heap.size ≤ gb131)); have n6_ := Aside0.mk ((by rw [hg]; exact (below_size (by repeat (first | (with_reducible first | exact HB.out | apply below_alloc | apply pw_below_drewN | apply below_drew1 | refine below_set ?_ GE125.out) | exact HB.out))) : w.heap.size ≤ gb131)); have n7_ := Aside0.mk ((by rw [hg]; exact Nat.ne_of_lt (blk_lt (g := gb125) (o := .cells #[.int .i64 t120, .slice Ao29 t121.length co29] 28 (0, 0)) (by (with_reducible repeat (first | refine blk_drewN ?_ _ | refine blk_drew ?_ | refine blk_alloc ?_ _)); exact BK125.out)) : gb125 ≠ gb131)); have n8_ := Aside0.mk ((by rw [hg]; exact Nat.ne_of_gt (blk_lt (g := gb125) (o := .cells #[.int .i64 t120, .slice Ao29 t121.length co29] 28 (0, 0)) (by (with_reducible repeat (first | refine blk_drewN ?_ _ | refine blk_drew ?_ | refine blk_alloc ?_ _)); exact BK125.out)) : gb131 ≠ gb125)); clear HO123; clear HO129; clear BK125; clear HB; have HO123 := n0_; have HO129 := n1_; have BK125 := n2_; have HB := n3_; have BK131 := n4_; have GW131 := n5_; have GE131 := n6_; have NB125_131 := n7_; have NB131_125 := n8_; clear n0_ n1_ n2_ n3_ n4_ n5_ n6_ n7_ n8_; clear hb hbox hg; have hnb32 := NB131_125.out; have hnc32 := NB125_131.out; have hcz33_0 : w31.cell? ⟨gb131, 0, none⟩ = some (.int .i64 0) := (blk_cell BK131.out 0).trans rfl; have hcz33_1 : w31.cell? ⟨gb131, 1, none⟩ = some (.slice none 0 0) := (blk_cell BK131.out 1).trans rfl; have hfz33_0 := blk_frozen BK131.out 0; have hfz33_1 := blk_frozen BK131.out 1; obtain ⟨Ao34, co34, eo34⟩ := Kd.R_slice HO129.out; subst eo34) | ((with_reducible refine gate_callee (f := 39) rfl ?_); refine goesL_ (some 27) rfl rfl Tryd.func39 (by kernel_rfl) rfl #[.agg #[.int .i64 t126, .slice Ao34 t127.length co34], .string (⟨#[98]⟩ : ByteArray)] rfl (by (try simp only [List.map_toArray, List.map_cons, List.map_nil]); first | done | rfl | (simp only [List.length_drop, List.length_take]; rfl)) ?_; (with_reducible refine (disk_Remove.calls t126 _ _ t127 (⟨#[98]⟩ : ByteArray) t132 t133 t136 _ ?side1 ?side2 A3.out).mono ?_); (case side1 => refine (Kd.R_reads' (e := 72) (base := w.heap.size) (ok := fun k_ => (True ∧ some k_ ≠ (.slice Ao29 t121.length co29 : Value).ownBlock)) (n := t127.length) (c := co34) ?_).2.2; exact (by (with_reducible repeat (first | apply Kd.R_alloc | apply Kd.R_drewN | apply Kd.R_drew)); first | exact (Kd.R_mono (Kd.R_far (p := ⟨gb131, 1, none⟩) (Kd.R_far (p := ⟨gb131, 0, none⟩) (Kd.R_types HO129.out BK131.out (by decide)) (fun _ hk => hk.2) (.int .i64 t126)) (fun _ hk => hk.2) (.slice Ao34 t127.length co34)) (fun _ h_ => h_.1)) | exact Kd.R_mono ((Kd.R_mono (Kd.R_far (p := ⟨gb131, 1, none⟩) (Kd.R_far (p := ⟨gb131, 0, none⟩) (Kd.R_types HO129.out BK131.out (by decide)) (fun _ hk => hk.2) (.int .i64 t126)) (fun _ hk => hk.2) (.slice Ao34 t127.length co34)) (fun _ h_ => h_.1))) (fun k_ hk => by simp only [Go.Proofs.YtnnjmelifmlghaaDoorW.Hand.slice_ownBlock] at hk ⊢; exact hk))); (case side2 => exact (Kd.R_reads' HO129.out).2.1); rintro e w35 ⟨v134, rfl, ho0, hb⟩; refine ⟨_, rfl, ?_⟩; have n0_ := Aside0.mk (Kd.R_elder' (by (with_reducible repeat (first | apply Kd.R_alloc | apply Kd.R_drewN | apply Kd.R_drew)); first | exact (Kd.R_mono (Kd.R_far (p := ⟨gb131, 1, none⟩) (Kd.R_far (p := ⟨gb131, 0, none⟩) (Kd.R_types HO123.out BK131.out (by decide)) (fun _ hk => hk.2) (.int .i64 t126)) (fun _ hk => hk.2) (.slice Ao34 t127.length co34)) (fun _ h_ => h_.1)) | exact Kd.R_mono ((Kd.R_mono (Kd.R_far (p := ⟨gb131, 1, none⟩) (Kd.R_far (p := ⟨gb131, 0, none⟩) (Kd.R_types HO123.out BK131.out (by decide)) (fun _ hk => hk.2) (.int .i64 t126)) (fun _ hk => hk.2) (.slice Ao34 t127.length co34)) (fun _ h_ => h_.1))) (fun k_ hk => by simp only [Go.Proofs.YtnnjmelifmlghaaDoorW.Hand.slice_ownBlock] at hk ⊢; exact hk)) (Kd.R_base ho0) hb); have n1_ := Aside0.mk (Kd.R_elder' (by (with_reducible repeat (first | apply Kd.R_alloc | apply Kd.R_drewN | apply Kd.R_drew)); first | exact (Kd.R_mono (Kd.R_far (p := ⟨gb131, 1, none⟩) (Kd.R_far (p := ⟨gb131, 0, none⟩) (Kd.R_types HO129.out BK131.out (by decide)) (fun _ hk => hk.2) (.int .i64 t126)) (fun _ hk => hk.2) (.slice Ao34 t127.length co34)) (fun _ h_ => h_.1)) | exact Kd.R_mono ((Kd.R_mono (Kd.R_far (p := ⟨gb131, 1, none⟩) (Kd.R_far (p := ⟨gb131, 0, none⟩) (Kd.R_types HO129.out BK131.out (by decide)) (fun _ hk => hk.2) (.int .i64 t126)) (fun _ hk => hk.2) (.slice Ao34 t127.length co34)) (fun _ h_ => h_.1))) (fun k_ hk => by simp only [Go.Proofs.YtnnjmelifmlghaaDoorW.Hand.slice_ownBlock] at hk ⊢; exact hk)) (Kd.R_base ho0) hb); have n2_ := Aside0.mk (Kd.R_lower (Kd.R_new' (Kd.R_new' ho0 (Kd.R_lt (by (with_reducible repeat (first | apply Kd.R_alloc | apply Kd.R_drewN | apply Kd.R_drew)); first | exact (Kd.R_mono (Kd.R_far (p := ⟨gb131, 1, none⟩) (Kd.R_far (p := ⟨gb131, 0, none⟩) (Kd.R_types HO123.out BK131.out (by decide)) (fun _ hk => hk.2) (.int .i64 t126)) (fun _ hk => hk.2) (.slice Ao34 t127.length co34)) (fun _ h_ => h_.1)) | exact Kd.R_mono ((Kd.R_mono (Kd.R_far (p := ⟨gb131, 1, none⟩) (Kd.R_far (p := ⟨gb131, 0, none⟩) (Kd.R_types HO123.out BK131.out (by decide)) (fun _ hk => hk.2) (.int .i64 t126)) (fun _ hk => hk.2) (.slice Ao34 t127.length co34)) (fun _ h_ => h_.1))) (fun k_ hk => by simp only [Go.Proofs.YtnnjmelifmlghaaDoorW.Hand.slice_ownBlock] at hk ⊢; exact hk)))) (Kd.R_lt (by (with_reducible repeat (first | apply Kd.R_alloc | apply Kd.R_drewN | apply Kd.R_drew)); first | exact (Kd.R_mono (Kd.R_far (p := ⟨gb131, 1, none⟩) (Kd.R_far (p := ⟨gb131, 0, none⟩) (Kd.R_types HO129.out BK131.out (by decide)) (fun _ hk => hk.2) (.int .i64 t126)) (fun _ hk => hk.2) (.slice Ao34 t127.length co34)) (fun _ h_ => h_.1)) | exact Kd.R_mono ((Kd.R_mono (Kd.R_far (p := ⟨gb131, 1, none⟩) (Kd.R_far (p := ⟨gb131, 0, none⟩) (Kd.R_types HO129.out BK131.out (by decide)) (fun _ hk => hk.2) (.int .i64 t126)) (fun _ hk => hk.2) (.slice Ao34 t127.length co34)) (fun _ h_ => h_.1))) (fun k_ hk => by simp only [Go.Proofs.YtnnjmelifmlghaaDoorW.Hand.slice_ownBlock] at hk ⊢; exact hk)))) (below_size (by repeat (first | (with_reducible first | exact HB.out | apply below_alloc | apply pw_below_drewN | apply below_drew1 | refine below_set ?_ GE125.out | refine below_set ?_ GE131.out) | exact HB.out)))); have n3_ := Aside0.mk (blk_below (g := gb125) (o := .cells #[.int .i64 t120, .slice Ao29 t121.length co29] 28 (0, 0)) (by (with_reducible repeat (first | refine blk_drewN ?_ _ | refine blk_drew ?_ | refine blk_alloc ?_ _)); refine blk_far ?_ NB125_131.out _; (with_reducible repeat (first | refine blk_drewN ?_ _ | refine blk_drew ?_ | refine blk_alloc ?_ _)); refine blk_far ?_ NB125_131.out _; (with_reducible repeat (first | refine blk_drewN ?_ _ | refine blk_drew ?_ | refine blk_alloc ?_ _)); exact BK125.out) hb); have n4_ := Aside0.mk (blk_below (g := gb131) (o := .cells #[.int .i64 t126, .slice Ao34 t127.length co34] 28 (0, 0)) (by (with_reducible repeat (first | refine blk_drewN ?_ _ | refine blk_drew ?_ | refine blk_alloc ?_ _)); refine blk_put (cs := #[.int .i64 t126, .slice none 0 0]) ?_ 1 _ rfl; (with_reducible repeat (first | refine blk_drewN ?_ _ | refine blk_drew ?_ | refine blk_alloc ?_ _)); refine blk_put (cs := #[.int .i64 0, .slice none 0 0]) ?_ 0 _ rfl; (with_reducible repeat (first | refine blk_drewN ?_ _ | refine blk_drew ?_ | refine blk_alloc ?_ _)); exact BK131.out) hb); have n5_ := Aside0.mk (below_step (by repeat (first | (with_reducible first | exact HB.out | apply below_alloc | apply pw_below_drewN | apply below_drew1 | refine below_set ?_ GE125.out | refine below_set ?_ GE131.out) | exact HB.out)) hb); clear HO123; clear HO129; clear BK125; clear BK131; clear HB; have HO123 := n0_; have HO129 := n1_; have HO135 := n2_; have BK125 := n3_; have BK131 := n4_; have HB := n5_; clear n0_ n1_ n2_ n3_ n4_ n5_; (try clear hb); (try clear hb2); (try clear hk); (try clear hi); (try clear ho0)) | ((with_reducible refine gate_dst (N := 5) rfl ?_); (try (refine gate_guard (by rfl) ?_; dsimp only)); refine box_event ?hg (N := 5) ?hd (cs := #[.int .i64 0, .slice none 0 0]) (t := 28) ?hr ?_; (case hd => rfl); (case hg => rfl); (case hr => first | (go_simp; done) | (go_simp; rfl)); intro gb137 hg w36 hbox hb; have n0_ := Aside0.mk (Kd.R_below (by (with_reducible repeat (first | apply Kd.R_alloc | apply Kd.R_drewN | apply Kd.R_drew)); first | exact HO123.out | exact Kd.R_mono (HO123.out) (fun k_ hk => by simp only [Go.Proofs.YtnnjmelifmlghaaDoorW.Hand.slice_ownBlock] at hk ⊢; exact hk)) hb); have n1_ := Aside0.mk (Kd.R_below (by (with_reducible repeat (first | apply Kd.R_alloc | apply Kd.R_drewN | apply Kd.R_drew)); first | exact HO129.out | exact Kd.R_mono (HO129.out) (fun k_ hk => by simp only [Go.Proofs.YtnnjmelifmlghaaDoorW.Hand.slice_ownBlock] at hk ⊢; exact hk)) hb); have n2_ := Aside0.mk (Kd.R_below (by (with_reducible repeat (first | apply Kd.R_alloc | apply Kd.R_drewN | apply Kd.R_drew)); first | exact HO135.out | exact Kd.R_mono (HO135.out) (fun k_ hk => by simp only [Go.Proofs.YtnnjmelifmlghaaDoorW.Hand.slice_ownBlock] at hk ⊢; exact hk)) hb); have n3_ := Aside0.mk (blk_below (g := gb125) (o := .cells #[.int .i64 t120, .slice Ao29 t121.length co29] 28 (0, 0)) (by (with_reducible repeat (first | refine blk_drewN ?_ _ | refine blk_drew ?_ | refine blk_alloc ?_ _)); exact BK125.out) hb); have n4_ := Aside0.mk (blk_below (g := gb131) (o := .cells #[.int .i64 t126, .slice Ao34 t127.length co34] 28 (0, 0)) (by (with_reducible repeat (first | refine blk_drewN ?_ _ | refine blk_drew ?_ | refine blk_alloc ?_ _)); exact BK131.out) hb); have n5_ := Aside0.mk (below_step (by repeat (first | (with_reducible first | exact HB.out | apply below_alloc | apply pw_below_drewN | apply below_drew1 | refine below_set ?_ GE125.out | refine below_set ?_ GE131.out) | exact HB.out)) hb); have n6_ := Aside0.mk (hbox); have n7_ := Aside0.mk ((by rw [hg]; exact (below_size (by repeat (first | (with_reducible first | exact HB.out | apply below_alloc | apply pw_below_drewN | apply below_drew1 | refine below_set ?_ GE125.out | refine below_set ?_ GE131.out) | exact HB.out))) : w.heap.size ≤ gb137)); have n8_ := Aside0.mk ((by rw [hg]; exact (below_size (by repeat (first | (with_reducible first | exact HB.out | apply below_alloc | apply pw_below_drewN | apply below_drew1 | refine below_set ?_ GE125.out | refine below_set ?_ GE131.out) | exact HB.out))) : w.heap.size ≤ gb137)); have n9_ := Aside0.mk ((by rw [hg]; exact Nat.ne_of_lt (blk_lt (g := gb125) (o := .cells #[.int .i64 t120, .slice Ao29 t121.length co29] 28 (0, 0)) (by (with_reducible repeat (first | refine blk_drewN ?_ _ | refine blk_drew ?_ | refine blk_alloc ?_ _)); exact BK125.out)) : gb125 ≠ gb137)); have n10_ := Aside0.mk ((by rw [hg]; exact Nat.ne_of_gt (blk_lt (g := gb125) (o := .cells #[.int .i64 t120, .slice Ao29 t121.length co29] 28 (0, 0)) (by (with_reducible repeat (first | refine blk_drewN ?_ _ | refine blk_drew ?_ | refine blk_alloc ?_ _)); exact BK125.out)) : gb137 ≠ gb125)); have n11_ := Aside0.mk ((by rw [hg]; exact Nat.ne_of_lt (blk_lt (g := gb131) (o := .cells #[.int .i64 t126, .slice Ao34 t127.length co34] 28 (0, 0)) (by (with_reducible repeat (first | refine blk_drewN ?_ _ | refine blk_drew ?_ | refine blk_alloc ?_ _)); exact BK131.out)) : gb131 ≠ gb137)); have n12_ := Aside0.mk ((by rw [hg]; exact Nat.ne_of_gt (blk_lt (g := gb131) (o := .cells #[.int .i64 t126, .slice Ao34 t127.length co34] 28 (0, 0)) (by (with_reducible repeat (first | refine blk_drewN ?_ _ | refine blk_drew ?_ | refine blk_alloc ?_ _)); exact BK131.out)) : gb137 ≠ gb131)); clear HO123; clear HO129; clear HO135; clear BK125; clear BK131; clear HB; have HO123 := n0_; have HO129 := n1_; have HO135 := n2_; have BK125 := n3_; have BK131 := n4_; have HB := n5_; have BK137 := n6_; have GW137 := n7_; have GE137 := n8_; have NB125_137 := n9_; have NB137_125 := n10_; have NB131_137 := n11_; have NB137_131 := n12_; clear n0_ n1_ n2_ n3_ n4_ n5_ n6_ n7_ n8_ n9_ n10_ n11_ n12_; clear hb hbox hg; have hnb37 := NB137_125.out; have hnc37 := NB125_137.out; have hnb38 := NB137_131.out; have hnc38 := NB131_137.out; have hcz39_0 : w36.cell? ⟨gb137, 0, none⟩ = some (.int .i64 0) := (blk_cell BK137.out 0).trans rfl; have hcz39_1 : w36.cell? ⟨gb137, 1, none⟩ = some (.slice none 0 0) := (blk_cell BK137.out 1).trans rfl; have hfz39_0 := blk_frozen BK137.out 0; have hfz39_1 := blk_frozen BK137.out 1; obtain ⟨Ao40, co40, eo40⟩ := Kd.R_slice HO135.out; subst eo40; have hcz41_0 : w36.cell? ⟨gb131, 0, none⟩ = some (.int .i64 t126) := (blk_cell BK131.out 0).trans rfl; have hcz41_1 : w36.cell? ⟨gb131, 1, none⟩ = some (.slice Ao34 t127.length co34) := (blk_cell BK131.out 1).trans rfl; have hfz41_0 := blk_frozen BK131.out 0; have hfz41_1 := blk_frozen BK131.out 1) | ((with_reducible refine gate_callee (f := 41) rfl ?_); refine goesL_ (some 32) rfl rfl Tryd.func41 (by kernel_rfl) rfl #[.agg #[.int .i64 t126, .slice Ao34 t127.length co34], .string (⟨#[98]⟩ : ByteArray)] rfl (by (try simp only [List.map_toArray, List.map_cons, List.map_nil]); first | done | rfl | (simp only [List.length_drop, List.length_take]; rfl)) ?_; (with_reducible refine (disk_Find.calls t126 _ _ t127 (⟨#[98]⟩ : ByteArray) t138 t139 t140 true _ ?side1 ?side2 A4.out).mono ?_); (case side1 => refine (Kd.R_reads' (e := 72) (base := w.heap.size) (ok := fun k_ => ((True ∧ some k_ ≠ (.slice Ao29 t121.length co29 : Value).ownBlock) ∧ some k_ ≠ (.slice Ao40 t133.length co40 : Value).ownBlock)) (n := t127.length) (c := co34) ?_).2.2; exact (by (with_reducible repeat (first | apply Kd.R_alloc | apply Kd.R_drewN | apply Kd.R_drew)); first | exact (Kd.R_mono (Kd.R_far (p := ⟨gb137, 1, none⟩) (Kd.R_far (p := ⟨gb137, 0, none⟩) (Kd.R_types HO129.out BK137.out (by decide)) (fun _ hk => hk.2) (.int .i64 t132)) (fun _ hk => hk.2) (.slice Ao40 t133.length co40)) (fun _ h_ => h_.1)) | exact Kd.R_mono ((Kd.R_mono (Kd.R_far (p := ⟨gb137, 1, none⟩) (Kd.R_far (p := ⟨gb137, 0, none⟩) (Kd.R_types HO129.out BK137.out (by decide)) (fun _ hk => hk.2) (.int .i64 t132)) (fun _ hk => hk.2) (.slice Ao40 t133.length co40)) (fun _ h_ => h_.1))) (fun k_ hk => by simp only [Go.Proofs.YtnnjmelifmlghaaDoorW.Hand.slice_ownBlock] at hk ⊢; exact hk))); (case side2 => exact (Kd.R_reads' HO129.out).2.1); rintro e w42 ⟨rfl, hb⟩; refine ⟨_, rfl, ?_⟩; have n0_ := Aside0.mk (Kd.R_below (by (with_reducible repeat (first | apply Kd.R_alloc | apply Kd.R_drewN | apply Kd.R_drew)); first | exact (Kd.R_mono (Kd.R_far (p := ⟨gb137, 1, none⟩) (Kd.R_far (p := ⟨gb137, 0, none⟩) (Kd.R_types HO123.out BK137.out (by decide)) (fun _ hk => hk.2) (.int .i64 t132)) (fun _ hk => hk.2) (.slice Ao40 t133.length co40)) (fun _ h_ => h_.1)) | exact Kd.R_mono ((Kd.R_mono (Kd.R_far (p := ⟨gb137, 1, none⟩) (Kd.R_far (p := ⟨gb137, 0, none⟩) (Kd.R_types HO123.out BK137.out (by decide)) (fun _ hk => hk.2) (.int .i64 t132)) (fun _ hk => hk.2) (.slice Ao40 t133.length co40)) (fun _ h_ => h_.1))) (fun k_ hk => by simp only [Go.Proofs.YtnnjmelifmlghaaDoorW.Hand.slice_ownBlock] at hk ⊢; exact hk)) hb); have n1_ := Aside0.mk (Kd.R_below (by (with_reducible repeat (first | apply Kd.R_alloc | apply Kd.R_drewN | apply Kd.R_drew)); first | exact (Kd.R_mono (Kd.R_far (p := ⟨gb137, 1, none⟩) (Kd.R_far (p := ⟨gb137, 0, none⟩) (Kd.R_types HO129.out BK137.out (by decide)) (fun _ hk => hk.2) (.int .i64 t132)) (fun _ hk => hk.2) (.slice Ao40 t133.length co40)) (fun _ h_ => h_.1)) | exact Kd.R_mono ((Kd.R_mono (Kd.R_far (p := ⟨gb137, 1, none⟩) (Kd.R_far (p := ⟨gb137, 0, none⟩) (Kd.R_types HO129.out BK137.out (by decide)) (fun _ hk => hk.2) (.int .i64 t132)) (fun _ hk => hk.2) (.slice Ao40 t133.length co40)) (fun _ h_ => h_.1))) (fun k_ hk => by simp only [Go.Proofs.YtnnjmelifmlghaaDoorW.Hand.slice_ownBlock] at hk ⊢; exact hk)) hb); have n2_ := Aside0.mk (Kd.R_below (by (with_reducible repeat (first | apply Kd.R_alloc | apply Kd.R_drewN | apply Kd.R_drew)); first | exact (Kd.R_mono (Kd.R_far (p := ⟨gb137, 1, none⟩) (Kd.R_far (p := ⟨gb137, 0, none⟩) (Kd.R_types HO135.out BK137.out (by decide)) (fun _ hk => hk.2) (.int .i64 t132)) (fun _ hk => hk.2) (.slice Ao40 t133.length co40)) (fun _ h_ => h_.1)) | exact Kd.R_mono ((Kd.R_mono (Kd.R_far (p := ⟨gb137, 1, none⟩) (Kd.R_far (p := ⟨gb137, 0, none⟩) (Kd.R_types HO135.out BK137.out (by decide)) (fun _ hk => hk.2) (.int .i64 t132)) (fun _ hk => hk.2) (.slice Ao40 t133.length co40)) (fun _ h_ => h_.1))) (fun k_ hk => by simp only [Go.Proofs.YtnnjmelifmlghaaDoorW.Hand.slice_ownBlock] at hk ⊢; exact hk)) hb); have n3_ := Aside0.mk (blk_below (g := gb125) (o := .cells #[.int .i64 t120, .slice Ao29 t121.length co29] 28 (0, 0)) (by (with_reducible repeat (first | refine blk_drewN ?_ _ | refine blk_drew ?_ | refine blk_alloc ?_ _)); refine blk_far ?_ NB125_137.out _; (with_reducible repeat (first | refine blk_drewN ?_ _ | refine blk_drew ?_ | refine blk_alloc ?_ _)); refine blk_far ?_ NB125_137.out _; (with_reducible repeat (first | refine blk_drewN ?_ _ | refine blk_drew ?_ | refine blk_alloc ?_ _)); exact BK125.out) hb); have n4_ := Aside0.mk (blk_below (g := gb131) (o := .cells #[.int .i64 t126, .slice Ao34 t127.length co34] 28 (0, 0)) (by (with_reducible repeat (first | refine blk_drewN ?_ _ | refine blk_drew ?_ | refine blk_alloc ?_ _)); refine blk_far ?_ NB131_137.out _; (with_reducible repeat (first | refine blk_drewN ?_ _ | refine blk_drew ?_ | refine blk_alloc ?_ _)); refine blk_far ?_ NB131_137.out _; (with_reducible repeat (first | refine blk_drewN ?_ _ | refine blk_drew ?_ | refine blk_alloc ?_ _)); exact BK131.out) hb); have n5_ := Aside0.mk (blk_below (g := gb137) (o := .cells #[.int .i64 t132, .slice Ao40 t133.length co40] 28 (0, 0)) (by (with_reducible repeat (first | refine blk_drewN ?_ _ | refine blk_drew ?_ | refine blk_alloc ?_ _)); refine blk_put (cs := #[.int .i64 t132, .slice none 0 0]) ?_ 1 _ rfl; (with_reducible repeat (first | refine blk_drewN ?_ _ | refine blk_drew ?_ | refine blk_alloc ?_ _)); refine blk_put (cs := #[.int .i64 0, .slice none 0 0]) ?_ 0 _ rfl; (with_reducible repeat (first | refine blk_drewN ?_ _ | refine blk_drew ?_ | refine blk_alloc ?_ _)); exact BK137.out) hb); have n6_ := Aside0.mk (below_step (by repeat (first | (with_reducible first | exact HB.out | apply below_alloc | apply pw_below_drewN | apply below_drew1 | refine below_set ?_ GE125.out | refine below_set ?_ GE131.out | refine below_set ?_ GE137.out) | exact HB.out)) hb); clear HO123; clear HO129; clear HO135; clear BK125; clear BK131; clear BK137; clear HB; have HO123 := n0_; have HO129 := n1_; have HO135 := n2_; have BK125 := n3_; have BK131 := n4_; have BK137 := n5_; have HB := n6_; clear n0_ n1_ n2_ n3_ n4_ n5_ n6_; (try clear hb); (try clear hb2); (try clear hk); (try clear hi)) | ((with_reducible refine gate_dst (N := 7) rfl ?_); (try (refine gate_guard (by rfl) ?_; dsimp only)); refine box_event ?hg (N := 7) ?hd (cs := #[.string (⟨#[]⟩ : ByteArray), .int .i64 0, .int .i64 0]) (t := 72) ?hr ?_; (case hd => rfl); (case hg => rfl); (case hr => first | (go_simp; done) | (go_simp; rfl)); intro gb142 hg w43 hbox hb; have n0_ := Aside0.mk (Kd.R_below (Kd.R_elderB (by (with_reducible repeat (first | apply Kd.R_alloc | apply Kd.R_drewN | apply Kd.R_drew)); first | exact HO123.out | exact Kd.R_mono (HO123.out) (fun k_ hk => by simp only [Go.Proofs.YtnnjmelifmlghaaDoorW.Hand.slice_ownBlock] at hk ⊢; exact hk)) gb142 (Nat.le_of_eq hg.symm)) hb); have n1_ := Aside0.mk (Kd.R_below (Kd.R_elderB (by (with_reducible repeat (first | apply Kd.R_alloc | apply Kd.R_drewN | apply Kd.R_drew)); first | exact HO129.out | exact Kd.R_mono (HO129.out) (fun k_ hk => by simp only [Go.Proofs.YtnnjmelifmlghaaDoorW.Hand.slice_ownBlock] at hk ⊢; exact hk)) gb142 (Nat.le_of_eq hg.symm)) hb); have n2_ := Aside0.mk (Kd.R_below (Kd.R_elderB (by (with_reducible repeat (first | apply Kd.R_alloc | apply Kd.R_drewN | apply Kd.R_drew)); first | exact HO135.out | exact Kd.R_mono (HO135.out) (fun k_ hk => by simp only [Go.Proofs.YtnnjmelifmlghaaDoorW.Hand.slice_ownBlock] at hk ⊢; exact hk)) gb142 (Nat.le_of_eq hg.symm)) hb); have n3_ := Aside0.mk (blk_below (g := gb125) (o := .cells #[.int .i64 t120, .slice Ao29 t121.length co29] 28 (0, 0)) (by (with_reducible repeat (first | refine blk_drewN ?_ _ | refine blk_drew ?_ | refine blk_alloc ?_ _)); exact BK125.out) hb); have n4_ := Aside0.mk (blk_below (g := gb131) (o := .cells #[.int .i64 t126, .slice Ao34 t127.length co34] 28 (0, 0)) (by (with_reducible repeat (first | refine blk_drewN ?_ _ | refine blk_drew ?_ | refine blk_alloc ?_ _)); exact BK131.out) hb); have n5_ := Aside0.mk (blk_below (g := gb137) (o := .cells #[.int .i64 t132, .slice Ao40 t133.length co40] 28 (0, 0)) (by (with_reducible repeat (first | refine blk_drewN ?_ _ | refine blk_drew ?_ | refine blk_alloc ?_ _)); exact BK137.out) hb); have n6_ := Aside0.mk (below_step (by repeat (first | (with_reducible first | exact HB.out | apply below_alloc | apply pw_below_drewN | apply below_drew1 | refine below_set ?_ GE125.out | refine below_set ?_ GE131.out | refine below_set ?_ GE137.out) | exact HB.out)) hb); have n7_ := Aside0.mk (hbox); have n8_ := Aside0.mk ((by rw [hg]; exact (below_size (by repeat (first | (with_reducible first | exact HB.out | apply below_alloc | apply pw_below_drewN | apply below_drew1 | refine below_set ?_ GE125.out | refine below_set ?_ GE131.out | refine below_set ?_ GE137.out) | exact HB.out))) : w.heap.size ≤ gb142)); have n9_ := Aside0.mk ((by rw [hg]; exact (below_size (by repeat (first | (with_reducible first | exact HB.out | apply below_alloc | apply pw_below_drewN | apply below_drew1 | refine below_set ?_ GE125.out | refine below_set ?_ GE131.out | refine below_set ?_ GE137.out) | exact HB.out))) : w.heap.size ≤ gb142)); have n10_ := Aside0.mk ((by rw [hg]; exact Nat.ne_of_lt (blk_lt (g := gb125) (o := .cells #[.int .i64 t120, .slice Ao29 t121.length co29] 28 (0, 0)) (by (with_reducible repeat (first | refine blk_drewN ?_ _ | refine blk_drew ?_ | refine blk_alloc ?_ _)); exact BK125.out)) : gb125 ≠ gb142)); have n11_ := Aside0.mk ((by rw [hg]; exact Nat.ne_of_gt (blk_lt (g := gb125) (o := .cells #[.int .i64 t120, .slice Ao29 t121.length co29] 28 (0, 0)) (by (with_reducible repeat (first | refine blk_drewN ?_ _ | refine blk_drew ?_ | refine blk_alloc ?_ _)); exact BK125.out)) : gb142 ≠ gb125)); have n12_ := Aside0.mk ((by rw [hg]; exact Nat.ne_of_lt (blk_lt (g := gb131) (o := .cells #[.int .i64 t126, .slice Ao34 t127.length co34] 28 (0, 0)) (by (with_reducible repeat (first | refine blk_drewN ?_ _ | refine blk_drew ?_ | refine blk_alloc ?_ _)); exact BK131.out)) : gb131 ≠ gb142)); have n13_ := Aside0.mk ((by rw [hg]; exact Nat.ne_of_gt (blk_lt (g := gb131) (o := .cells #[.int .i64 t126, .slice Ao34 t127.length co34] 28 (0, 0)) (by (with_reducible repeat (first | refine blk_drewN ?_ _ | refine blk_drew ?_ | refine blk_alloc ?_ _)); exact BK131.out)) : gb142 ≠ gb131)); have n14_ := Aside0.mk ((by rw [hg]; exact Nat.ne_of_lt (blk_lt (g := gb137) (o := .cells #[.int .i64 t132, .slice Ao40 t133.length co40] 28 (0, 0)) (by (with_reducible repeat (first | refine blk_drewN ?_ _ | refine blk_drew ?_ | refine blk_alloc ?_ _)); exact BK137.out)) : gb137 ≠ gb142)); have n15_ := Aside0.mk ((by rw [hg]; exact Nat.ne_of_gt (blk_lt (g := gb137) (o := .cells #[.int .i64 t132, .slice Ao40 t133.length co40] 28 (0, 0)) (by (with_reducible repeat (first | refine blk_drewN ?_ _ | refine blk_drew ?_ | refine blk_alloc ?_ _)); exact BK137.out)) : gb142 ≠ gb137)); clear HO123; clear HO129; clear HO135; clear BK125; clear BK131; clear BK137; clear HB; have HO123 := n0_; have HO129 := n1_; have HO135 := n2_; have BK125 := n3_; have BK131 := n4_; have BK137 := n5_; have HB := n6_; have BK142 := n7_; have GW142 := n8_; have GE142 := n9_; have NB125_142 := n10_; have NB142_125 := n11_; have NB131_142 := n12_; have NB142_131 := n13_; have NB137_142 := n14_; have NB142_137 := n15_; clear n0_ n1_ n2_ n3_ n4_ n5_ n6_ n7_ n8_ n9_ n10_ n11_ n12_ n13_ n14_ n15_; clear hb hbox hg; have hnb44 := NB142_125.out; have hnc44 := NB125_142.out; have hnb45 := NB142_131.out; have hnc45 := NB131_142.out; have hnb46 := NB142_137.out; have hnc46 := NB137_142.out; have hcz47_0 : w43.cell? ⟨gb142, 0, none⟩ = some (.string (⟨#[]⟩ : ByteArray)) := (blk_cell BK142.out 0).trans rfl; have hcz47_1 : w43.cell? ⟨gb142, 1, none⟩ = some (.int .i64 0) := (blk_cell BK142.out 1).trans rfl; have hcz47_2 : w43.cell? ⟨gb142, 2, none⟩ = some (.int .i64 0) := (blk_cell BK142.out 2).trans rfl; have hfz47_0 := blk_frozen BK142.out 0; have hfz47_1 := blk_frozen BK142.out 1; have hfz47_2 := blk_frozen BK142.out 2; have hcz48_0 : w43.cell? ⟨gb137, 0, none⟩ = some (.int .i64 t132) := (blk_cell BK137.out 0).trans rfl; have hcz48_1 : w43.cell? ⟨gb137, 1, none⟩ = some (.slice Ao40 t133.length co40) := (blk_cell BK137.out 1).trans rfl; have hfz48_0 := blk_frozen BK137.out 0; have hfz48_1 := blk_frozen BK137.out 1) | ((with_reducible refine gate_callee (f := 41) rfl ?_); refine goesL_ (some 37) rfl rfl Tryd.func41 (by kernel_rfl) rfl #[.agg #[.int .i64 t132, .slice Ao40 t133.length co40], .string (⟨#[98]⟩ : ByteArray)] rfl (by (try simp only [List.map_toArray, List.map_cons, List.map_nil]); first | done | rfl | (simp only [List.length_drop, List.length_take]; rfl)) ?_; (with_reducible refine (disk_Find.calls t132 _ _ t133 (⟨#[98]⟩ : ByteArray) t143 t144 t145 false _ ?side1 ?side2 A5.out).mono ?_); (case side1 => refine (Kd.R_reads' (e := 72) (base := w.heap.size) (ok := fun k_ => (((True ∧ some k_ ≠ (.slice Ao29 t121.length co29 : Value).ownBlock) ∧ some k_ ≠ (.slice Ao34 t127.length co34 : Value).ownBlock) ∧ k_ ≠ gb142)) (n := t133.length) (c := co40) ?_).2.2; exact (by (with_reducible repeat (first | apply Kd.R_alloc | apply Kd.R_drewN | apply Kd.R_drew)); first | exact (Kd.R_mono (Kd.R_far (p := ⟨gb142, 2, none⟩) (Kd.R_far (p := ⟨gb142, 1, none⟩) (Kd.R_far (p := ⟨gb142, 0, none⟩) (Kd.R_mono HO135.out (fun k_ hk => (⟨hk, hk.2⟩ : _ ∧ k_ ≠ gb142))) (fun _ hk => hk.2) (.string t138)) (fun _ hk => hk.2) (.int .i64 t139)) (fun _ hk => hk.2) (.int .i64 t140)) (fun _ h_ => h_.1)) | exact Kd.R_mono ((Kd.R_mono (Kd.R_far (p := ⟨gb142, 2, none⟩) (Kd.R_far (p := ⟨gb142, 1, none⟩) (Kd.R_far (p := ⟨gb142, 0, none⟩) (Kd.R_mono HO135.out (fun k_ hk => (⟨hk, hk.2⟩ : _ ∧ k_ ≠ gb142))) (fun _ hk => hk.2) (.string t138)) (fun _ hk => hk.2) (.int .i64 t139)) (fun _ hk => hk.2) (.int .i64 t140)) (fun _ h_ => h_.1))) (fun k_ hk => by simp only [Go.Proofs.YtnnjmelifmlghaaDoorW.Hand.slice_ownBlock] at hk ⊢; exact hk))); (case side2 => exact (Kd.R_reads' HO135.out).2.1); rintro e w49 ⟨rfl, hb⟩; refine ⟨_, rfl, ?_⟩; have n0_ := Aside0.mk (Kd.R_below (by (with_reducible repeat (first | apply Kd.R_alloc | apply Kd.R_drewN | apply Kd.R_drew)); first | exact (Kd.R_mono (Kd.R_far (p := ⟨gb142, 2, none⟩) (Kd.R_far (p := ⟨gb142, 1, none⟩) (Kd.R_far (p := ⟨gb142, 0, none⟩) (Kd.R_mono HO123.out (fun k_ hk => (⟨hk, hk.2⟩ : _ ∧ k_ ≠ gb142))) (fun _ hk => hk.2) (.string t138)) (fun _ hk => hk.2) (.int .i64 t139)) (fun _ hk => hk.2) (.int .i64 t140)) (fun _ h_ => h_.1)) | exact Kd.R_mono ((Kd.R_mono (Kd.R_far (p := ⟨gb142, 2, none⟩) (Kd.R_far (p := ⟨gb142, 1, none⟩) (Kd.R_far (p := ⟨gb142, 0, none⟩) (Kd.R_mono HO123.out (fun k_ hk => (⟨hk, hk.2⟩ : _ ∧ k_ ≠ gb142))) (fun _ hk => hk.2) (.string t138)) (fun _ hk => hk.2) (.int .i64 t139)) (fun _ hk => hk.2) (.int .i64 t140)) (fun _ h_ => h_.1))) (fun k_ hk => by simp only [Go.Proofs.YtnnjmelifmlghaaDoorW.Hand.slice_ownBlock] at hk ⊢; exact hk)) hb); have n1_ := Aside0.mk (Kd.R_below (by (with_reducible repeat (first | apply Kd.R_alloc | apply Kd.R_drewN | apply Kd.R_drew)); first | exact (Kd.R_mono (Kd.R_far (p := ⟨gb142, 2, none⟩) (Kd.R_far (p := ⟨gb142, 1, none⟩) (Kd.R_far (p := ⟨gb142, 0, none⟩) (Kd.R_mono HO129.out (fun k_ hk => (⟨hk, hk.2⟩ : _ ∧ k_ ≠ gb142))) (fun _ hk => hk.2) (.string t138)) (fun _ hk => hk.2) (.int .i64 t139)) (fun _ hk => hk.2) (.int .i64 t140)) (fun _ h_ => h_.1)) | exact Kd.R_mono ((Kd.R_mono (Kd.R_far (p := ⟨gb142, 2, none⟩) (Kd.R_far (p := ⟨gb142, 1, none⟩) (Kd.R_far (p := ⟨gb142, 0, none⟩) (Kd.R_mono HO129.out (fun k_ hk => (⟨hk, hk.2⟩ : _ ∧ k_ ≠ gb142))) (fun _ hk => hk.2) (.string t138)) (fun _ hk => hk.2) (.int .i64 t139)) (fun _ hk => hk.2) (.int .i64 t140)) (fun _ h_ => h_.1))) (fun k_ hk => by simp only [Go.Proofs.YtnnjmelifmlghaaDoorW.Hand.slice_ownBlock] at hk ⊢; exact hk)) hb); have n2_ := Aside0.mk (Kd.R_below (by (with_reducible repeat (first | apply Kd.R_alloc | apply Kd.R_drewN | apply Kd.R_drew)); first | exact (Kd.R_mono (Kd.R_far (p := ⟨gb142, 2, none⟩) (Kd.R_far (p := ⟨gb142, 1, none⟩) (Kd.R_far (p := ⟨gb142, 0, none⟩) (Kd.R_mono HO135.out (fun k_ hk => (⟨hk, hk.2⟩ : _ ∧ k_ ≠ gb142))) (fun _ hk => hk.2) (.string t138)) (fun _ hk => hk.2) (.int .i64 t139)) (fun _ hk => hk.2) (.int .i64 t140)) (fun _ h_ => h_.1)) | exact Kd.R_mono ((Kd.R_mono (Kd.R_far (p := ⟨gb142, 2, none⟩) (Kd.R_far (p := ⟨gb142, 1, none⟩) (Kd.R_far (p := ⟨gb142, 0, none⟩) (Kd.R_mono HO135.out (fun k_ hk => (⟨hk, hk.2⟩ : _ ∧ k_ ≠ gb142))) (fun _ hk => hk.2) (.string t138)) (fun _ hk => hk.2) (.int .i64 t139)) (fun _ hk => hk.2) (.int .i64 t140)) (fun _ h_ => h_.1))) (fun k_ hk => by simp only [Go.Proofs.YtnnjmelifmlghaaDoorW.Hand.slice_ownBlock] at hk ⊢; exact hk)) hb); have n3_ := Aside0.mk (blk_below (g := gb125) (o := .cells #[.int .i64 t120, .slice Ao29 t121.length co29] 28 (0, 0)) (by (with_reducible repeat (first | refine blk_drewN ?_ _ | refine blk_drew ?_ | refine blk_alloc ?_ _)); refine blk_far ?_ NB125_142.out _; (with_reducible repeat (first | refine blk_drewN ?_ _ | refine blk_drew ?_ | refine blk_alloc ?_ _)); refine blk_far ?_ NB125_142.out _; (with_reducible repeat (first | refine blk_drewN ?_ _ | refine blk_drew ?_ | refine blk_alloc ?_ _)); refine blk_far ?_ NB125_142.out _; (with_reducible repeat (first | refine blk_drewN ?_ _ | refine blk_drew ?_ | refine blk_alloc ?_ _)); exact BK125.out) hb); have n4_ := Aside0.mk (blk_below (g := gb131) (o := .cells #[.int .i64 t126, .slice Ao34 t127.length co34] 28 (0, 0)) (by (with_reducible repeat (first | refine blk_drewN ?_ _ | refine blk_drew ?_ | refine blk_alloc ?_ _)); refine blk_far ?_ NB131_142.out _; (with_reducible repeat (first | refine blk_drewN ?_ _ | refine blk_drew ?_ | refine blk_alloc ?_ _)); refine blk_far ?_ NB131_142.out _; (with_reducible repeat (first | refine blk_drewN ?_ _ | refine blk_drew ?_ | refine blk_alloc ?_ _)); refine blk_far ?_ NB131_142.out _; (with_reducible repeat (first | refine blk_drewN ?_ _ | refine blk_drew ?_ | refine blk_alloc ?_ _)); exact BK131.out) hb); have n5_ := Aside0.mk (blk_below (g := gb137) (o := .cells #[.int .i64 t132, .slice Ao40 t133.length co40] 28 (0, 0)) (by (with_reducible repeat (first | refine blk_drewN ?_ _ | refine blk_drew ?_ | refine blk_alloc ?_ _)); refine blk_far ?_ NB137_142.out _; (with_reducible repeat (first | refine blk_drewN ?_ _ | refine blk_drew ?_ | refine blk_alloc ?_ _)); refine blk_far ?_ NB137_142.out _; (with_reducible repeat (first | refine blk_drewN ?_ _ | refine blk_drew ?_ | refine blk_alloc ?_ _)); refine blk_far ?_ NB137_142.out _; (with_reducible repeat (first | refine blk_drewN ?_ _ | refine blk_drew ?_ | refine blk_alloc ?_ _)); exact BK137.out) hb); have n6_ := Aside0.mk (blk_below (g := gb142) (o := .cells #[.string t138, .int .i64 t139, .int .i64 t140] 72 (0, 0)) (by (with_reducible repeat (first | refine blk_drewN ?_ _ | refine blk_drew ?_ | refine blk_alloc ?_ _)); refine blk_put (cs := #[.string t138, .int .i64 t139, .int .i64 0]) ?_ 2 _ rfl; (with_reducible repeat (first | refine blk_drewN ?_ _ | refine blk_drew ?_ | refine blk_alloc ?_ _)); refine blk_put (cs := #[.string t138, .int .i64 0, .int .i64 0]) ?_ 1 _ rfl; (with_reducible repeat (first | refine blk_drewN ?_ _ | refine blk_drew ?_ | refine blk_alloc ?_ _)); refine blk_put (cs := #[.string (⟨#[]⟩ : ByteArray), .int .i64 0, .int .i64 0]) ?_ 0 _ rfl; (with_reducible repeat (first | refine blk_drewN ?_ _ | refine blk_drew ?_ | refine blk_alloc ?_ _)); exact BK142.out) hb); have n7_ := Aside0.mk (below_step (by repeat (first | (with_reducible first | exact HB.out | apply below_alloc | apply pw_below_drewN | apply below_drew1 | refine below_set ?_ GE125.out | refine below_set ?_ GE131.out | refine below_set ?_ GE137.out | refine below_set ?_ GE142.out) | exact HB.out)) hb); clear HO123; clear HO129; clear HO135; clear BK125; clear BK131; clear BK137; clear BK142; clear HB; have HO123 := n0_; have HO129 := n1_; have HO135 := n2_; have BK125 := n3_; have BK131 := n4_; have BK137 := n5_; have BK142 := n6_; have HB := n7_; clear n0_ n1_ n2_ n3_ n4_ n5_ n6_ n7_; (try clear hb); (try clear hb2); (try clear hk); (try clear hi)) | ((with_reducible refine gate_dst (N := 9) rfl ?_); (try (refine gate_guard (by rfl) ?_; dsimp only)); refine box_event ?hg (N := 9) ?hd (cs := #[.string (⟨#[]⟩ : ByteArray), .int .i64 0, .int .i64 0]) (t := 72) ?hr ?_; (case hd => rfl); (case hg => rfl); (case hr => first | (go_simp; done) | (go_simp; rfl)); intro gb147 hg w50 hbox hb; have n0_ := Aside0.mk (Kd.R_below (Kd.R_elderB (by (with_reducible repeat (first | apply Kd.R_alloc | apply Kd.R_drewN | apply Kd.R_drew)); first | exact HO123.out | exact Kd.R_mono (HO123.out) (fun k_ hk => by simp only [Go.Proofs.YtnnjmelifmlghaaDoorW.Hand.slice_ownBlock] at hk ⊢; exact hk)) gb147 (Nat.le_of_eq hg.symm)) hb); have n1_ := Aside0.mk (Kd.R_below (Kd.R_elderB (by (with_reducible repeat (first | apply Kd.R_alloc | apply Kd.R_drewN | apply Kd.R_drew)); first | exact HO129.out | exact Kd.R_mono (HO129.out) (fun k_ hk => by simp only [Go.Proofs.YtnnjmelifmlghaaDoorW.Hand.slice_ownBlock] at hk ⊢; exact hk)) gb147 (Nat.le_of_eq hg.symm)) hb); have n2_ := Aside0.mk (Kd.R_below (Kd.R_elderB (by (with_reducible repeat (first | apply Kd.R_alloc | apply Kd.R_drewN | apply Kd.R_drew)); first | exact HO135.out | exact Kd.R_mono (HO135.out) (fun k_ hk => by simp only [Go.Proofs.YtnnjmelifmlghaaDoorW.Hand.slice_ownBlock] at hk ⊢; exact hk)) gb147 (Nat.le_of_eq hg.symm)) hb); have n3_ := Aside0.mk (blk_below (g := gb125) (o := .cells #[.int .i64 t120, .slice Ao29 t121.length co29] 28 (0, 0)) (by (with_reducible repeat (first | refine blk_drewN ?_ _ | refine blk_drew ?_ | refine blk_alloc ?_ _)); exact BK125.out) hb); have n4_ := Aside0.mk (blk_below (g := gb131) (o := .cells #[.int .i64 t126, .slice Ao34 t127.length co34] 28 (0, 0)) (by (with_reducible repeat (first | refine blk_drewN ?_ _ | refine blk_drew ?_ | refine blk_alloc ?_ _)); exact BK131.out) hb); have n5_ := Aside0.mk (blk_below (g := gb137) (o := .cells #[.int .i64 t132, .slice Ao40 t133.length co40] 28 (0, 0)) (by (with_reducible repeat (first | refine blk_drewN ?_ _ | refine blk_drew ?_ | refine blk_alloc ?_ _)); exact BK137.out) hb); have n6_ := Aside0.mk (blk_below (g := gb142) (o := .cells #[.string t138, .int .i64 t139, .int .i64 t140] 72 (0, 0)) (by (with_reducible repeat (first | refine blk_drewN ?_ _ | refine blk_drew ?_ | refine blk_alloc ?_ _)); exact BK142.out) hb); have n7_ := Aside0.mk (below_step (by repeat (first | (with_reducible first | exact HB.out | apply below_alloc | apply pw_below_drewN | apply below_drew1 | refine below_set ?_ GE125.out | refine below_set ?_ GE131.out | refine below_set ?_ GE137.out | refine below_set ?_ GE142.out) | exact HB.out)) hb); have n8_ := Aside0.mk (hbox); have n9_ := Aside0.mk ((by rw [hg]; exact (below_size (by repeat (first | (with_reducible first | exact HB.out | apply below_alloc | apply pw_below_drewN | apply below_drew1 | refine below_set ?_ GE125.out | refine below_set ?_ GE131.out | refine below_set ?_ GE137.out | refine below_set ?_ GE142.out) | exact HB.out))) : w.heap.size ≤ gb147)); have n10_ := Aside0.mk ((by rw [hg]; exact (below_size (by repeat (first | (with_reducible first | exact HB.out | apply below_alloc | apply pw_below_drewN | apply below_drew1 | refine below_set ?_ GE125.out | refine below_set ?_ GE131.out | refine below_set ?_ GE137.out | refine below_set ?_ GE142.out) | exact HB.out))) : w.heap.size ≤ gb147)); have n11_ := Aside0.mk ((by rw [hg]; exact Nat.ne_of_lt (blk_lt (g := gb125) (o := .cells #[.int .i64 t120, .slice Ao29 t121.length co29] 28 (0, 0)) (by (with_reducible repeat (first | refine blk_drewN ?_ _ | refine blk_drew ?_ | refine blk_alloc ?_ _)); exact BK125.out)) : gb125 ≠ gb147)); have n12_ := Aside0.mk ((by rw [hg]; exact Nat.ne_of_gt (blk_lt (g := gb125) (o := .cells #[.int .i64 t120, .slice Ao29 t121.length co29] 28 (0, 0)) (by (with_reducible repeat (first | refine blk_drewN ?_ _ | refine blk_drew ?_ | refine blk_alloc ?_ _)); exact BK125.out)) : gb147 ≠ gb125)); have n13_ := Aside0.mk ((by rw [hg]; exact Nat.ne_of_lt (blk_lt (g := gb131) (o := .cells #[.int .i64 t126, .slice Ao34 t127.length co34] 28 (0, 0)) (by (with_reducible repeat (first | refine blk_drewN ?_ _ | refine blk_drew ?_ | refine blk_alloc ?_ _)); exact BK131.out)) : gb131 ≠ gb147)); have n14_ := Aside0.mk ((by rw [hg]; exact Nat.ne_of_gt (blk_lt (g := gb131) (o := .cells #[.int .i64 t126, .slice Ao34 t127.length co34] 28 (0, 0)) (by (with_reducible repeat (first | refine blk_drewN ?_ _ | refine blk_drew ?_ | refine blk_alloc ?_ _)); exact BK131.out)) : gb147 ≠ gb131)); have n15_ := Aside0.mk ((by rw [hg]; exact Nat.ne_of_lt (blk_lt (g := gb137) (o := .cells #[.int .i64 t132, .slice Ao40 t133.length co40] 28 (0, 0)) (by (with_reducible repeat (first | refine blk_drewN ?_ _ | refine blk_drew ?_ | refine blk_alloc ?_ _)); exact BK137.out)) : gb137 ≠ gb147)); have n16_ := Aside0.mk ((by rw [hg]; exact Nat.ne_of_gt (blk_lt (g := gb137) (o := .cells #[.int .i64 t132, .slice Ao40 t133.length co40] 28 (0, 0)) (by (with_reducible repeat (first | refine blk_drewN ?_ _ | refine blk_drew ?_ | refine blk_alloc ?_ _)); exact BK137.out)) : gb147 ≠ gb137)); have n17_ := Aside0.mk ((by rw [hg]; exact Nat.ne_of_lt (blk_lt (g := gb142) (o := .cells #[.string t138, .int .i64 t139, .int .i64 t140] 72 (0, 0)) (by (with_reducible repeat (first | refine blk_drewN ?_ _ | refine blk_drew ?_ | refine blk_alloc ?_ _)); exact BK142.out)) : gb142 ≠ gb147)); have n18_ := Aside0.mk ((by rw [hg]; exact Nat.ne_of_gt (blk_lt (g := gb142) (o := .cells #[.string t138, .int .i64 t139, .int .i64 t140] 72 (0, 0)) (by (with_reducible repeat (first | refine blk_drewN ?_ _ | refine blk_drew ?_ | refine blk_alloc ?_ _)); exact BK142.out)) : gb147 ≠ gb142)); clear HO123; clear HO129; clear HO135; clear BK125; clear BK131; clear BK137; clear BK142; clear HB; have HO123 := n0_; have HO129 := n1_; have HO135 := n2_; have BK125 := n3_; have BK131 := n4_; have BK137 := n5_; have BK142 := n6_; have HB := n7_; have BK147 := n8_; have GW147 := n9_; have GE147 := n10_; have NB125_147 := n11_; have NB147_125 := n12_; have NB131_147 := n13_; have NB147_131 := n14_; have NB137_147 := n15_; have NB147_137 := n16_; have NB142_147 := n17_; have NB147_142 := n18_; clear n0_ n1_ n2_ n3_ n4_ n5_ n6_ n7_ n8_ n9_ n10_ n11_ n12_ n13_ n14_ n15_ n16_ n17_ n18_; clear hb hbox hg; have hnb51 := NB147_125.out; have hnc51 := NB125_147.out; have hnb52 := NB147_131.out; have hnc52 := NB131_147.out; have hnb53 := NB147_137.out; have hnc53 := NB137_147.out; have hnb54 := NB147_142.out; have hnc54 := NB142_147.out; have hcz55_0 : w50.cell? ⟨gb147, 0, none⟩ = some (.string (⟨#[]⟩ : ByteArray)) := (blk_cell BK147.out 0).trans rfl; have hcz55_1 : w50.cell? ⟨gb147, 1, none⟩ = some (.int .i64 0) := (blk_cell BK147.out 1).trans rfl; have hcz55_2 : w50.cell? ⟨gb147, 2, none⟩ = some (.int .i64 0) := (blk_cell BK147.out 2).trans rfl; have hfz55_0 := blk_frozen BK147.out 0; have hfz55_1 := blk_frozen BK147.out 1; have hfz55_2 := blk_frozen BK147.out 2; have hcz56_0 : w50.cell? ⟨gb137, 0, none⟩ = some (.int .i64 t132) := (blk_cell BK137.out 0).trans rfl; have hcz56_1 : w50.cell? ⟨gb137, 1, none⟩ = some (.slice Ao40 t133.length co40) := (blk_cell BK137.out 1).trans rfl; have hfz56_0 := blk_frozen BK137.out 0; have hfz56_1 := blk_frozen BK137.out 1) | ((with_reducible refine gate_callee (f := 39) rfl ?_); refine goesL_ (some 42) rfl rfl Tryd.func39 (by kernel_rfl) rfl #[.agg #[.int .i64 t132, .slice Ao40 t133.length co40], .string (⟨#[98]⟩ : ByteArray)] rfl (by (try simp only [List.map_toArray, List.map_cons, List.map_nil]); first | done | rfl | (simp only [List.length_drop, List.length_take]; rfl)) ?_; (with_reducible refine (disk_Remove.calls t132 _ _ t133 (⟨#[98]⟩ : ByteArray) t148 t149 t152 _ ?side1 ?side2 A6.out).mono ?_); (case side1 => refine (Kd.R_reads' (e := 72) (base := w.heap.size) (ok := fun k_ => ((((True ∧ some k_ ≠ (.slice Ao29 t121.length co29 : Value).ownBlock) ∧ some k_ ≠ (.slice Ao34 t127.length co34 : Value).ownBlock) ∧ k_ ≠ gb142) ∧ k_ ≠ gb147)) (n := t133.length) (c := co40) ?_).2.2; exact (by (with_reducible repeat (first | apply Kd.R_alloc | apply Kd.R_drewN | apply Kd.R_drew)); first | exact (Kd.R_mono (Kd.R_far (p := ⟨gb147, 2, none⟩) (Kd.R_far (p := ⟨gb147, 1, none⟩) (Kd.R_far (p := ⟨gb147, 0, none⟩) (Kd.R_mono HO135.out (fun k_ hk => (⟨hk, hk.2⟩ : _ ∧ k_ ≠ gb147))) (fun _ hk => hk.2) (.string t143)) (fun _ hk => hk.2) (.int .i64 t144)) (fun _ hk => hk.2) (.int .i64 t145)) (fun _ h_ => h_.1)) | exact Kd.R_mono ((Kd.R_mono (Kd.R_far (p := ⟨gb147, 2, none⟩) (Kd.R_far (p := ⟨gb147, 1, none⟩) (Kd.R_far (p := ⟨gb147, 0, none⟩) (Kd.R_mono HO135.out (fun k_ hk => (⟨hk, hk.2⟩ : _ ∧ k_ ≠ gb147))) (fun _ hk => hk.2) (.string t143)) (fun _ hk => hk.2) (.int .i64 t144)) (fun _ hk => hk.2) (.int .i64 t145)) (fun _ h_ => h_.1))) (fun k_ hk => by simp only [Go.Proofs.YtnnjmelifmlghaaDoorW.Hand.slice_ownBlock] at hk ⊢; exact hk))); (case side2 => exact (Kd.R_reads' HO135.out).2.1); rintro e w57 ⟨v150, rfl, ho0, hb⟩; refine ⟨_, rfl, ?_⟩; have n0_ := Aside0.mk (Kd.R_elder' (by (with_reducible repeat (first | apply Kd.R_alloc | apply Kd.R_drewN | apply Kd.R_drew)); first | exact (Kd.R_mono (Kd.R_far (p := ⟨gb147, 2, none⟩) (Kd.R_far (p := ⟨gb147, 1, none⟩) (Kd.R_far (p := ⟨gb147, 0, none⟩) (Kd.R_mono HO123.out (fun k_ hk => (⟨hk, hk.2⟩ : _ ∧ k_ ≠ gb147))) (fun _ hk => hk.2) (.string t143)) (fun _ hk => hk.2) (.int .i64 t144)) (fun _ hk => hk.2) (.int .i64 t145)) (fun _ h_ => h_.1)) | exact Kd.R_mono ((Kd.R_mono (Kd.R_far (p := ⟨gb147, 2, none⟩) (Kd.R_far (p := ⟨gb147, 1, none⟩) (Kd.R_far (p := ⟨gb147, 0, none⟩) (Kd.R_mono HO123.out (fun k_ hk => (⟨hk, hk.2⟩ : _ ∧ k_ ≠ gb147))) (fun _ hk => hk.2) (.string t143)) (fun _ hk => hk.2) (.int .i64 t144)) (fun _ hk => hk.2) (.int .i64 t145)) (fun _ h_ => h_.1))) (fun k_ hk => by simp only [Go.Proofs.YtnnjmelifmlghaaDoorW.Hand.slice_ownBlock] at hk ⊢; exact hk)) (Kd.R_base ho0) hb); have n1_ := Aside0.mk (Kd.R_elder' (by (with_reducible repeat (first | apply Kd.R_alloc | apply Kd.R_drewN | apply Kd.R_drew)); first | exact (Kd.R_mono (Kd.R_far (p := ⟨gb147, 2, none⟩) (Kd.R_far (p := ⟨gb147, 1, none⟩) (Kd.R_far (p := ⟨gb147, 0, none⟩) (Kd.R_mono HO129.out (fun k_ hk => (⟨hk, hk.2⟩ : _ ∧ k_ ≠ gb147))) (fun _ hk => hk.2) (.string t143)) (fun _ hk => hk.2) (.int .i64 t144)) (fun _ hk => hk.2) (.int .i64 t145)) (fun _ h_ => h_.1)) | exact Kd.R_mono ((Kd.R_mono (Kd.R_far (p := ⟨gb147, 2, none⟩) (Kd.R_far (p := ⟨gb147, 1, none⟩) (Kd.R_far (p := ⟨gb147, 0, none⟩) (Kd.R_mono HO129.out (fun k_ hk => (⟨hk, hk.2⟩ : _ ∧ k_ ≠ gb147))) (fun _ hk => hk.2) (.string t143)) (fun _ hk => hk.2) (.int .i64 t144)) (fun _ hk => hk.2) (.int .i64 t145)) (fun _ h_ => h_.1))) (fun k_ hk => by simp only [Go.Proofs.YtnnjmelifmlghaaDoorW.Hand.slice_ownBlock] at hk ⊢; exact hk)) (Kd.R_base ho0) hb); have n2_ := Aside0.mk (Kd.R_elder' (by (with_reducible repeat (first | apply Kd.R_alloc | apply Kd.R_drewN | apply Kd.R_drew)); first | exact (Kd.R_mono (Kd.R_far (p := ⟨gb147, 2, none⟩) (Kd.R_far (p := ⟨gb147, 1, none⟩) (Kd.R_far (p := ⟨gb147, 0, none⟩) (Kd.R_mono HO135.out (fun k_ hk => (⟨hk, hk.2⟩ : _ ∧ k_ ≠ gb147))) (fun _ hk => hk.2) (.string t143)) (fun _ hk => hk.2) (.int .i64 t144)) (fun _ hk => hk.2) (.int .i64 t145)) (fun _ h_ => h_.1)) | exact Kd.R_mono ((Kd.R_mono (Kd.R_far (p := ⟨gb147, 2, none⟩) (Kd.R_far (p := ⟨gb147, 1, none⟩) (Kd.R_far (p := ⟨gb147, 0, none⟩) (Kd.R_mono HO135.out (fun k_ hk => (⟨hk, hk.2⟩ : _ ∧ k_ ≠ gb147))) (fun _ hk => hk.2) (.string t143)) (fun _ hk => hk.2) (.int .i64 t144)) (fun _ hk => hk.2) (.int .i64 t145)) (fun _ h_ => h_.1))) (fun k_ hk => by simp only [Go.Proofs.YtnnjmelifmlghaaDoorW.Hand.slice_ownBlock] at hk ⊢; exact hk)) (Kd.R_base ho0) hb); have n3_ := Aside0.mk (Kd.R_lower (Kd.R_newB (Kd.R_newB (Kd.R_new' (Kd.R_new' (Kd.R_new' ho0 (Kd.R_lt (by (with_reducible repeat (first | apply Kd.R_alloc | apply Kd.R_drewN | apply Kd.R_drew)); first | exact (Kd.R_mono (Kd.R_far (p := ⟨gb147, 2, none⟩) (Kd.R_far (p := ⟨gb147, 1, none⟩) (Kd.R_far (p := ⟨gb147, 0, none⟩) (Kd.R_mono HO123.out (fun k_ hk => (⟨hk, hk.2⟩ : _ ∧ k_ ≠ gb147))) (fun _ hk => hk.2) (.string t143)) (fun _ hk => hk.2) (.int .i64 t144)) (fun _ hk => hk.2) (.int .i64 t145)) (fun _ h_ => h_.1)) | exact Kd.R_mono ((Kd.R_mono (Kd.R_far (p := ⟨gb147, 2, none⟩) (Kd.R_far (p := ⟨gb147, 1, none⟩) (Kd.R_far (p := ⟨gb147, 0, none⟩) (Kd.R_mono HO123.out (fun k_ hk => (⟨hk, hk.2⟩ : _ ∧ k_ ≠ gb147))) (fun _ hk => hk.2) (.string t143)) (fun _ hk => hk.2) (.int .i64 t144)) (fun _ hk => hk.2) (.int .i64 t145)) (fun _ h_ => h_.1))) (fun k_ hk => by simp only [Go.Proofs.YtnnjmelifmlghaaDoorW.Hand.slice_ownBlock] at hk ⊢; exact hk)))) (Kd.R_lt (by (with_reducible repeat (first | apply Kd.R_alloc | apply Kd.R_drewN | apply Kd.R_drew)); first | exact (Kd.R_mono (Kd.R_far (p := ⟨gb147, 2, none⟩) (Kd.R_far (p := ⟨gb147, 1, none⟩) (Kd.R_far (p := ⟨gb147, 0, none⟩) (Kd.R_mono HO129.out (fun k_ hk => (⟨hk, hk.2⟩ : _ ∧ k_ ≠ gb147))) (fun _ hk => hk.2) (.string t143)) (fun _ hk => hk.2) (.int .i64 t144)) (fun _ hk => hk.2) (.int .i64 t145)) (fun _ h_ => h_.1)) | exact Kd.R_mono ((Kd.R_mono (Kd.R_far (p := ⟨gb147, 2, none⟩) (Kd.R_far (p := ⟨gb147, 1, none⟩) (Kd.R_far (p := ⟨gb147, 0, none⟩) (Kd.R_mono HO129.out (fun k_ hk => (⟨hk, hk.2⟩ : _ ∧ k_ ≠ gb147))) (fun _ hk => hk.2) (.string t143)) (fun _ hk => hk.2) (.int .i64 t144)) (fun _ hk => hk.2) (.int .i64 t145)) (fun _ h_ => h_.1))) (fun k_ hk => by simp only [Go.Proofs.YtnnjmelifmlghaaDoorW.Hand.slice_ownBlock] at hk ⊢; exact hk)))) (Kd.R_lt (by (with_reducible repeat (first | apply Kd.R_alloc | apply Kd.R_drewN | apply Kd.R_drew)); first | exact (Kd.R_mono (Kd.R_far (p := ⟨gb147, 2, none⟩) (Kd.R_far (p := ⟨gb147, 1, none⟩) (Kd.R_far (p := ⟨gb147, 0, none⟩) (Kd.R_mono HO135.out (fun k_ hk => (⟨hk, hk.2⟩ : _ ∧ k_ ≠ gb147))) (fun _ hk => hk.2) (.string t143)) (fun _ hk => hk.2) (.int .i64 t144)) (fun _ hk => hk.2) (.int .i64 t145)) (fun _ h_ => h_.1)) | exact Kd.R_mono ((Kd.R_mono (Kd.R_far (p := ⟨gb147, 2, none⟩) (Kd.R_far (p := ⟨gb147, 1, none⟩) (Kd.R_far (p := ⟨gb147, 0, none⟩) (Kd.R_mono HO135.out (fun k_ hk => (⟨hk, hk.2⟩ : _ ∧ k_ ≠ gb147))) (fun _ hk => hk.2) (.string t143)) (fun _ hk => hk.2) (.int .i64 t144)) (fun _ hk => hk.2) (.int .i64 t145)) (fun _ h_ => h_.1))) (fun k_ hk => by simp only [Go.Proofs.YtnnjmelifmlghaaDoorW.Hand.slice_ownBlock] at hk ⊢; exact hk)))) (g := gb142) (o := .cells #[.string t138, .int .i64 t139, .int .i64 t140] 72 (0, 0)) (by (with_reducible repeat (first | refine blk_drewN ?_ _ | refine blk_drew ?_ | refine blk_alloc ?_ _)); refine blk_far ?_ NB142_147.out _; (with_reducible repeat (first | refine blk_drewN ?_ _ | refine blk_drew ?_ | refine blk_alloc ?_ _)); refine blk_far ?_ NB142_147.out _; (with_reducible repeat (first | refine blk_drewN ?_ _ | refine blk_drew ?_ | refine blk_alloc ?_ _)); refine blk_far ?_ NB142_147.out _; (with_reducible repeat (first | refine blk_drewN ?_ _ | refine blk_drew ?_ | refine blk_alloc ?_ _)); exact BK142.out)) (g := gb147) (o := .cells #[.string t143, .int .i64 t144, .int .i64 t145] 72 (0, 0)) (by (with_reducible repeat (first | refine blk_drewN ?_ _ | refine blk_drew ?_ | refine blk_alloc ?_ _)); refine blk_put (cs := #[.string t143, .int .i64 t144, .int .i64 0]) ?_ 2 _ rfl; (with_reducible repeat (first | refine blk_drewN ?_ _ | refine blk_drew ?_ | refine blk_alloc ?_ _)); refine blk_put (cs := #[.string t143, .int .i64 0, .int .i64 0]) ?_ 1 _ rfl; (with_reducible repeat (first | refine blk_drewN ?_ _ | refine blk_drew ?_ | refine blk_alloc ?_ _)); refine blk_put (cs := #[.string (⟨#[]⟩ : ByteArray), .int .i64 0, .int .i64 0]) ?_ 0 _ rfl; (with_reducible repeat (first | refine blk_drewN ?_ _ | refine blk_drew ?_ | refine blk_alloc ?_ _)); exact BK147.out)) (below_size (by repeat (first | (with_reducible first | exact HB.out | apply below_alloc | apply pw_below_drewN | apply below_drew1 | refine below_set ?_ GE125.out | refine below_set ?_ GE131.out | refine below_set ?_ GE137.out | refine below_set ?_ GE142.out | refine below_set ?_ GE147.out) | exact HB.out)))); have n4_ := Aside0.mk (blk_below (g := gb125) (o := .cells #[.int .i64 t120, .slice Ao29 t121.length co29] 28 (0, 0)) (by (with_reducible repeat (first | refine blk_drewN ?_ _ | refine blk_drew ?_ | refine blk_alloc ?_ _)); refine blk_far ?_ NB125_147.out _; (with_reducible repeat (first | refine blk_drewN ?_ _ | refine blk_drew ?_ | refine blk_alloc ?_ _)); refine blk_far ?_ NB125_147.out _; (with_reducible repeat (first | refine blk_drewN ?_ _ | refine blk_drew ?_ | refine blk_alloc ?_ _)); refine blk_far ?_ NB125_147.out _; (with_reducible repeat (first | refine blk_drewN ?_ _ | refine blk_drew ?_ | refine blk_alloc ?_ _)); exact BK125.out) hb); have n5_ := Aside0.mk (blk_below (g := gb131) (o := .cells #[.int .i64 t126, .slice Ao34 t127.length co34] 28 (0, 0)) (by (with_reducible repeat (first | refine blk_drewN ?_ _ | refine blk_drew ?_ | refine blk_alloc ?_ _)); refine blk_far ?_ NB131_147.out _; (with_reducible repeat (first | refine blk_drewN ?_ _ | refine blk_drew ?_ | refine blk_alloc ?_ _)); refine blk_far ?_ NB131_147.out _; (with_reducible repeat (first | refine blk_drewN ?_ _ | refine blk_drew ?_ | refine blk_alloc ?_ _)); refine blk_far ?_ NB131_147.out _; (with_reducible repeat (first | refine blk_drewN ?_ _ | refine blk_drew ?_ | refine blk_alloc ?_ _)); exact BK131.out) hb); have n6_ := Aside0.mk (blk_below (g := gb137) (o := .cells #[.int .i64 t132, .slice Ao40 t133.length co40] 28 (0, 0)) (by (with_reducible repeat (first | refine blk_drewN ?_ _ | refine blk_drew ?_ | refine blk_alloc ?_ _)); refine blk_far ?_ NB137_147.out _; (with_reducible repeat (first | refine blk_drewN ?_ _ | refine blk_drew ?_ | refine blk_alloc ?_ _)); refine blk_far ?_ NB137_147.out _; (with_reducible repeat (first | refine blk_drewN ?_ _ | refine blk_drew ?_ | refine blk_alloc ?_ _)); refine blk_far ?_ NB137_147.out _; (with_reducible repeat (first | refine blk_drewN ?_ _ | refine blk_drew ?_ | refine blk_alloc ?_ _)); exact BK137.out) hb); have n7_ := Aside0.mk (blk_below (g := gb142) (o := .cells #[.string t138, .int .i64 t139, .int .i64 t140] 72 (0, 0)) (by (with_reducible repeat (first | refine blk_drewN ?_ _ | refine blk_drew ?_ | refine blk_alloc ?_ _)); refine blk_far ?_ NB142_147.out _; (with_reducible repeat (first | refine blk_drewN ?_ _ | refine blk_drew ?_ | refine blk_alloc ?_ _)); refine blk_far ?_ NB142_147.out _; (with_reducible repeat (first | refine blk_drewN ?_ _ | refine blk_drew ?_ | refine blk_alloc ?_ _)); refine blk_far ?_ NB142_147.out _; (with_reducible repeat (first | refine blk_drewN ?_ _ | refine blk_drew ?_ | refine blk_alloc ?_ _)); exact BK142.out) hb); have n8_ := Aside0.mk (blk_below (g := gb147) (o := .cells #[.string t143, .int .i64 t144, .int .i64 t145] 72 (0, 0)) (by (with_reducible repeat (first | refine blk_drewN ?_ _ | refine blk_drew ?_ | refine blk_alloc ?_ _)); refine blk_put (cs := #[.string t143, .int .i64 t144, .int .i64 0]) ?_ 2 _ rfl; (with_reducible repeat (first | refine blk_drewN ?_ _ | refine blk_drew ?_ | refine blk_alloc ?_ _)); refine blk_put (cs := #[.string t143, .int .i64 0, .int .i64 0]) ?_ 1 _ rfl; (with_reducible repeat (first | refine blk_drewN ?_ _ | refine blk_drew ?_ | refine blk_alloc ?_ _)); refine blk_put (cs := #[.string (⟨#[]⟩ : ByteArray), .int .i64 0, .int .i64 0]) ?_ 0 _ rfl; (with_reducible repeat (first | refine blk_drewN ?_ _ | refine blk_drew ?_ | refine blk_alloc ?_ _)); exact BK147.out) hb); have n9_ := Aside0.mk (below_step (by repeat (first | (with_reducible first | exact HB.out | apply below_alloc | apply pw_below_drewN | apply below_drew1 | refine below_set ?_ GE125.out | refine below_set ?_ GE131.out | refine below_set ?_ GE137.out | refine below_set ?_ GE142.out | refine below_set ?_ GE147.out) | exact HB.out)) hb); clear HO123; clear HO129; clear HO135; clear BK125; clear BK131; clear BK137; clear BK142; clear BK147; clear HB; have HO123 := n0_; have HO129 := n1_; have HO135 := n2_; have HO151 := n3_; have BK125 := n4_; have BK131 := n5_; have BK137 := n6_; have BK142 := n7_; have BK147 := n8_; have HB := n9_; clear n0_ n1_ n2_ n3_ n4_ n5_ n6_ n7_ n8_ n9_; (try clear hb); (try clear hb2); (try clear hk); (try clear hi); (try clear ho0)) | ((with_reducible refine gate_dst (N := 11) rfl ?_); (try (refine gate_guard (by rfl) ?_; dsimp only)); refine box_event ?hg (N := 11) ?hd (cs := #[.int .i64 0, .slice none 0 0]) (t := 28) ?hr ?_; (case hd => rfl); (case hg => rfl); (case hr => first | (go_simp; done) | (go_simp; rfl)); intro gb153 hg w58 hbox hb; have n0_ := Aside0.mk (Kd.R_below (by (with_reducible repeat (first | apply Kd.R_alloc | apply Kd.R_drewN | apply Kd.R_drew)); first | exact HO123.out | exact Kd.R_mono (HO123.out) (fun k_ hk => by simp only [Go.Proofs.YtnnjmelifmlghaaDoorW.Hand.slice_ownBlock] at hk ⊢; exact hk)) hb); have n1_ := Aside0.mk (Kd.R_below (by (with_reducible repeat (first | apply Kd.R_alloc | apply Kd.R_drewN | apply Kd.R_drew)); first | exact HO129.out | exact Kd.R_mono (HO129.out) (fun k_ hk => by simp only [Go.Proofs.YtnnjmelifmlghaaDoorW.Hand.slice_ownBlock] at hk ⊢; exact hk)) hb); have n2_ := Aside0.mk (Kd.R_below (by (with_reducible repeat (first | apply Kd.R_alloc | apply Kd.R_drewN | apply Kd.R_drew)); first | exact HO135.out | exact Kd.R_mono (HO135.out) (fun k_ hk => by simp only [Go.Proofs.YtnnjmelifmlghaaDoorW.Hand.slice_ownBlock] at hk ⊢; exact hk)) hb); have n3_ := Aside0.mk (Kd.R_below (by (with_reducible repeat (first | apply Kd.R_alloc | apply Kd.R_drewN | apply Kd.R_drew)); first | exact HO151.out | exact Kd.R_mono (HO151.out) (fun k_ hk => by simp only [Go.Proofs.YtnnjmelifmlghaaDoorW.Hand.slice_ownBlock] at hk ⊢; exact hk)) hb); have n4_ := Aside0.mk (blk_below (g := gb125) (o := .cells #[.int .i64 t120, .slice Ao29 t121.length co29] 28 (0, 0)) (by (with_reducible repeat (first | refine blk_drewN ?_ _ | refine blk_drew ?_ | refine blk_alloc ?_ _)); exact BK125.out) hb); have n5_ := Aside0.mk (blk_below (g := gb131) (o := .cells #[.int .i64 t126, .slice Ao34 t127.length co34] 28 (0, 0)) (by (with_reducible repeat (first | refine blk_drewN ?_ _ | refine blk_drew ?_ | refine blk_alloc ?_ _)); exact BK131.out) hb); have n6_ := Aside0.mk (blk_below (g := gb137) (o := .cells #[.int .i64 t132, .slice Ao40 t133.length co40] 28 (0, 0)) (by (with_reducible repeat (first | refine blk_drewN ?_ _ | refine blk_drew ?_ | refine blk_alloc ?_ _)); exact BK137.out) hb); have n7_ := Aside0.mk (blk_below (g := gb142) (o := .cells #[.string t138, .int .i64 t139, .int .i64 t140] 72 (0, 0)) (by (with_reducible repeat (first | refine blk_drewN ?_ _ | refine blk_drew ?_ | refine blk_alloc ?_ _)); exact BK142.out) hb); have n8_ := Aside0.mk (blk_below (g := gb147) (o := .cells #[.string t143, .int .i64 t144, .int .i64 t145] 72 (0, 0)) (by (with_reducible repeat (first | refine blk_drewN ?_ _ | refine blk_drew ?_ | refine blk_alloc ?_ _)); exact BK147.out) hb); have n9_ := Aside0.mk (below_step (by repeat (first | (with_reducible first | exact HB.out | apply below_alloc | apply pw_below_drewN | apply below_drew1 | refine below_set ?_ GE125.out | refine below_set ?_ GE131.out | refine below_set ?_ GE137.out | refine below_set ?_ GE142.out | refine below_set ?_ GE147.out) | exact HB.out)) hb); have n10_ := Aside0.mk (hbox); have n11_ := Aside0.mk ((by rw [hg]; exact (below_size (by repeat (first | (with_reducible first | exact HB.out | apply below_alloc | apply pw_below_drewN | apply below_drew1 | refine below_set ?_ GE125.out | refine below_set ?_ GE131.out | refine below_set ?_ GE137.out | refine below_set ?_ GE142.out | refine below_set ?_ GE147.out) | exact HB.out))) : w.heap.size ≤ gb153)); have n12_ := Aside0.mk ((by rw [hg]; exact (below_size (by repeat (first | (with_reducible first | exact HB.out | apply below_alloc | apply pw_below_drewN | apply below_drew1 | refine below_set ?_ GE125.out | refine below_set ?_ GE131.out | refine below_set ?_ GE137.out | refine below_set ?_ GE142.out | refine below_set ?_ GE147.out) | exact HB.out))) : w.heap.size ≤ gb153)); have n13_ := Aside0.mk ((by rw [hg]; exact Nat.ne_of_lt (blk_lt (g := gb125) (o := .cells #[.int .i64 t120, .slice Ao29 t121.length co29] 28 (0, 0)) (by (with_reducible repeat (first | refine blk_drewN ?_ _ | refine blk_drew ?_ | refine blk_alloc ?_ _)); exact BK125.out)) : gb125 ≠ gb153)); have n14_ := Aside0.mk ((by rw [hg]; exact Nat.ne_of_gt (blk_lt (g := gb125) (o := .cells #[.int .i64 t120, .slice Ao29 t121.length co29] 28 (0, 0)) (by (with_reducible repeat (first | refine blk_drewN ?_ _ | refine blk_drew ?_ | refine blk_alloc ?_ _)); exact BK125.out)) : gb153 ≠ gb125)); have n15_ := Aside0.mk ((by rw [hg]; exact Nat.ne_of_lt (blk_lt (g := gb131) (o := .cells #[.int .i64 t126, .slice Ao34 t127.length co34] 28 (0, 0)) (by (with_reducible repeat (first | refine blk_drewN ?_ _ | refine blk_drew ?_ | refine blk_alloc ?_ _)); exact BK131.out)) : gb131 ≠ gb153)); have n16_ := Aside0.mk ((by rw [hg]; exact Nat.ne_of_gt (blk_lt (g := gb131) (o := .cells #[.int .i64 t126, .slice Ao34 t127.length co34] 28 (0, 0)) (by (with_reducible repeat (first | refine blk_drewN ?_ _ | refine blk_drew ?_ | refine blk_alloc ?_ _)); exact BK131.out)) : gb153 ≠ gb131)); have n17_ := Aside0.mk ((by rw [hg]; exact Nat.ne_of_lt (blk_lt (g := gb137) (o := .cells #[.int .i64 t132, .slice Ao40 t133.length co40] 28 (0, 0)) (by (with_reducible repeat (first | refine blk_drewN ?_ _ | refine blk_drew ?_ | refine blk_alloc ?_ _)); exact BK137.out)) : gb137 ≠ gb153)); have n18_ := Aside0.mk ((by rw [hg]; exact Nat.ne_of_gt (blk_lt (g := gb137) (o := .cells #[.int .i64 t132, .slice Ao40 t133.length co40] 28 (0, 0)) (by (with_reducible repeat (first | refine blk_drewN ?_ _ | refine blk_drew ?_ | refine blk_alloc ?_ _)); exact BK137.out)) : gb153 ≠ gb137)); have n19_ := Aside0.mk ((by rw [hg]; exact Nat.ne_of_lt (blk_lt (g := gb142) (o := .cells #[.string t138, .int .i64 t139, .int .i64 t140] 72 (0, 0)) (by (with_reducible repeat (first | refine blk_drewN ?_ _ | refine blk_drew ?_ | refine blk_alloc ?_ _)); exact BK142.out)) : gb142 ≠ gb153)); have n20_ := Aside0.mk ((by rw [hg]; exact Nat.ne_of_gt (blk_lt (g := gb142) (o := .cells #[.string t138, .int .i64 t139, .int .i64 t140] 72 (0, 0)) (by (with_reducible repeat (first | refine blk_drewN ?_ _ | refine blk_drew ?_ | refine blk_alloc ?_ _)); exact BK142.out)) : gb153 ≠ gb142)); have n21_ := Aside0.mk ((by rw [hg]; exact Nat.ne_of_lt (blk_lt (g := gb147) (o := .cells #[.string t143, .int .i64 t144, .int .i64 t145] 72 (0, 0)) (by (with_reducible repeat (first | refine blk_drewN ?_ _ | refine blk_drew ?_ | refine blk_alloc ?_ _)); exact BK147.out)) : gb147 ≠ gb153)); have n22_ := Aside0.mk ((by rw [hg]; exact Nat.ne_of_gt (blk_lt (g := gb147) (o := .cells #[.string t143, .int .i64 t144, .int .i64 t145] 72 (0, 0)) (by (with_reducible repeat (first | refine blk_drewN ?_ _ | refine blk_drew ?_ | refine blk_alloc ?_ _)); exact BK147.out)) : gb153 ≠ gb147)); clear HO123; clear HO129; clear HO135; clear HO151; clear BK125; clear BK131; clear BK137; clear BK142; clear BK147; clear HB; have HO123 := n0_; have HO129 := n1_; have HO135 := n2_; have HO151 := n3_; have BK125 := n4_; have BK131 := n5_; have BK137 := n6_; have BK142 := n7_; have BK147 := n8_; have HB := n9_; have BK153 := n10_; have GW153 := n11_; have GE153 := n12_; have NB125_153 := n13_; have NB153_125 := n14_; have NB131_153 := n15_; have NB153_131 := n16_; have NB137_153 := n17_; have NB153_137 := n18_; have NB142_153 := n19_; have NB153_142 := n20_; have NB147_153 := n21_; have NB153_147 := n22_; clear n0_ n1_ n2_ n3_ n4_ n5_ n6_ n7_ n8_ n9_ n10_ n11_ n12_ n13_ n14_ n15_ n16_ n17_ n18_ n19_ n20_ n21_ n22_; clear hb hbox hg; have hnb59 := NB153_125.out; have hnc59 := NB125_153.out; have hnb60 := NB153_131.out; have hnc60 := NB131_153.out; have hnb61 := NB153_137.out; have hnc61 := NB137_153.out; have hnb62 := NB153_142.out; have hnc62 := NB142_153.out; have hnb63 := NB153_147.out; have hnc63 := NB147_153.out; have hcz64_0 : w58.cell? ⟨gb153, 0, none⟩ = some (.int .i64 0) := (blk_cell BK153.out 0).trans rfl; have hcz64_1 : w58.cell? ⟨gb153, 1, none⟩ = some (.slice none 0 0) := (blk_cell BK153.out 1).trans rfl; have hfz64_0 := blk_frozen BK153.out 0; have hfz64_1 := blk_frozen BK153.out 1; obtain ⟨Ao65, co65, eo65⟩ := Kd.R_slice HO151.out; subst eo65; have hcz66_0 : w58.cell? ⟨gb137, 0, none⟩ = some (.int .i64 t132) := (blk_cell BK137.out 0).trans rfl; have hcz66_1 : w58.cell? ⟨gb137, 1, none⟩ = some (.slice Ao40 t133.length co40) := (blk_cell BK137.out 1).trans rfl; have hfz66_0 := blk_frozen BK137.out 0; have hfz66_1 := blk_frozen BK137.out 1) | ((with_reducible refine gate_callee (f := 38) rfl ?_); refine goesL_ (some 47) rfl rfl Tryd.func38 (by kernel_rfl) rfl #[.agg #[.int .i64 t132, .slice Ao40 t133.length co40], .string (⟨#[47, 98]⟩ : ByteArray), .int .i64 9] rfl (by (try simp only [List.map_toArray, List.map_cons, List.map_nil]); first | done | rfl | (simp only [List.length_drop, List.length_take]; rfl)) ?_; (with_reducible refine (disk_Put.calls t132 _ _ t133 (⟨#[47, 98]⟩ : ByteArray) 9 t154 t155 t158 _ ?side1 ?side2 A7.out).mono ?_); (case side1 => refine (Kd.R_reads' (e := 72) (base := w.heap.size) (ok := fun k_ => (((((True ∧ some k_ ≠ (.slice Ao29 t121.length co29 : Value).ownBlock) ∧ some k_ ≠ (.slice Ao34 t127.length co34 : Value).ownBlock) ∧ k_ ≠ gb142) ∧ k_ ≠ gb147) ∧ some k_ ≠ (.slice Ao65 t149.length co65 : Value).ownBlock)) (n := t133.length) (c := co40) ?_).2.2; exact (by (with_reducible repeat (first | apply Kd.R_alloc | apply Kd.R_drewN | apply Kd.R_drew)); first | exact (Kd.R_mono (Kd.R_far (p := ⟨gb153, 1, none⟩) (Kd.R_far (p := ⟨gb153, 0, none⟩) (Kd.R_types HO135.out BK153.out (by decide)) (fun _ hk => hk.2) (.int .i64 t148)) (fun _ hk => hk.2) (.slice Ao65 t149.length co65)) (fun _ h_ => h_.1)) | exact Kd.R_mono ((Kd.R_mono (Kd.R_far (p := ⟨gb153, 1, none⟩) (Kd.R_far (p := ⟨gb153, 0, none⟩) (Kd.R_types HO135.out BK153.out (by decide)) (fun _ hk => hk.2) (.int .i64 t148)) (fun _ hk => hk.2) (.slice Ao65 t149.length co65)) (fun _ h_ => h_.1))) (fun k_ hk => by simp only [Go.Proofs.YtnnjmelifmlghaaDoorW.Hand.slice_ownBlock] at hk ⊢; exact hk))); (case side2 => exact (Kd.R_reads' HO135.out).2.1); rintro e w67 ⟨v156, rfl, ho0, hb⟩; refine ⟨_, rfl, ?_⟩; have n0_ := Aside0.mk (Kd.R_elder' (by (with_reducible repeat (first | apply Kd.R_alloc | apply Kd.R_drewN | apply Kd.R_drew)); first | exact (Kd.R_mono (Kd.R_far (p := ⟨gb153, 1, none⟩) (Kd.R_far (p := ⟨gb153, 0, none⟩) (Kd.R_types HO123.out BK153.out (by decide)) (fun _ hk => hk.2) (.int .i64 t148)) (fun _ hk => hk.2) (.slice Ao65 t149.length co65)) (fun _ h_ => h_.1)) | exact Kd.R_mono ((Kd.R_mono (Kd.R_far (p := ⟨gb153, 1, none⟩) (Kd.R_far (p := ⟨gb153, 0, none⟩) (Kd.R_types HO123.out BK153.out (by decide)) (fun _ hk => hk.2) (.int .i64 t148)) (fun _ hk => hk.2) (.slice Ao65 t149.length co65)) (fun _ h_ => h_.1))) (fun k_ hk => by simp only [Go.Proofs.YtnnjmelifmlghaaDoorW.Hand.slice_ownBlock] at hk ⊢; exact hk)) (Kd.R_base ho0) hb); have n1_ := Aside0.mk (Kd.R_elder' (by (with_reducible repeat (first | apply Kd.R_alloc | apply Kd.R_drewN | apply Kd.R_drew)); first | exact (Kd.R_mono (Kd.R_far (p := ⟨gb153, 1, none⟩) (Kd.R_far (p := ⟨gb153, 0, none⟩) (Kd.R_types HO129.out BK153.out (by decide)) (fun _ hk => hk.2) (.int .i64 t148)) (fun _ hk => hk.2) (.slice Ao65 t149.length co65)) (fun _ h_ => h_.1)) | exact Kd.R_mono ((Kd.R_mono (Kd.R_far (p := ⟨gb153, 1, none⟩) (Kd.R_far (p := ⟨gb153, 0, none⟩) (Kd.R_types HO129.out BK153.out (by decide)) (fun _ hk => hk.2) (.int .i64 t148)) (fun _ hk => hk.2) (.slice Ao65 t149.length co65)) (fun _ h_ => h_.1))) (fun k_ hk => by simp only [Go.Proofs.YtnnjmelifmlghaaDoorW.Hand.slice_ownBlock] at hk ⊢; exact hk)) (Kd.R_base ho0) hb); have n2_ := Aside0.mk (Kd.R_elder' (by (with_reducible repeat (first | apply Kd.R_alloc | apply Kd.R_drewN | apply Kd.R_drew)); first | exact (Kd.R_mono (Kd.R_far (p := ⟨gb153, 1, none⟩) (Kd.R_far (p := ⟨gb153, 0, none⟩) (Kd.R_types HO135.out BK153.out (by decide)) (fun _ hk => hk.2) (.int .i64 t148)) (fun _ hk => hk.2) (.slice Ao65 t149.length co65)) (fun _ h_ => h_.1)) | exact Kd.R_mono ((Kd.R_mono (Kd.R_far (p := ⟨gb153, 1, none⟩) (Kd.R_far (p := ⟨gb153, 0, none⟩) (Kd.R_types HO135.out BK153.out (by decide)) (fun _ hk => hk.2) (.int .i64 t148)) (fun _ hk => hk.2) (.slice Ao65 t149.length co65)) (fun _ h_ => h_.1))) (fun k_ hk => by simp only [Go.Proofs.YtnnjmelifmlghaaDoorW.Hand.slice_ownBlock] at hk ⊢; exact hk)) (Kd.R_base ho0) hb); have n3_ := Aside0.mk (Kd.R_elder' (by (with_reducible repeat (first | apply Kd.R_alloc | apply Kd.R_drewN | apply Kd.R_drew)); first | exact (Kd.R_mono (Kd.R_far (p := ⟨gb153, 1, none⟩) (Kd.R_far (p := ⟨gb153, 0, none⟩) (Kd.R_types HO151.out BK153.out (by decide)) (fun _ hk => hk.2) (.int .i64 t148)) (fun _ hk => hk.2) (.slice Ao65 t149.length co65)) (fun _ h_ => h_.1)) | exact Kd.R_mono ((Kd.R_mono (Kd.R_far (p := ⟨gb153, 1, none⟩) (Kd.R_far (p := ⟨gb153, 0, none⟩) (Kd.R_types HO151.out BK153.out (by decide)) (fun _ hk => hk.2) (.int .i64 t148)) (fun _ hk => hk.2) (.slice Ao65 t149.length co65)) (fun _ h_ => h_.1))) (fun k_ hk => by simp only [Go.Proofs.YtnnjmelifmlghaaDoorW.Hand.slice_ownBlock] at hk ⊢; exact hk)) (Kd.R_base ho0) hb); have n4_ := Aside0.mk (Kd.R_lower (Kd.R_newB (Kd.R_newB (Kd.R_new' (Kd.R_new' (Kd.R_new' (Kd.R_new' ho0 (Kd.R_lt (by (with_reducible repeat (first | apply Kd.R_alloc | apply Kd.R_drewN | apply Kd.R_drew)); first | exact (Kd.R_mono (Kd.R_far (p := ⟨gb153, 1, none⟩) (Kd.R_far (p := ⟨gb153, 0, none⟩) (Kd.R_types HO123.out BK153.out (by decide)) (fun _ hk => hk.2) (.int .i64 t148)) (fun _ hk => hk.2) (.slice Ao65 t149.length co65)) (fun _ h_ => h_.1)) | exact Kd.R_mono ((Kd.R_mono (Kd.R_far (p := ⟨gb153, 1, none⟩) (Kd.R_far (p := ⟨gb153, 0, none⟩) (Kd.R_types HO123.out BK153.out (by decide)) (fun _ hk => hk.2) (.int .i64 t148)) (fun _ hk => hk.2) (.slice Ao65 t149.length co65)) (fun _ h_ => h_.1))) (fun k_ hk => by simp only [Go.Proofs.YtnnjmelifmlghaaDoorW.Hand.slice_ownBlock] at hk ⊢; exact hk)))) (Kd.R_lt (by (with_reducible repeat (first | apply Kd.R_alloc | apply Kd.R_drewN | apply Kd.R_drew)); first | exact (Kd.R_mono (Kd.R_far (p := ⟨gb153, 1, none⟩) (Kd.R_far (p := ⟨gb153, 0, none⟩) (Kd.R_types HO129.out BK153.out (by decide)) (fun _ hk => hk.2) (.int .i64 t148)) (fun _ hk => hk.2) (.slice Ao65 t149.length co65)) (fun _ h_ => h_.1)) | exact Kd.R_mono ((Kd.R_mono (Kd.R_far (p := ⟨gb153, 1, none⟩) (Kd.R_far (p := ⟨gb153, 0, none⟩) (Kd.R_types HO129.out BK153.out (by decide)) (fun _ hk => hk.2) (.int .i64 t148)) (fun _ hk => hk.2) (.slice Ao65 t149.length co65)) (fun _ h_ => h_.1))) (fun k_ hk => by simp only [Go.Proofs.YtnnjmelifmlghaaDoorW.Hand.slice_ownBlock] at hk ⊢; exact hk)))) (Kd.R_lt (by (with_reducible repeat (first | apply Kd.R_alloc | apply Kd.R_drewN | apply Kd.R_drew)); first | exact (Kd.R_mono (Kd.R_far (p := ⟨gb153, 1, none⟩) (Kd.R_far (p := ⟨gb153, 0, none⟩) (Kd.R_types HO135.out BK153.out (by decide)) (fun _ hk => hk.2) (.int .i64 t148)) (fun _ hk => hk.2) (.slice Ao65 t149.length co65)) (fun _ h_ => h_.1)) | exact Kd.R_mono ((Kd.R_mono (Kd.R_far (p := ⟨gb153, 1, none⟩) (Kd.R_far (p := ⟨gb153, 0, none⟩) (Kd.R_types HO135.out BK153.out (by decide)) (fun _ hk => hk.2) (.int .i64 t148)) (fun _ hk => hk.2) (.slice Ao65 t149.length co65)) (fun _ h_ => h_.1))) (fun k_ hk => by simp only [Go.Proofs.YtnnjmelifmlghaaDoorW.Hand.slice_ownBlock] at hk ⊢; exact hk)))) (Kd.R_lt (by (with_reducible repeat (first | apply Kd.R_alloc | apply Kd.R_drewN | apply Kd.R_drew)); first | exact (Kd.R_mono (Kd.R_far (p := ⟨gb153, 1, none⟩) (Kd.R_far (p := ⟨gb153, 0, none⟩) (Kd.R_types HO151.out BK153.out (by decide)) (fun _ hk => hk.2) (.int .i64 t148)) (fun _ hk => hk.2) (.slice Ao65 t149.length co65)) (fun _ h_ => h_.1)) | exact Kd.R_mono ((Kd.R_mono (Kd.R_far (p := ⟨gb153, 1, none⟩) (Kd.R_far (p := ⟨gb153, 0, none⟩) (Kd.R_types HO151.out BK153.out (by decide)) (fun _ hk => hk.2) (.int .i64 t148)) (fun _ hk => hk.2) (.slice Ao65 t149.length co65)) (fun _ h_ => h_.1))) (fun k_ hk => by simp only [Go.Proofs.YtnnjmelifmlghaaDoorW.Hand.slice_ownBlock] at hk ⊢; exact hk)))) (g := gb142) (o := .cells #[.string t138, .int .i64 t139, .int .i64 t140] 72 (0, 0)) (by (with_reducible repeat (first | refine blk_drewN ?_ _ | refine blk_drew ?_ | refine blk_alloc ?_ _)); refine blk_far ?_ NB142_153.out _; (with_reducible repeat (first | refine blk_drewN ?_ _ | refine blk_drew ?_ | refine blk_alloc ?_ _)); refine blk_far ?_ NB142_153.out _; (with_reducible repeat (first | refine blk_drewN ?_ _ | refine blk_drew ?_ | refine blk_alloc ?_ _)); exact BK142.out)) (g := gb147) (o := .cells #[.string t143, .int .i64 t144, .int .i64 t145] 72 (0, 0)) (by (with_reducible repeat (first | refine blk_drewN ?_ _ | refine blk_drew ?_ | refine blk_alloc ?_ _)); refine blk_far ?_ NB147_153.out _; (with_reducible repeat (first | refine blk_drewN ?_ _ | refine blk_drew ?_ | refine blk_alloc ?_ _)); refine blk_far ?_ NB147_153.out _; (with_reducible repeat (first | refine blk_drewN ?_ _ | refine blk_drew ?_ | refine blk_alloc ?_ _)); exact BK147.out)) (below_size (by repeat (first | (with_reducible first | exact HB.out | apply below_alloc | apply pw_below_drewN | apply below_drew1 | refine below_set ?_ GE125.out | refine below_set ?_ GE131.out | refine below_set ?_ GE137.out | refine below_set ?_ GE142.out | refine below_set ?_ GE147.out | refine below_set ?_ GE153.out) | exact HB.out)))); have n5_ := Aside0.mk (blk_below (g := gb125) (o := .cells #[.int .i64 t120, .slice Ao29 t121.length co29] 28 (0, 0)) (by (with_reducible repeat (first | refine blk_drewN ?_ _ | refine blk_drew ?_ | refine blk_alloc ?_ _)); refine blk_far ?_ NB125_153.out _; (with_reducible repeat (first | refine blk_drewN ?_ _ | refine blk_drew ?_ | refine blk_alloc ?_ _)); refine blk_far ?_ NB125_153.out _; (with_reducible repeat (first | refine blk_drewN ?_ _ | refine blk_drew ?_ | refine blk_alloc ?_ _)); exact BK125.out) hb); have n6_ := Aside0.mk (blk_below (g := gb131) (o := .cells #[.int .i64 t126, .slice Ao34 t127.length co34] 28 (0, 0)) (by (with_reducible repeat (first | refine blk_drewN ?_ _ | refine blk_drew ?_ | refine blk_alloc ?_ _)); refine blk_far ?_ NB131_153.out _; (with_reducible repeat (first | refine blk_drewN ?_ _ | refine blk_drew ?_ | refine blk_alloc ?_ _)); refine blk_far ?_ NB131_153.out _; (with_reducible repeat (first | refine blk_drewN ?_ _ | refine blk_drew ?_ | refine blk_alloc ?_ _)); exact BK131.out) hb); have n7_ := Aside0.mk (blk_below (g := gb137) (o := .cells #[.int .i64 t132, .slice Ao40 t133.length co40] 28 (0, 0)) (by (with_reducible repeat (first | refine blk_drewN ?_ _ | refine blk_drew ?_ | refine blk_alloc ?_ _)); refine blk_far ?_ NB137_153.out _; (with_reducible repeat (first | refine blk_drewN ?_ _ | refine blk_drew ?_ | refine blk_alloc ?_ _)); refine blk_far ?_ NB137_153.out _; (with_reducible repeat (first | refine blk_drewN ?_ _ | refine blk_drew ?_ | refine blk_alloc ?_ _)); exact BK137.out) hb); have n8_ := Aside0.mk (blk_below (g := gb142) (o := .cells #[.string t138, .int .i64 t139, .int .i64 t140] 72 (0, 0)) (by (with_reducible repeat (first | refine blk_drewN ?_ _ | refine blk_drew ?_ | refine blk_alloc ?_ _)); refine blk_far ?_ NB142_153.out _; (with_reducible repeat (first | refine blk_drewN ?_ _ | refine blk_drew ?_ | refine blk_alloc ?_ _)); refine blk_far ?_ NB142_153.out _; (with_reducible repeat (first | refine blk_drewN ?_ _ | refine blk_drew ?_ | refine blk_alloc ?_ _)); exact BK142.out) hb); have n9_ := Aside0.mk (blk_below (g := gb147) (o := .cells #[.string t143, .int .i64 t144, .int .i64 t145] 72 (0, 0)) (by (with_reducible repeat (first | refine blk_drewN ?_ _ | refine blk_drew ?_ | refine blk_alloc ?_ _)); refine blk_far ?_ NB147_153.out _; (with_reducible repeat (first | refine blk_drewN ?_ _ | refine blk_drew ?_ | refine blk_alloc ?_ _)); refine blk_far ?_ NB147_153.out _; (with_reducible repeat (first | refine blk_drewN ?_ _ | refine blk_drew ?_ | refine blk_alloc ?_ _)); exact BK147.out) hb); have n10_ := Aside0.mk (blk_below (g := gb153) (o := .cells #[.int .i64 t148, .slice Ao65 t149.length co65] 28 (0, 0)) (by (with_reducible repeat (first | refine blk_drewN ?_ _ | refine blk_drew ?_ | refine blk_alloc ?_ _)); refine blk_put (cs := #[.int .i64 t148, .slice none 0 0]) ?_ 1 _ rfl; (with_reducible repeat (first | refine blk_drewN ?_ _ | refine blk_drew ?_ | refine blk_alloc ?_ _)); refine blk_put (cs := #[.int .i64 0, .slice none 0 0]) ?_ 0 _ rfl; (with_reducible repeat (first | refine blk_drewN ?_ _ | refine blk_drew ?_ | refine blk_alloc ?_ _)); exact BK153.out) hb); have n11_ := Aside0.mk (below_step (by repeat (first | (with_reducible first | exact HB.out | apply below_alloc | apply pw_below_drewN | apply below_drew1 | refine below_set ?_ GE125.out | refine below_set ?_ GE131.out | refine below_set ?_ GE137.out | refine below_set ?_ GE142.out | refine below_set ?_ GE147.out | refine below_set ?_ GE153.out) | exact HB.out)) hb); clear HO123; clear HO129; clear HO135; clear HO151; clear BK125; clear BK131; clear BK137; clear BK142; clear BK147; clear BK153; clear HB; have HO123 := n0_; have HO129 := n1_; have HO135 := n2_; have HO151 := n3_; have HO157 := n4_; have BK125 := n5_; have BK131 := n6_; have BK137 := n7_; have BK142 := n8_; have BK147 := n9_; have BK153 := n10_; have HB := n11_; clear n0_ n1_ n2_ n3_ n4_ n5_ n6_ n7_ n8_ n9_ n10_ n11_; (try clear hb); (try clear hb2); (try clear hk); (try clear hi); (try clear ho0)) | ((with_reducible refine gate_dst (N := 13) rfl ?_); (try (refine gate_guard (by rfl) ?_; dsimp only)); refine box_event ?hg (N := 13) ?hd (cs := #[.int .i64 0, .slice none 0 0]) (t := 28) ?hr ?_; (case hd => rfl); (case hg => rfl); (case hr => first | (go_simp; done) | (go_simp; rfl)); intro gb159 hg w68 hbox hb; have n0_ := Aside0.mk (Kd.R_below (by (with_reducible repeat (first | apply Kd.R_alloc | apply Kd.R_drewN | apply Kd.R_drew)); first | exact HO123.out | exact Kd.R_mono (HO123.out) (fun k_ hk => by simp only [Go.Proofs.YtnnjmelifmlghaaDoorW.Hand.slice_ownBlock] at hk ⊢; exact hk)) hb); have n1_ := Aside0.mk (Kd.R_below (by (with_reducible repeat (first | apply Kd.R_alloc | apply Kd.R_drewN | apply Kd.R_drew)); first | exact HO129.out | exact Kd.R_mono (HO129.out) (fun k_ hk => by simp only [Go.Proofs.YtnnjmelifmlghaaDoorW.Hand.slice_ownBlock] at hk ⊢; exact hk)) hb); have n2_ := Aside0.mk (Kd.R_below (by (with_reducible repeat (first | apply Kd.R_alloc | apply Kd.R_drewN | apply Kd.R_drew)); first | exact HO135.out | exact Kd.R_mono (HO135.out) (fun k_ hk => by simp only [Go.Proofs.YtnnjmelifmlghaaDoorW.Hand.slice_ownBlock] at hk ⊢; exact hk)) hb); have n3_ := Aside0.mk (Kd.R_below (by (with_reducible repeat (first | apply Kd.R_alloc | apply Kd.R_drewN | apply Kd.R_drew)); first | exact HO151.out | exact Kd.R_mono (HO151.out) (fun k_ hk => by simp only [Go.Proofs.YtnnjmelifmlghaaDoorW.Hand.slice_ownBlock] at hk ⊢; exact hk)) hb); have n4_ := Aside0.mk (Kd.R_below (by (with_reducible repeat (first | apply Kd.R_alloc | apply Kd.R_drewN | apply Kd.R_drew)); first | exact HO157.out | exact Kd.R_mono (HO157.out) (fun k_ hk => by simp only [Go.Proofs.YtnnjmelifmlghaaDoorW.Hand.slice_ownBlock] at hk ⊢; exact hk)) hb); have n5_ := Aside0.mk (blk_below (g := gb125) (o := .cells #[.int .i64 t120, .slice Ao29 t121.length co29] 28 (0, 0)) (by (with_reducible repeat (first | refine blk_drewN ?_ _ | refine blk_drew ?_ | refine blk_alloc ?_ _)); exact BK125.out) hb); have n6_ := Aside0.mk (blk_below (g := gb131) (o := .cells #[.int .i64 t126, .slice Ao34 t127.length co34] 28 (0, 0)) (by (with_reducible repeat (first | refine blk_drewN ?_ _ | refine blk_drew ?_ | refine blk_alloc ?_ _)); exact BK131.out) hb); have n7_ := Aside0.mk (blk_below (g := gb137) (o := .cells #[.int .i64 t132, .slice Ao40 t133.length co40] 28 (0, 0)) (by (with_reducible repeat (first | refine blk_drewN ?_ _ | refine blk_drew ?_ | refine blk_alloc ?_ _)); exact BK137.out) hb); have n8_ := Aside0.mk (blk_below (g := gb142) (o := .cells #[.string t138, .int .i64 t139, .int .i64 t140] 72 (0, 0)) (by (with_reducible repeat (first | refine blk_drewN ?_ _ | refine blk_drew ?_ | refine blk_alloc ?_ _)); exact BK142.out) hb); have n9_ := Aside0.mk (blk_below (g := gb147) (o := .cells #[.string t143, .int .i64 t144, .int .i64 t145] 72 (0, 0)) (by (with_reducible repeat (first | refine blk_drewN ?_ _ | refine blk_drew ?_ | refine blk_alloc ?_ _)); exact BK147.out) hb); have n10_ := Aside0.mk (blk_below (g := gb153) (o := .cells #[.int .i64 t148, .slice Ao65 t149.length co65] 28 (0, 0)) (by (with_reducible repeat (first | refine blk_drewN ?_ _ | refine blk_drew ?_ | refine blk_alloc ?_ _)); exact BK153.out) hb); have n11_ := Aside0.mk (below_step (by repeat (first | (with_reducible first | exact HB.out | apply below_alloc | apply pw_below_drewN | apply below_drew1 | refine below_set ?_ GE125.out | refine below_set ?_ GE131.out | refine below_set ?_ GE137.out | refine below_set ?_ GE142.out | refine below_set ?_ GE147.out | refine below_set ?_ GE153.out) | exact HB.out)) hb); have n12_ := Aside0.mk (hbox); have n13_ := Aside0.mk ((by rw [hg]; exact (below_size (by repeat (first | (with_reducible first | exact HB.out | apply below_alloc | apply pw_below_drewN | apply below_drew1 | refine below_set ?_ GE125.out | refine below_set ?_ GE131.out | refine below_set ?_ GE137.out | refine below_set ?_ GE142.out | refine below_set ?_ GE147.out | refine below_set ?_ GE153.out) | exact HB.out))) : w.heap.size ≤ gb159)); have n14_ := Aside0.mk ((by rw [hg]; exact (below_size (by repeat (first | (with_reducible first | exact HB.out | apply below_alloc | apply pw_below_drewN | apply below_drew1 | refine below_set ?_ GE125.out | refine below_set ?_ GE131.out | refine below_set ?_ GE137.out | refine below_set ?_ GE142.out | refine below_set ?_ GE147.out | refine below_set ?_ GE153.out) | exact HB.out))) : w.heap.size ≤ gb159)); have n15_ := Aside0.mk ((by rw [hg]; exact Nat.ne_of_lt (blk_lt (g := gb125) (o := .cells #[.int .i64 t120, .slice Ao29 t121.length co29] 28 (0, 0)) (by (with_reducible repeat (first | refine blk_drewN ?_ _ | refine blk_drew ?_ | refine blk_alloc ?_ _)); exact BK125.out)) : gb125 ≠ gb159)); have n16_ := Aside0.mk ((by rw [hg]; exact Nat.ne_of_gt (blk_lt (g := gb125) (o := .cells #[.int .i64 t120, .slice Ao29 t121.length co29] 28 (0, 0)) (by (with_reducible repeat (first | refine blk_drewN ?_ _ | refine blk_drew ?_ | refine blk_alloc ?_ _)); exact BK125.out)) : gb159 ≠ gb125)); have n17_ := Aside0.mk ((by rw [hg]; exact Nat.ne_of_lt (blk_lt (g := gb131) (o := .cells #[.int .i64 t126, .slice Ao34 t127.length co34] 28 (0, 0)) (by (with_reducible repeat (first | refine blk_drewN ?_ _ | refine blk_drew ?_ | refine blk_alloc ?_ _)); exact BK131.out)) : gb131 ≠ gb159)); have n18_ := Aside0.mk ((by rw [hg]; exact Nat.ne_of_gt (blk_lt (g := gb131) (o := .cells #[.int .i64 t126, .slice Ao34 t127.length co34] 28 (0, 0)) (by (with_reducible repeat (first | refine blk_drewN ?_ _ | refine blk_drew ?_ | refine blk_alloc ?_ _)); exact BK131.out)) : gb159 ≠ gb131)); have n19_ := Aside0.mk ((by rw [hg]; exact Nat.ne_of_lt (blk_lt (g := gb137) (o := .cells #[.int .i64 t132, .slice Ao40 t133.length co40] 28 (0, 0)) (by (with_reducible repeat (first | refine blk_drewN ?_ _ | refine blk_drew ?_ | refine blk_alloc ?_ _)); exact BK137.out)) : gb137 ≠ gb159)); have n20_ := Aside0.mk ((by rw [hg]; exact Nat.ne_of_gt (blk_lt (g := gb137) (o := .cells #[.int .i64 t132, .slice Ao40 t133.length co40] 28 (0, 0)) (by (with_reducible repeat (first | refine blk_drewN ?_ _ | refine blk_drew ?_ | refine blk_alloc ?_ _)); exact BK137.out)) : gb159 ≠ gb137)); have n21_ := Aside0.mk ((by rw [hg]; exact Nat.ne_of_lt (blk_lt (g := gb142) (o := .cells #[.string t138, .int .i64 t139, .int .i64 t140] 72 (0, 0)) (by (with_reducible repeat (first | refine blk_drewN ?_ _ | refine blk_drew ?_ | refine blk_alloc ?_ _)); exact BK142.out)) : gb142 ≠ gb159)); have n22_ := Aside0.mk ((by rw [hg]; exact Nat.ne_of_gt (blk_lt (g := gb142) (o := .cells #[.string t138, .int .i64 t139, .int .i64 t140] 72 (0, 0)) (by (with_reducible repeat (first | refine blk_drewN ?_ _ | refine blk_drew ?_ | refine blk_alloc ?_ _)); exact BK142.out)) : gb159 ≠ gb142)); have n23_ := Aside0.mk ((by rw [hg]; exact Nat.ne_of_lt (blk_lt (g := gb147) (o := .cells #[.string t143, .int .i64 t144, .int .i64 t145] 72 (0, 0)) (by (with_reducible repeat (first | refine blk_drewN ?_ _ | refine blk_drew ?_ | refine blk_alloc ?_ _)); exact BK147.out)) : gb147 ≠ gb159)); have n24_ := Aside0.mk ((by rw [hg]; exact Nat.ne_of_gt (blk_lt (g := gb147) (o := .cells #[.string t143, .int .i64 t144, .int .i64 t145] 72 (0, 0)) (by (with_reducible repeat (first | refine blk_drewN ?_ _ | refine blk_drew ?_ | refine blk_alloc ?_ _)); exact BK147.out)) : gb159 ≠ gb147)); have n25_ := Aside0.mk ((by rw [hg]; exact Nat.ne_of_lt (blk_lt (g := gb153) (o := .cells #[.int .i64 t148, .slice Ao65 t149.length co65] 28 (0, 0)) (by (with_reducible repeat (first | refine blk_drewN ?_ _ | refine blk_drew ?_ | refine blk_alloc ?_ _)); exact BK153.out)) : gb153 ≠ gb159)); have n26_ := Aside0.mk ((by rw [hg]; exact Nat.ne_of_gt (blk_lt (g := gb153) (o := .cells #[.int .i64 t148, .slice Ao65 t149.length co65] 28 (0, 0)) (by (with_reducible repeat (first | refine blk_drewN ?_ _ | refine blk_drew ?_ | refine blk_alloc ?_ _)); exact BK153.out)) : gb159 ≠ gb153)); clear HO123; clear HO129; clear HO135; clear HO151; clear HO157; clear BK125; clear BK131; clear BK137; clear BK142; clear BK147; clear BK153; clear HB; have HO123 := n0_; have HO129 := n1_; have HO135 := n2_; have HO151 := n3_; have HO157 := n4_; have BK125 := n5_; have BK131 := n6_; have BK137 := n7_; have BK142 := n8_; have BK147 := n9_; have BK153 := n10_; have HB := n11_; have BK159 := n12_; have GW159 := n13_; have GE159 := n14_; have NB125_159 := n15_; have NB159_125 := n16_; have NB131_159 := n17_; have NB159_131 := n18_; have NB137_159 := n19_; have NB159_137 := n20_; have NB142_159 := n21_; have NB159_142 := n22_; have NB147_159 := n23_; have NB159_147 := n24_; have NB153_159 := n25_; have NB159_153 := n26_; clear n0_ n1_ n2_ n3_ n4_ n5_ n6_ n7_ n8_ n9_ n10_ n11_ n12_ n13_ n14_ n15_ n16_ n17_ n18_ n19_ n20_ n21_ n22_ n23_ n24_ n25_ n26_; clear hb hbox hg; have hnb69 := NB159_125.out; have hnc69 := NB125_159.out; have hnb70 := NB159_131.out; have hnc70 := NB131_159.out; have hnb71 := NB159_137.out; have hnc71 := NB137_159.out; have hnb72 := NB159_142.out; have hnc72 := NB142_159.out; have hnb73 := NB159_147.out; have hnc73 := NB147_159.out; have hnb74 := NB159_153.out; have hnc74 := NB153_159.out; have hcz75_0 : w68.cell? ⟨gb159, 0, none⟩ = some (.int .i64 0) := (blk_cell BK159.out 0).trans rfl; have hcz75_1 : w68.cell? ⟨gb159, 1, none⟩ = some (.slice none 0 0) := (blk_cell BK159.out 1).trans rfl; have hfz75_0 := blk_frozen BK159.out 0; have hfz75_1 := blk_frozen BK159.out 1; obtain ⟨Ao76, co76, eo76⟩ := Kd.R_slice HO157.out; subst eo76; have hcz77_0 : w68.cell? ⟨gb131, 0, none⟩ = some (.int .i64 t126) := (blk_cell BK131.out 0).trans rfl; have hcz77_1 : w68.cell? ⟨gb131, 1, none⟩ = some (.slice Ao34 t127.length co34) := (blk_cell BK131.out 1).trans rfl; have hfz77_0 := blk_frozen BK131.out 0; have hfz77_1 := blk_frozen BK131.out 1) | ((with_reducible refine gate_dst (N := 53) rfl ?_); (try (refine gate_guard (by rfl) ?_; dsimp only)); refine Kd.R_lit k72 _ 72 ?hg (N := 53) ?hd (xs := ([(⟨(⟨#[97]⟩ : ByteArray), 9, 2⟩ : S72), (⟨(⟨#[98]⟩ : ByteArray), 7, 1⟩ : S72)] : List (S72))) (inner := [.string (⟨#[97]⟩ : ByteArray), .int .i64 9, .int .i64 2, .string (⟨#[98]⟩ : ByteArray), .int .i64 7, .int .i64 1]) (ok := fun _ => True) (okp := fun _ => True) ?hr ?hp (fun _ hk => hk) trivial (Below.refl _ _) (Nat.le_refl _) (by simp) ?_; (case hd => rfl); (case hg => rfl); (case hr => first | (go_simp; done) | (go_simp; rfl)); (case hp => exact (Reps.c3 (show Kd.M k72 _ _ _ (⟨(⟨#[97]⟩ : ByteArray), 9, 2⟩ : S72) [.string (⟨#[97]⟩ : ByteArray), .int .i64 9, .int .i64 2] from (k72_mkM _ _ _ (⟨(⟨#[97]⟩ : ByteArray), 9, 2⟩ : S72) )) (Reps.c3 (show Kd.M k72 _ _ _ (⟨(⟨#[98]⟩ : ByteArray), 7, 1⟩ : S72) [.string (⟨#[98]⟩ : ByteArray), .int .i64 7, .int .i64 1] from (k72_mkM _ _ _ (⟨(⟨#[98]⟩ : ByteArray), 7, 1⟩ : S72) )) (Reps.none _ _)))); intro v161 w78 ho79 hb hg_ hnew_; clear hg_ hnew_; (first | rw [← Ny160.out] at ho79 | (simp only [Int.reduceToNat] at ho79; rw [← Ny160.out] at ho79)); have n0_ := Aside0.mk (Kd.R_elder' (by (with_reducible repeat (first | apply Kd.R_alloc | apply Kd.R_drewN | apply Kd.R_drew)); first | exact (Kd.R_mono (Kd.R_far (p := ⟨gb159, 1, none⟩) (Kd.R_far (p := ⟨gb159, 0, none⟩) (Kd.R_types HO123.out BK159.out (by decide)) (fun _ hk => hk.2) (.int .i64 t154)) (fun _ hk => hk.2) (.slice Ao76 t155.length co76)) (fun _ h_ => h_.1)) | exact Kd.R_mono ((Kd.R_mono (Kd.R_far (p := ⟨gb159, 1, none⟩) (Kd.R_far (p := ⟨gb159, 0, none⟩) (Kd.R_types HO123.out BK159.out (by decide)) (fun _ hk => hk.2) (.int .i64 t154)) (fun _ hk => hk.2) (.slice Ao76 t155.length co76)) (fun _ h_ => h_.1))) (fun k_ hk => by simp only [Go.Proofs.YtnnjmelifmlghaaDoorW.Hand.slice_ownBlock] at hk ⊢; exact hk)) (Kd.R_base ho79) hb); have n1_ := Aside0.mk (Kd.R_elder' (by (with_reducible repeat (first | apply Kd.R_alloc | apply Kd.R_drewN | apply Kd.R_drew)); first | exact (Kd.R_mono (Kd.R_far (p := ⟨gb159, 1, none⟩) (Kd.R_far (p := ⟨gb159, 0, none⟩) (Kd.R_types HO129.out BK159.out (by decide)) (fun _ hk => hk.2) (.int .i64 t154)) (fun _ hk => hk.2) (.slice Ao76 t155.length co76)) (fun _ h_ => h_.1)) | exact Kd.R_mono ((Kd.R_mono (Kd.R_far (p := ⟨gb159, 1, none⟩) (Kd.R_far (p := ⟨gb159, 0, none⟩) (Kd.R_types HO129.out BK159.out (by decide)) (fun _ hk => hk.2) (.int .i64 t154)) (fun _ hk => hk.2) (.slice Ao76 t155.length co76)) (fun _ h_ => h_.1))) (fun k_ hk => by simp only [Go.Proofs.YtnnjmelifmlghaaDoorW.Hand.slice_ownBlock] at hk ⊢; exact hk)) (Kd.R_base ho79) hb); have n2_ := Aside0.mk (Kd.R_elder' (by (with_reducible repeat (first | apply Kd.R_alloc | apply Kd.R_drewN | apply Kd.R_drew)); first | exact (Kd.R_mono (Kd.R_far (p := ⟨gb159, 1, none⟩) (Kd.R_far (p := ⟨gb159, 0, none⟩) (Kd.R_types HO135.out BK159.out (by decide)) (fun _ hk => hk.2) (.int .i64 t154)) (fun _ hk => hk.2) (.slice Ao76 t155.length co76)) (fun _ h_ => h_.1)) | exact Kd.R_mono ((Kd.R_mono (Kd.R_far (p := ⟨gb159, 1, none⟩) (Kd.R_far (p := ⟨gb159, 0, none⟩) (Kd.R_types HO135.out BK159.out (by decide)) (fun _ hk => hk.2) (.int .i64 t154)) (fun _ hk => hk.2) (.slice Ao76 t155.length co76)) (fun _ h_ => h_.1))) (fun k_ hk => by simp only [Go.Proofs.YtnnjmelifmlghaaDoorW.Hand.slice_ownBlock] at hk ⊢; exact hk)) (Kd.R_base ho79) hb); have n3_ := Aside0.mk (Kd.R_elder' (by (with_reducible repeat (first | apply Kd.R_alloc | apply Kd.R_drewN | apply Kd.R_drew)); first | exact (Kd.R_mono (Kd.R_far (p := ⟨gb159, 1, none⟩) (Kd.R_far (p := ⟨gb159, 0, none⟩) (Kd.R_types HO151.out BK159.out (by decide)) (fun _ hk => hk.2) (.int .i64 t154)) (fun _ hk => hk.2) (.slice Ao76 t155.length co76)) (fun _ h_ => h_.1)) | exact Kd.R_mono ((Kd.R_mono (Kd.R_far (p := ⟨gb159, 1, none⟩) (Kd.R_far (p := ⟨gb159, 0, none⟩) (Kd.R_types HO151.out BK159.out (by decide)) (fun _ hk => hk.2) (.int .i64 t154)) (fun _ hk => hk.2) (.slice Ao76 t155.length co76)) (fun _ h_ => h_.1))) (fun k_ hk => by simp only [Go.Proofs.YtnnjmelifmlghaaDoorW.Hand.slice_ownBlock] at hk ⊢; exact hk)) (Kd.R_base ho79) hb); have n4_ := Aside0.mk (Kd.R_elder' (by (with_reducible repeat (first | apply Kd.R_alloc | apply Kd.R_drewN | apply Kd.R_drew)); first | exact (Kd.R_mono (Kd.R_far (p := ⟨gb159, 1, none⟩) (Kd.R_far (p := ⟨gb159, 0, none⟩) (Kd.R_types HO157.out BK159.out (by decide)) (fun _ hk => hk.2) (.int .i64 t154)) (fun _ hk => hk.2) (.slice Ao76 t155.length co76)) (fun _ h_ => h_.1)) | exact Kd.R_mono ((Kd.R_mono (Kd.R_far (p := ⟨gb159, 1, none⟩) (Kd.R_far (p := ⟨gb159, 0, none⟩) (Kd.R_types HO157.out BK159.out (by decide)) (fun _ hk => hk.2) (.int .i64 t154)) (fun _ hk => hk.2) (.slice Ao76 t155.length co76)) (fun _ h_ => h_.1))) (fun k_ hk => by simp only [Go.Proofs.YtnnjmelifmlghaaDoorW.Hand.slice_ownBlock] at hk ⊢; exact hk)) (Kd.R_base ho79) hb); have n5_ := Aside0.mk (Kd.R_lower (Kd.R_newB (Kd.R_newB (Kd.R_new' (Kd.R_new' (Kd.R_new' (Kd.R_new' (Kd.R_new' ho79 (Kd.R_lt (by (with_reducible repeat (first | apply Kd.R_alloc | apply Kd.R_drewN | apply Kd.R_drew)); first | exact (Kd.R_mono (Kd.R_far (p := ⟨gb159, 1, none⟩) (Kd.R_far (p := ⟨gb159, 0, none⟩) (Kd.R_types HO123.out BK159.out (by decide)) (fun _ hk => hk.2) (.int .i64 t154)) (fun _ hk => hk.2) (.slice Ao76 t155.length co76)) (fun _ h_ => h_.1)) | exact Kd.R_mono ((Kd.R_mono (Kd.R_far (p := ⟨gb159, 1, none⟩) (Kd.R_far (p := ⟨gb159, 0, none⟩) (Kd.R_types HO123.out BK159.out (by decide)) (fun _ hk => hk.2) (.int .i64 t154)) (fun _ hk => hk.2) (.slice Ao76 t155.length co76)) (fun _ h_ => h_.1))) (fun k_ hk => by simp only [Go.Proofs.YtnnjmelifmlghaaDoorW.Hand.slice_ownBlock] at hk ⊢; exact hk)))) (Kd.R_lt (by (with_reducible repeat (first | apply Kd.R_alloc | apply Kd.R_drewN | apply Kd.R_drew)); first | exact (Kd.R_mono (Kd.R_far (p := ⟨gb159, 1, none⟩) (Kd.R_far (p := ⟨gb159, 0, none⟩) (Kd.R_types HO129.out BK159.out (by decide)) (fun _ hk => hk.2) (.int .i64 t154)) (fun _ hk => hk.2) (.slice Ao76 t155.length co76)) (fun _ h_ => h_.1)) | exact Kd.R_mono ((Kd.R_mono (Kd.R_far (p := ⟨gb159, 1, none⟩) (Kd.R_far (p := ⟨gb159, 0, none⟩) (Kd.R_types HO129.out BK159.out (by decide)) (fun _ hk => hk.2) (.int .i64 t154)) (fun _ hk => hk.2) (.slice Ao76 t155.length co76)) (fun _ h_ => h_.1))) (fun k_ hk => by simp only [Go.Proofs.YtnnjmelifmlghaaDoorW.Hand.slice_ownBlock] at hk ⊢; exact hk)))) (Kd.R_lt (by (with_reducible repeat (first | apply Kd.R_alloc | apply Kd.R_drewN | apply Kd.R_drew)); first | exact (Kd.R_mono (Kd.R_far (p := ⟨gb159, 1, none⟩) (Kd.R_far (p := ⟨gb159, 0, none⟩) (Kd.R_types HO135.out BK159.out (by decide)) (fun _ hk => hk.2) (.int .i64 t154)) (fun _ hk => hk.2) (.slice Ao76 t155.length co76)) (fun _ h_ => h_.1)) | exact Kd.R_mono ((Kd.R_mono (Kd.R_far (p := ⟨gb159, 1, none⟩) (Kd.R_far (p := ⟨gb159, 0, none⟩) (Kd.R_types HO135.out BK159.out (by decide)) (fun _ hk => hk.2) (.int .i64 t154)) (fun _ hk => hk.2) (.slice Ao76 t155.length co76)) (fun _ h_ => h_.1))) (fun k_ hk => by simp only [Go.Proofs.YtnnjmelifmlghaaDoorW.Hand.slice_ownBlock] at hk ⊢; exact hk)))) (Kd.R_lt (by (with_reducible repeat (first | apply Kd.R_alloc | apply Kd.R_drewN | apply Kd.R_drew)); first | exact (Kd.R_mono (Kd.R_far (p := ⟨gb159, 1, none⟩) (Kd.R_far (p := ⟨gb159, 0, none⟩) (Kd.R_types HO151.out BK159.out (by decide)) (fun _ hk => hk.2) (.int .i64 t154)) (fun _ hk => hk.2) (.slice Ao76 t155.length co76)) (fun _ h_ => h_.1)) | exact Kd.R_mono ((Kd.R_mono (Kd.R_far (p := ⟨gb159, 1, none⟩) (Kd.R_far (p := ⟨gb159, 0, none⟩) (Kd.R_types HO151.out BK159.out (by decide)) (fun _ hk => hk.2) (.int .i64 t154)) (fun _ hk => hk.2) (.slice Ao76 t155.length co76)) (fun _ h_ => h_.1))) (fun k_ hk => by simp only [Go.Proofs.YtnnjmelifmlghaaDoorW.Hand.slice_ownBlock] at hk ⊢; exact hk)))) (Kd.R_lt (by (with_reducible repeat (first | apply Kd.R_alloc | apply Kd.R_drewN | apply Kd.R_drew)); first | exact (Kd.R_mono (Kd.R_far (p := ⟨gb159, 1, none⟩) (Kd.R_far (p := ⟨gb159, 0, none⟩) (Kd.R_types HO157.out BK159.out (by decide)) (fun _ hk => hk.2) (.int .i64 t154)) (fun _ hk => hk.2) (.slice Ao76 t155.length co76)) (fun _ h_ => h_.1)) | exact Kd.R_mono ((Kd.R_mono (Kd.R_far (p := ⟨gb159, 1, none⟩) (Kd.R_far (p := ⟨gb159, 0, none⟩) (Kd.R_types HO157.out BK159.out (by decide)) (fun _ hk => hk.2) (.int .i64 t154)) (fun _ hk => hk.2) (.slice Ao76 t155.length co76)) (fun _ h_ => h_.1))) (fun k_ hk => by simp only [Go.Proofs.YtnnjmelifmlghaaDoorW.Hand.slice_ownBlock] at hk ⊢; exact hk)))) (g := gb142) (o := .cells #[.string t138, .int .i64 t139, .int .i64 t140] 72 (0, 0)) (by (with_reducible repeat (first | refine blk_drewN ?_ _ | refine blk_drew ?_ | refine blk_alloc ?_ _)); refine blk_far ?_ NB142_159.out _; (with_reducible repeat (first | refine blk_drewN ?_ _ | refine blk_drew ?_ | refine blk_alloc ?_ _)); refine blk_far ?_ NB142_159.out _; (with_reducible repeat (first | refine blk_drewN ?_ _ | refine blk_drew ?_ | refine blk_alloc ?_ _)); exact BK142.out)) (g := gb147) (o := .cells #[.string t143, .int .i64 t144, .int .i64 t145] 72 (0, 0)) (by (with_reducible repeat (first | refine blk_drewN ?_ _ | refine blk_drew ?_ | refine blk_alloc ?_ _)); refine blk_far ?_ NB147_159.out _; (with_reducible repeat (first | refine blk_drewN ?_ _ | refine blk_drew ?_ | refine blk_alloc ?_ _)); refine blk_far ?_ NB147_159.out _; (with_reducible repeat (first | refine blk_drewN ?_ _ | refine blk_drew ?_ | refine blk_alloc ?_ _)); exact BK147.out)) (below_size (by repeat (first | (with_reducible first | exact HB.out | apply below_alloc | apply pw_below_drewN | apply below_drew1 | refine below_set ?_ GE125.out | refine below_set ?_ GE131.out | refine below_set ?_ GE137.out | refine below_set ?_ GE142.out | refine below_set ?_ GE147.out | refine below_set ?_ GE153.out | refine below_set ?_ GE159.out) | exact HB.out)))); have n6_ := Aside0.mk (blk_below (g := gb125) (o := .cells #[.int .i64 t120, .slice Ao29 t121.length co29] 28 (0, 0)) (by (with_reducible repeat (first | refine blk_drewN ?_ _ | refine blk_drew ?_ | refine blk_alloc ?_ _)); refine blk_far ?_ NB125_159.out _; (with_reducible repeat (first | refine blk_drewN ?_ _ | refine blk_drew ?_ | refine blk_alloc ?_ _)); refine blk_far ?_ NB125_159.out _; (with_reducible repeat (first | refine blk_drewN ?_ _ | refine blk_drew ?_ | refine blk_alloc ?_ _)); exact BK125.out) hb); have n7_ := Aside0.mk (blk_below (g := gb131) (o := .cells #[.int .i64 t126, .slice Ao34 t127.length co34] 28 (0, 0)) (by (with_reducible repeat (first | refine blk_drewN ?_ _ | refine blk_drew ?_ | refine blk_alloc ?_ _)); refine blk_far ?_ NB131_159.out _; (with_reducible repeat (first | refine blk_drewN ?_ _ | refine blk_drew ?_ | refine blk_alloc ?_ _)); refine blk_far ?_ NB131_159.out _; (with_reducible repeat (first | refine blk_drewN ?_ _ | refine blk_drew ?_ | refine blk_alloc ?_ _)); exact BK131.out) hb); have n8_ := Aside0.mk (blk_below (g := gb137) (o := .cells #[.int .i64 t132, .slice Ao40 t133.length co40] 28 (0, 0)) (by (with_reducible repeat (first | refine blk_drewN ?_ _ | refine blk_drew ?_ | refine blk_alloc ?_ _)); refine blk_far ?_ NB137_159.out _; (with_reducible repeat (first | refine blk_drewN ?_ _ | refine blk_drew ?_ | refine blk_alloc ?_ _)); refine blk_far ?_ NB137_159.out _; (with_reducible repeat (first | refine blk_drewN ?_ _ | refine blk_drew ?_ | refine blk_alloc ?_ _)); exact BK137.out) hb); have n9_ := Aside0.mk (blk_below (g := gb142) (o := .cells #[.string t138, .int .i64 t139, .int .i64 t140] 72 (0, 0)) (by (with_reducible repeat (first | refine blk_drewN ?_ _ | refine blk_drew ?_ | refine blk_alloc ?_ _)); refine blk_far ?_ NB142_159.out _; (with_reducible repeat (first | refine blk_drewN ?_ _ | refine blk_drew ?_ | refine blk_alloc ?_ _)); refine blk_far ?_ NB142_159.out _; (with_reducible repeat (first | refine blk_drewN ?_ _ | refine blk_drew ?_ | refine blk_alloc ?_ _)); exact BK142.out) hb); have n10_ := Aside0.mk (blk_below (g := gb147) (o := .cells #[.string t143, .int .i64 t144, .int .i64 t145] 72 (0, 0)) (by (with_reducible repeat (first | refine blk_drewN ?_ _ | refine blk_drew ?_ | refine blk_alloc ?_ _)); refine blk_far ?_ NB147_159.out _; (with_reducible repeat (first | refine blk_drewN ?_ _ | refine blk_drew ?_ | refine blk_alloc ?_ _)); refine blk_far ?_ NB147_159.out _; (with_reducible repeat (first | refine blk_drewN ?_ _ | refine blk_drew ?_ | refine blk_alloc ?_ _)); exact BK147.out) hb); have n11_ := Aside0.mk (blk_below (g := gb153) (o := .cells #[.int .i64 t148, .slice Ao65 t149.length co65] 28 (0, 0)) (by (with_reducible repeat (first | refine blk_drewN ?_ _ | refine blk_drew ?_ | refine blk_alloc ?_ _)); refine blk_far ?_ NB153_159.out _; (with_reducible repeat (first | refine blk_drewN ?_ _ | refine blk_drew ?_ | refine blk_alloc ?_ _)); refine blk_far ?_ NB153_159.out _; (with_reducible repeat (first | refine blk_drewN ?_ _ | refine blk_drew ?_ | refine blk_alloc ?_ _)); exact BK153.out) hb); have n12_ := Aside0.mk (blk_below (g := gb159) (o := .cells #[.int .i64 t154, .slice Ao76 t155.length co76] 28 (0, 0)) (by (with_reducible repeat (first | refine blk_drewN ?_ _ | refine blk_drew ?_ | refine blk_alloc ?_ _)); refine blk_put (cs := #[.int .i64 t154, .slice none 0 0]) ?_ 1 _ rfl; (with_reducible repeat (first | refine blk_drewN ?_ _ | refine blk_drew ?_ | refine blk_alloc ?_ _)); refine blk_put (cs := #[.int .i64 0, .slice none 0 0]) ?_ 0 _ rfl; (with_reducible repeat (first | refine blk_drewN ?_ _ | refine blk_drew ?_ | refine blk_alloc ?_ _)); exact BK159.out) hb); have n13_ := Aside0.mk (below_step (by repeat (first | (with_reducible first | exact HB.out | apply below_alloc | apply pw_below_drewN | apply below_drew1 | refine below_set ?_ GE125.out | refine below_set ?_ GE131.out | refine below_set ?_ GE137.out | refine below_set ?_ GE142.out | refine below_set ?_ GE147.out | refine below_set ?_ GE153.out | refine below_set ?_ GE159.out) | exact HB.out)) hb); clear HO123; clear HO129; clear HO135; clear HO151; clear HO157; clear BK125; clear BK131; clear BK137; clear BK142; clear BK147; clear BK153; clear BK159; clear HB; have HO123 := n0_; have HO129 := n1_; have HO135 := n2_; have HO151 := n3_; have HO157 := n4_; have HO162 := n5_; have BK125 := n6_; have BK131 := n7_; have BK137 := n8_; have BK142 := n9_; have BK147 := n10_; have BK153 := n11_; have BK159 := n12_; have HB := n13_; clear n0_ n1_ n2_ n3_ n4_ n5_ n6_ n7_ n8_ n9_ n10_ n11_ n12_ n13_; clear hb ho79; obtain ⟨Ao80, co80, eo80⟩ := Kd.R_slice HO162.out; subst eo80) | ((with_reducible refine gate_callee (f := 31) rfl ?_); refine goesL_ (some 55) rfl rfl Tryd.func31 (by kernel_rfl) rfl #[.agg #[.int .i64 t126, .slice Ao34 t127.length co34], .agg #[.int .i64 2, .slice Ao80 y160.length co80]] rfl (by (try simp only [List.map_toArray, List.map_cons, List.map_nil]); first | done | rfl | (simp only [List.length_drop, List.length_take]; rfl)) ?_; (with_reducible refine (cruciblelaw0_SameDisk.calls k t126 _ _ t127 2 _ _ y160 true _ ?side1 ?side2 ?side3 ?side4 A8.out).mono ?_); (case side1 => repeat (first | exact (Kd.R_reads' HO129.out).2.2 | (with_reducible refine Kd.C_alloc ?_ _) | (with_reducible refine Kd.C_drewN ?_ _) | (with_reducible refine Kd.C_drew ?_))); (case side2 => exact (Kd.R_reads' HO129.out).2.1); (case side3 => repeat (first | exact (Kd.R_reads' HO162.out).2.2 | (with_reducible refine Kd.C_alloc ?_ _) | (with_reducible refine Kd.C_drewN ?_ _) | (with_reducible refine Kd.C_drew ?_))); (case side4 => exact (Kd.R_reads' HO162.out).2.1); rintro e w81 ⟨rfl, hb⟩; refine ⟨_, rfl, ?_⟩; have n0_ := Aside0.mk (Kd.R_below (by (with_reducible repeat (first | apply Kd.R_alloc | apply Kd.R_drewN | apply Kd.R_drew)); first | exact HO123.out | exact Kd.R_mono (HO123.out) (fun k_ hk => by simp only [Go.Proofs.YtnnjmelifmlghaaDoorW.Hand.slice_ownBlock] at hk ⊢; exact hk)) hb); have n1_ := Aside0.mk (Kd.R_below (by (with_reducible repeat (first | apply Kd.R_alloc | apply Kd.R_drewN | apply Kd.R_drew)); first | exact HO129.out | exact Kd.R_mono (HO129.out) (fun k_ hk => by simp only [Go.Proofs.YtnnjmelifmlghaaDoorW.Hand.slice_ownBlock] at hk ⊢; exact hk)) hb); have n2_ := Aside0.mk (Kd.R_below (by (with_reducible repeat (first | apply Kd.R_alloc | apply Kd.R_drewN | apply Kd.R_drew)); first | exact HO135.out | exact Kd.R_mono (HO135.out) (fun k_ hk => by simp only [Go.Proofs.YtnnjmelifmlghaaDoorW.Hand.slice_ownBlock] at hk ⊢; exact hk)) hb); have n3_ := Aside0.mk (Kd.R_below (by (with_reducible repeat (first | apply Kd.R_alloc | apply Kd.R_drewN | apply Kd.R_drew)); first | exact HO151.out | exact Kd.R_mono (HO151.out) (fun k_ hk => by simp only [Go.Proofs.YtnnjmelifmlghaaDoorW.Hand.slice_ownBlock] at hk ⊢; exact hk)) hb); have n4_ := Aside0.mk (Kd.R_below (by (with_reducible repeat (first | apply Kd.R_alloc | apply Kd.R_drewN | apply Kd.R_drew)); first | exact HO157.out | exact Kd.R_mono (HO157.out) (fun k_ hk => by simp only [Go.Proofs.YtnnjmelifmlghaaDoorW.Hand.slice_ownBlock] at hk ⊢; exact hk)) hb); have n5_ := Aside0.mk (Kd.R_below (by (with_reducible repeat (first | apply Kd.R_alloc | apply Kd.R_drewN | apply Kd.R_drew)); first | exact HO162.out | exact Kd.R_mono (HO162.out) (fun k_ hk => by simp only [Go.Proofs.YtnnjmelifmlghaaDoorW.Hand.slice_ownBlock] at hk ⊢; exact hk)) hb); have n6_ := Aside0.mk (blk_below (g := gb125) (o := .cells #[.int .i64 t120, .slice Ao29 t121.length co29] 28 (0, 0)) (by (with_reducible repeat (first | refine blk_drewN ?_ _ | refine blk_drew ?_ | refine blk_alloc ?_ _)); exact BK125.out) hb); have n7_ := Aside0.mk (blk_below (g := gb131) (o := .cells #[.int .i64 t126, .slice Ao34 t127.length co34] 28 (0, 0)) (by (with_reducible repeat (first | refine blk_drewN ?_ _ | refine blk_drew ?_ | refine blk_alloc ?_ _)); exact BK131.out) hb); have n8_ := Aside0.mk (blk_below (g := gb137) (o := .cells #[.int .i64 t132, .slice Ao40 t133.length co40] 28 (0, 0)) (by (with_reducible repeat (first | refine blk_drewN ?_ _ | refine blk_drew ?_ | refine blk_alloc ?_ _)); exact BK137.out) hb); have n9_ := Aside0.mk (blk_below (g := gb142) (o := .cells #[.string t138, .int .i64 t139, .int .i64 t140] 72 (0, 0)) (by (with_reducible repeat (first | refine blk_drewN ?_ _ | refine blk_drew ?_ | refine blk_alloc ?_ _)); exact BK142.out) hb); have n10_ := Aside0.mk (blk_below (g := gb147) (o := .cells #[.string t143, .int .i64 t144, .int .i64 t145] 72 (0, 0)) (by (with_reducible repeat (first | refine blk_drewN ?_ _ | refine blk_drew ?_ | refine blk_alloc ?_ _)); exact BK147.out) hb); have n11_ := Aside0.mk (blk_below (g := gb153) (o := .cells #[.int .i64 t148, .slice Ao65 t149.length co65] 28 (0, 0)) (by (with_reducible repeat (first | refine blk_drewN ?_ _ | refine blk_drew ?_ | refine blk_alloc ?_ _)); exact BK153.out) hb); have n12_ := Aside0.mk (blk_below (g := gb159) (o := .cells #[.int .i64 t154, .slice Ao76 t155.length co76] 28 (0, 0)) (by (with_reducible repeat (first | refine blk_drewN ?_ _ | refine blk_drew ?_ | refine blk_alloc ?_ _)); exact BK159.out) hb); have n13_ := Aside0.mk (below_step (by repeat (first | (with_reducible first | exact HB.out | apply below_alloc | apply pw_below_drewN | apply below_drew1 | refine below_set ?_ GE125.out | refine below_set ?_ GE131.out | refine below_set ?_ GE137.out | refine below_set ?_ GE142.out | refine below_set ?_ GE147.out | refine below_set ?_ GE153.out | refine below_set ?_ GE159.out) | exact HB.out)) hb); clear HO123; clear HO129; clear HO135; clear HO151; clear HO157; clear HO162; clear BK125; clear BK131; clear BK137; clear BK142; clear BK147; clear BK153; clear BK159; clear HB; have HO123 := n0_; have HO129 := n1_; have HO135 := n2_; have HO151 := n3_; have HO157 := n4_; have HO162 := n5_; have BK125 := n6_; have BK131 := n7_; have BK137 := n8_; have BK142 := n9_; have BK147 := n10_; have BK153 := n11_; have BK159 := n12_; have HB := n13_; clear n0_ n1_ n2_ n3_ n4_ n5_ n6_ n7_ n8_ n9_ n10_ n11_ n12_ n13_; (try clear hb); (try clear hb2); (try clear hk); (try clear hi)) | (go_at_call 25; (with_reducible refine (cruciblelaw0_Num.calls t124 t164 _ A10.out).mono ?_); rintro e w' ⟨rfl, ⟨nd, rfl⟩⟩) | (go_at_call 25; (with_reducible refine (cruciblelaw0_Num.calls t130 t165 _ A12.out).mono ?_); rintro e w' ⟨rfl, ⟨nd, rfl⟩⟩; have hcz82_0 : w81.cell? ⟨gb137, 0, none⟩ = some (.int .i64 t132) := (blk_cell BK137.out 0).trans rfl; have hcz82_1 : w81.cell? ⟨gb137, 1, none⟩ = some (.slice Ao40 t133.length co40) := (blk_cell BK137.out 1).trans rfl; have hfz82_0 := blk_frozen BK137.out 0; have hfz82_1 := blk_frozen BK137.out 1) | ((with_reducible refine gate_dst (N := 69) rfl ?_); (try (refine gate_guard (by rfl) ?_; dsimp only)); refine Kd.R_lit k72 _ 72 ?hg (N := 69) ?hd (xs := ([(⟨(⟨#[97]⟩ : ByteArray), 9, 2⟩ : S72)] : List (S72))) (inner := [.string (⟨#[97]⟩ : ByteArray), .int .i64 9, .int .i64 2]) (ok := fun _ => True) (okp := fun _ => True) ?hr ?hp (fun _ hk => hk) trivial (Below.refl _ _) (Nat.le_refl _) (by simp) ?_; (case hd => rfl); (case hg => rfl); (case hr => first | (go_simp; done) | (go_simp; rfl)); (case hp => exact (Reps.c3 (show Kd.M k72 _ _ _ (⟨(⟨#[97]⟩ : ByteArray), 9, 2⟩ : S72) [.string (⟨#[97]⟩ : ByteArray), .int .i64 9, .int .i64 2] from (k72_mkM _ _ _ (⟨(⟨#[97]⟩ : ByteArray), 9, 2⟩ : S72) )) (Reps.none _ _))); intro v167 w83 ho84 hb hg_ hnew_; clear hg_ hnew_; (first | rw [← Ny166.out] at ho84 | (simp only [Int.reduceToNat] at ho84; rw [← Ny166.out] at ho84)); have n0_ := Aside0.mk (Kd.R_elder' (by (with_reducible repeat (first | apply Kd.R_alloc | apply Kd.R_drewN | apply Kd.R_drew)); first | exact HO123.out | exact Kd.R_mono (HO123.out) (fun k_ hk => by simp only [Go.Proofs.YtnnjmelifmlghaaDoorW.Hand.slice_ownBlock] at hk ⊢; exact hk)) (Kd.R_base ho84) hb); have n1_ := Aside0.mk (Kd.R_elder' (by (with_reducible repeat (first | apply Kd.R_alloc | apply Kd.R_drewN | apply Kd.R_drew)); first | exact HO129.out | exact Kd.R_mono (HO129.out) (fun k_ hk => by simp only [Go.Proofs.YtnnjmelifmlghaaDoorW.Hand.slice_ownBlock] at hk ⊢; exact hk)) (Kd.R_base ho84) hb); have n2_ := Aside0.mk (Kd.R_elder' (by (with_reducible repeat (first | apply Kd.R_alloc | apply Kd.R_drewN | apply Kd.R_drew)); first | exact HO135.out | exact Kd.R_mono (HO135.out) (fun k_ hk => by simp only [Go.Proofs.YtnnjmelifmlghaaDoorW.Hand.slice_ownBlock] at hk ⊢; exact hk)) (Kd.R_base ho84) hb); have n3_ := Aside0.mk (Kd.R_elder' (by (with_reducible repeat (first | apply Kd.R_alloc | apply Kd.R_drewN | apply Kd.R_drew)); first | exact HO151.out | exact Kd.R_mono (HO151.out) (fun k_ hk => by simp only [Go.Proofs.YtnnjmelifmlghaaDoorW.Hand.slice_ownBlock] at hk ⊢; exact hk)) (Kd.R_base ho84) hb); have n4_ := Aside0.mk (Kd.R_elder' (by (with_reducible repeat (first | apply Kd.R_alloc | apply Kd.R_drewN | apply Kd.R_drew)); first | exact HO157.out | exact Kd.R_mono (HO157.out) (fun k_ hk => by simp only [Go.Proofs.YtnnjmelifmlghaaDoorW.Hand.slice_ownBlock] at hk ⊢; exact hk)) (Kd.R_base ho84) hb); have n5_ := Aside0.mk (Kd.R_elder' (by (with_reducible repeat (first | apply Kd.R_alloc | apply Kd.R_drewN | apply Kd.R_drew)); first | exact HO162.out | exact Kd.R_mono (HO162.out) (fun k_ hk => by simp only [Go.Proofs.YtnnjmelifmlghaaDoorW.Hand.slice_ownBlock] at hk ⊢; exact hk)) (Kd.R_base ho84) hb); have n6_ := Aside0.mk (Kd.R_lower (Kd.R_newB (Kd.R_newB (Kd.R_new' (Kd.R_new' (Kd.R_new' (Kd.R_new' (Kd.R_new' (Kd.R_new' ho84 (Kd.R_lt (by (with_reducible repeat (first | apply Kd.R_alloc | apply Kd.R_drewN | apply Kd.R_drew)); first | exact HO123.out | exact Kd.R_mono (HO123.out) (fun k_ hk => by simp only [Go.Proofs.YtnnjmelifmlghaaDoorW.Hand.slice_ownBlock] at hk ⊢; exact hk)))) (Kd.R_lt (by (with_reducible repeat (first | apply Kd.R_alloc | apply Kd.R_drewN | apply Kd.R_drew)); first | exact HO129.out | exact Kd.R_mono (HO129.out) (fun k_ hk => by simp only [Go.Proofs.YtnnjmelifmlghaaDoorW.Hand.slice_ownBlock] at hk ⊢; exact hk)))) (Kd.R_lt (by (with_reducible repeat (first | apply Kd.R_alloc | apply Kd.R_drewN | apply Kd.R_drew)); first | exact HO135.out | exact Kd.R_mono (HO135.out) (fun k_ hk => by simp only [Go.Proofs.YtnnjmelifmlghaaDoorW.Hand.slice_ownBlock] at hk ⊢; exact hk)))) (Kd.R_lt (by (with_reducible repeat (first | apply Kd.R_alloc | apply Kd.R_drewN | apply Kd.R_drew)); first | exact HO151.out | exact Kd.R_mono (HO151.out) (fun k_ hk => by simp only [Go.Proofs.YtnnjmelifmlghaaDoorW.Hand.slice_ownBlock] at hk ⊢; exact hk)))) (Kd.R_lt (by (with_reducible repeat (first | apply Kd.R_alloc | apply Kd.R_drewN | apply Kd.R_drew)); first | exact HO157.out | exact Kd.R_mono (HO157.out) (fun k_ hk => by simp only [Go.Proofs.YtnnjmelifmlghaaDoorW.Hand.slice_ownBlock] at hk ⊢; exact hk)))) (Kd.R_lt (by (with_reducible repeat (first | apply Kd.R_alloc | apply Kd.R_drewN | apply Kd.R_drew)); first | exact HO162.out | exact Kd.R_mono (HO162.out) (fun k_ hk => by simp only [Go.Proofs.YtnnjmelifmlghaaDoorW.Hand.slice_ownBlock] at hk ⊢; exact hk)))) (g := gb142) (o := .cells #[.string t138, .int .i64 t139, .int .i64 t140] 72 (0, 0)) (by (with_reducible repeat (first | refine blk_drewN ?_ _ | refine blk_drew ?_ | refine blk_alloc ?_ _)); exact BK142.out)) (g := gb147) (o := .cells #[.string t143, .int .i64 t144, .int .i64 t145] 72 (0, 0)) (by (with_reducible repeat (first | refine blk_drewN ?_ _ | refine blk_drew ?_ | refine blk_alloc ?_ _)); exact BK147.out)) (below_size (by repeat (first | (with_reducible first | exact HB.out | apply below_alloc | apply pw_below_drewN | apply below_drew1 | refine below_set ?_ GE125.out | refine below_set ?_ GE131.out | refine below_set ?_ GE137.out | refine below_set ?_ GE142.out | refine below_set ?_ GE147.out | refine below_set ?_ GE153.out | refine below_set ?_ GE159.out) | exact HB.out)))); have n7_ := Aside0.mk (blk_below (g := gb125) (o := .cells #[.int .i64 t120, .slice Ao29 t121.length co29] 28 (0, 0)) (by (with_reducible repeat (first | refine blk_drewN ?_ _ | refine blk_drew ?_ | refine blk_alloc ?_ _)); exact BK125.out) hb); have n8_ := Aside0.mk (blk_below (g := gb131) (o := .cells #[.int .i64 t126, .slice Ao34 t127.length co34] 28 (0, 0)) (by (with_reducible repeat (first | refine blk_drewN ?_ _ | refine blk_drew ?_ | refine blk_alloc ?_ _)); exact BK131.out) hb); have n9_ := Aside0.mk (blk_below (g := gb137) (o := .cells #[.int .i64 t132, .slice Ao40 t133.length co40] 28 (0, 0)) (by (with_reducible repeat (first | refine blk_drewN ?_ _ | refine blk_drew ?_ | refine blk_alloc ?_ _)); exact BK137.out) hb); have n10_ := Aside0.mk (blk_below (g := gb142) (o := .cells #[.string t138, .int .i64 t139, .int .i64 t140] 72 (0, 0)) (by (with_reducible repeat (first | refine blk_drewN ?_ _ | refine blk_drew ?_ | refine blk_alloc ?_ _)); exact BK142.out) hb); have n11_ := Aside0.mk (blk_below (g := gb147) (o := .cells #[.string t143, .int .i64 t144, .int .i64 t145] 72 (0, 0)) (by (with_reducible repeat (first | refine blk_drewN ?_ _ | refine blk_drew ?_ | refine blk_alloc ?_ _)); exact BK147.out) hb); have n12_ := Aside0.mk (blk_below (g := gb153) (o := .cells #[.int .i64 t148, .slice Ao65 t149.length co65] 28 (0, 0)) (by (with_reducible repeat (first | refine blk_drewN ?_ _ | refine blk_drew ?_ | refine blk_alloc ?_ _)); exact BK153.out) hb); have n13_ := Aside0.mk (blk_below (g := gb159) (o := .cells #[.int .i64 t154, .slice Ao76 t155.length co76] 28 (0, 0)) (by (with_reducible repeat (first | refine blk_drewN ?_ _ | refine blk_drew ?_ | refine blk_alloc ?_ _)); exact BK159.out) hb); have n14_ := Aside0.mk (below_step (by repeat (first | (with_reducible first | exact HB.out | apply below_alloc | apply pw_below_drewN | apply below_drew1 | refine below_set ?_ GE125.out | refine below_set ?_ GE131.out | refine below_set ?_ GE137.out | refine below_set ?_ GE142.out | refine below_set ?_ GE147.out | refine below_set ?_ GE153.out | refine below_set ?_ GE159.out) | exact HB.out)) hb); clear HO123; clear HO129; clear HO135; clear HO151; clear HO157; clear HO162; clear BK125; clear BK131; clear BK137; clear BK142; clear BK147; clear BK153; clear BK159; clear HB; have HO123 := n0_; have HO129 := n1_; have HO135 := n2_; have HO151 := n3_; have HO157 := n4_; have HO162 := n5_; have HO168 := n6_; have BK125 := n7_; have BK131 := n8_; have BK137 := n9_; have BK142 := n10_; have BK147 := n11_; have BK153 := n12_; have BK159 := n13_; have HB := n14_; clear n0_ n1_ n2_ n3_ n4_ n5_ n6_ n7_ n8_ n9_ n10_ n11_ n12_ n13_ n14_; clear hb ho84; obtain ⟨Ao85, co85, eo85⟩ := Kd.R_slice HO168.out; subst eo85) | (go_at_call 31; (with_reducible refine (cruciblelaw0_SameDisk.calls k t132 _ _ t133 2 _ _ y166 true _ ?side1 ?side2 ?side3 ?side4 A14.out).mono ?_); (case side1 => repeat (first | exact (Kd.R_reads' HO135.out).2.2 | (with_reducible refine Kd.C_alloc ?_ _) | (with_reducible refine Kd.C_drewN ?_ _) | (with_reducible refine Kd.C_drew ?_))); (case side2 => exact (Kd.R_reads' HO135.out).2.1); (case side3 => repeat (first | exact (Kd.R_reads' HO168.out).2.2 | (with_reducible refine Kd.C_alloc ?_ _) | (with_reducible refine Kd.C_drewN ?_ _) | (with_reducible refine Kd.C_drew ?_))); (case side4 => exact (Kd.R_reads' HO168.out).2.1); rintro e w86 ⟨rfl, hb⟩; have n0_ := Aside0.mk (Kd.R_below (by (with_reducible repeat (first | apply Kd.R_alloc | apply Kd.R_drewN | apply Kd.R_drew)); first | exact HO123.out | exact Kd.R_mono (HO123.out) (fun k_ hk => by simp only [Go.Proofs.YtnnjmelifmlghaaDoorW.Hand.slice_ownBlock] at hk ⊢; exact hk)) hb); have n1_ := Aside0.mk (Kd.R_below (by (with_reducible repeat (first | apply Kd.R_alloc | apply Kd.R_drewN | apply Kd.R_drew)); first | exact HO129.out | exact Kd.R_mono (HO129.out) (fun k_ hk => by simp only [Go.Proofs.YtnnjmelifmlghaaDoorW.Hand.slice_ownBlock] at hk ⊢; exact hk)) hb); have n2_ := Aside0.mk (Kd.R_below (by (with_reducible repeat (first | apply Kd.R_alloc | apply Kd.R_drewN | apply Kd.R_drew)); first | exact HO135.out | exact Kd.R_mono (HO135.out) (fun k_ hk => by simp only [Go.Proofs.YtnnjmelifmlghaaDoorW.Hand.slice_ownBlock] at hk ⊢; exact hk)) hb); have n3_ := Aside0.mk (Kd.R_below (by (with_reducible repeat (first | apply Kd.R_alloc | apply Kd.R_drewN | apply Kd.R_drew)); first | exact HO151.out | exact Kd.R_mono (HO151.out) (fun k_ hk => by simp only [Go.Proofs.YtnnjmelifmlghaaDoorW.Hand.slice_ownBlock] at hk ⊢; exact hk)) hb); have n4_ := Aside0.mk (Kd.R_below (by (with_reducible repeat (first | apply Kd.R_alloc | apply Kd.R_drewN | apply Kd.R_drew)); first | exact HO157.out | exact Kd.R_mono (HO157.out) (fun k_ hk => by simp only [Go.Proofs.YtnnjmelifmlghaaDoorW.Hand.slice_ownBlock] at hk ⊢; exact hk)) hb); have n5_ := Aside0.mk (Kd.R_below (by (with_reducible repeat (first | apply Kd.R_alloc | apply Kd.R_drewN | apply Kd.R_drew)); first | exact HO162.out | exact Kd.R_mono (HO162.out) (fun k_ hk => by simp only [Go.Proofs.YtnnjmelifmlghaaDoorW.Hand.slice_ownBlock] at hk ⊢; exact hk)) hb); have n6_ := Aside0.mk (Kd.R_below (by (with_reducible repeat (first | apply Kd.R_alloc | apply Kd.R_drewN | apply Kd.R_drew)); first | exact HO168.out | exact Kd.R_mono (HO168.out) (fun k_ hk => by simp only [Go.Proofs.YtnnjmelifmlghaaDoorW.Hand.slice_ownBlock] at hk ⊢; exact hk)) hb); have n7_ := Aside0.mk (blk_below (g := gb125) (o := .cells #[.int .i64 t120, .slice Ao29 t121.length co29] 28 (0, 0)) (by (with_reducible repeat (first | refine blk_drewN ?_ _ | refine blk_drew ?_ | refine blk_alloc ?_ _)); exact BK125.out) hb); have n8_ := Aside0.mk (blk_below (g := gb131) (o := .cells #[.int .i64 t126, .slice Ao34 t127.length co34] 28 (0, 0)) (by (with_reducible repeat (first | refine blk_drewN ?_ _ | refine blk_drew ?_ | refine blk_alloc ?_ _)); exact BK131.out) hb); have n9_ := Aside0.mk (blk_below (g := gb137) (o := .cells #[.int .i64 t132, .slice Ao40 t133.length co40] 28 (0, 0)) (by (with_reducible repeat (first | refine blk_drewN ?_ _ | refine blk_drew ?_ | refine blk_alloc ?_ _)); exact BK137.out) hb); have n10_ := Aside0.mk (blk_below (g := gb142) (o := .cells #[.string t138, .int .i64 t139, .int .i64 t140] 72 (0, 0)) (by (with_reducible repeat (first | refine blk_drewN ?_ _ | refine blk_drew ?_ | refine blk_alloc ?_ _)); exact BK142.out) hb); have n11_ := Aside0.mk (blk_below (g := gb147) (o := .cells #[.string t143, .int .i64 t144, .int .i64 t145] 72 (0, 0)) (by (with_reducible repeat (first | refine blk_drewN ?_ _ | refine blk_drew ?_ | refine blk_alloc ?_ _)); exact BK147.out) hb); have n12_ := Aside0.mk (blk_below (g := gb153) (o := .cells #[.int .i64 t148, .slice Ao65 t149.length co65] 28 (0, 0)) (by (with_reducible repeat (first | refine blk_drewN ?_ _ | refine blk_drew ?_ | refine blk_alloc ?_ _)); exact BK153.out) hb); have n13_ := Aside0.mk (blk_below (g := gb159) (o := .cells #[.int .i64 t154, .slice Ao76 t155.length co76] 28 (0, 0)) (by (with_reducible repeat (first | refine blk_drewN ?_ _ | refine blk_drew ?_ | refine blk_alloc ?_ _)); exact BK159.out) hb); have n14_ := Aside0.mk (below_step (by repeat (first | (with_reducible first | exact HB.out | apply below_alloc | apply pw_below_drewN | apply below_drew1 | refine below_set ?_ GE125.out | refine below_set ?_ GE131.out | refine below_set ?_ GE137.out | refine below_set ?_ GE142.out | refine below_set ?_ GE147.out | refine below_set ?_ GE153.out | refine below_set ?_ GE159.out) | exact HB.out)) hb); clear HO123; clear HO129; clear HO135; clear HO151; clear HO157; clear HO162; clear HO168; clear BK125; clear BK131; clear BK137; clear BK142; clear BK147; clear BK153; clear BK159; clear HB; have HO123 := n0_; have HO129 := n1_; have HO135 := n2_; have HO151 := n3_; have HO157 := n4_; have HO162 := n5_; have HO168 := n6_; have BK125 := n7_; have BK131 := n8_; have BK137 := n9_; have BK142 := n10_; have BK147 := n11_; have BK153 := n12_; have BK159 := n13_; have HB := n14_; clear n0_ n1_ n2_ n3_ n4_ n5_ n6_ n7_ n8_ n9_ n10_ n11_ n12_ n13_ n14_; (try clear hb); (try clear hb2); (try clear hk); (try clear hi)) | (go_at_call 25; (with_reducible refine (cruciblelaw0_Num.calls t136 t170 _ A16.out).mono ?_); rintro e w' ⟨rfl, ⟨nd, rfl⟩⟩; have hcz87_0 : w86.cell? ⟨gb142, 0, none⟩ = some (.string t138) := (blk_cell BK142.out 0).trans rfl; have hcz87_1 : w86.cell? ⟨gb142, 1, none⟩ = some (.int .i64 t139) := (blk_cell BK142.out 1).trans rfl; have hcz87_2 : w86.cell? ⟨gb142, 2, none⟩ = some (.int .i64 t140) := (blk_cell BK142.out 2).trans rfl; have hfz87_0 := blk_frozen BK142.out 0; have hfz87_1 := blk_frozen BK142.out 1; have hfz87_2 := blk_frozen BK142.out 2) | (go_at_call 25; (with_reducible refine (cruciblelaw0_Num.calls t152 t171 _ A21.out).mono ?_); rintro e w' ⟨rfl, ⟨nd, rfl⟩⟩) | (go_at_call 25; (with_reducible refine (cruciblelaw0_Num.calls t158 t172 _ A23.out).mono ?_); rintro e w' ⟨rfl, ⟨nd, rfl⟩⟩; have hcz88_0 : w86.cell? ⟨gb131, 0, none⟩ = some (.int .i64 t126) := (blk_cell BK131.out 0).trans rfl; have hcz88_1 : w86.cell? ⟨gb131, 1, none⟩ = some (.slice Ao34 t127.length co34) := (blk_cell BK131.out 1).trans rfl; have hfz88_0 := blk_frozen BK131.out 0; have hfz88_1 := blk_frozen BK131.out 1) | (go_at_call 43; (with_reducible refine (disk_May.calls t126 _ _ t127 t173 _ ?side1 ?side2 A25.out).mono ?_); (case side1 => repeat (first | exact (Kd.R_reads' HO129.out).2.2 | (with_reducible refine Kd.C_alloc ?_ _) | (with_reducible refine Kd.C_drewN ?_ _) | (with_reducible refine Kd.C_drew ?_))); (case side2 => exact (Kd.R_reads' HO129.out).2.1); rintro e w89 ⟨rfl, hb⟩; have n0_ := Aside0.mk (Kd.R_below (by (with_reducible repeat (first | apply Kd.R_alloc | apply Kd.R_drewN | apply Kd.R_drew)); first | exact HO123.out | exact Kd.R_mono (HO123.out) (fun k_ hk => by simp only [Go.Proofs.YtnnjmelifmlghaaDoorW.Hand.slice_ownBlock] at hk ⊢; exact hk)) hb); have n1_ := Aside0.mk (Kd.R_below (by (with_reducible repeat (first | apply Kd.R_alloc | apply Kd.R_drewN | apply Kd.R_drew)); first | exact HO129.out | exact Kd.R_mono (HO129.out) (fun k_ hk => by simp only [Go.Proofs.YtnnjmelifmlghaaDoorW.Hand.slice_ownBlock] at hk ⊢; exact hk)) hb); have n2_ := Aside0.mk (Kd.R_below (by (with_reducible repeat (first | apply Kd.R_alloc | apply Kd.R_drewN | apply Kd.R_drew)); first | exact HO135.out | exact Kd.R_mono (HO135.out) (fun k_ hk => by simp only [Go.Proofs.YtnnjmelifmlghaaDoorW.Hand.slice_ownBlock] at hk ⊢; exact hk)) hb); have n3_ := Aside0.mk (Kd.R_below (by (with_reducible repeat (first | apply Kd.R_alloc | apply Kd.R_drewN | apply Kd.R_drew)); first | exact HO151.out | exact Kd.R_mono (HO151.out) (fun k_ hk => by simp only [Go.Proofs.YtnnjmelifmlghaaDoorW.Hand.slice_ownBlock] at hk ⊢; exact hk)) hb); have n4_ := Aside0.mk (Kd.R_below (by (with_reducible repeat (first | apply Kd.R_alloc | apply Kd.R_drewN | apply Kd.R_drew)); first | exact HO157.out | exact Kd.R_mono (HO157.out) (fun k_ hk => by simp only [Go.Proofs.YtnnjmelifmlghaaDoorW.Hand.slice_ownBlock] at hk ⊢; exact hk)) hb); have n5_ := Aside0.mk (Kd.R_below (by (with_reducible repeat (first | apply Kd.R_alloc | apply Kd.R_drewN | apply Kd.R_drew)); first | exact HO162.out | exact Kd.R_mono (HO162.out) (fun k_ hk => by simp only [Go.Proofs.YtnnjmelifmlghaaDoorW.Hand.slice_ownBlock] at hk ⊢; exact hk)) hb); have n6_ := Aside0.mk (Kd.R_below (by (with_reducible repeat (first | apply Kd.R_alloc | apply Kd.R_drewN | apply Kd.R_drew)); first | exact HO168.out | exact Kd.R_mono (HO168.out) (fun k_ hk => by simp only [Go.Proofs.YtnnjmelifmlghaaDoorW.Hand.slice_ownBlock] at hk ⊢; exact hk)) hb); have n7_ := Aside0.mk (blk_below (g := gb125) (o := .cells #[.int .i64 t120, .slice Ao29 t121.length co29] 28 (0, 0)) (by (with_reducible repeat (first | refine blk_drewN ?_ _ | refine blk_drew ?_ | refine blk_alloc ?_ _)); exact BK125.out) hb); have n8_ := Aside0.mk (blk_below (g := gb131) (o := .cells #[.int .i64 t126, .slice Ao34 t127.length co34] 28 (0, 0)) (by (with_reducible repeat (first | refine blk_drewN ?_ _ | refine blk_drew ?_ | refine blk_alloc ?_ _)); exact BK131.out) hb); have n9_ := Aside0.mk (blk_below (g := gb137) (o := .cells #[.int .i64 t132, .slice Ao40 t133.length co40] 28 (0, 0)) (by (with_reducible repeat (first | refine blk_drewN ?_ _ | refine blk_drew ?_ | refine blk_alloc ?_ _)); exact BK137.out) hb); have n10_ := Aside0.mk (blk_below (g := gb142) (o := .cells #[.string t138, .int .i64 t139, .int .i64 t140] 72 (0, 0)) (by (with_reducible repeat (first | refine blk_drewN ?_ _ | refine blk_drew ?_ | refine blk_alloc ?_ _)); exact BK142.out) hb); have n11_ := Aside0.mk (blk_below (g := gb147) (o := .cells #[.string t143, .int .i64 t144, .int .i64 t145] 72 (0, 0)) (by (with_reducible repeat (first | refine blk_drewN ?_ _ | refine blk_drew ?_ | refine blk_alloc ?_ _)); exact BK147.out) hb); have n12_ := Aside0.mk (blk_below (g := gb153) (o := .cells #[.int .i64 t148, .slice Ao65 t149.length co65] 28 (0, 0)) (by (with_reducible repeat (first | refine blk_drewN ?_ _ | refine blk_drew ?_ | refine blk_alloc ?_ _)); exact BK153.out) hb); have n13_ := Aside0.mk (blk_below (g := gb159) (o := .cells #[.int .i64 t154, .slice Ao76 t155.length co76] 28 (0, 0)) (by (with_reducible repeat (first | refine blk_drewN ?_ _ | refine blk_drew ?_ | refine blk_alloc ?_ _)); exact BK159.out) hb); have n14_ := Aside0.mk (below_step (by repeat (first | (with_reducible first | exact HB.out | apply below_alloc | apply pw_below_drewN | apply below_drew1 | refine below_set ?_ GE125.out | refine below_set ?_ GE131.out | refine below_set ?_ GE137.out | refine below_set ?_ GE142.out | refine below_set ?_ GE147.out | refine below_set ?_ GE153.out | refine below_set ?_ GE159.out) | exact HB.out)) hb); clear HO123; clear HO129; clear HO135; clear HO151; clear HO157; clear HO162; clear HO168; clear BK125; clear BK131; clear BK137; clear BK142; clear BK147; clear BK153; clear BK159; clear HB; have HO123 := n0_; have HO129 := n1_; have HO135 := n2_; have HO151 := n3_; have HO157 := n4_; have HO162 := n5_; have HO168 := n6_; have BK125 := n7_; have BK131 := n8_; have BK137 := n9_; have BK142 := n10_; have BK147 := n11_; have BK153 := n12_; have BK159 := n13_; have HB := n14_; clear n0_ n1_ n2_ n3_ n4_ n5_ n6_ n7_ n8_ n9_ n10_ n11_ n12_ n13_ n14_; (try clear hb); (try clear hb2); (try clear hk); (try clear hi)))
                      go_ret
                      exact ⟨by first | rfl | (simp [errW_none, errW_some] <;> rfl) | (simp [*, errW_none, errW_some] <;> rfl), by repeat (first | (with_reducible first | exact HB.out | apply below_alloc | apply pw_below_drewN | apply below_drew1 | refine below_set ?_ GE125.out | refine below_set ?_ GE131.out | refine below_set ?_ GE137.out | refine below_set ?_ GE142.out | refine below_set ?_ GE147.out | refine below_set ?_ GE153.out | refine below_set ?_ GE159.out) | exact HB.out)⟩
                    · rw [if_neg c24] at H
                      exact absurd H (by simp)
                  · rw [if_neg c22] at H
                    exact absurd H (by simp)
              · replace c19 := Bool.eq_false_iff.mpr c19
                subst c19
                have H1 : (none) = some r := by rw [if_neg (show ¬ (false = true) by decide)] at H; exact H
                clear H
                have H := H1
                clear H1
                exact absurd H (by simp)
            · rw [if_neg c18] at H
              exact absurd H (by simp)
          · rw [if_neg c17] at H
            exact absurd H (by simp)
        · replace c15 := Bool.eq_false_iff.mpr c15
          subst c15
          have H1 : (none) = some r := by rw [if_neg (show ¬ (false = true) by decide)] at H; exact H
          clear H
          have H := H1
          clear H1
          exact absurd H (by simp)
      · rw [if_neg c13] at H
        exact absurd H (by simp)
    · rw [if_neg c11] at H
      exact absurd H (by simp)
  · replace c9 := Bool.eq_false_iff.mpr c9
    subst c9
    have H1 : (none) = some r := by rw [if_neg (show ¬ (false = true) by decide)] at H; exact H
    clear H
    have H := H1
    clear H1
    exact absurd H (by simp)

end Go.Proofs.YtnnjmelifmlghaaDoor.A
end

section
set_option linter.unusedVariables false
set_option linter.unusedSimpArgs false
namespace Go.Proofs.YtnnjmelifmlghaaDoor.A
open Go.RowKit Go.Proofs.YtnnjmelifmlghaaDoorW.PrintWords Go.Proofs.YtnnjmelifmlghaaDoorW.PrintLast Go.Proofs.YtnnjmelifmlghaaDoorW.PrintMore
attribute [local go_sem] max2_int min2_int max_two min_two max_three min_three max_four min_four   -- for this text's walks alone
set_option linter.unusedVariables false
set_option linter.unusedSimpArgs false

/-! ### cruciblelaw12_awakex0: function 45 -/
theorem disk_SameFiles.tells_ : True := trivial
theorem cruciblelaw12_awake.tells (k : Nat) (hk : 10 < k) : cruciblelaw12_awake.f k = some true := by
  have e1 : putF 0 ([] : List S72) (⟨#[98]⟩ : ByteArray) 7 = (1, [⟨⟨#[98]⟩, 7, 1⟩], 0) := by kernel_rfl
  have e2 : putF 1 [⟨⟨#[98]⟩, 7, 1⟩] (⟨#[97]⟩ : ByteArray) 9 = (2, [⟨⟨#[97]⟩, 9, 2⟩, ⟨⟨#[98]⟩, 7, 1⟩], 0) := by kernel_rfl
  have e3 : removeF 2 [⟨⟨#[97]⟩, 9, 2⟩, ⟨⟨#[98]⟩, 7, 1⟩] (⟨#[98]⟩ : ByteArray) = (2, [⟨⟨#[97]⟩, 9, 2⟩], 0) := by kernel_rfl
  have e4 : findF 2 [⟨⟨#[97]⟩, 9, 2⟩, ⟨⟨#[98]⟩, 7, 1⟩] (⟨#[98]⟩ : ByteArray) = (⟨#[98]⟩, 7, 1, true) := by kernel_rfl
  have e5 : findF 2 [⟨⟨#[97]⟩, 9, 2⟩] (⟨#[98]⟩ : ByteArray) = (⟨#[]⟩, 0, 0, false) := by kernel_rfl
  have e6 : removeF 2 [⟨⟨#[97]⟩, 9, 2⟩] (⟨#[98]⟩ : ByteArray) = (0, [], 1202) := by kernel_rfl
  have e7 : putF 2 [⟨⟨#[97]⟩, 9, 2⟩] (⟨#[47, 98]⟩ : ByteArray) 9 = (0, [], 1200) := by kernel_rfl
  have e8 : diskOk 2 [⟨⟨#[97]⟩, 9, 2⟩, ⟨⟨#[98]⟩, 7, 1⟩] = true := by kernel_rfl
  obtain ⟨j, rfl⟩ : ∃ j, k = j + 10 := ⟨k - 10, by omega⟩
  have hS1 : cruciblelaw0_SameDisk.f (j + 10) 2 [⟨⟨#[97]⟩, 9, 2⟩, ⟨⟨#[98]⟩, 7, 1⟩] 2 [⟨⟨#[97]⟩, 9, 2⟩, ⟨⟨#[98]⟩, 7, 1⟩] = some true := by kernel_rfl
  have hS2 : cruciblelaw0_SameDisk.f (j + 10) 2 [⟨⟨#[97]⟩, 9, 2⟩] 2 [⟨⟨#[97]⟩, 9, 2⟩] = some true := by kernel_rfl
  unfold cruciblelaw12_awake.f disk_Put.f disk_Remove.f disk_Find.f disk_May.f cruciblelaw0_Num.f
  simp [e1, e2, e3, e4, e5, e6, e7, e8, hS1, hS2]

end Go.Proofs.YtnnjmelifmlghaaDoor.A
end
