/- Proves PrizeWorth: for every input the statement returns true and its arguments read as before. No conditions. -/
import Derived.Test.YtaogmipkcdhkjaaPrizeWorth1
import Derived.Test.YtaogmipkcdhkjaaPrizeWorth2
import Derived.Test.YtaogmipkcdhkjaaPrizeWorth3
import Derived.Test.YtaogmipkcdhkjaaPrizeWorth4
section
namespace Go.Proofs.Pz
open Go.Sx Go.RowKit
set_option linter.unusedVariables false
namespace AQ
theorem fa25_0 (a : Addr) (w : World) : (Instr.fieldAt 25 (.pointer (some a)) 0).run Try.prog w = .ok (.pointer (some (a.add 0))) w := by simp [go_sem]
theorem fa25_1 (a : Addr) (w : World) : (Instr.fieldAt 25 (.pointer (some a)) 1).run Try.prog w = .ok (.pointer (some (a.add 1))) w := by simp [go_sem]
theorem fa42_1 (a : Addr) (w : World) : (Instr.fieldAt 42 (.pointer (some a)) 1).run Try.prog w = .ok (.pointer (some (a.add 1))) w := by simp [go_sem]
end AQ
open AQ
theorem PrizeWorthT {AM AL : Option Addr} {cM bM oM cL bL oL : Nat} {men : List Wi} {list : List Zi} {w0 : World} (hM : SlP encW 4 w0 AM cM bM oM men) (hL : SlP encZ 2 w0 AL cL bL oL list) {AB : Option Addr} {cB bB oB : Nat} {by_ : List Nat} (hB : SlP encB 1 w0 AB cB bB oB by_) (hbb : ∀ y ∈ by_, y < 256) : Calls Try.prog 3 #[(.agg #[(.slice AM men.length cM), (.slice AL list.length cL)]), .slice AB by_.length cB, .bool true] w0 (Ret w0 fun v _ => v = .bool true) := by
  refine enter (args := [(.agg #[(.slice AM men.length cM), (.slice AL list.length cL)]), .slice AB by_.length cB, .bool true]) (S := []) Try.func3 rfl Try.ntmps3 rfl fun cs T H => ?_
  refine At.seq ?_
  refine At.region' (l := [0, 1]) rfl ?_
  refine At.new H rfl (wN rfl) rfl rfl rfl (x_box (H.r 0 rfl) rfl) ?_; clear H; intro b3 T w _ _ H
  refine At.v H rfl (wN rfl) rfl rfl rfl (x_assign evC) ?_; clear H; intro T H
  refine At.regionEnd ?_
  refine At.seq ?_
  refine At.seq ?_
  refine At.region' (l := [0, 1, 2, 3, 4, 5, 6]) rfl ?_
  refine At.v H rfl (wN rfl) rfl rfl rfl (x_loadA (H.r 3 rfl) Try.isAgg25 Try.sizeOf25 (H.cellsAt (n := 2) (by repeat (first | exact List.mem_cons_self | apply List.mem_cons_of_mem)) rfl) rfl) ?_; clear H; intro T H
  refine At.f0 H rfl (wN rfl) rfl rfl rfl (args2 (H.r 32 rfl) evC) Try.call9 (far) ?_; clear H; rintro v33 T w rfl _ H
  by_cases hfar : 40 < men.length ∨ 40 < list.length ∨ 40 < 0
  · first | rw [decide_eq_true hfar] at H | rw [decide_eq_false hfar] at H
    refine At.v H rfl (wN rfl) rfl rfl rfl (x_move (H.r 33 rfl)) ?_; clear H; intro T H
    refine At.u H rfl (wU H rfl rfl rfl rfl) rfl rfl ?_; clear H; intro T H
    refine At.u H rfl (wU H rfl rfl rfl rfl) rfl rfl ?_; clear H; intro T H
    refine At.u H rfl (wU H rfl rfl rfl rfl) rfl rfl ?_; clear H; intro T H
    refine At.v H rfl (wN rfl) rfl rfl rfl (x_pickT (H.r 34 rfl) evC) ?_; clear H; intro T H
    refine At.regionEnd ?_
    refine At.condT (H.r 38 rfl) ?_
    refine At.seq ?_
    refine At.region' (l := [0, 1]) rfl ?_
    refine At.f0 H rfl (wN rfl) rfl rfl rfl args0 Try.call11 (awake _) ?_; clear H; rintro v39 T w rfl _ H
    refine At.v H rfl (wN rfl) rfl rfl rfl (x_assign (H.r 39 rfl)) ?_; clear H; intro T H
    refine At.regionEnd ?_
    refine At.ret rfl ?_
    exact lea Try.func3 (res1 Try.results3 (H.r 6 rfl)) (Ret.mk H.fr (rfl))
  · first | rw [decide_eq_true hfar] at H | rw [decide_eq_false hfar] at H
    refine At.v H rfl (wN rfl) rfl rfl rfl (x_move (H.r 33 rfl)) ?_; clear H; intro T H
    refine At.v H rfl (wS H rfl rfl rfl) rfl rfl rfl (x_loadA (H.r 3 rfl) Try.isAgg25 Try.sizeOf25 (H.cellsAt (n := 2) (by repeat (first | exact List.mem_cons_self | apply List.mem_cons_of_mem)) rfl) rfl) ?_; clear H; intro T H
    refine At.f0 H rfl (wS H rfl rfl rfl) rfl rfl rfl (args1 (H.r 35 rfl)) Try.call10 (Prizes (hM.fr0 H.fr) (hL.fr0 H.fr) (by omega) (by omega)) ?_; clear H; rintro v36 T w hQ36 _ H
    rcases hQ36 with ⟨rfl, hv⟩ | ⟨rfl, hv⟩
    · skip
      have hl6 := hv.l6
      have hn8 := hv.n8
      refine At.v H rfl (wS H rfl rfl rfl) rfl rfl rfl (x_notT (H.r 36 rfl)) ?_; clear H; intro T H
      refine At.v H rfl (wN rfl) rfl rfl rfl (x_pickF (H.r 34 rfl) (H.r 37 rfl)) ?_; clear H; intro T H
      refine At.regionEnd ?_
      refine At.condF (H.r 38 rfl) ?_
      refine At.skip ?_
      refine At.seq ?_
      refine At.region' (l := [0, 1, 2, 3, 4, 5]) rfl ?_
      refine At.v H rfl (wN rfl) rfl rfl rfl (x_loadA (H.r 3 rfl) Try.isAgg25 Try.sizeOf25 (H.cellsAt (n := 2) (by repeat (first | exact List.mem_cons_self | apply List.mem_cons_of_mem)) rfl) rfl) ?_; clear H; intro T H
      refine At.v H rfl (wN rfl) rfl rfl rfl (x_move (H.r 1 rfl)) ?_; clear H; intro T H
      refine At.v H rfl (wN rfl) rfl rfl rfl (x_move (H.r 2 rfl)) ?_; clear H; intro T H
      refine At.v H rfl (wN rfl) rfl rfl rfl (x_notT (H.r 42 rfl)) ?_; clear H; intro T H
      refine At.fG H rfl (wN rfl) rfl rfl rfl (args3 (H.r 40 rfl) (H.r 41 rfl) (H.r 43 rfl)) Try.call12 (made (hM.fr0 H.fr) (hL.fr0 H.fr) hv (hB.fr0 H.fr) hbb _) ?_; clear H; rintro v44 E44 T w ⟨g44, c44, l, seen, rfl, rfl, hll, hI⟩ _ H
      have hgl : GivOK men list l := ⟨hll, hI.lt, hI.nd⟩
      refine At.v H rfl (wN rfl) rfl rfl rfl (x_assign (H.r 44 rfl)) ?_; clear H; intro T H
      refine At.regionEnd ?_
      refine At.seq ?_
      refine At.region' (l := [0, 1, 2, 3, 4, 5, 6]) rfl ?_
      refine At.v H rfl (wN rfl) rfl rfl rfl (x_loadA (H.r 3 rfl) Try.isAgg25 Try.sizeOf25 (H.cellsAt (n := 2) (by repeat (first | exact List.mem_cons_self | apply List.mem_cons_of_mem)) rfl) rfl) ?_; clear H; intro T H
      refine At.fG H rfl (wN rfl) rfl rfl rfl (args1 (H.r 46 rfl)) Try.call13 (Due (hM.fr0 H.fr) (hL.fr0 H.fr) hv) ?_; clear H; rintro v47 E47 T w ⟨A47, c47, rfl, rfl⟩ _ H
      refine At.v H rfl (wN rfl) rfl rfl rfl (x_move (H.r 47 rfl)) ?_; clear H; intro T H
      refine At.v H rfl (wN rfl) rfl rfl rfl (x_extract (H.r 45 rfl) rfl) ?_; clear H; intro T H
      refine At.v H rfl (wN rfl) rfl rfl rfl (x_extract (H.r 45 rfl) rfl) ?_; clear H; intro T H
      refine At.v H rfl (wN rfl) rfl rfl rfl (x_assign (H.r 48 rfl)) ?_; clear H; intro T H
      refine At.v H rfl (wN rfl) rfl rfl rfl (x_assign (H.r 49 rfl)) ?_; clear H; intro T H
      refine At.regionEnd ?_
      refine At.seq ?_
      refine At.region' (l := [0, 1, 2, 3, 4, 5, 6, 7, 8, 9]) rfl ?_
      refine At.v H rfl (wN rfl) rfl rfl rfl (x_loadA (H.r 3 rfl) Try.isAgg25 Try.sizeOf25 (H.cellsAt (n := 2) (by repeat (first | exact List.mem_cons_self | apply List.mem_cons_of_mem)) rfl) rfl) ?_; clear H; intro T H
      refine At.v H rfl (wN rfl) rfl rfl rfl (x_move (H.r 8 rfl)) ?_; clear H; intro T H
      refine At.fG H rfl (wN rfl) rfl rfl rfl (args2 (H.r 51 rfl) (H.r 52 rfl)) Try.call14 (Worth2 (hM.fr0 H.fr) (hL.fr0 H.fr) hv (H.rowSl (enc := encO) (by repeat (first | exact List.mem_cons_self | apply List.mem_cons_of_mem)) (fun _ => rfl) (dueL_len _ _).symm rfl) (dueGiv hv)) ?_; clear H; rintro v53 E53 T w ⟨A53, n53, c53, xs53, s53, e53, rfl, rfl, hn53, hw53⟩ _ H
      obtain rfl : e53 = 0 := by
        rcases hw53 with h | h
        · exact h.2.2.2
        · exact absurd (dueFair men list) h.1
      refine At.v H rfl (wN rfl) rfl rfl rfl (x_move (H.r 53 rfl)) ?_; clear H; intro T H
      refine At.v H rfl (wN rfl) rfl rfl rfl (x_extract (H.r 50 rfl) rfl) ?_; clear H; intro T H
      refine At.v H rfl (wN rfl) rfl rfl rfl (x_extract (H.r 50 rfl) rfl) ?_; clear H; intro T H
      refine At.v H rfl (wN rfl) rfl rfl rfl (x_extract (H.r 50 rfl) rfl) ?_; clear H; intro T H
      refine At.v H rfl (wN rfl) rfl rfl rfl (x_assign (H.r 54 rfl)) ?_; clear H; intro T H
      refine At.v H rfl (wN rfl) rfl rfl rfl (x_assign (H.r 55 rfl)) ?_; clear H; intro T H
      refine At.v H rfl (wN rfl) rfl rfl rfl (x_assign (H.r 56 rfl)) ?_; clear H; intro T H
      refine At.regionEnd ?_
      refine At.seq ?_
      refine At.region' (l := [0, 1, 2, 3, 4, 5, 6, 7, 8, 9]) rfl ?_
      refine At.v H rfl (wN rfl) rfl rfl rfl (x_loadA (H.r 3 rfl) Try.isAgg25 Try.sizeOf25 (H.cellsAt (n := 2) (by repeat (first | exact List.mem_cons_self | apply List.mem_cons_of_mem)) rfl) rfl) ?_; clear H; intro T H
      refine At.v H rfl (wN rfl) rfl rfl rfl (x_move (H.r 7 rfl)) ?_; clear H; intro T H
      refine At.fG H rfl (wN rfl) rfl rfl rfl (args2 (H.r 58 rfl) (H.r 59 rfl)) Try.call14 (Worth2 (hM.fr0 H.fr) (hL.fr0 H.fr) hv (gv := l) (H.rowSl (enc := encO) (by repeat (first | exact List.mem_cons_self | apply List.mem_cons_of_mem)) (fun _ => rfl) hll.symm rfl) hgl) ?_; clear H; rintro v60 E60 T w ⟨A60, n60, c60, xs60, s60, e60, rfl, rfl, hn60, hw60⟩ _ H
      refine At.v H rfl (wN rfl) rfl rfl rfl (x_move (H.r 60 rfl)) ?_; clear H; intro T H
      refine At.v H rfl (wN rfl) rfl rfl rfl (x_extract (H.r 57 rfl) rfl) ?_; clear H; intro T H
      refine At.v H rfl (wN rfl) rfl rfl rfl (x_extract (H.r 57 rfl) rfl) ?_; clear H; intro T H
      refine At.v H rfl (wN rfl) rfl rfl rfl (x_extract (H.r 57 rfl) rfl) ?_; clear H; intro T H
      refine At.v H rfl (wN rfl) rfl rfl rfl (x_assign (H.r 61 rfl)) ?_; clear H; intro T H
      refine At.v H rfl (wN rfl) rfl rfl rfl (x_assign (H.r 62 rfl)) ?_; clear H; intro T H
      refine At.v H rfl (wN rfl) rfl rfl rfl (x_assign (H.r 63 rfl)) ?_; clear H; intro T H
      refine At.regionEnd ?_
      refine At.seq ?_
      refine At.region' (l := [0, 1, 2, 3, 4, 5, 6, 7, 8, 9]) rfl ?_
      refine At.v H rfl (wN rfl) rfl rfl rfl (x_loadA (H.r 3 rfl) Try.isAgg25 Try.sizeOf25 (H.cellsAt (n := 2) (by repeat (first | exact List.mem_cons_self | apply List.mem_cons_of_mem)) rfl) rfl) ?_; clear H; intro T H
      refine At.v H rfl (wN rfl) rfl rfl rfl (x_move (H.r 7 rfl)) ?_; clear H; intro T H
      refine At.f0 H rfl (wN rfl) rfl rfl rfl (args2 (H.r 65 rfl) (H.r 66 rfl)) Try.call15 (Wrong2 (hM.fr0 H.fr) (hL.fr0 H.fr) hv (gv := l) (H.rowSl (enc := encO) (by repeat (first | exact List.mem_cons_self | apply List.mem_cons_of_mem)) (fun _ => rfl) hll.symm rfl) hgl) ?_; clear H; rintro v67 T w rfl _ H
      refine At.v H rfl (wN rfl) rfl rfl rfl (x_move (H.r 67 rfl)) ?_; clear H; intro T H
      refine At.v H rfl (wN rfl) rfl rfl rfl (x_extract (H.r 64 rfl) rfl) ?_; clear H; intro T H
      refine At.v H rfl (wN rfl) rfl rfl rfl (x_extract (H.r 64 rfl) rfl) ?_; clear H; intro T H
      refine At.v H rfl (wN rfl) rfl rfl rfl (x_extract (H.r 64 rfl) rfl) ?_; clear H; intro T H
      refine At.v H rfl (wN rfl) rfl rfl rfl (x_assign (H.r 68 rfl)) ?_; clear H; intro T H
      refine At.v H rfl (wN rfl) rfl rfl rfl (x_assign (H.r 69 rfl)) ?_; clear H; intro T H
      refine At.v H rfl (wN rfl) rfl rfl rfl (x_assign (H.r 70 rfl)) ?_; clear H; intro T H
      refine At.regionEnd ?_
      refine At.seq ?_
      refine At.seq ?_
      refine At.region' (l := [0, 1, 2, 3, 4, 5, 6, 7, 8, 9, 10, 11, 12]) rfl ?_
      refine At.v H rfl (wN rfl) rfl rfl rfl (x_move (H.r 9 rfl)) ?_; clear H; intro T H
      refine At.v (v := .bool false) H rfl (wN rfl) rfl rfl rfl (x_neq (H.r 71 rfl) evC) ?_; clear H; intro T H
      refine At.v H rfl (wN rfl) rfl rfl rfl (x_move (H.r 72 rfl)) ?_; clear H; intro T H
      refine At.v H rfl (wS H rfl rfl rfl) rfl rfl rfl (x_move (H.r 12 rfl)) ?_; clear H; intro T H
      refine At.v (v := .bool false) H rfl (wS H rfl rfl rfl) rfl rfl rfl (x_neq (H.r 74 rfl) evC) ?_; clear H; intro T H
      refine At.v H rfl (wN rfl) rfl rfl rfl (x_pickF (H.r 73 rfl) (H.r 75 rfl)) ?_; clear H; intro T H
      refine At.v H rfl (wN rfl) rfl rfl rfl (x_move (H.r 76 rfl)) ?_; clear H; intro T H
      refine At.v H rfl (wS H rfl rfl rfl) rfl rfl rfl (x_move (H.r 8 rfl)) ?_; clear H; intro T H
      refine At.v H rfl (wS H rfl rfl rfl) rfl rfl rfl (x_len (H.r 78 rfl) Try.runUnderlying30) ?_; clear H; intro T H
      refine At.v H rfl (wS H rfl rfl rfl) rfl rfl rfl (x_move (H.r 7 rfl)) ?_; clear H; intro T H
      refine At.v H rfl (wS H rfl rfl rfl) rfl rfl rfl (x_len (H.r 80 rfl) Try.runUnderlying30) ?_; clear H; intro T H
      refine At.v (v := .bool false) H rfl (wS H rfl rfl rfl) rfl rfl rfl ((x_neq (H.r 79 rfl) (H.r 81 rfl)).trans (by rw [decide_eq_false (fun h => h rfl)])) ?_; clear H; intro T H
      refine At.v H rfl (wN rfl) rfl rfl rfl (x_pickF (H.r 77 rfl) (H.r 82 rfl)) ?_; clear H; intro T H
      refine At.regionEnd ?_
      refine At.condF (H.r 83 rfl) ?_
      refine At.skip ?_
      refine At.seq ?_
      refine At.region' (l := [0]) rfl ?_
      refine At.v H rfl (wN rfl) rfl rfl rfl (x_assign evC) ?_; clear H; intro T H
      refine At.regionEnd ?_
      refine At.seq ?_
      refine At.seq ?_
      refine At.region' (l := [0, 1, 2]) rfl ?_
      refine At.v H rfl (wN rfl) rfl rfl rfl (x_move (H.r 7 rfl)) ?_; clear H; intro T H
      refine At.v H rfl (wN rfl) rfl rfl rfl (x_len (H.r 84 rfl) Try.runUnderlying30) ?_; clear H; intro T H
      refine At.v H rfl (wN rfl) rfl rfl rfl (x_move evC) ?_; clear H; intro T H
      refine At.regionEnd ?_
      refine At.block ?_
      replace H := ((H.fore PkS.nil).sub (R' := [(19, _), (86, _)] ++ [(2, _), (3, _), (6, _), (7, _), (8, _), (13, _), (14, _), (15, _), (16, _), (17, _), (18, _), (85, _)]) (by repeat' (first | exact trivial | refine And.intro rfl ?_)))
      refine At.loopF H (fun μ R1 G1 => ∃ k : Nat, μ = list.length - k ∧ (k ≤ list.length) ∧ R1 = [(19, .int .i64 (firstT l (dueL men list) k)), (86, .int .i64 (k : Int))] ∧ G1 = []) (list.length) ⟨0, by first | rfl | omega, by first | trivial | omega | exact ⟨by omega, by omega⟩, rfl, rfl⟩ ?_
      clear H; rintro _ _ _ T w ⟨k, rfl, hP0, rfl, rfl⟩ H hnext0
      simp only [List.cons_append, List.nil_append] at H
      refine At.seq ?_
      refine At.region' (l := [0]) rfl ?_
      refine At.c H rfl (wN rfl) rfl rfl rfl (x_lss (H.r 86 rfl) (H.r 85 rfl)) ?_ ?_
      · clear H; intro h87 T H
        have hk1 : k < list.length := by omega
        obtain ⟨o, ho⟩ := get_ex (l := l) (k := k) (by omega)
        obtain ⟨o2, ho2⟩ := get_ex (l := (dueL men list)) (k := k) (by rw [dueL_len]; exact hk1)
        obtain ⟨g47, rfl⟩ := H.rowAddr (A := A47) (by repeat (first | exact List.mem_cons_self | apply List.mem_cons_of_mem)) (by omega)
        refine At.regionEnd ?_
        refine At.seq ?_
        refine At.condT (H.r 87 rfl) ?_
        refine At.skip ?_
        refine At.seq ?_
        refine At.block ?_
        refine At.seq ?_
        refine At.region' (l := [0, 1]) rfl ?_
        refine At.v H rfl (wN rfl) rfl rfl rfl (x_move (H.r 86 rfl)) ?_; clear H; intro T H
        refine At.v H rfl (wN rfl) rfl rfl rfl (x_assign (H.r 88 rfl)) ?_; clear H; intro T H
        refine At.regionEnd ?_
        refine At.seq ?_
        refine At.drawnC (m := 13) (L := #[false, false, false, false, false, false, false, false, false, false, false, false, false]) H mixed rfl rfl ?_; clear H; intro w H
        refine GA.v (i := 0) (L' := #[true, false, false, false, false, false, false, false, false, false, false, false, false]) H rfl (wN rfl) rfl rfl rfl (by kernel_rfl) rfl (fun w H => x_move (H.r 7 rfl)) ?_; clear H; intro T H
        refine GA.v (i := 1) (L' := #[true, true, false, false, false, false, false, false, false, false, false, false, false]) H rfl (wN rfl) rfl rfl rfl (by kernel_rfl) rfl (fun w H => x_move (H.r 20 rfl)) ?_; clear H; intro T H
        refine GA.v (i := 2) (L' := #[true, true, true, false, false, false, false, false, false, false, false, false, false]) H rfl (wN rfl) rfl rfl rfl (by kernel_rfl) rfl (fun w H => x_ixSN (H.r 89 rfl) (H.r 90 rfl) Try.runUnderlying30 Try.sizeOf3 (by omega)) ?_; clear H; intro T H
        refine GA.v (i := 3) (L' := #[true, true, true, true, false, false, false, false, false, false, false, false, false]) H rfl (wN rfl) rfl rfl rfl (by kernel_rfl) rfl (fun w H => x_load (H.r 91 rfl) Try.isAgg3 (by rw [show 0 + k * 1 = k by omega]; exact H.rowCell (g := g44) (by repeat (first | exact List.mem_cons_self | apply List.mem_cons_of_mem)) k (flatO_at ho))) ?_; clear H; intro T H
        refine GA.v (i := 4) (L' := #[true, true, true, true, true, false, false, false, false, false, false, false, false]) H rfl (wN rfl) rfl rfl rfl (by kernel_rfl) rfl (fun w H => x_move (H.r 8 rfl)) ?_; clear H; intro T H
        refine GA.v (i := 5) (L' := #[true, true, true, true, true, true, false, false, false, false, false, false, false]) H rfl (wN rfl) rfl rfl rfl (by kernel_rfl) rfl (fun w H => x_move (H.r 20 rfl)) ?_; clear H; intro T H
        refine GA.v (i := 6) (L' := #[true, true, true, true, true, true, true, false, false, false, false, false, false]) H rfl (wN rfl) rfl rfl rfl (by kernel_rfl) rfl (fun w H => x_ixSN (H.r 93 rfl) (H.r 94 rfl) Try.runUnderlying30 Try.sizeOf3 (by omega)) ?_; clear H; intro T H
        refine GA.v (i := 7) (L' := #[true, true, true, true, true, true, true, true, false, false, false, false, false]) H rfl (wN rfl) rfl rfl rfl (by kernel_rfl) rfl (fun w H => x_load (H.r 95 rfl) Try.isAgg3 (by rw [show 0 + k * 1 = k by omega]; exact H.rowCell (g := g47) (by repeat (first | exact List.mem_cons_self | apply List.mem_cons_of_mem)) k (flatO_at ho2))) ?_; clear H; intro T H
        refine GA.c (i := 8) (L' := #[true, true, true, true, true, true, true, true, true, false, false, false, false]) H rfl (wN rfl) rfl rfl rfl (by kernel_rfl) rfl (fun w H => x_neq (H.r 92 rfl) (H.r 96 rfl)) ?_ ?_
        · clear H; intro h97 T H
          refine GA.v (i := 9) (L' := #[true, true, true, true, true, true, true, true, true, true, false, false, false]) H rfl (wN rfl) rfl rfl rfl (by kernel_rfl) rfl (fun w H => x_move (H.r 97 rfl)) ?_; clear H; intro T H
          refine GA.v (i := 10) (L' := #[true, true, true, true, true, true, true, true, true, true, true, false, false]) H rfl (wS H rfl rfl rfl) rfl rfl rfl (by kernel_rfl) rfl (fun w H => x_move (H.r 19 rfl)) ?_; clear H; intro T H
          refine GA.c (i := 11) (L' := #[true, true, true, true, true, true, true, true, true, true, true, true, false]) H rfl (wS H rfl rfl rfl) rfl rfl rfl (by kernel_rfl) rfl (fun w H => x_lss (H.r 99 rfl) evC) ?_ ?_
          · clear H; intro h100 T H
            have hft : firstT l (dueL men list) (k + 1) = (k : Int) := by rw [firstT_succ, if_pos ⟨h100, by rw [ho, ho2]; exact fun e => h97 (by rw [Option.some.inj e])⟩]
            refine GA.v (i := 12) (L' := #[true, true, true, true, true, true, true, true, true, true, true, true, true]) H rfl (wN rfl) rfl rfl rfl (by kernel_rfl) rfl (fun w H => x_pickT (H.r 98 rfl) (H.r 100 rfl)) ?_; clear H; intro T H
            refine GA.done (by kernel_rfl) ?_
            refine At.condT (H.r 101 rfl) ?_
            refine At.region' (l := [0, 1]) rfl ?_
            refine At.v H rfl (wN rfl) rfl rfl rfl (x_move (H.r 20 rfl)) ?_; clear H; intro T H
            refine At.v H rfl (wN rfl) rfl rfl rfl (x_assign (H.r 102 rfl)) ?_; clear H; intro T H
            refine At.regionEnd ?_
            refine At.inBlock ?_
            refine At.region' (l := [0, 1]) rfl ?_
            refine At.v H rfl (wN rfl) rfl rfl rfl (x_add (H.r 86 rfl) evC (w64 (by omega) (by omega))) ?_; clear H; intro T H
            refine At.v H rfl (wN rfl) rfl rfl rfl (x_move (H.r 103 rfl)) ?_; clear H; intro T H
            refine At.regionEnd ?_
            exact hnext0 _ _ _ _ _ (by omega) ⟨k + 1, rfl, by first | trivial | omega | exact ⟨by omega, by omega⟩, rfl, rfl⟩ (by simp only [List.cons_append, List.nil_append]; rw [hft]; exact (H.pk (by repeat (first | exact Pk.nil | exact Pk.all | refine Pk.cons (by repeat (first | exact Take.here | apply Take.there)) ?_ | apply Pk.skip))).sub (by repeat' (first | exact trivial | refine And.intro rfl ?_)))
          · clear H; intro h100 T H
            have hft : firstT l (dueL men list) (k + 1) = firstT l (dueL men list) k := by rw [firstT_succ, if_neg (fun h => h100 h.1)]
            refine GA.v (i := 12) (L' := #[true, true, true, true, true, true, true, true, true, true, true, true, true]) H rfl (wN rfl) rfl rfl rfl (by kernel_rfl) rfl (fun w H => x_pickT (H.r 98 rfl) (H.r 100 rfl)) ?_; clear H; intro T H
            refine GA.done (by kernel_rfl) ?_
            refine At.condF (H.r 101 rfl) ?_
            refine At.skip ?_
            refine At.inBlock ?_
            refine At.region' (l := [0, 1]) rfl ?_
            refine At.v H rfl (wN rfl) rfl rfl rfl (x_add (H.r 86 rfl) evC (w64 (by omega) (by omega))) ?_; clear H; intro T H
            refine At.v H rfl (wN rfl) rfl rfl rfl (x_move (H.r 103 rfl)) ?_; clear H; intro T H
            refine At.regionEnd ?_
            exact hnext0 _ _ _ _ _ (by omega) ⟨k + 1, rfl, by first | trivial | omega | exact ⟨by omega, by omega⟩, rfl, rfl⟩ (by simp only [List.cons_append, List.nil_append]; rw [hft]; exact (H.pk (by repeat (first | exact Pk.nil | exact Pk.all | refine Pk.cons (by repeat (first | exact Take.here | apply Take.there)) ?_ | apply Pk.skip))).sub (by repeat' (first | exact trivial | refine And.intro rfl ?_)))
        · clear H; intro h97 T H
          have hft : firstT l (dueL men list) (k + 1) = firstT l (dueL men list) k := by rw [firstT_succ, if_neg (fun h => h.2 (by rw [ho, ho2, orNone_inj.1 (Classical.not_not.1 h97)]))]
          refine GA.v (i := 9) (L' := #[true, true, true, true, true, true, true, true, true, true, false, false, false]) H rfl (wN rfl) rfl rfl rfl (by kernel_rfl) rfl (fun w H => x_move (H.r 97 rfl)) ?_; clear H; intro T H
          refine GA.u (i := 10) (L' := #[true, true, true, true, true, true, true, true, true, true, true, false, false]) H rfl (wU H rfl rfl rfl rfl) rfl rfl (by kernel_rfl) rfl ?_; clear H; intro T H
          refine GA.u (i := 11) (L' := #[true, true, true, true, true, true, true, true, true, true, true, true, false]) H rfl (wU H rfl rfl rfl rfl) rfl rfl (by kernel_rfl) rfl ?_; clear H; intro T H
          refine GA.v (i := 12) (L' := #[true, true, true, true, true, true, true, true, true, true, true, true, true]) H rfl (wN rfl) rfl rfl rfl (by kernel_rfl) rfl (fun w H => x_pickF (H.r 98 rfl) evC) ?_; clear H; intro T H
          refine GA.done (by kernel_rfl) ?_
          refine At.condF (H.r 101 rfl) ?_
          refine At.skip ?_
          refine At.inBlock ?_
          refine At.region' (l := [0, 1]) rfl ?_
          refine At.v H rfl (wN rfl) rfl rfl rfl (x_add (H.r 86 rfl) evC (w64 (by omega) (by omega))) ?_; clear H; intro T H
          refine At.v H rfl (wN rfl) rfl rfl rfl (x_move (H.r 103 rfl)) ?_; clear H; intro T H
          refine At.regionEnd ?_
          exact hnext0 _ _ _ _ _ (by omega) ⟨k + 1, rfl, by first | trivial | omega | exact ⟨by omega, by omega⟩, rfl, rfl⟩ (by simp only [List.cons_append, List.nil_append]; rw [hft]; exact (H.pk (by repeat (first | exact Pk.nil | exact Pk.all | refine Pk.cons (by repeat (first | exact Take.here | apply Take.there)) ?_ | apply Pk.skip))).sub (by repeat' (first | exact trivial | refine And.intro rfl ?_)))
      · clear H; intro h87 T H
        obtain rfl : list.length = k := by omega
        have hfe := firstT_end l (dueL men list) (by rw [dueL_len, hll])
        rw [hll] at hfe
        refine At.regionEnd ?_
        refine At.seq ?_
        refine At.condF (H.r 87 rfl) ?_
        refine At.exit rfl ?_
        refine At.seq ?_
        refine At.seq ?_
        have H0 := ((H.fore PkS.nil).sub (R' := [] ++ [(2, _), (3, _), (6, _), (7, _), (13, _), (14, _), (15, _)]) (by repeat' (first | exact trivial | refine And.intro rfl ?_)))
        refine At.joinF H0 (fun R1 G1 => ∃ _u : Unit, (True) ∧ R1 = [(138, .bool false)] ∧ G1 = []) ?_ ?_ <;> clear H0
        · intro J
          refine At.region' (l := [0, 1, 2, 3, 4, 5, 6, 7, 8, 9, 10, 11, 12, 13, 14, 15, 16, 17, 18, 19, 20, 21, 22, 23, 24, 25, 26, 27, 28, 29, 30, 31, 32, 33, 34]) rfl ?_
          refine At.v H rfl (wN rfl) rfl rfl rfl (x_move (H.r 19 rfl)) ?_; clear H; intro T H
          refine At.c H rfl (wN rfl) rfl rfl rfl (x_lss (H.r 104 rfl) evC) ?_ ?_
          · clear H; intro h105 T H
            rcases hfd : firstD (dueL men list) l with _ | i
            rotate_left
            · exfalso; rw [hfd] at hfe; simp only at hfe; omega
            rw [hfd] at H hfe
            simp only at hfe
            rw [hfe] at H
            refine At.v H rfl (wN rfl) rfl rfl rfl (x_move (H.r 105 rfl)) ?_; clear H; intro T H
            refine At.v H rfl (wS H rfl rfl rfl) rfl rfl rfl (x_move (H.r 18 rfl)) ?_; clear H; intro T H
            refine At.v (v := .bool false) H rfl (wS H rfl rfl rfl) rfl rfl rfl (x_neq (H.r 107 rfl) evC) ?_; clear H; intro T H
            refine At.v H rfl (wS H rfl rfl rfl) rfl rfl rfl (x_move (H.r 108 rfl)) ?_; clear H; intro T H
            refine At.v H rfl (wS H rfl rfl rfl) rfl rfl rfl (x_move (H.r 16 rfl)) ?_; clear H; intro T H
            refine At.v (v := .bool false) H rfl (wS H rfl rfl rfl) rfl rfl rfl (x_neq (H.r 110 rfl) evC) ?_; clear H; intro T H
            refine At.v H rfl (wS H rfl rfl rfl) rfl rfl rfl (x_pickF (H.r 109 rfl) (H.r 111 rfl)) ?_; clear H; intro T H
            refine At.v H rfl (wS H rfl rfl rfl) rfl rfl rfl (x_move (H.r 112 rfl)) ?_; clear H; intro T H
            refine At.v H rfl (wS H rfl rfl rfl) rfl rfl rfl (x_move (H.r 17 rfl)) ?_; clear H; intro T H
            refine At.v (v := .bool false) H rfl (wS H rfl rfl rfl) rfl rfl rfl (x_neq (H.r 114 rfl) evC) ?_; clear H; intro T H
            refine At.v H rfl (wS H rfl rfl rfl) rfl rfl rfl (x_pickF (H.r 113 rfl) (H.r 115 rfl)) ?_; clear H; intro T H
            refine At.v H rfl (wN rfl) rfl rfl rfl (x_pickT (H.r 106 rfl) (H.r 116 rfl)) ?_; clear H; intro T H
            refine At.v H rfl (wN rfl) rfl rfl rfl (x_move (H.r 117 rfl)) ?_; clear H; intro T H
            refine At.v H rfl (wS H rfl rfl rfl) rfl rfl rfl (x_move (H.r 19 rfl)) ?_; clear H; intro T H
            refine At.v (v := .bool false) H rfl (wS H rfl rfl rfl) rfl rfl rfl (x_geq (H.r 119 rfl) evC) ?_; clear H; intro T H
            refine At.v H rfl (wS H rfl rfl rfl) rfl rfl rfl (x_move (H.r 120 rfl)) ?_; clear H; intro T H
            refine At.u H rfl (wU H rfl rfl rfl rfl) rfl rfl ?_; clear H; intro T H
            refine At.u H rfl (wU H rfl rfl rfl rfl) rfl rfl ?_; clear H; intro T H
            refine At.u H rfl (wU H rfl rfl rfl rfl) rfl rfl ?_; clear H; intro T H
            refine At.u H rfl (wUu H rfl rfl rfl) rfl rfl ?_; clear H; intro T H
            refine At.u H rfl (wUu H rfl rfl rfl) rfl rfl ?_; clear H; intro T H
            refine At.u H rfl (wUu H rfl rfl rfl) rfl rfl ?_; clear H; intro T H
            refine At.u H rfl (wU H rfl rfl rfl rfl) rfl rfl ?_; clear H; intro T H
            refine At.u H rfl (wU H rfl rfl rfl rfl) rfl rfl ?_; clear H; intro T H
            refine At.u H rfl (wUu H rfl rfl rfl) rfl rfl ?_; clear H; intro T H
            refine At.u H rfl (wUu H rfl rfl rfl) rfl rfl ?_; clear H; intro T H
            refine At.u H rfl (wUu H rfl rfl rfl) rfl rfl ?_; clear H; intro T H
            refine At.u H rfl (wUu H rfl rfl rfl) rfl rfl ?_; clear H; intro T H
            refine At.u H rfl (wUu H rfl rfl rfl) rfl rfl ?_; clear H; intro T H
            refine At.u H rfl (wUu H rfl rfl rfl) rfl rfl ?_; clear H; intro T H
            refine At.u H rfl (wU H rfl rfl rfl rfl) rfl rfl ?_; clear H; intro T H
            refine At.v H rfl (wS H rfl rfl rfl) rfl rfl rfl (x_pickF (H.r 121 rfl) evC) ?_; clear H; intro T H
            refine At.v H rfl (wN rfl) rfl rfl rfl (x_pickF (H.r 118 rfl) (H.r 137 rfl)) ?_; clear H; intro T H
            refine At.regionEnd ?_
            exact J _ _ _ _ ⟨(), trivial, rfl, rfl⟩ (by simp only [List.cons_append, List.nil_append]; exact (H.pk (by repeat (first | exact Pk.nil | exact Pk.all | refine Pk.cons (by repeat (first | exact Take.here | apply Take.there)) ?_ | apply Pk.skip))).sub (by repeat' (first | exact trivial | refine And.intro rfl ?_)))
          · clear H; intro h105 T H
            rcases hfd : firstD (dueL men list) l with _ | i
            · exfalso; rw [hfd] at hfe; simp only at hfe; omega
            rw [hfd] at H hfe
            simp only at hfe
            rw [hfe] at H
            have hil := firstD_lt hfd
            rw [dueL_len] at hil
            obtain ⟨o2, ho2⟩ := get_ex (l := (dueL men list)) (k := i) (by rw [dueL_len]; exact hil)
            obtain ⟨g47, rfl⟩ := H.rowAddr (A := A47) (by repeat (first | exact List.mem_cons_self | apply List.mem_cons_of_mem)) (by omega)
            refine At.v H rfl (wN rfl) rfl rfl rfl (x_move (H.r 105 rfl)) ?_; clear H; intro T H
            refine At.u H rfl (wU H rfl rfl rfl rfl) rfl rfl ?_; clear H; intro T H
            refine At.u H rfl (wU H rfl rfl rfl rfl) rfl rfl ?_; clear H; intro T H
            refine At.u H rfl (wU H rfl rfl rfl rfl) rfl rfl ?_; clear H; intro T H
            refine At.u H rfl (wUu H rfl rfl rfl) rfl rfl ?_; clear H; intro T H
            refine At.u H rfl (wUu H rfl rfl rfl) rfl rfl ?_; clear H; intro T H
            refine At.u H rfl (wU H rfl rfl rfl rfl) rfl rfl ?_; clear H; intro T H
            refine At.u H rfl (wU H rfl rfl rfl rfl) rfl rfl ?_; clear H; intro T H
            refine At.u H rfl (wUu H rfl rfl rfl) rfl rfl ?_; clear H; intro T H
            refine At.u H rfl (wUu H rfl rfl rfl) rfl rfl ?_; clear H; intro T H
            refine At.u H rfl (wU H rfl rfl rfl rfl) rfl rfl ?_; clear H; intro T H
            refine At.v H rfl (wN rfl) rfl rfl rfl (x_pickF (H.r 106 rfl) evC) ?_; clear H; intro T H
            refine At.v H rfl (wN rfl) rfl rfl rfl (x_move (H.r 117 rfl)) ?_; clear H; intro T H
            refine At.v H rfl (wS H rfl rfl rfl) rfl rfl rfl (x_move (H.r 19 rfl)) ?_; clear H; intro T H
            refine At.v (v := .bool true) H rfl (wS H rfl rfl rfl) rfl rfl rfl ((x_geq (H.r 119 rfl) evC).trans (by rw [decide_eq_true (show (0 : Int) ≤ (i : Int) by omega)])) ?_; clear H; intro T H
            refine At.v H rfl (wS H rfl rfl rfl) rfl rfl rfl (x_move (H.r 120 rfl)) ?_; clear H; intro T H
            refine At.v H rfl (wS H rfl rfl rfl) rfl rfl rfl (x_move (H.r 18 rfl)) ?_; clear H; intro T H
            refine At.v (v := .bool false) H rfl (wS H rfl rfl rfl) rfl rfl rfl (x_neq (H.r 122 rfl) evC) ?_; clear H; intro T H
            refine At.v H rfl (wS H rfl rfl rfl) rfl rfl rfl (x_move (H.r 123 rfl)) ?_; clear H; intro T H
            refine At.v H rfl (wS H rfl rfl rfl) rfl rfl rfl (x_move (H.r 16 rfl)) ?_; clear H; intro T H
            refine At.v H rfl (wS H rfl rfl rfl) rfl rfl rfl (x_move (H.r 19 rfl)) ?_; clear H; intro T H
            refine At.v (v := .bool false) H rfl (wS H rfl rfl rfl) rfl rfl rfl ((x_neq (H.r 125 rfl) (H.r 126 rfl)).trans (by rw [decide_eq_false (fun h => h rfl)])) ?_; clear H; intro T H
            refine At.v H rfl (wS H rfl rfl rfl) rfl rfl rfl (x_pickF (H.r 124 rfl) (H.r 127 rfl)) ?_; clear H; intro T H
            refine At.v H rfl (wS H rfl rfl rfl) rfl rfl rfl (x_move (H.r 128 rfl)) ?_; clear H; intro T H
            refine At.v H rfl (wS H rfl rfl rfl) rfl rfl rfl (x_move (H.r 17 rfl)) ?_; clear H; intro T H
            refine At.v H rfl (wS H rfl rfl rfl) rfl rfl rfl (x_move (H.r 8 rfl)) ?_; clear H; intro T H
            refine At.v H rfl (wS H rfl rfl rfl) rfl rfl rfl (x_move (H.r 19 rfl)) ?_; clear H; intro T H
            refine At.v H rfl (wS H rfl rfl rfl) rfl rfl rfl (x_ixSN (n := i) (H.r 131 rfl) (H.r 132 rfl) Try.runUnderlying30 Try.sizeOf3 hil) ?_; clear H; intro T H
            refine At.v H rfl (wS H rfl rfl rfl) rfl rfl rfl (x_load (H.r 133 rfl) Try.isAgg3 (by rw [show 0 + i * 1 = i by omega]; exact H.rowCell (g := g47) (by repeat (first | exact List.mem_cons_self | apply List.mem_cons_of_mem)) i (flatO_at ho2))) ?_; clear H; intro T H
            refine At.v (v := .bool false) H rfl (wS H rfl rfl rfl) rfl rfl rfl ((x_neq (H.r 130 rfl) (H.r 134 rfl)).trans (by rw [decide_eq_false (fun h => h (by simp [wm, ho2]))])) ?_; clear H; intro T H
            refine At.v H rfl (wS H rfl rfl rfl) rfl rfl rfl (x_pickF (H.r 129 rfl) (H.r 135 rfl)) ?_; clear H; intro T H
            refine At.v H rfl (wS H rfl rfl rfl) rfl rfl rfl (x_pickT (H.r 121 rfl) (H.r 136 rfl)) ?_; clear H; intro T H
            refine At.v H rfl (wN rfl) rfl rfl rfl (x_pickF (H.r 118 rfl) (H.r 137 rfl)) ?_; clear H; intro T H
            refine At.regionEnd ?_
            exact J _ _ _ _ ⟨(), trivial, rfl, rfl⟩ (by simp only [List.cons_append, List.nil_append]; exact (H.pk (by repeat (first | exact Pk.nil | exact Pk.all | refine Pk.cons (by repeat (first | exact Take.here | apply Take.there)) ?_ | apply Pk.skip))).sub (by repeat' (first | exact trivial | refine And.intro rfl ?_)))
        · clear H
          rintro _ _ T w ⟨_u, _, rfl, rfl⟩ H
          simp only [List.cons_append, List.nil_append] at H
          refine At.condF (H.r 138 rfl) ?_
          refine At.skip ?_
          refine At.seq ?_
          refine At.region' (l := [0, 1, 2, 3, 4, 5]) rfl ?_
          refine At.v H rfl (wN rfl) rfl rfl rfl (x_fieldAddr (H.r 3 rfl) fa25_0) ?_; clear H; intro T H
          refine At.v H rfl (wN rfl) rfl rfl rfl (x_load (H.r 139 rfl) Try.isAgg22 (by first | exact H.cell (by repeat (first | exact List.mem_cons_self | apply List.mem_cons_of_mem)) _ rfl | exact H.cellR (by repeat (first | exact List.mem_cons_self | apply List.mem_cons_of_mem)) _ rfl)) ?_; clear H; intro T H
          refine At.v H rfl (wN rfl) rfl rfl rfl (x_len (H.r 140 rfl) Try.runUnderlying22) ?_; clear H; intro T H
          refine At.makeN H rfl (wN rfl) rfl rfl rfl (etI w0) (H.r 141 rfl) (H.r 141 rfl) (by omega) rfl rfl ?_; clear H; intro g142 T w H
          rw [show List.replicate men.length (Value.int .i64 0) = (worthsTo men.length list l 0).flatMap encI from (by rw [flat_encI]; simp [worthsTo])] at H
          refine At.v H rfl (wN rfl) rfl rfl rfl (x_assign (H.r 142 rfl)) ?_; clear H; intro T H
          refine At.v H rfl (wN rfl) rfl rfl rfl (x_assign evC) ?_; clear H; intro T H
          refine At.regionEnd ?_
          refine At.seq ?_
          refine At.seq ?_
          refine At.region' (l := [0, 1, 2]) rfl ?_
          refine At.v H rfl (wN rfl) rfl rfl rfl (x_move (H.r 7 rfl)) ?_; clear H; intro T H
          refine At.v H rfl (wN rfl) rfl rfl rfl (x_len (H.r 143 rfl) Try.runUnderlying30) ?_; clear H; intro T H
          refine At.v H rfl (wN rfl) rfl rfl rfl (x_move evC) ?_; clear H; intro T H
          refine At.regionEnd ?_
          refine At.block ?_
          replace H := ((H.fore (PkS.cons (x := .row (.slice (some ⟨g142, 0, none⟩) _ _) _ _ _ _) (by repeat (first | exact Take.here | apply Take.there)) PkS.nil)).sub (R' := [(22, _), (145, _)] ++ [(2, _), (3, _), (7, _), (13, _), (14, _), (15, _), (21, _), (143, _), (144, _)]) (by repeat' (first | exact trivial | refine And.intro rfl ?_)))
          refine At.loopF H (fun μ R1 G1 => ∃ k : Nat, μ = list.length - k ∧ (k ≤ list.length ∧ ∀ i m z, i < k → l[i]? = some (some m) → list[i]? = some z → canAt men z.for_ m = true) ∧ R1 = [(22, .int .i64 (sumTo list l k)), (145, .int .i64 (k : Int))] ∧ G1 = [.row (.slice (some ⟨g142, 0, none⟩) men.length men.length) 3 1 men.length ((worthsTo men.length list l k).flatMap encI)]) (list.length) ⟨0, by first | rfl | omega, ⟨by omega, fun i m z h => by omega⟩, rfl, rfl⟩ ?_
          clear H; rintro _ _ _ T w ⟨k, rfl, ⟨hk, hF⟩, rfl, rfl⟩ H hnext1
          simp only [List.cons_append, List.nil_append] at H
          refine At.seq ?_
          refine At.region' (l := [0]) rfl ?_
          refine At.c H rfl (wN rfl) rfl rfl rfl (x_lss (H.r 145 rfl) (H.r 144 rfl)) ?_ ?_
          · clear H; intro h146 T H
            have hk1 : k < list.length := by omega
            obtain ⟨o, ho⟩ := get_ex (l := l) (k := k) (by omega)
            obtain ⟨z, hz⟩ := get_ex hk1
            obtain rfl := hL.addr (fun e => by simp [e] at hk1)
            have hss := sumTo_succ list l k
            have hws := worthsTo_succ men.length list l k
            rw [ho, hz] at hss hws
            have hsb := sumTo_b hv l k
            have hzb := hv.prize z (List.mem_of_getElem? hz)
            have hzc := hL.cell k z hz 1 _ rfl
            refine At.regionEnd ?_
            refine At.seq ?_
            refine At.condT (H.r 146 rfl) ?_
            refine At.skip ?_
            refine At.seq ?_
            refine At.block ?_
            refine At.seq ?_
            refine At.region' (l := [0, 1, 2, 3, 4]) rfl ?_
            refine At.v H rfl (wN rfl) rfl rfl rfl (x_move (H.r 145 rfl)) ?_; clear H; intro T H
            refine At.v H rfl (wN rfl) rfl rfl rfl (x_ixSN (H.r 143 rfl) (H.r 145 rfl) Try.runUnderlying30 Try.sizeOf3 (by omega)) ?_; clear H; intro T H
            refine At.v H rfl (wN rfl) rfl rfl rfl (x_load (H.r 148 rfl) Try.isAgg3 (by rw [show 0 + k * 1 = k by omega]; exact H.rowCell (g := g44) (by repeat (first | exact List.mem_cons_self | apply List.mem_cons_of_mem)) k (flatO_at ho))) ?_; clear H; intro T H
            refine At.v H rfl (wN rfl) rfl rfl rfl (x_assign (H.r 147 rfl)) ?_; clear H; intro T H
            refine At.v H rfl (wN rfl) rfl rfl rfl (x_assign (H.r 149 rfl)) ?_; clear H; intro T H
            refine At.regionEnd ?_
            refine At.seq ?_
            refine At.seq ?_
            refine At.region' (l := [0, 1]) rfl ?_
            refine At.v H rfl (wN rfl) rfl rfl rfl (x_move (H.r 24 rfl)) ?_; clear H; intro T H
            refine At.c H rfl (wN rfl) rfl rfl rfl (x_lss (H.r 150 rfl) evC) ?_ ?_
            · clear H; intro h151 T H
              have ho0 : o = none := by
                cases o with
                | none => rfl
                | some m => exact absurd h151 (by simp only [orNone]; omega)
              subst ho0
              have hss2 : sumTo list l (k + 1) = sumTo list l k := hss
              have hws2 : worthsTo men.length list l (k + 1) = worthsTo men.length list l k := hws
              have hF2 : ∀ i m z, i < k + 1 → l[i]? = some (some m) → list[i]? = some z → canAt men z.for_ m = true := fun i m z hi h1 h2 => by
                by_cases e : i = k
                · rw [e, ho] at h1; cases h1
                · exact hF i m z (by omega) h1 h2
              refine At.regionEnd ?_
              refine At.condT (H.r 151 rfl) ?_
              refine At.exit rfl ?_
              refine At.region' (l := [0, 1]) rfl ?_
              refine At.v H rfl (wN rfl) rfl rfl rfl (x_add (H.r 145 rfl) evC (w64 (by omega) (by omega))) ?_; clear H; intro T H
              refine At.v H rfl (wN rfl) rfl rfl rfl (x_move (H.r 195 rfl)) ?_; clear H; intro T H
              refine At.regionEnd ?_
              exact hnext1 _ _ _ _ _ (by omega) ⟨k + 1, rfl, ⟨by omega, hF2⟩, rfl, rfl⟩ (by simp only [List.cons_append, List.nil_append]; rw [hss2, hws2]; exact (H.pk (by repeat (first | exact Pk.nil | exact Pk.all | refine Pk.cons (by repeat (first | exact Take.here | apply Take.there)) ?_ | apply Pk.skip))).sub (by repeat' (first | exact trivial | refine And.intro rfl ?_)))
            · clear H; intro h151 T H
              obtain ⟨m, rfl⟩ : ∃ m, o = some m := by
                cases o with
                | none => exact absurd (by decide) h151
                | some m => exact ⟨m, rfl⟩
              have hml := hI.lt m (List.mem_of_getElem? ho)
              obtain ⟨mi, hmi⟩ := get_ex hml
              refine At.regionEnd ?_
              refine At.condF (H.r 151 rfl) ?_
              refine At.skip ?_
              refine At.seq ?_
              refine At.seq ?_
              refine At.region' (l := [0, 1, 2, 3, 4, 5, 6, 7, 8]) rfl ?_
              refine At.v H rfl (wN rfl) rfl rfl rfl (x_loadA (H.r 3 rfl) Try.isAgg25 Try.sizeOf25 (H.cellsAt (n := 2) (by repeat (first | exact List.mem_cons_self | apply List.mem_cons_of_mem)) rfl) rfl) ?_; clear H; intro T H
              refine At.v H rfl (wN rfl) rfl rfl rfl (x_move (H.r 24 rfl)) ?_; clear H; intro T H
              refine At.v H rfl (wN rfl) rfl rfl rfl (x_move (H.r 23 rfl)) ?_; clear H; intro T H
              refine At.f0 H rfl (wN rfl) rfl rfl rfl (args3 (H.r 153 rfl) (H.r 154 rfl) (H.r 155 rfl)) Try.call16 (Can (hM.fr0 H.fr) (hL.fr0 H.fr) hv (man := m) (prize := k) hmi hz) ?_; clear H; rintro v156 T w rfl _ H
              rcases Bool.eq_false_or_eq_true (canW z.for_ mi) with hcan | hcan
              · rw [hcan] at H
                have hF2 : ∀ i m z, i < k + 1 → l[i]? = some (some m) → list[i]? = some z → canAt men z.for_ m = true := fun i m2 z2 hi h1 h2 => by
                  by_cases e : i = k
                  · rw [e, ho] at h1; rw [e, hz] at h2; obtain rfl : m = m2 := by simpa using h1
                    obtain rfl : z = z2 := by simpa using h2
                    rw [canAt_eq hmi]; exact hcan
                  · exact hF i m2 z2 (by omega) h1 h2
                have hss2 : sumTo list l (k + 1) = sumTo list l k + z.worth := hss
                have hws2 : worthsTo men.length list l (k + 1) = (worthsTo men.length list l k).set m z.worth := hws
                refine At.v H rfl (wN rfl) rfl rfl rfl (x_move (H.r 156 rfl)) ?_; clear H; intro T H
                refine At.v H rfl (wN rfl) rfl rfl rfl (x_extract (H.r 152 rfl) rfl) ?_; clear H; intro T H
                refine At.v H rfl (wN rfl) rfl rfl rfl (x_extract (H.r 152 rfl) rfl) ?_; clear H; intro T H
                refine At.v H rfl (wN rfl) rfl rfl rfl (x_assign (H.r 157 rfl)) ?_; clear H; intro T H
                refine At.v H rfl (wN rfl) rfl rfl rfl (x_assign (H.r 158 rfl)) ?_; clear H; intro T H
                refine At.regionEnd ?_
                refine At.seq ?_
                refine At.region' (l := [0, 1]) rfl ?_
                refine At.v H rfl (wN rfl) rfl rfl rfl (x_move (H.r 25 rfl)) ?_; clear H; intro T H
                refine At.v H rfl (wN rfl) rfl rfl rfl (x_notT (H.r 159 rfl)) ?_; clear H; intro T H
                refine At.regionEnd ?_
                refine At.condF (H.r 160 rfl) ?_
                refine At.skip ?_
                have H0 := ((H.fore (PkS.cons (x := .row (.slice (some ⟨g142, 0, none⟩) _ _) _ _ _ _) (by repeat (first | exact Take.here | apply Take.there)) PkS.nil)).sub (R' := [] ++ [(2, _), (3, _), (7, _), (13, _), (14, _), (15, _), (21, _), (143, _), (144, _), (145, _)]) (by repeat' (first | exact trivial | refine And.intro rfl ?_)))
                refine At.joinF H0 (fun R1 G1 => ∃ _u : Unit, (True) ∧ R1 = [(22, .int .i64 (sumTo list l k + z.worth))] ∧ G1 = [.row (.slice (some ⟨g142, 0, none⟩) men.length men.length) 3 1 men.length (((worthsTo men.length list l k).set m z.worth).flatMap encI)]) ?_ ?_ <;> clear H0
                · intro J
                  refine At.drawnC (m := 19) (L := #[false, false, false, false, false, false, false, false, false, false, false, false, false, false, false, false, false, false, false]) H mixed rfl rfl ?_; clear H; intro w H
                  refine GA.v (i := 0) (L' := #[true, false, false, false, false, false, false, false, false, false, false, false, false, false, false, false, false, false, false]) H rfl (wN rfl) rfl rfl rfl (by kernel_rfl) rfl (fun w H => x_move (H.r 21 rfl)) ?_; clear H; intro T H
                  refine GA.v (i := 1) (L' := #[true, true, false, false, false, false, false, false, false, false, false, false, false, false, false, false, false, false, false]) H rfl (wN rfl) rfl rfl rfl (by kernel_rfl) rfl (fun w H => x_move (H.r 24 rfl)) ?_; clear H; intro T H
                  refine GA.v (i := 2) (L' := #[true, true, true, false, false, false, false, false, false, false, false, false, false, false, false, false, false, false, false]) H rfl (wN rfl) rfl rfl rfl (by kernel_rfl) rfl (fun w H => x_fieldAddr (H.r 3 rfl) fa25_1) ?_; clear H; intro T H
                  refine GA.v (i := 3) (L' := #[true, true, true, true, false, false, false, false, false, false, false, false, false, false, false, false, false, false, false]) H rfl (wN rfl) rfl rfl rfl (by kernel_rfl) rfl (fun w H => x_load (H.r 180 rfl) Try.isAgg23 (by first | exact H.cell (by repeat (first | exact List.mem_cons_self | apply List.mem_cons_of_mem)) _ rfl | exact H.cellR (by repeat (first | exact List.mem_cons_self | apply List.mem_cons_of_mem)) _ rfl)) ?_; clear H; intro T H
                  refine GA.v (i := 4) (L' := #[true, true, true, true, true, false, false, false, false, false, false, false, false, false, false, false, false, false, false]) H rfl (wN rfl) rfl rfl rfl (by kernel_rfl) rfl (fun w H => x_move (H.r 23 rfl)) ?_; clear H; intro T H
                  refine GA.v (i := 5) (L' := #[true, true, true, true, true, true, false, false, false, false, false, false, false, false, false, false, false, false, false]) H rfl (wN rfl) rfl rfl rfl (by kernel_rfl) rfl (fun w H => x_ixSN (H.r 181 rfl) (H.r 182 rfl) Try.runUnderlying23 Try.sizeOf42 (by omega)) ?_; clear H; intro T H
                  refine GA.v (i := 6) (L' := #[true, true, true, true, true, true, true, false, false, false, false, false, false, false, false, false, false, false, false]) H rfl (wN rfl) rfl rfl rfl (by kernel_rfl) rfl (fun w H => x_fieldAddr (H.r 183 rfl) fa42_1) ?_; clear H; intro T H
                  refine GA.v (i := 7) (L' := #[true, true, true, true, true, true, true, true, false, false, false, false, false, false, false, false, false, false, false]) H rfl (wN rfl) rfl rfl rfl (by kernel_rfl) rfl (fun w H => x_load (H.r 184 rfl) Try.isAgg3 (H.ext hzc (by simp))) ?_; clear H; intro T H
                  refine GA.p (i := 8) (L' := #[true, true, true, true, true, true, true, true, true, false, false, false, false, false, false, false, false, false, false]) H rfl (wN rfl) rfl rfl rfl (by kernel_rfl) rfl (fun w => x_move (H.r 22 rfl)) ?_; clear H; intro T H
                  refine GA.v (i := 9) (L' := #[true, true, true, true, true, true, true, true, true, true, false, false, false, false, false, false, false, false, false]) H rfl (wN rfl) rfl rfl rfl (by kernel_rfl) rfl (fun w H => x_fieldAddr (H.r 3 rfl) fa25_1) ?_; clear H; intro T H
                  refine GA.v (i := 10) (L' := #[true, true, true, true, true, true, true, true, true, true, true, false, false, false, false, false, false, false, false]) H rfl (wN rfl) rfl rfl rfl (by kernel_rfl) rfl (fun w H => x_load (H.r 187 rfl) Try.isAgg23 (by first | exact H.cell (by repeat (first | exact List.mem_cons_self | apply List.mem_cons_of_mem)) _ rfl | exact H.cellR (by repeat (first | exact List.mem_cons_self | apply List.mem_cons_of_mem)) _ rfl)) ?_; clear H; intro T H
                  refine GA.v (i := 11) (L' := #[true, true, true, true, true, true, true, true, true, true, true, true, false, false, false, false, false, false, false]) H rfl (wN rfl) rfl rfl rfl (by kernel_rfl) rfl (fun w H => x_move (H.r 23 rfl)) ?_; clear H; intro T H
                  refine GA.v (i := 12) (L' := #[true, true, true, true, true, true, true, true, true, true, true, true, true, false, false, false, false, false, false]) H rfl (wN rfl) rfl rfl rfl (by kernel_rfl) rfl (fun w H => x_ixSN (H.r 188 rfl) (H.r 189 rfl) Try.runUnderlying23 Try.sizeOf42 (by omega)) ?_; clear H; intro T H
                  refine GA.v (i := 13) (L' := #[true, true, true, true, true, true, true, true, true, true, true, true, true, true, false, false, false, false, false]) H rfl (wN rfl) rfl rfl rfl (by kernel_rfl) rfl (fun w H => x_fieldAddr (H.r 190 rfl) fa42_1) ?_; clear H; intro T H
                  refine GA.v (i := 14) (L' := #[true, true, true, true, true, true, true, true, true, true, true, true, true, true, true, false, false, false, false]) H rfl (wN rfl) rfl rfl rfl (by kernel_rfl) rfl (fun w H => x_load (H.r 191 rfl) Try.isAgg3 (H.ext hzc (by simp))) ?_; clear H; intro T H
                  refine GA.p (i := 15) (L' := #[true, true, true, true, true, true, true, true, true, true, true, true, true, true, true, true, false, false, false]) H rfl (wN rfl) rfl rfl rfl (by kernel_rfl) rfl (fun w => x_add (H.r 186 rfl) (H.r 192 rfl) (w64 (by omega) (by omega))) ?_; clear H; intro T H
                  refine GA.v (i := 16) (L' := #[true, true, true, true, true, true, true, true, true, true, true, true, true, true, true, true, true, false, false]) H rfl (wN rfl) rfl rfl rfl (by kernel_rfl) rfl (fun w H => x_ixSN (n := m) (H.r 178 rfl) (H.r 179 rfl) Try.runUnderlying30 Try.sizeOf3 hml) ?_; clear H; intro T H
                  refine GA.one (i := 17) (L' := #[true, true, true, true, true, true, true, true, true, true, true, true, true, true, true, true, true, true, false]) (by kernel_rfl) rfl ?_
                  refine StG.storeR (l' := ((worthsTo men.length list l k).set m z.worth).flatMap encI) H rfl (wN rfl) rfl rfl (H.r 194 rfl) (H.r 185 rfl) Try.sizeOf3 rfl rfl (by repeat (first | exact Take.here | apply Take.there)) (by rw [flat_lenI, worthsTo_len]; omega) (by rw [show 0 + m * 1 = m by omega, flat_set]) ?_; clear H; intro T w _ H
                  refine GA.v (i := 18) (L' := #[true, true, true, true, true, true, true, true, true, true, true, true, true, true, true, true, true, true, true]) H rfl (wN rfl) rfl rfl rfl (by kernel_rfl) rfl (fun w H => x_assign (H.r 193 rfl)) ?_; clear H; intro T H
                  refine GA.done (by kernel_rfl) ?_
                  exact J _ _ _ _ ⟨(), trivial, rfl, rfl⟩ (by simp only [List.cons_append, List.nil_append]; exact (H.pk (by repeat (first | exact Pk.nil | exact Pk.all | refine Pk.cons (by repeat (first | exact Take.here | apply Take.there)) ?_ | apply Pk.skip))).sub (by repeat' (first | exact trivial | refine And.intro rfl ?_)))
                · clear H
                  rintro _ _ T w ⟨_u, _, rfl, rfl⟩ H
                  simp only [List.cons_append, List.nil_append] at H
                  refine At.inBlock ?_
                  refine At.region' (l := [0, 1]) rfl ?_
                  refine At.v H rfl (wN rfl) rfl rfl rfl (x_add (H.r 145 rfl) evC (w64 (by omega) (by omega))) ?_; clear H; intro T H
                  refine At.v H rfl (wN rfl) rfl rfl rfl (x_move (H.r 195 rfl)) ?_; clear H; intro T H
                  refine At.regionEnd ?_
                  exact hnext1 _ _ _ _ _ (by omega) ⟨k + 1, rfl, ⟨by omega, hF2⟩, rfl, rfl⟩ (by simp only [List.cons_append, List.nil_append]; rw [hss2, hws2]; exact (H.pk (by repeat (first | exact Pk.nil | exact Pk.all | refine Pk.cons (by repeat (first | exact Take.here | apply Take.there)) ?_ | apply Pk.skip))).sub (by repeat' (first | exact trivial | refine And.intro rfl ?_)))
              · rw [hcan] at H
                have hnf : ¬ fairL men list l := fun hf => by
                  have := hf k m z ho hz
                  rw [canAt_eq hmi, hcan] at this
                  cases this
                rcases hw60 with ⟨hf, _⟩ | ⟨_, hx60, hs60, he60⟩
                · exact absurd hf hnf
                subst hx60 hs60 he60
                simp only [List.length_nil] at hn60
                subst hn60
                refine At.v H rfl (wN rfl) rfl rfl rfl (x_move (H.r 156 rfl)) ?_; clear H; intro T H
                refine At.v H rfl (wN rfl) rfl rfl rfl (x_extract (H.r 152 rfl) rfl) ?_; clear H; intro T H
                refine At.v H rfl (wN rfl) rfl rfl rfl (x_extract (H.r 152 rfl) rfl) ?_; clear H; intro T H
                refine At.v H rfl (wN rfl) rfl rfl rfl (x_assign (H.r 157 rfl)) ?_; clear H; intro T H
                refine At.v H rfl (wN rfl) rfl rfl rfl (x_assign (H.r 158 rfl)) ?_; clear H; intro T H
                refine At.regionEnd ?_
                refine At.seq ?_
                refine At.region' (l := [0, 1]) rfl ?_
                refine At.v H rfl (wN rfl) rfl rfl rfl (x_move (H.r 25 rfl)) ?_; clear H; intro T H
                refine At.v H rfl (wN rfl) rfl rfl rfl (x_notF (H.r 159 rfl)) ?_; clear H; intro T H
                refine At.regionEnd ?_
                refine At.condT (H.r 160 rfl) ?_
                refine At.seq ?_
                refine At.region' (l := [0, 1, 2, 3, 4, 5, 6, 7, 8, 9, 10, 11, 12, 13, 14, 15, 16, 17]) rfl ?_
                refine At.v H rfl (wN rfl) rfl rfl rfl (x_move (H.r 2 rfl)) ?_; clear H; intro T H
                refine At.v H rfl (wN rfl) rfl rfl rfl (x_move (H.r 161 rfl)) ?_; clear H; intro T H
                refine At.v H rfl (wS H rfl rfl rfl) rfl rfl rfl (x_move (H.r 15 rfl)) ?_; clear H; intro T H
                refine At.v (v := .bool true) H rfl (wS H rfl rfl rfl) rfl rfl rfl (x_eql (H.r 163 rfl) evC) ?_; clear H; intro T H
                refine At.v H rfl (wN rfl) rfl rfl rfl (x_pickT (H.r 162 rfl) (H.r 164 rfl)) ?_; clear H; intro T H
                refine At.v H rfl (wN rfl) rfl rfl rfl (x_move (H.r 165 rfl)) ?_; clear H; intro T H
                refine At.v H rfl (wS H rfl rfl rfl) rfl rfl rfl (x_move (H.r 13 rfl)) ?_; clear H; intro T H
                refine At.v H rfl (wS H rfl rfl rfl) rfl rfl rfl (x_len (H.r 167 rfl) Try.runUnderlying30) ?_; clear H; intro T H
                refine At.v (v := .bool true) H rfl (wS H rfl rfl rfl) rfl rfl rfl (x_eql (H.r 168 rfl) evC) ?_; clear H; intro T H
                refine At.v H rfl (wN rfl) rfl rfl rfl (x_pickT (H.r 166 rfl) (H.r 169 rfl)) ?_; clear H; intro T H
                refine At.v H rfl (wN rfl) rfl rfl rfl (x_move (H.r 170 rfl)) ?_; clear H; intro T H
                refine At.v H rfl (wS H rfl rfl rfl) rfl rfl rfl (x_move (H.r 14 rfl)) ?_; clear H; intro T H
                refine At.v (v := .bool true) H rfl (wS H rfl rfl rfl) rfl rfl rfl (x_eql (H.r 172 rfl) evC) ?_; clear H; intro T H
                refine At.v H rfl (wN rfl) rfl rfl rfl (x_pickT (H.r 171 rfl) (H.r 173 rfl)) ?_; clear H; intro T H
                refine At.v H rfl (wN rfl) rfl rfl rfl (x_move (H.r 174 rfl)) ?_; clear H; intro T H
                refine At.f0 H rfl (wS H rfl rfl rfl) rfl rfl rfl args0 Try.call11 (awake _) ?_; clear H; rintro v176 T w rfl _ H
                refine At.v H rfl (wN rfl) rfl rfl rfl (x_pickT (H.r 175 rfl) (H.r 176 rfl)) ?_; clear H; intro T H
                refine At.v H rfl (wN rfl) rfl rfl rfl (x_assign (H.r 177 rfl)) ?_; clear H; intro T H
                refine At.regionEnd ?_
                refine At.ret rfl ?_
                exact lea Try.func3 (res1 Try.results3 (H.r 6 rfl)) (Ret.mk H.fr (rfl))
          · clear H; intro h146 T H
            obtain rfl : list.length = k := by omega
            have hfl : fairL men list l := fun i m z h1 h2 => hF i m z (List.getElem?_eq_some_iff.1 h2).1 h1 h2
            rcases hw60 with ⟨_, hx60, hs60, he60⟩ | ⟨hno, _⟩
            rotate_left
            · exact absurd hfl hno
            subst he60
            refine At.regionEnd ?_
            refine At.seq ?_
            refine At.condF (H.r 146 rfl) ?_
            refine At.exit rfl ?_
            refine At.seq ?_
            refine At.seq ?_
            refine At.region' (l := [0, 1, 2, 3, 4, 5, 6, 7, 8, 9, 10, 11, 12]) rfl ?_
            refine At.v H rfl (wN rfl) rfl rfl rfl (x_move (H.r 15 rfl)) ?_; clear H; intro T H
            refine At.v (v := .bool false) H rfl (wN rfl) rfl rfl rfl (x_neq (H.r 196 rfl) evC) ?_; clear H; intro T H
            refine At.v H rfl (wN rfl) rfl rfl rfl (x_move (H.r 197 rfl)) ?_; clear H; intro T H
            refine At.v H rfl (wS H rfl rfl rfl) rfl rfl rfl (x_move (H.r 13 rfl)) ?_; clear H; intro T H
            refine At.v H rfl (wS H rfl rfl rfl) rfl rfl rfl (x_move (H.r 21 rfl)) ?_; clear H; intro T H
            refine At.f0 H rfl (wS H rfl rfl rfl) rfl rfl rfl (args2 (H.r 199 rfl) (H.r 200 rfl)) Try.call17 (Ints (xs := xs60) (ys := worthsTo men.length list l list.length) (H.rowSl (enc := encI) (by repeat (first | exact List.mem_cons_self | apply List.mem_cons_of_mem)) (fun _ => rfl) hn60 rfl) (H.rowSl (enc := encI) (by repeat (first | exact List.mem_cons_self | apply List.mem_cons_of_mem)) (fun _ => rfl) (worthsTo_len _ _ _ _).symm rfl) (by rw [hx60, worthsL, worthsTo_len]; omega)) ?_; clear H; rintro v201 T w rfl _ H
            rw [decide_eq_true (show xs60 = worthsTo men.length list l list.length by rw [hx60, worthsL, hll])] at H
            refine At.v H rfl (wS H rfl rfl rfl) rfl rfl rfl (x_notT (H.r 201 rfl)) ?_; clear H; intro T H
            refine At.v H rfl (wN rfl) rfl rfl rfl (x_pickF (H.r 198 rfl) (H.r 202 rfl)) ?_; clear H; intro T H
            refine At.v H rfl (wN rfl) rfl rfl rfl (x_move (H.r 203 rfl)) ?_; clear H; intro T H
            refine At.v H rfl (wS H rfl rfl rfl) rfl rfl rfl (x_move (H.r 14 rfl)) ?_; clear H; intro T H
            refine At.v H rfl (wS H rfl rfl rfl) rfl rfl rfl (x_move (H.r 22 rfl)) ?_; clear H; intro T H
            refine At.v (v := .bool false) H rfl (wS H rfl rfl rfl) rfl rfl rfl ((x_neq (H.r 205 rfl) (H.r 206 rfl)).trans (by rw [decide_eq_false (fun h => h (by rw [hs60, sumTo_eq hgl, worthsL, hll]))])) ?_; clear H; intro T H
            refine At.v H rfl (wN rfl) rfl rfl rfl (x_pickF (H.r 204 rfl) (H.r 207 rfl)) ?_; clear H; intro T H
            refine At.regionEnd ?_
            refine At.condF (H.r 208 rfl) ?_
            refine At.skip ?_
            refine At.seq ?_
            refine At.seq ?_
            have H0 := ((H.fore PkS.nil).sub (R' := [] ++ [(3, _), (7, _)]) (by repeat' (first | exact trivial | refine And.intro rfl ?_)))
            refine At.joinF H0 (fun R1 G1 => ∃ (g223 : Nat) (A1 : Option Addr) (c1 : Nat) (A2 : Option Addr) (c2 : Nat), (True) ∧ R1 = [(223, .slice (some ⟨g223, 0, none⟩) 2 2), (224, .int .i64 2), (225, .int .i64 0)] ∧ G1 = [.blk g223 (Eo (.cells [.slice A1 (1 + list.length) c1, .slice A2 (list.length - 1) c2].toArray 30 (0, 0)))]) ?_ ?_ <;> clear H0
            · intro J
              refine At.drawnC (m := 17) (L := #[false, false, false, false, false, false, false, false, false, false, false, false, false, false, false, false, false]) H mixed rfl rfl ?_; clear H; intro w H
              refine GA.v (i := 1) (L' := #[false, true, false, false, false, false, false, false, false, false, false, false, false, false, false, false, false]) H rfl (wN rfl) rfl rfl rfl (by kernel_rfl) rfl (fun w H => x_move (H.r 7 rfl)) ?_; clear H; intro T H
              refine GA.p (i := 3) (L' := #[false, true, false, true, false, false, false, false, false, false, false, false, false, false, false, false, false]) H rfl (wN rfl) rfl rfl rfl (by kernel_rfl) rfl (fun w => x_move (H.r 7 rfl)) ?_; clear H; intro T H
              refine GA.p (i := 4) (L' := #[false, true, false, true, true, false, false, false, false, false, false, false, false, false, false, false, false]) H rfl (wN rfl) rfl rfl rfl (by kernel_rfl) rfl (fun w => x_len (H.r 212 rfl) Try.runUnderlying30) ?_; clear H; intro T H
              refine GA.p (i := 5) (L' := #[false, true, false, true, true, true, false, false, false, false, false, false, false, false, false, false, false]) H rfl (wN rfl) rfl rfl rfl (by kernel_rfl) rfl (fun w => x_addN (a := list.length) (b := 1) (H.r 213 rfl) evC (by omega)) ?_; clear H; intro T H
              refine GA.p (i := 7) (L' := #[false, true, false, true, true, true, false, true, false, false, false, false, false, false, false, false, false]) H rfl (wN rfl) rfl rfl rfl (by kernel_rfl) rfl (fun w => x_move (H.r 7 rfl)) ?_; clear H; intro T H
              refine GA.p (i := 9) (L' := #[false, true, false, true, true, true, false, true, false, true, false, false, false, false, false, false, false]) H rfl (wN rfl) rfl rfl rfl (by kernel_rfl) rfl (fun w => x_move (H.r 7 rfl)) ?_; clear H; intro T H
              refine GA.p (i := 10) (L' := #[false, true, false, true, true, true, false, true, false, true, true, false, false, false, false, false, false]) H rfl (wN rfl) rfl rfl rfl (by kernel_rfl) rfl (fun w => x_len (H.r 218 rfl) Try.runUnderlying30) ?_; clear H; intro T H
              refine GA.p (i := 11) (L' := #[false, true, false, true, true, true, false, true, false, true, true, true, false, false, false, false, false]) H rfl (wN rfl) rfl rfl rfl (by kernel_rfl) rfl (fun w => x_sub (H.r 219 rfl) evC (w64 (by omega) (by omega))) ?_; clear H; intro T H
              refine GA.p (i := 12) (L' := #[false, true, false, true, true, true, false, true, false, true, true, true, true, false, false, false, false]) H rfl (wN rfl) rfl rfl rfl (by kernel_rfl) rfl (fun w => x_max (z := ((list.length - 1 : Nat) : Int)) evC (H.r 220 rfl) (by split <;> omega)) ?_; clear H; intro T H
              refine GA.p (i := 16) (L' := #[false, true, false, true, true, true, false, true, false, true, true, true, true, false, false, false, true]) H rfl (wN rfl) rfl rfl rfl (by kernel_rfl) rfl (fun w => x_move evC) ?_; clear H; intro T H
              refine GA.two' (i := 0) (j := 6) (L' := #[true, true, false, true, true, true, false, true, false, true, true, true, true, false, false, false, true]) (L2 := #[false, true, false, true, true, true, true, true, false, true, true, true, true, false, false, false, true]) (by kernel_rfl) rfl rfl ?_ ?_
              · skip
                refine StG.bs (m := 1) (C := ?l209_1) (e := ?e209_1) H rfl (wN rfl) rfl rfl rfl (x_bs1 evC ?r209_1) ?_
                case r209_1 => (simp [go_sem] <;> rfl)
                clear H; intro b209 T w H
                replace H := H.toRow (g := b209) (n := 1) (sz := 1) (e := 3) (by repeat (first | exact Take.here | apply Take.there)) rfl (by decide)
                refine GA.two' (i := 2) (j := 6) (L' := #[true, true, true, true, true, true, false, true, false, true, true, true, true, false, false, false, true]) (L2 := #[true, true, false, true, true, true, true, true, false, true, true, true, true, false, false, false, true]) (by kernel_rfl) rfl rfl ?_ ?_
                · skip
                  refine StG.append H rfl (wN rfl) rfl rfl rfl (etI w0) (H.r 209 rfl) (H.r 210 rfl) (by repeat (first | exact Take.here | apply Take.there)) (H.rowCells (g := g44) (by repeat (first | exact List.mem_cons_self | apply List.mem_cons_of_mem))) (by rw [flat_lenO]; omega) (flat_one oneO l) (by omega) ?_; clear H; intro A211 c211 T w hc211 hA211 H
                  refine GA.one (i := 6) (L' := #[true, true, true, true, true, true, true, true, false, true, true, true, true, false, false, false, true]) (by kernel_rfl) rfl ?_
                  refine StG.make0 H rfl (wN rfl) rfl rfl rfl (etI w0) evC (H.r 214 rfl) (by omega) ?_; clear H; intro g215 T w H
                  refine GA.one (i := 8) (L' := #[true, true, true, true, true, true, true, true, true, true, true, true, true, false, false, false, true]) (by kernel_rfl) rfl ?_
                  refine StG.append H rfl (wN rfl) rfl rfl rfl (etI w0) (H.r 215 rfl) (H.r 216 rfl) (by repeat (first | exact Take.here | apply Take.there)) (H.rowCells (g := g44) (by repeat (first | exact List.mem_cons_self | apply List.mem_cons_of_mem))) (by rw [flat_lenO]; omega) (flat_one oneO l) (by omega) ?_; clear H; intro A217 c217 T w hc217 hA217 H
                  refine GA.v (i := 13) (L' := #[true, true, true, true, true, true, true, true, true, true, true, true, true, true, false, false, true]) H rfl (wN rfl) rfl rfl rfl (by kernel_rfl) rfl (fun w H => x_slS (l := 0) (h := list.length - 1) (H.r 217 rfl) rfl (H.r 221 rfl) Try.runUnderlying30 Try.sizeOf3 (by omega) (by omega)) ?_; clear H; intro T H
                  refine GA.one (i := 14) (L' := #[true, true, true, true, true, true, true, true, true, true, true, true, true, true, true, false, true]) (by kernel_rfl) rfl ?_
                  refine StG.bs (m := 2) (C := ?l223_2) (e := ?e223_2) H rfl (wN rfl) rfl rfl rfl (x_bs2 (H.r 211 rfl) (H.r 222 rfl) ?r223_2) ?_
                  case r223_2 => (simp [go_sem] <;> rfl)
                  clear H; intro b223 T w H
                  refine GA.v (i := 15) (L' := #[true, true, true, true, true, true, true, true, true, true, true, true, true, true, true, true, true]) H rfl (wN rfl) rfl rfl rfl (by kernel_rfl) rfl (fun w H => x_len (H.r 223 rfl) Try.runUnderlying44) ?_; clear H; intro T H
                  refine GA.done (by kernel_rfl) ?_
                  exact J _ _ _ _ ⟨_, _, _, _, _, trivial, rfl, rfl⟩ (by simp only [List.cons_append, List.nil_append]; exact (H.pk (by repeat (first | exact Pk.nil | exact Pk.all | refine Pk.cons (by repeat (first | exact Take.here | apply Take.there)) ?_ | apply Pk.skip))).sub (by repeat' (first | exact trivial | refine And.intro rfl ?_)))
                · skip
                  refine StG.make0 H rfl (wN rfl) rfl rfl rfl (etI w0) evC (H.r 214 rfl) (by omega) ?_; clear H; intro g215 T w H
                  refine GA.one (i := 2) (L' := #[true, true, true, true, true, true, true, true, false, true, true, true, true, false, false, false, true]) (by kernel_rfl) rfl ?_
                  refine StG.append H rfl (wN rfl) rfl rfl rfl (etI w0) (H.r 209 rfl) (H.r 210 rfl) (by repeat (first | exact Take.here | apply Take.there)) (H.rowCells (g := g44) (by repeat (first | exact List.mem_cons_self | apply List.mem_cons_of_mem))) (by rw [flat_lenO]; omega) (flat_one oneO l) (by omega) ?_; clear H; intro A211 c211 T w hc211 hA211 H
                  refine GA.one (i := 8) (L' := #[true, true, true, true, true, true, true, true, true, true, true, true, true, false, false, false, true]) (by kernel_rfl) rfl ?_
                  refine StG.append H rfl (wN rfl) rfl rfl rfl (etI w0) (H.r 215 rfl) (H.r 216 rfl) (by repeat (first | exact Take.here | apply Take.there)) (H.rowCells (g := g44) (by repeat (first | exact List.mem_cons_self | apply List.mem_cons_of_mem))) (by rw [flat_lenO]; omega) (flat_one oneO l) (by omega) ?_; clear H; intro A217 c217 T w hc217 hA217 H
                  refine GA.v (i := 13) (L' := #[true, true, true, true, true, true, true, true, true, true, true, true, true, true, false, false, true]) H rfl (wN rfl) rfl rfl rfl (by kernel_rfl) rfl (fun w H => x_slS (l := 0) (h := list.length - 1) (H.r 217 rfl) rfl (H.r 221 rfl) Try.runUnderlying30 Try.sizeOf3 (by omega) (by omega)) ?_; clear H; intro T H
                  refine GA.one (i := 14) (L' := #[true, true, true, true, true, true, true, true, true, true, true, true, true, true, true, false, true]) (by kernel_rfl) rfl ?_
                  refine StG.bs (m := 2) (C := ?l223_3) (e := ?e223_3) H rfl (wN rfl) rfl rfl rfl (x_bs2 (H.r 211 rfl) (H.r 222 rfl) ?r223_3) ?_
                  case r223_3 => (simp [go_sem] <;> rfl)
                  clear H; intro b223 T w H
                  refine GA.v (i := 15) (L' := #[true, true, true, true, true, true, true, true, true, true, true, true, true, true, true, true, true]) H rfl (wN rfl) rfl rfl rfl (by kernel_rfl) rfl (fun w H => x_len (H.r 223 rfl) Try.runUnderlying44) ?_; clear H; intro T H
                  refine GA.done (by kernel_rfl) ?_
                  exact J _ _ _ _ ⟨_, _, _, _, _, trivial, rfl, rfl⟩ (by simp only [List.cons_append, List.nil_append]; exact (H.pk (by repeat (first | exact Pk.nil | exact Pk.all | refine Pk.cons (by repeat (first | exact Take.here | apply Take.there)) ?_ | apply Pk.skip))).sub (by repeat' (first | exact trivial | refine And.intro rfl ?_)))
              · skip
                refine StG.make0 H rfl (wN rfl) rfl rfl rfl (etI w0) evC (H.r 214 rfl) (by omega) ?_; clear H; intro g215 T w H
                refine GA.one (i := 0) (L' := #[true, true, false, true, true, true, true, true, false, true, true, true, true, false, false, false, true]) (by kernel_rfl) rfl ?_
                refine StG.bs (m := 1) (C := ?l209_4) (e := ?e209_4) H rfl (wN rfl) rfl rfl rfl (x_bs1 evC ?r209_4) ?_
                case r209_4 => (simp [go_sem] <;> rfl)
                clear H; intro b209 T w H
                replace H := H.toRow (g := b209) (n := 1) (sz := 1) (e := 3) (by repeat (first | exact Take.here | apply Take.there)) rfl (by decide)
                refine GA.one (i := 2) (L' := #[true, true, true, true, true, true, true, true, false, true, true, true, true, false, false, false, true]) (by kernel_rfl) rfl ?_
                refine StG.append H rfl (wN rfl) rfl rfl rfl (etI w0) (H.r 209 rfl) (H.r 210 rfl) (by repeat (first | exact Take.here | apply Take.there)) (H.rowCells (g := g44) (by repeat (first | exact List.mem_cons_self | apply List.mem_cons_of_mem))) (by rw [flat_lenO]; omega) (flat_one oneO l) (by omega) ?_; clear H; intro A211 c211 T w hc211 hA211 H
                refine GA.one (i := 8) (L' := #[true, true, true, true, true, true, true, true, true, true, true, true, true, false, false, false, true]) (by kernel_rfl) rfl ?_
                refine StG.append H rfl (wN rfl) rfl rfl rfl (etI w0) (H.r 215 rfl) (H.r 216 rfl) (by repeat (first | exact Take.here | apply Take.there)) (H.rowCells (g := g44) (by repeat (first | exact List.mem_cons_self | apply List.mem_cons_of_mem))) (by rw [flat_lenO]; omega) (flat_one oneO l) (by omega) ?_; clear H; intro A217 c217 T w hc217 hA217 H
                refine GA.v (i := 13) (L' := #[true, true, true, true, true, true, true, true, true, true, true, true, true, true, false, false, true]) H rfl (wN rfl) rfl rfl rfl (by kernel_rfl) rfl (fun w H => x_slS (l := 0) (h := list.length - 1) (H.r 217 rfl) rfl (H.r 221 rfl) Try.runUnderlying30 Try.sizeOf3 (by omega) (by omega)) ?_; clear H; intro T H
                refine GA.one (i := 14) (L' := #[true, true, true, true, true, true, true, true, true, true, true, true, true, true, true, false, true]) (by kernel_rfl) rfl ?_
                refine StG.bs (m := 2) (C := ?l223_5) (e := ?e223_5) H rfl (wN rfl) rfl rfl rfl (x_bs2 (H.r 211 rfl) (H.r 222 rfl) ?r223_5) ?_
                case r223_5 => (simp [go_sem] <;> rfl)
                clear H; intro b223 T w H
                refine GA.v (i := 15) (L' := #[true, true, true, true, true, true, true, true, true, true, true, true, true, true, true, true, true]) H rfl (wN rfl) rfl rfl rfl (by kernel_rfl) rfl (fun w H => x_len (H.r 223 rfl) Try.runUnderlying44) ?_; clear H; intro T H
                refine GA.done (by kernel_rfl) ?_
                exact J _ _ _ _ ⟨_, _, _, _, _, trivial, rfl, rfl⟩ (by simp only [List.cons_append, List.nil_append]; exact (H.pk (by repeat (first | exact Pk.nil | exact Pk.all | refine Pk.cons (by repeat (first | exact Take.here | apply Take.there)) ?_ | apply Pk.skip))).sub (by repeat' (first | exact trivial | refine And.intro rfl ?_)))
            · clear H
              rintro _ _ T w ⟨g223, A1, c1, A2, c2, _, rfl, rfl⟩ H
              simp only [List.cons_append, List.nil_append] at H
              refine At.block ?_
              replace H := ((H.fore PkS.nil).sub (R' := [(225, _)] ++ [(3, _), (7, _), (223, _), (224, _)]) (by repeat' (first | exact trivial | refine And.intro rfl ?_)))
              refine At.loopF H (fun μ R1 G1 => ∃ k : Nat, μ = 2 - k ∧ (k ≤ 2) ∧ R1 = [(225, .int .i64 (k : Int))] ∧ G1 = []) (2) ⟨0, by first | rfl | omega, by first | trivial | omega | exact ⟨by omega, by omega⟩, rfl, rfl⟩ ?_
              clear H; rintro _ _ _ T w ⟨k, rfl, hP2, rfl, rfl⟩ H hnext2
              simp only [List.cons_append, List.nil_append] at H
              refine At.seq ?_
              refine At.region' (l := [0]) rfl ?_
              refine At.c H rfl (wN rfl) rfl rfl rfl (x_lss (H.r 225 rfl) (H.r 224 rfl)) ?_ ?_
              · clear H; intro h226 T H
                have hk1 : k < 2 := by omega
                obtain ⟨Ab, nb, cb, hcb⟩ : ∃ Ab nb cb, (#[Value.slice A1 (1 + list.length) c1, .slice A2 (list.length - 1) c2])[0 + k * 1]? = some (Value.slice Ab nb cb) := by
                  rcases k with _ | _ | k
                  · exact ⟨_, _, _, rfl⟩
                  · exact ⟨_, _, _, rfl⟩
                  · omega
                refine At.regionEnd ?_
                refine At.seq ?_
                refine At.condT (H.r 226 rfl) ?_
                refine At.skip ?_
                refine At.seq ?_
                refine At.block ?_
                refine At.seq ?_
                refine At.region' (l := [0, 1, 2]) rfl ?_
                refine At.v H rfl (wN rfl) rfl rfl rfl (x_ixSN (H.r 223 rfl) (H.r 225 rfl) Try.runUnderlying44 Try.sizeOf30 (by omega)) ?_; clear H; intro T H
                refine At.v H rfl (wN rfl) rfl rfl rfl (x_load (H.r 227 rfl) Try.isAgg30 (H.cell (b := g223) (by repeat (first | exact List.mem_cons_self | apply List.mem_cons_of_mem)) _ hcb)) ?_; clear H; intro T H
                refine At.v H rfl (wN rfl) rfl rfl rfl (x_assign (H.r 228 rfl)) ?_; clear H; intro T H
                refine At.regionEnd ?_
                refine At.seq ?_
                refine At.seq ?_
                refine At.region' (l := [0, 1, 2, 3, 4]) rfl ?_
                refine At.v H rfl (wN rfl) rfl rfl rfl (x_move (H.r 28 rfl)) ?_; clear H; intro T H
                refine At.v H rfl (wN rfl) rfl rfl rfl (x_len (H.r 229 rfl) Try.runUnderlying30) ?_; clear H; intro T H
                refine At.v H rfl (wN rfl) rfl rfl rfl (x_move (H.r 7 rfl)) ?_; clear H; intro T H
                refine At.v H rfl (wN rfl) rfl rfl rfl (x_len (H.r 231 rfl) Try.runUnderlying30) ?_; clear H; intro T H
                refine At.c H rfl (wN rfl) rfl rfl rfl (x_eql (H.r 230 rfl) (H.r 232 rfl)) ?_ ?_
                · clear H; intro h233 T H
                  refine At.regionEnd ?_
                  refine At.condT (H.r 233 rfl) ?_
                  refine At.exit rfl ?_
                  refine At.region' (l := [0, 1]) rfl ?_
                  refine At.v H rfl (wN rfl) rfl rfl rfl (x_add (H.r 225 rfl) evC (w64 (by omega) (by omega))) ?_; clear H; intro T H
                  refine At.v H rfl (wN rfl) rfl rfl rfl (x_move (H.r 243 rfl)) ?_; clear H; intro T H
                  refine At.regionEnd ?_
                  exact hnext2 _ _ _ _ _ (by omega) ⟨k + 1, rfl, by first | trivial | omega | exact ⟨by omega, by omega⟩, rfl, rfl⟩ (by simp only [List.cons_append, List.nil_append]; exact (H.pk (by repeat (first | exact Pk.nil | exact Pk.all | refine Pk.cons (by repeat (first | exact Take.here | apply Take.there)) ?_ | apply Pk.skip))).sub (by repeat' (first | exact trivial | refine And.intro rfl ?_)))
                · clear H; intro h233 T H
                  refine At.regionEnd ?_
                  refine At.condF (H.r 233 rfl) ?_
                  refine At.skip ?_
                  refine At.seq ?_
                  refine At.region' (l := [0, 1, 2, 3, 4, 5, 6, 7, 8, 9]) rfl ?_
                  refine At.v H rfl (wN rfl) rfl rfl rfl (x_loadA (H.r 3 rfl) Try.isAgg25 Try.sizeOf25 (H.cellsAt (n := 2) (by repeat (first | exact List.mem_cons_self | apply List.mem_cons_of_mem)) rfl) rfl) ?_; clear H; intro T H
                  refine At.v H rfl (wN rfl) rfl rfl rfl (x_move (H.r 28 rfl)) ?_; clear H; intro T H
                  refine At.f0 H rfl (wN rfl) rfl rfl rfl (args2 (H.r 235 rfl) (H.r 236 rfl)) Try.call14 (Worth_no (hM.fr0 H.fr) (hL.fr0 H.fr) hv Ab nb cb (by omega)) ?_; clear H; rintro v237 T w rfl _ H
                  refine At.v H rfl (wN rfl) rfl rfl rfl (x_move (H.r 237 rfl)) ?_; clear H; intro T H
                  refine At.v H rfl (wN rfl) rfl rfl rfl (x_extract (H.r 234 rfl) rfl) ?_; clear H; intro T H
                  refine At.v H rfl (wN rfl) rfl rfl rfl (x_extract (H.r 234 rfl) rfl) ?_; clear H; intro T H
                  refine At.v H rfl (wN rfl) rfl rfl rfl (x_extract (H.r 234 rfl) rfl) ?_; clear H; intro T H
                  refine At.v H rfl (wN rfl) rfl rfl rfl (x_assign (H.r 238 rfl)) ?_; clear H; intro T H
                  refine At.v H rfl (wN rfl) rfl rfl rfl (x_assign (H.r 239 rfl)) ?_; clear H; intro T H
                  refine At.v H rfl (wN rfl) rfl rfl rfl (x_assign (H.r 240 rfl)) ?_; clear H; intro T H
                  refine At.regionEnd ?_
                  refine At.seq ?_
                  refine At.region' (l := [0, 1]) rfl ?_
                  refine At.v H rfl (wN rfl) rfl rfl rfl (x_move (H.r 31 rfl)) ?_; clear H; intro T H
                  refine At.v (v := .bool false) H rfl (wN rfl) rfl rfl rfl (x_neq (H.r 241 rfl) evC) ?_; clear H; intro T H
                  refine At.regionEnd ?_
                  refine At.condF (H.r 242 rfl) ?_
                  refine At.skip ?_
                  refine At.inBlock ?_
                  refine At.region' (l := [0, 1]) rfl ?_
                  refine At.v H rfl (wN rfl) rfl rfl rfl (x_add (H.r 225 rfl) evC (w64 (by omega) (by omega))) ?_; clear H; intro T H
                  refine At.v H rfl (wN rfl) rfl rfl rfl (x_move (H.r 243 rfl)) ?_; clear H; intro T H
                  refine At.regionEnd ?_
                  exact hnext2 _ _ _ _ _ (by omega) ⟨k + 1, rfl, by first | trivial | omega | exact ⟨by omega, by omega⟩, rfl, rfl⟩ (by simp only [List.cons_append, List.nil_append]; exact (H.pk (by repeat (first | exact Pk.nil | exact Pk.all | refine Pk.cons (by repeat (first | exact Take.here | apply Take.there)) ?_ | apply Pk.skip))).sub (by repeat' (first | exact trivial | refine And.intro rfl ?_)))
              · clear H; intro h226 T H
                obtain rfl : 2 = k := by omega
                refine At.regionEnd ?_
                refine At.seq ?_
                refine At.condF (H.r 226 rfl) ?_
                refine At.exit rfl ?_
                refine At.seq ?_
                refine At.region' (l := [0, 1]) rfl ?_
                refine At.f0 H rfl (wN rfl) rfl rfl rfl args0 Try.call11 (awake _) ?_; clear H; rintro v244 T w rfl _ H
                refine At.v H rfl (wN rfl) rfl rfl rfl (x_assign (H.r 244 rfl)) ?_; clear H; intro T H
                refine At.regionEnd ?_
                refine At.ret rfl ?_
                exact lea Try.func3 (res1 Try.results3 (H.r 6 rfl)) (Ret.mk H.fr (rfl))
    · skip
      refine At.v H rfl (wS H rfl rfl rfl) rfl rfl rfl (x_notF (H.r 36 rfl)) ?_; clear H; intro T H
      refine At.v H rfl (wN rfl) rfl rfl rfl (x_pickF (H.r 34 rfl) (H.r 37 rfl)) ?_; clear H; intro T H
      refine At.regionEnd ?_
      refine At.condT (H.r 38 rfl) ?_
      refine At.seq ?_
      refine At.region' (l := [0, 1]) rfl ?_
      refine At.f0 H rfl (wN rfl) rfl rfl rfl args0 Try.call11 (awake _) ?_; clear H; rintro v39 T w rfl _ H
      refine At.v H rfl (wN rfl) rfl rfl rfl (x_assign (H.r 39 rfl)) ?_; clear H; intro T H
      refine At.regionEnd ?_
      refine At.ret rfl ?_
      exact lea Try.func3 (res1 Try.results3 (H.r 6 rfl)) (Ret.mk H.fr (rfl))
theorem PrizeWorthF {AM AL : Option Addr} {cM bM oM cL bL oL : Nat} {men : List Wi} {list : List Zi} {w0 : World} (hM : SlP encW 4 w0 AM cM bM oM men) (hL : SlP encZ 2 w0 AL cL bL oL list) {AB : Option Addr} {cB bB oB : Nat} {by_ : List Nat} (hB : SlP encB 1 w0 AB cB bB oB by_) (hbb : ∀ y ∈ by_, y < 256) : Calls Try.prog 3 #[(.agg #[(.slice AM men.length cM), (.slice AL list.length cL)]), .slice AB by_.length cB, .bool false] w0 (Ret w0 fun v _ => v = .bool true) := by
  refine enter (args := [(.agg #[(.slice AM men.length cM), (.slice AL list.length cL)]), .slice AB by_.length cB, .bool false]) (S := []) Try.func3 rfl Try.ntmps3 rfl fun cs T H => ?_
  refine At.seq ?_
  refine At.region' (l := [0, 1]) rfl ?_
  refine At.new H rfl (wN rfl) rfl rfl rfl (x_box (H.r 0 rfl) rfl) ?_; clear H; intro b3 T w _ _ H
  refine At.v H rfl (wN rfl) rfl rfl rfl (x_assign evC) ?_; clear H; intro T H
  refine At.regionEnd ?_
  refine At.seq ?_
  refine At.seq ?_
  refine At.region' (l := [0, 1, 2, 3, 4, 5, 6]) rfl ?_
  refine At.v H rfl (wN rfl) rfl rfl rfl (x_loadA (H.r 3 rfl) Try.isAgg25 Try.sizeOf25 (H.cellsAt (n := 2) (by repeat (first | exact List.mem_cons_self | apply List.mem_cons_of_mem)) rfl) rfl) ?_; clear H; intro T H
  refine At.f0 H rfl (wN rfl) rfl rfl rfl (args2 (H.r 32 rfl) evC) Try.call9 (far) ?_; clear H; rintro v33 T w rfl _ H
  by_cases hfar : 40 < men.length ∨ 40 < list.length ∨ 40 < 0
  · first | rw [decide_eq_true hfar] at H | rw [decide_eq_false hfar] at H
    refine At.v H rfl (wN rfl) rfl rfl rfl (x_move (H.r 33 rfl)) ?_; clear H; intro T H
    refine At.u H rfl (wU H rfl rfl rfl rfl) rfl rfl ?_; clear H; intro T H
    refine At.u H rfl (wU H rfl rfl rfl rfl) rfl rfl ?_; clear H; intro T H
    refine At.u H rfl (wU H rfl rfl rfl rfl) rfl rfl ?_; clear H; intro T H
    refine At.v H rfl (wN rfl) rfl rfl rfl (x_pickT (H.r 34 rfl) evC) ?_; clear H; intro T H
    refine At.regionEnd ?_
    refine At.condT (H.r 38 rfl) ?_
    refine At.seq ?_
    refine At.region' (l := [0, 1]) rfl ?_
    refine At.f0 H rfl (wN rfl) rfl rfl rfl args0 Try.call11 (awake _) ?_; clear H; rintro v39 T w rfl _ H
    refine At.v H rfl (wN rfl) rfl rfl rfl (x_assign (H.r 39 rfl)) ?_; clear H; intro T H
    refine At.regionEnd ?_
    refine At.ret rfl ?_
    exact lea Try.func3 (res1 Try.results3 (H.r 6 rfl)) (Ret.mk H.fr (rfl))
  · first | rw [decide_eq_true hfar] at H | rw [decide_eq_false hfar] at H
    refine At.v H rfl (wN rfl) rfl rfl rfl (x_move (H.r 33 rfl)) ?_; clear H; intro T H
    refine At.v H rfl (wS H rfl rfl rfl) rfl rfl rfl (x_loadA (H.r 3 rfl) Try.isAgg25 Try.sizeOf25 (H.cellsAt (n := 2) (by repeat (first | exact List.mem_cons_self | apply List.mem_cons_of_mem)) rfl) rfl) ?_; clear H; intro T H
    refine At.f0 H rfl (wS H rfl rfl rfl) rfl rfl rfl (args1 (H.r 35 rfl)) Try.call10 (Prizes (hM.fr0 H.fr) (hL.fr0 H.fr) (by omega) (by omega)) ?_; clear H; rintro v36 T w hQ36 _ H
    rcases hQ36 with ⟨rfl, hv⟩ | ⟨rfl, hv⟩
    · skip
      have hl6 := hv.l6
      have hn8 := hv.n8
      refine At.v H rfl (wS H rfl rfl rfl) rfl rfl rfl (x_notT (H.r 36 rfl)) ?_; clear H; intro T H
      refine At.v H rfl (wN rfl) rfl rfl rfl (x_pickF (H.r 34 rfl) (H.r 37 rfl)) ?_; clear H; intro T H
      refine At.regionEnd ?_
      refine At.condF (H.r 38 rfl) ?_
      refine At.skip ?_
      refine At.seq ?_
      refine At.region' (l := [0, 1, 2, 3, 4, 5]) rfl ?_
      refine At.v H rfl (wN rfl) rfl rfl rfl (x_loadA (H.r 3 rfl) Try.isAgg25 Try.sizeOf25 (H.cellsAt (n := 2) (by repeat (first | exact List.mem_cons_self | apply List.mem_cons_of_mem)) rfl) rfl) ?_; clear H; intro T H
      refine At.v H rfl (wN rfl) rfl rfl rfl (x_move (H.r 1 rfl)) ?_; clear H; intro T H
      refine At.v H rfl (wN rfl) rfl rfl rfl (x_move (H.r 2 rfl)) ?_; clear H; intro T H
      refine At.v H rfl (wN rfl) rfl rfl rfl (x_notF (H.r 42 rfl)) ?_; clear H; intro T H
      refine At.fG H rfl (wN rfl) rfl rfl rfl (args3 (H.r 40 rfl) (H.r 41 rfl) (H.r 43 rfl)) Try.call12 (made (hM.fr0 H.fr) (hL.fr0 H.fr) hv (hB.fr0 H.fr) hbb _) ?_; clear H; rintro v44 E44 T w ⟨g44, c44, l, seen, rfl, rfl, hll, hI⟩ _ H
      have hgl : GivOK men list l := ⟨hll, hI.lt, hI.nd⟩
      refine At.v H rfl (wN rfl) rfl rfl rfl (x_assign (H.r 44 rfl)) ?_; clear H; intro T H
      refine At.regionEnd ?_
      refine At.seq ?_
      refine At.region' (l := [0, 1, 2, 3, 4, 5, 6]) rfl ?_
      refine At.v H rfl (wN rfl) rfl rfl rfl (x_loadA (H.r 3 rfl) Try.isAgg25 Try.sizeOf25 (H.cellsAt (n := 2) (by repeat (first | exact List.mem_cons_self | apply List.mem_cons_of_mem)) rfl) rfl) ?_; clear H; intro T H
      refine At.fG H rfl (wN rfl) rfl rfl rfl (args1 (H.r 46 rfl)) Try.call13 (Due (hM.fr0 H.fr) (hL.fr0 H.fr) hv) ?_; clear H; rintro v47 E47 T w ⟨A47, c47, rfl, rfl⟩ _ H
      refine At.v H rfl (wN rfl) rfl rfl rfl (x_move (H.r 47 rfl)) ?_; clear H; intro T H
      refine At.v H rfl (wN rfl) rfl rfl rfl (x_extract (H.r 45 rfl) rfl) ?_; clear H; intro T H
      refine At.v H rfl (wN rfl) rfl rfl rfl (x_extract (H.r 45 rfl) rfl) ?_; clear H; intro T H
      refine At.v H rfl (wN rfl) rfl rfl rfl (x_assign (H.r 48 rfl)) ?_; clear H; intro T H
      refine At.v H rfl (wN rfl) rfl rfl rfl (x_assign (H.r 49 rfl)) ?_; clear H; intro T H
      refine At.regionEnd ?_
      refine At.seq ?_
      refine At.region' (l := [0, 1, 2, 3, 4, 5, 6, 7, 8, 9]) rfl ?_
      refine At.v H rfl (wN rfl) rfl rfl rfl (x_loadA (H.r 3 rfl) Try.isAgg25 Try.sizeOf25 (H.cellsAt (n := 2) (by repeat (first | exact List.mem_cons_self | apply List.mem_cons_of_mem)) rfl) rfl) ?_; clear H; intro T H
      refine At.v H rfl (wN rfl) rfl rfl rfl (x_move (H.r 8 rfl)) ?_; clear H; intro T H
      refine At.fG H rfl (wN rfl) rfl rfl rfl (args2 (H.r 51 rfl) (H.r 52 rfl)) Try.call14 (Worth2 (hM.fr0 H.fr) (hL.fr0 H.fr) hv (H.rowSl (enc := encO) (by repeat (first | exact List.mem_cons_self | apply List.mem_cons_of_mem)) (fun _ => rfl) (dueL_len _ _).symm rfl) (dueGiv hv)) ?_; clear H; rintro v53 E53 T w ⟨A53, n53, c53, xs53, s53, e53, rfl, rfl, hn53, hw53⟩ _ H
      obtain rfl : e53 = 0 := by
        rcases hw53 with h | h
        · exact h.2.2.2
        · exact absurd (dueFair men list) h.1
      refine At.v H rfl (wN rfl) rfl rfl rfl (x_move (H.r 53 rfl)) ?_; clear H; intro T H
      refine At.v H rfl (wN rfl) rfl rfl rfl (x_extract (H.r 50 rfl) rfl) ?_; clear H; intro T H
      refine At.v H rfl (wN rfl) rfl rfl rfl (x_extract (H.r 50 rfl) rfl) ?_; clear H; intro T H
      refine At.v H rfl (wN rfl) rfl rfl rfl (x_extract (H.r 50 rfl) rfl) ?_; clear H; intro T H
      refine At.v H rfl (wN rfl) rfl rfl rfl (x_assign (H.r 54 rfl)) ?_; clear H; intro T H
      refine At.v H rfl (wN rfl) rfl rfl rfl (x_assign (H.r 55 rfl)) ?_; clear H; intro T H
      refine At.v H rfl (wN rfl) rfl rfl rfl (x_assign (H.r 56 rfl)) ?_; clear H; intro T H
      refine At.regionEnd ?_
      refine At.seq ?_
      refine At.region' (l := [0, 1, 2, 3, 4, 5, 6, 7, 8, 9]) rfl ?_
      refine At.v H rfl (wN rfl) rfl rfl rfl (x_loadA (H.r 3 rfl) Try.isAgg25 Try.sizeOf25 (H.cellsAt (n := 2) (by repeat (first | exact List.mem_cons_self | apply List.mem_cons_of_mem)) rfl) rfl) ?_; clear H; intro T H
      refine At.v H rfl (wN rfl) rfl rfl rfl (x_move (H.r 7 rfl)) ?_; clear H; intro T H
      refine At.fG H rfl (wN rfl) rfl rfl rfl (args2 (H.r 58 rfl) (H.r 59 rfl)) Try.call14 (Worth2 (hM.fr0 H.fr) (hL.fr0 H.fr) hv (gv := l) (H.rowSl (enc := encO) (by repeat (first | exact List.mem_cons_self | apply List.mem_cons_of_mem)) (fun _ => rfl) hll.symm rfl) hgl) ?_; clear H; rintro v60 E60 T w ⟨A60, n60, c60, xs60, s60, e60, rfl, rfl, hn60, hw60⟩ _ H
      refine At.v H rfl (wN rfl) rfl rfl rfl (x_move (H.r 60 rfl)) ?_; clear H; intro T H
      refine At.v H rfl (wN rfl) rfl rfl rfl (x_extract (H.r 57 rfl) rfl) ?_; clear H; intro T H
      refine At.v H rfl (wN rfl) rfl rfl rfl (x_extract (H.r 57 rfl) rfl) ?_; clear H; intro T H
      refine At.v H rfl (wN rfl) rfl rfl rfl (x_extract (H.r 57 rfl) rfl) ?_; clear H; intro T H
      refine At.v H rfl (wN rfl) rfl rfl rfl (x_assign (H.r 61 rfl)) ?_; clear H; intro T H
      refine At.v H rfl (wN rfl) rfl rfl rfl (x_assign (H.r 62 rfl)) ?_; clear H; intro T H
      refine At.v H rfl (wN rfl) rfl rfl rfl (x_assign (H.r 63 rfl)) ?_; clear H; intro T H
      refine At.regionEnd ?_
      refine At.seq ?_
      refine At.region' (l := [0, 1, 2, 3, 4, 5, 6, 7, 8, 9]) rfl ?_
      refine At.v H rfl (wN rfl) rfl rfl rfl (x_loadA (H.r 3 rfl) Try.isAgg25 Try.sizeOf25 (H.cellsAt (n := 2) (by repeat (first | exact List.mem_cons_self | apply List.mem_cons_of_mem)) rfl) rfl) ?_; clear H; intro T H
      refine At.v H rfl (wN rfl) rfl rfl rfl (x_move (H.r 7 rfl)) ?_; clear H; intro T H
      refine At.f0 H rfl (wN rfl) rfl rfl rfl (args2 (H.r 65 rfl) (H.r 66 rfl)) Try.call15 (Wrong2 (hM.fr0 H.fr) (hL.fr0 H.fr) hv (gv := l) (H.rowSl (enc := encO) (by repeat (first | exact List.mem_cons_self | apply List.mem_cons_of_mem)) (fun _ => rfl) hll.symm rfl) hgl) ?_; clear H; rintro v67 T w rfl _ H
      refine At.v H rfl (wN rfl) rfl rfl rfl (x_move (H.r 67 rfl)) ?_; clear H; intro T H
      refine At.v H rfl (wN rfl) rfl rfl rfl (x_extract (H.r 64 rfl) rfl) ?_; clear H; intro T H
      refine At.v H rfl (wN rfl) rfl rfl rfl (x_extract (H.r 64 rfl) rfl) ?_; clear H; intro T H
      refine At.v H rfl (wN rfl) rfl rfl rfl (x_extract (H.r 64 rfl) rfl) ?_; clear H; intro T H
      refine At.v H rfl (wN rfl) rfl rfl rfl (x_assign (H.r 68 rfl)) ?_; clear H; intro T H
      refine At.v H rfl (wN rfl) rfl rfl rfl (x_assign (H.r 69 rfl)) ?_; clear H; intro T H
      refine At.v H rfl (wN rfl) rfl rfl rfl (x_assign (H.r 70 rfl)) ?_; clear H; intro T H
      refine At.regionEnd ?_
      refine At.seq ?_
      refine At.seq ?_
      refine At.region' (l := [0, 1, 2, 3, 4, 5, 6, 7, 8, 9, 10, 11, 12]) rfl ?_
      refine At.v H rfl (wN rfl) rfl rfl rfl (x_move (H.r 9 rfl)) ?_; clear H; intro T H
      refine At.v (v := .bool false) H rfl (wN rfl) rfl rfl rfl (x_neq (H.r 71 rfl) evC) ?_; clear H; intro T H
      refine At.v H rfl (wN rfl) rfl rfl rfl (x_move (H.r 72 rfl)) ?_; clear H; intro T H
      refine At.v H rfl (wS H rfl rfl rfl) rfl rfl rfl (x_move (H.r 12 rfl)) ?_; clear H; intro T H
      refine At.v (v := .bool false) H rfl (wS H rfl rfl rfl) rfl rfl rfl (x_neq (H.r 74 rfl) evC) ?_; clear H; intro T H
      refine At.v H rfl (wN rfl) rfl rfl rfl (x_pickF (H.r 73 rfl) (H.r 75 rfl)) ?_; clear H; intro T H
      refine At.v H rfl (wN rfl) rfl rfl rfl (x_move (H.r 76 rfl)) ?_; clear H; intro T H
      refine At.v H rfl (wS H rfl rfl rfl) rfl rfl rfl (x_move (H.r 8 rfl)) ?_; clear H; intro T H
      refine At.v H rfl (wS H rfl rfl rfl) rfl rfl rfl (x_len (H.r 78 rfl) Try.runUnderlying30) ?_; clear H; intro T H
      refine At.v H rfl (wS H rfl rfl rfl) rfl rfl rfl (x_move (H.r 7 rfl)) ?_; clear H; intro T H
      refine At.v H rfl (wS H rfl rfl rfl) rfl rfl rfl (x_len (H.r 80 rfl) Try.runUnderlying30) ?_; clear H; intro T H
      refine At.v (v := .bool false) H rfl (wS H rfl rfl rfl) rfl rfl rfl ((x_neq (H.r 79 rfl) (H.r 81 rfl)).trans (by rw [decide_eq_false (fun h => h rfl)])) ?_; clear H; intro T H
      refine At.v H rfl (wN rfl) rfl rfl rfl (x_pickF (H.r 77 rfl) (H.r 82 rfl)) ?_; clear H; intro T H
      refine At.regionEnd ?_
      refine At.condF (H.r 83 rfl) ?_
      refine At.skip ?_
      refine At.seq ?_
      refine At.region' (l := [0]) rfl ?_
      refine At.v H rfl (wN rfl) rfl rfl rfl (x_assign evC) ?_; clear H; intro T H
      refine At.regionEnd ?_
      refine At.seq ?_
      refine At.seq ?_
      refine At.region' (l := [0, 1, 2]) rfl ?_
      refine At.v H rfl (wN rfl) rfl rfl rfl (x_move (H.r 7 rfl)) ?_; clear H; intro T H
      refine At.v H rfl (wN rfl) rfl rfl rfl (x_len (H.r 84 rfl) Try.runUnderlying30) ?_; clear H; intro T H
      refine At.v H rfl (wN rfl) rfl rfl rfl (x_move evC) ?_; clear H; intro T H
      refine At.regionEnd ?_
      refine At.block ?_
      replace H := ((H.fore PkS.nil).sub (R' := [(19, _), (86, _)] ++ [(2, _), (3, _), (6, _), (7, _), (8, _), (13, _), (14, _), (15, _), (16, _), (17, _), (18, _), (85, _)]) (by repeat' (first | exact trivial | refine And.intro rfl ?_)))
      refine At.loopF H (fun μ R1 G1 => ∃ k : Nat, μ = list.length - k ∧ (k ≤ list.length) ∧ R1 = [(19, .int .i64 (firstT l (dueL men list) k)), (86, .int .i64 (k : Int))] ∧ G1 = []) (list.length) ⟨0, by first | rfl | omega, by first | trivial | omega | exact ⟨by omega, by omega⟩, rfl, rfl⟩ ?_
      clear H; rintro _ _ _ T w ⟨k, rfl, hP0, rfl, rfl⟩ H hnext0
      simp only [List.cons_append, List.nil_append] at H
      refine At.seq ?_
      refine At.region' (l := [0]) rfl ?_
      refine At.c H rfl (wN rfl) rfl rfl rfl (x_lss (H.r 86 rfl) (H.r 85 rfl)) ?_ ?_
      · clear H; intro h87 T H
        have hk1 : k < list.length := by omega
        obtain ⟨o, ho⟩ := get_ex (l := l) (k := k) (by omega)
        obtain ⟨o2, ho2⟩ := get_ex (l := (dueL men list)) (k := k) (by rw [dueL_len]; exact hk1)
        obtain ⟨g47, rfl⟩ := H.rowAddr (A := A47) (by repeat (first | exact List.mem_cons_self | apply List.mem_cons_of_mem)) (by omega)
        refine At.regionEnd ?_
        refine At.seq ?_
        refine At.condT (H.r 87 rfl) ?_
        refine At.skip ?_
        refine At.seq ?_
        refine At.block ?_
        refine At.seq ?_
        refine At.region' (l := [0, 1]) rfl ?_
        refine At.v H rfl (wN rfl) rfl rfl rfl (x_move (H.r 86 rfl)) ?_; clear H; intro T H
        refine At.v H rfl (wN rfl) rfl rfl rfl (x_assign (H.r 88 rfl)) ?_; clear H; intro T H
        refine At.regionEnd ?_
        refine At.seq ?_
        refine At.drawnC (m := 13) (L := #[false, false, false, false, false, false, false, false, false, false, false, false, false]) H mixed rfl rfl ?_; clear H; intro w H
        refine GA.v (i := 0) (L' := #[true, false, false, false, false, false, false, false, false, false, false, false, false]) H rfl (wN rfl) rfl rfl rfl (by kernel_rfl) rfl (fun w H => x_move (H.r 7 rfl)) ?_; clear H; intro T H
        refine GA.v (i := 1) (L' := #[true, true, false, false, false, false, false, false, false, false, false, false, false]) H rfl (wN rfl) rfl rfl rfl (by kernel_rfl) rfl (fun w H => x_move (H.r 20 rfl)) ?_; clear H; intro T H
        refine GA.v (i := 2) (L' := #[true, true, true, false, false, false, false, false, false, false, false, false, false]) H rfl (wN rfl) rfl rfl rfl (by kernel_rfl) rfl (fun w H => x_ixSN (H.r 89 rfl) (H.r 90 rfl) Try.runUnderlying30 Try.sizeOf3 (by omega)) ?_; clear H; intro T H
        refine GA.v (i := 3) (L' := #[true, true, true, true, false, false, false, false, false, false, false, false, false]) H rfl (wN rfl) rfl rfl rfl (by kernel_rfl) rfl (fun w H => x_load (H.r 91 rfl) Try.isAgg3 (by rw [show 0 + k * 1 = k by omega]; exact H.rowCell (g := g44) (by repeat (first | exact List.mem_cons_self | apply List.mem_cons_of_mem)) k (flatO_at ho))) ?_; clear H; intro T H
        refine GA.v (i := 4) (L' := #[true, true, true, true, true, false, false, false, false, false, false, false, false]) H rfl (wN rfl) rfl rfl rfl (by kernel_rfl) rfl (fun w H => x_move (H.r 8 rfl)) ?_; clear H; intro T H
        refine GA.v (i := 5) (L' := #[true, true, true, true, true, true, false, false, false, false, false, false, false]) H rfl (wN rfl) rfl rfl rfl (by kernel_rfl) rfl (fun w H => x_move (H.r 20 rfl)) ?_; clear H; intro T H
        refine GA.v (i := 6) (L' := #[true, true, true, true, true, true, true, false, false, false, false, false, false]) H rfl (wN rfl) rfl rfl rfl (by kernel_rfl) rfl (fun w H => x_ixSN (H.r 93 rfl) (H.r 94 rfl) Try.runUnderlying30 Try.sizeOf3 (by omega)) ?_; clear H; intro T H
        refine GA.v (i := 7) (L' := #[true, true, true, true, true, true, true, true, false, false, false, false, false]) H rfl (wN rfl) rfl rfl rfl (by kernel_rfl) rfl (fun w H => x_load (H.r 95 rfl) Try.isAgg3 (by rw [show 0 + k * 1 = k by omega]; exact H.rowCell (g := g47) (by repeat (first | exact List.mem_cons_self | apply List.mem_cons_of_mem)) k (flatO_at ho2))) ?_; clear H; intro T H
        refine GA.c (i := 8) (L' := #[true, true, true, true, true, true, true, true, true, false, false, false, false]) H rfl (wN rfl) rfl rfl rfl (by kernel_rfl) rfl (fun w H => x_neq (H.r 92 rfl) (H.r 96 rfl)) ?_ ?_
        · clear H; intro h97 T H
          refine GA.v (i := 9) (L' := #[true, true, true, true, true, true, true, true, true, true, false, false, false]) H rfl (wN rfl) rfl rfl rfl (by kernel_rfl) rfl (fun w H => x_move (H.r 97 rfl)) ?_; clear H; intro T H
          refine GA.v (i := 10) (L' := #[true, true, true, true, true, true, true, true, true, true, true, false, false]) H rfl (wS H rfl rfl rfl) rfl rfl rfl (by kernel_rfl) rfl (fun w H => x_move (H.r 19 rfl)) ?_; clear H; intro T H
          refine GA.c (i := 11) (L' := #[true, true, true, true, true, true, true, true, true, true, true, true, false]) H rfl (wS H rfl rfl rfl) rfl rfl rfl (by kernel_rfl) rfl (fun w H => x_lss (H.r 99 rfl) evC) ?_ ?_
          · clear H; intro h100 T H
            have hft : firstT l (dueL men list) (k + 1) = (k : Int) := by rw [firstT_succ, if_pos ⟨h100, by rw [ho, ho2]; exact fun e => h97 (by rw [Option.some.inj e])⟩]
            refine GA.v (i := 12) (L' := #[true, true, true, true, true, true, true, true, true, true, true, true, true]) H rfl (wN rfl) rfl rfl rfl (by kernel_rfl) rfl (fun w H => x_pickT (H.r 98 rfl) (H.r 100 rfl)) ?_; clear H; intro T H
            refine GA.done (by kernel_rfl) ?_
            refine At.condT (H.r 101 rfl) ?_
            refine At.region' (l := [0, 1]) rfl ?_
            refine At.v H rfl (wN rfl) rfl rfl rfl (x_move (H.r 20 rfl)) ?_; clear H; intro T H
            refine At.v H rfl (wN rfl) rfl rfl rfl (x_assign (H.r 102 rfl)) ?_; clear H; intro T H
            refine At.regionEnd ?_
            refine At.inBlock ?_
            refine At.region' (l := [0, 1]) rfl ?_
            refine At.v H rfl (wN rfl) rfl rfl rfl (x_add (H.r 86 rfl) evC (w64 (by omega) (by omega))) ?_; clear H; intro T H
            refine At.v H rfl (wN rfl) rfl rfl rfl (x_move (H.r 103 rfl)) ?_; clear H; intro T H
            refine At.regionEnd ?_
            exact hnext0 _ _ _ _ _ (by omega) ⟨k + 1, rfl, by first | trivial | omega | exact ⟨by omega, by omega⟩, rfl, rfl⟩ (by simp only [List.cons_append, List.nil_append]; rw [hft]; exact (H.pk (by repeat (first | exact Pk.nil | exact Pk.all | refine Pk.cons (by repeat (first | exact Take.here | apply Take.there)) ?_ | apply Pk.skip))).sub (by repeat' (first | exact trivial | refine And.intro rfl ?_)))
          · clear H; intro h100 T H
            have hft : firstT l (dueL men list) (k + 1) = firstT l (dueL men list) k := by rw [firstT_succ, if_neg (fun h => h100 h.1)]
            refine GA.v (i := 12) (L' := #[true, true, true, true, true, true, true, true, true, true, true, true, true]) H rfl (wN rfl) rfl rfl rfl (by kernel_rfl) rfl (fun w H => x_pickT (H.r 98 rfl) (H.r 100 rfl)) ?_; clear H; intro T H
            refine GA.done (by kernel_rfl) ?_
            refine At.condF (H.r 101 rfl) ?_
            refine At.skip ?_
            refine At.inBlock ?_
            refine At.region' (l := [0, 1]) rfl ?_
            refine At.v H rfl (wN rfl) rfl rfl rfl (x_add (H.r 86 rfl) evC (w64 (by omega) (by omega))) ?_; clear H; intro T H
            refine At.v H rfl (wN rfl) rfl rfl rfl (x_move (H.r 103 rfl)) ?_; clear H; intro T H
            refine At.regionEnd ?_
            exact hnext0 _ _ _ _ _ (by omega) ⟨k + 1, rfl, by first | trivial | omega | exact ⟨by omega, by omega⟩, rfl, rfl⟩ (by simp only [List.cons_append, List.nil_append]; rw [hft]; exact (H.pk (by repeat (first | exact Pk.nil | exact Pk.all | refine Pk.cons (by repeat (first | exact Take.here | apply Take.there)) ?_ | apply Pk.skip))).sub (by repeat' (first | exact trivial | refine And.intro rfl ?_)))
        · clear H; intro h97 T H
          have hft : firstT l (dueL men list) (k + 1) = firstT l (dueL men list) k := by rw [firstT_succ, if_neg (fun h => h.2 (by rw [ho, ho2, orNone_inj.1 (Classical.not_not.1 h97)]))]
          refine GA.v (i := 9) (L' := #[true, true, true, true, true, true, true, true, true, true, false, false, false]) H rfl (wN rfl) rfl rfl rfl (by kernel_rfl) rfl (fun w H => x_move (H.r 97 rfl)) ?_; clear H; intro T H
          refine GA.u (i := 10) (L' := #[true, true, true, true, true, true, true, true, true, true, true, false, false]) H rfl (wU H rfl rfl rfl rfl) rfl rfl (by kernel_rfl) rfl ?_; clear H; intro T H
          refine GA.u (i := 11) (L' := #[true, true, true, true, true, true, true, true, true, true, true, true, false]) H rfl (wU H rfl rfl rfl rfl) rfl rfl (by kernel_rfl) rfl ?_; clear H; intro T H
          refine GA.v (i := 12) (L' := #[true, true, true, true, true, true, true, true, true, true, true, true, true]) H rfl (wN rfl) rfl rfl rfl (by kernel_rfl) rfl (fun w H => x_pickF (H.r 98 rfl) evC) ?_; clear H; intro T H
          refine GA.done (by kernel_rfl) ?_
          refine At.condF (H.r 101 rfl) ?_
          refine At.skip ?_
          refine At.inBlock ?_
          refine At.region' (l := [0, 1]) rfl ?_
          refine At.v H rfl (wN rfl) rfl rfl rfl (x_add (H.r 86 rfl) evC (w64 (by omega) (by omega))) ?_; clear H; intro T H
          refine At.v H rfl (wN rfl) rfl rfl rfl (x_move (H.r 103 rfl)) ?_; clear H; intro T H
          refine At.regionEnd ?_
          exact hnext0 _ _ _ _ _ (by omega) ⟨k + 1, rfl, by first | trivial | omega | exact ⟨by omega, by omega⟩, rfl, rfl⟩ (by simp only [List.cons_append, List.nil_append]; rw [hft]; exact (H.pk (by repeat (first | exact Pk.nil | exact Pk.all | refine Pk.cons (by repeat (first | exact Take.here | apply Take.there)) ?_ | apply Pk.skip))).sub (by repeat' (first | exact trivial | refine And.intro rfl ?_)))
      · clear H; intro h87 T H
        obtain rfl : list.length = k := by omega
        have hfe := firstT_end l (dueL men list) (by rw [dueL_len, hll])
        rw [hll] at hfe
        refine At.regionEnd ?_
        refine At.seq ?_
        refine At.condF (H.r 87 rfl) ?_
        refine At.exit rfl ?_
        refine At.seq ?_
        refine At.seq ?_
        have H0 := ((H.fore PkS.nil).sub (R' := [] ++ [(2, _), (3, _), (6, _), (7, _), (13, _), (14, _), (15, _)]) (by repeat' (first | exact trivial | refine And.intro rfl ?_)))
        refine At.joinF H0 (fun R1 G1 => ∃ _u : Unit, (True) ∧ R1 = [(138, .bool false)] ∧ G1 = []) ?_ ?_ <;> clear H0
        · intro J
          refine At.region' (l := [0, 1, 2, 3, 4, 5, 6, 7, 8, 9, 10, 11, 12, 13, 14, 15, 16, 17, 18, 19, 20, 21, 22, 23, 24, 25, 26, 27, 28, 29, 30, 31, 32, 33, 34]) rfl ?_
          refine At.v H rfl (wN rfl) rfl rfl rfl (x_move (H.r 19 rfl)) ?_; clear H; intro T H
          refine At.c H rfl (wN rfl) rfl rfl rfl (x_lss (H.r 104 rfl) evC) ?_ ?_
          · clear H; intro h105 T H
            rcases hfd : firstD (dueL men list) l with _ | i
            rotate_left
            · exfalso; rw [hfd] at hfe; simp only at hfe; omega
            rw [hfd] at H hfe
            simp only at hfe
            rw [hfe] at H
            refine At.v H rfl (wN rfl) rfl rfl rfl (x_move (H.r 105 rfl)) ?_; clear H; intro T H
            refine At.v H rfl (wS H rfl rfl rfl) rfl rfl rfl (x_move (H.r 18 rfl)) ?_; clear H; intro T H
            refine At.v (v := .bool false) H rfl (wS H rfl rfl rfl) rfl rfl rfl (x_neq (H.r 107 rfl) evC) ?_; clear H; intro T H
            refine At.v H rfl (wS H rfl rfl rfl) rfl rfl rfl (x_move (H.r 108 rfl)) ?_; clear H; intro T H
            refine At.v H rfl (wS H rfl rfl rfl) rfl rfl rfl (x_move (H.r 16 rfl)) ?_; clear H; intro T H
            refine At.v (v := .bool false) H rfl (wS H rfl rfl rfl) rfl rfl rfl (x_neq (H.r 110 rfl) evC) ?_; clear H; intro T H
            refine At.v H rfl (wS H rfl rfl rfl) rfl rfl rfl (x_pickF (H.r 109 rfl) (H.r 111 rfl)) ?_; clear H; intro T H
            refine At.v H rfl (wS H rfl rfl rfl) rfl rfl rfl (x_move (H.r 112 rfl)) ?_; clear H; intro T H
            refine At.v H rfl (wS H rfl rfl rfl) rfl rfl rfl (x_move (H.r 17 rfl)) ?_; clear H; intro T H
            refine At.v (v := .bool false) H rfl (wS H rfl rfl rfl) rfl rfl rfl (x_neq (H.r 114 rfl) evC) ?_; clear H; intro T H
            refine At.v H rfl (wS H rfl rfl rfl) rfl rfl rfl (x_pickF (H.r 113 rfl) (H.r 115 rfl)) ?_; clear H; intro T H
            refine At.v H rfl (wN rfl) rfl rfl rfl (x_pickT (H.r 106 rfl) (H.r 116 rfl)) ?_; clear H; intro T H
            refine At.v H rfl (wN rfl) rfl rfl rfl (x_move (H.r 117 rfl)) ?_; clear H; intro T H
            refine At.v H rfl (wS H rfl rfl rfl) rfl rfl rfl (x_move (H.r 19 rfl)) ?_; clear H; intro T H
            refine At.v (v := .bool false) H rfl (wS H rfl rfl rfl) rfl rfl rfl (x_geq (H.r 119 rfl) evC) ?_; clear H; intro T H
            refine At.v H rfl (wS H rfl rfl rfl) rfl rfl rfl (x_move (H.r 120 rfl)) ?_; clear H; intro T H
            refine At.u H rfl (wU H rfl rfl rfl rfl) rfl rfl ?_; clear H; intro T H
            refine At.u H rfl (wU H rfl rfl rfl rfl) rfl rfl ?_; clear H; intro T H
            refine At.u H rfl (wU H rfl rfl rfl rfl) rfl rfl ?_; clear H; intro T H
            refine At.u H rfl (wUu H rfl rfl rfl) rfl rfl ?_; clear H; intro T H
            refine At.u H rfl (wUu H rfl rfl rfl) rfl rfl ?_; clear H; intro T H
            refine At.u H rfl (wUu H rfl rfl rfl) rfl rfl ?_; clear H; intro T H
            refine At.u H rfl (wU H rfl rfl rfl rfl) rfl rfl ?_; clear H; intro T H
            refine At.u H rfl (wU H rfl rfl rfl rfl) rfl rfl ?_; clear H; intro T H
            refine At.u H rfl (wUu H rfl rfl rfl) rfl rfl ?_; clear H; intro T H
            refine At.u H rfl (wUu H rfl rfl rfl) rfl rfl ?_; clear H; intro T H
            refine At.u H rfl (wUu H rfl rfl rfl) rfl rfl ?_; clear H; intro T H
            refine At.u H rfl (wUu H rfl rfl rfl) rfl rfl ?_; clear H; intro T H
            refine At.u H rfl (wUu H rfl rfl rfl) rfl rfl ?_; clear H; intro T H
            refine At.u H rfl (wUu H rfl rfl rfl) rfl rfl ?_; clear H; intro T H
            refine At.u H rfl (wU H rfl rfl rfl rfl) rfl rfl ?_; clear H; intro T H
            refine At.v H rfl (wS H rfl rfl rfl) rfl rfl rfl (x_pickF (H.r 121 rfl) evC) ?_; clear H; intro T H
            refine At.v H rfl (wN rfl) rfl rfl rfl (x_pickF (H.r 118 rfl) (H.r 137 rfl)) ?_; clear H; intro T H
            refine At.regionEnd ?_
            exact J _ _ _ _ ⟨(), trivial, rfl, rfl⟩ (by simp only [List.cons_append, List.nil_append]; exact (H.pk (by repeat (first | exact Pk.nil | exact Pk.all | refine Pk.cons (by repeat (first | exact Take.here | apply Take.there)) ?_ | apply Pk.skip))).sub (by repeat' (first | exact trivial | refine And.intro rfl ?_)))
          · clear H; intro h105 T H
            rcases hfd : firstD (dueL men list) l with _ | i
            · exfalso; rw [hfd] at hfe; simp only at hfe; omega
            rw [hfd] at H hfe
            simp only at hfe
            rw [hfe] at H
            have hil := firstD_lt hfd
            rw [dueL_len] at hil
            obtain ⟨o2, ho2⟩ := get_ex (l := (dueL men list)) (k := i) (by rw [dueL_len]; exact hil)
            obtain ⟨g47, rfl⟩ := H.rowAddr (A := A47) (by repeat (first | exact List.mem_cons_self | apply List.mem_cons_of_mem)) (by omega)
            refine At.v H rfl (wN rfl) rfl rfl rfl (x_move (H.r 105 rfl)) ?_; clear H; intro T H
            refine At.u H rfl (wU H rfl rfl rfl rfl) rfl rfl ?_; clear H; intro T H
            refine At.u H rfl (wU H rfl rfl rfl rfl) rfl rfl ?_; clear H; intro T H
            refine At.u H rfl (wU H rfl rfl rfl rfl) rfl rfl ?_; clear H; intro T H
            refine At.u H rfl (wUu H rfl rfl rfl) rfl rfl ?_; clear H; intro T H
            refine At.u H rfl (wUu H rfl rfl rfl) rfl rfl ?_; clear H; intro T H
            refine At.u H rfl (wU H rfl rfl rfl rfl) rfl rfl ?_; clear H; intro T H
            refine At.u H rfl (wU H rfl rfl rfl rfl) rfl rfl ?_; clear H; intro T H
            refine At.u H rfl (wUu H rfl rfl rfl) rfl rfl ?_; clear H; intro T H
            refine At.u H rfl (wUu H rfl rfl rfl) rfl rfl ?_; clear H; intro T H
            refine At.u H rfl (wU H rfl rfl rfl rfl) rfl rfl ?_; clear H; intro T H
            refine At.v H rfl (wN rfl) rfl rfl rfl (x_pickF (H.r 106 rfl) evC) ?_; clear H; intro T H
            refine At.v H rfl (wN rfl) rfl rfl rfl (x_move (H.r 117 rfl)) ?_; clear H; intro T H
            refine At.v H rfl (wS H rfl rfl rfl) rfl rfl rfl (x_move (H.r 19 rfl)) ?_; clear H; intro T H
            refine At.v (v := .bool true) H rfl (wS H rfl rfl rfl) rfl rfl rfl ((x_geq (H.r 119 rfl) evC).trans (by rw [decide_eq_true (show (0 : Int) ≤ (i : Int) by omega)])) ?_; clear H; intro T H
            refine At.v H rfl (wS H rfl rfl rfl) rfl rfl rfl (x_move (H.r 120 rfl)) ?_; clear H; intro T H
            refine At.v H rfl (wS H rfl rfl rfl) rfl rfl rfl (x_move (H.r 18 rfl)) ?_; clear H; intro T H
            refine At.v (v := .bool false) H rfl (wS H rfl rfl rfl) rfl rfl rfl (x_neq (H.r 122 rfl) evC) ?_; clear H; intro T H
            refine At.v H rfl (wS H rfl rfl rfl) rfl rfl rfl (x_move (H.r 123 rfl)) ?_; clear H; intro T H
            refine At.v H rfl (wS H rfl rfl rfl) rfl rfl rfl (x_move (H.r 16 rfl)) ?_; clear H; intro T H
            refine At.v H rfl (wS H rfl rfl rfl) rfl rfl rfl (x_move (H.r 19 rfl)) ?_; clear H; intro T H
            refine At.v (v := .bool false) H rfl (wS H rfl rfl rfl) rfl rfl rfl ((x_neq (H.r 125 rfl) (H.r 126 rfl)).trans (by rw [decide_eq_false (fun h => h rfl)])) ?_; clear H; intro T H
            refine At.v H rfl (wS H rfl rfl rfl) rfl rfl rfl (x_pickF (H.r 124 rfl) (H.r 127 rfl)) ?_; clear H; intro T H
            refine At.v H rfl (wS H rfl rfl rfl) rfl rfl rfl (x_move (H.r 128 rfl)) ?_; clear H; intro T H
            refine At.v H rfl (wS H rfl rfl rfl) rfl rfl rfl (x_move (H.r 17 rfl)) ?_; clear H; intro T H
            refine At.v H rfl (wS H rfl rfl rfl) rfl rfl rfl (x_move (H.r 8 rfl)) ?_; clear H; intro T H
            refine At.v H rfl (wS H rfl rfl rfl) rfl rfl rfl (x_move (H.r 19 rfl)) ?_; clear H; intro T H
            refine At.v H rfl (wS H rfl rfl rfl) rfl rfl rfl (x_ixSN (n := i) (H.r 131 rfl) (H.r 132 rfl) Try.runUnderlying30 Try.sizeOf3 hil) ?_; clear H; intro T H
            refine At.v H rfl (wS H rfl rfl rfl) rfl rfl rfl (x_load (H.r 133 rfl) Try.isAgg3 (by rw [show 0 + i * 1 = i by omega]; exact H.rowCell (g := g47) (by repeat (first | exact List.mem_cons_self | apply List.mem_cons_of_mem)) i (flatO_at ho2))) ?_; clear H; intro T H
            refine At.v (v := .bool false) H rfl (wS H rfl rfl rfl) rfl rfl rfl ((x_neq (H.r 130 rfl) (H.r 134 rfl)).trans (by rw [decide_eq_false (fun h => h (by simp [wm, ho2]))])) ?_; clear H; intro T H
            refine At.v H rfl (wS H rfl rfl rfl) rfl rfl rfl (x_pickF (H.r 129 rfl) (H.r 135 rfl)) ?_; clear H; intro T H
            refine At.v H rfl (wS H rfl rfl rfl) rfl rfl rfl (x_pickT (H.r 121 rfl) (H.r 136 rfl)) ?_; clear H; intro T H
            refine At.v H rfl (wN rfl) rfl rfl rfl (x_pickF (H.r 118 rfl) (H.r 137 rfl)) ?_; clear H; intro T H
            refine At.regionEnd ?_
            exact J _ _ _ _ ⟨(), trivial, rfl, rfl⟩ (by simp only [List.cons_append, List.nil_append]; exact (H.pk (by repeat (first | exact Pk.nil | exact Pk.all | refine Pk.cons (by repeat (first | exact Take.here | apply Take.there)) ?_ | apply Pk.skip))).sub (by repeat' (first | exact trivial | refine And.intro rfl ?_)))
        · clear H
          rintro _ _ T w ⟨_u, _, rfl, rfl⟩ H
          simp only [List.cons_append, List.nil_append] at H
          refine At.condF (H.r 138 rfl) ?_
          refine At.skip ?_
          refine At.seq ?_
          refine At.region' (l := [0, 1, 2, 3, 4, 5]) rfl ?_
          refine At.v H rfl (wN rfl) rfl rfl rfl (x_fieldAddr (H.r 3 rfl) fa25_0) ?_; clear H; intro T H
          refine At.v H rfl (wN rfl) rfl rfl rfl (x_load (H.r 139 rfl) Try.isAgg22 (by first | exact H.cell (by repeat (first | exact List.mem_cons_self | apply List.mem_cons_of_mem)) _ rfl | exact H.cellR (by repeat (first | exact List.mem_cons_self | apply List.mem_cons_of_mem)) _ rfl)) ?_; clear H; intro T H
          refine At.v H rfl (wN rfl) rfl rfl rfl (x_len (H.r 140 rfl) Try.runUnderlying22) ?_; clear H; intro T H
          refine At.makeN H rfl (wN rfl) rfl rfl rfl (etI w0) (H.r 141 rfl) (H.r 141 rfl) (by omega) rfl rfl ?_; clear H; intro g142 T w H
          rw [show List.replicate men.length (Value.int .i64 0) = (worthsTo men.length list l 0).flatMap encI from (by rw [flat_encI]; simp [worthsTo])] at H
          refine At.v H rfl (wN rfl) rfl rfl rfl (x_assign (H.r 142 rfl)) ?_; clear H; intro T H
          refine At.v H rfl (wN rfl) rfl rfl rfl (x_assign evC) ?_; clear H; intro T H
          refine At.regionEnd ?_
          refine At.seq ?_
          refine At.seq ?_
          refine At.region' (l := [0, 1, 2]) rfl ?_
          refine At.v H rfl (wN rfl) rfl rfl rfl (x_move (H.r 7 rfl)) ?_; clear H; intro T H
          refine At.v H rfl (wN rfl) rfl rfl rfl (x_len (H.r 143 rfl) Try.runUnderlying30) ?_; clear H; intro T H
          refine At.v H rfl (wN rfl) rfl rfl rfl (x_move evC) ?_; clear H; intro T H
          refine At.regionEnd ?_
          refine At.block ?_
          replace H := ((H.fore (PkS.cons (x := .row (.slice (some ⟨g142, 0, none⟩) _ _) _ _ _ _) (by repeat (first | exact Take.here | apply Take.there)) PkS.nil)).sub (R' := [(22, _), (145, _)] ++ [(2, _), (3, _), (7, _), (13, _), (14, _), (15, _), (21, _), (143, _), (144, _)]) (by repeat' (first | exact trivial | refine And.intro rfl ?_)))
          refine At.loopF H (fun μ R1 G1 => ∃ k : Nat, μ = list.length - k ∧ (k ≤ list.length ∧ ∀ i m z, i < k → l[i]? = some (some m) → list[i]? = some z → canAt men z.for_ m = true) ∧ R1 = [(22, .int .i64 (sumTo list l k)), (145, .int .i64 (k : Int))] ∧ G1 = [.row (.slice (some ⟨g142, 0, none⟩) men.length men.length) 3 1 men.length ((worthsTo men.length list l k).flatMap encI)]) (list.length) ⟨0, by first | rfl | omega, ⟨by omega, fun i m z h => by omega⟩, rfl, rfl⟩ ?_
          clear H; rintro _ _ _ T w ⟨k, rfl, ⟨hk, hF⟩, rfl, rfl⟩ H hnext1
          simp only [List.cons_append, List.nil_append] at H
          refine At.seq ?_
          refine At.region' (l := [0]) rfl ?_
          refine At.c H rfl (wN rfl) rfl rfl rfl (x_lss (H.r 145 rfl) (H.r 144 rfl)) ?_ ?_
          · clear H; intro h146 T H
            have hk1 : k < list.length := by omega
            obtain ⟨o, ho⟩ := get_ex (l := l) (k := k) (by omega)
            obtain ⟨z, hz⟩ := get_ex hk1
            obtain rfl := hL.addr (fun e => by simp [e] at hk1)
            have hss := sumTo_succ list l k
            have hws := worthsTo_succ men.length list l k
            rw [ho, hz] at hss hws
            have hsb := sumTo_b hv l k
            have hzb := hv.prize z (List.mem_of_getElem? hz)
            have hzc := hL.cell k z hz 1 _ rfl
            refine At.regionEnd ?_
            refine At.seq ?_
            refine At.condT (H.r 146 rfl) ?_
            refine At.skip ?_
            refine At.seq ?_
            refine At.block ?_
            refine At.seq ?_
            refine At.region' (l := [0, 1, 2, 3, 4]) rfl ?_
            refine At.v H rfl (wN rfl) rfl rfl rfl (x_move (H.r 145 rfl)) ?_; clear H; intro T H
            refine At.v H rfl (wN rfl) rfl rfl rfl (x_ixSN (H.r 143 rfl) (H.r 145 rfl) Try.runUnderlying30 Try.sizeOf3 (by omega)) ?_; clear H; intro T H
            refine At.v H rfl (wN rfl) rfl rfl rfl (x_load (H.r 148 rfl) Try.isAgg3 (by rw [show 0 + k * 1 = k by omega]; exact H.rowCell (g := g44) (by repeat (first | exact List.mem_cons_self | apply List.mem_cons_of_mem)) k (flatO_at ho))) ?_; clear H; intro T H
            refine At.v H rfl (wN rfl) rfl rfl rfl (x_assign (H.r 147 rfl)) ?_; clear H; intro T H
            refine At.v H rfl (wN rfl) rfl rfl rfl (x_assign (H.r 149 rfl)) ?_; clear H; intro T H
            refine At.regionEnd ?_
            refine At.seq ?_
            refine At.seq ?_
            refine At.region' (l := [0, 1]) rfl ?_
            refine At.v H rfl (wN rfl) rfl rfl rfl (x_move (H.r 24 rfl)) ?_; clear H; intro T H
            refine At.c H rfl (wN rfl) rfl rfl rfl (x_lss (H.r 150 rfl) evC) ?_ ?_
            · clear H; intro h151 T H
              have ho0 : o = none := by
                cases o with
                | none => rfl
                | some m => exact absurd h151 (by simp only [orNone]; omega)
              subst ho0
              have hss2 : sumTo list l (k + 1) = sumTo list l k := hss
              have hws2 : worthsTo men.length list l (k + 1) = worthsTo men.length list l k := hws
              have hF2 : ∀ i m z, i < k + 1 → l[i]? = some (some m) → list[i]? = some z → canAt men z.for_ m = true := fun i m z hi h1 h2 => by
                by_cases e : i = k
                · rw [e, ho] at h1; cases h1
                · exact hF i m z (by omega) h1 h2
              refine At.regionEnd ?_
              refine At.condT (H.r 151 rfl) ?_
              refine At.exit rfl ?_
              refine At.region' (l := [0, 1]) rfl ?_
              refine At.v H rfl (wN rfl) rfl rfl rfl (x_add (H.r 145 rfl) evC (w64 (by omega) (by omega))) ?_; clear H; intro T H
              refine At.v H rfl (wN rfl) rfl rfl rfl (x_move (H.r 195 rfl)) ?_; clear H; intro T H
              refine At.regionEnd ?_
              exact hnext1 _ _ _ _ _ (by omega) ⟨k + 1, rfl, ⟨by omega, hF2⟩, rfl, rfl⟩ (by simp only [List.cons_append, List.nil_append]; rw [hss2, hws2]; exact (H.pk (by repeat (first | exact Pk.nil | exact Pk.all | refine Pk.cons (by repeat (first | exact Take.here | apply Take.there)) ?_ | apply Pk.skip))).sub (by repeat' (first | exact trivial | refine And.intro rfl ?_)))
            · clear H; intro h151 T H
              obtain ⟨m, rfl⟩ : ∃ m, o = some m := by
                cases o with
                | none => exact absurd (by decide) h151
                | some m => exact ⟨m, rfl⟩
              have hml := hI.lt m (List.mem_of_getElem? ho)
              obtain ⟨mi, hmi⟩ := get_ex hml
              refine At.regionEnd ?_
              refine At.condF (H.r 151 rfl) ?_
              refine At.skip ?_
              refine At.seq ?_
              refine At.seq ?_
              refine At.region' (l := [0, 1, 2, 3, 4, 5, 6, 7, 8]) rfl ?_
              refine At.v H rfl (wN rfl) rfl rfl rfl (x_loadA (H.r 3 rfl) Try.isAgg25 Try.sizeOf25 (H.cellsAt (n := 2) (by repeat (first | exact List.mem_cons_self | apply List.mem_cons_of_mem)) rfl) rfl) ?_; clear H; intro T H
              refine At.v H rfl (wN rfl) rfl rfl rfl (x_move (H.r 24 rfl)) ?_; clear H; intro T H
              refine At.v H rfl (wN rfl) rfl rfl rfl (x_move (H.r 23 rfl)) ?_; clear H; intro T H
              refine At.f0 H rfl (wN rfl) rfl rfl rfl (args3 (H.r 153 rfl) (H.r 154 rfl) (H.r 155 rfl)) Try.call16 (Can (hM.fr0 H.fr) (hL.fr0 H.fr) hv (man := m) (prize := k) hmi hz) ?_; clear H; rintro v156 T w rfl _ H
              rcases Bool.eq_false_or_eq_true (canW z.for_ mi) with hcan | hcan
              · rw [hcan] at H
                have hF2 : ∀ i m z, i < k + 1 → l[i]? = some (some m) → list[i]? = some z → canAt men z.for_ m = true := fun i m2 z2 hi h1 h2 => by
                  by_cases e : i = k
                  · rw [e, ho] at h1; rw [e, hz] at h2; obtain rfl : m = m2 := by simpa using h1
                    obtain rfl : z = z2 := by simpa using h2
                    rw [canAt_eq hmi]; exact hcan
                  · exact hF i m2 z2 (by omega) h1 h2
                have hss2 : sumTo list l (k + 1) = sumTo list l k + z.worth := hss
                have hws2 : worthsTo men.length list l (k + 1) = (worthsTo men.length list l k).set m z.worth := hws
                refine At.v H rfl (wN rfl) rfl rfl rfl (x_move (H.r 156 rfl)) ?_; clear H; intro T H
                refine At.v H rfl (wN rfl) rfl rfl rfl (x_extract (H.r 152 rfl) rfl) ?_; clear H; intro T H
                refine At.v H rfl (wN rfl) rfl rfl rfl (x_extract (H.r 152 rfl) rfl) ?_; clear H; intro T H
                refine At.v H rfl (wN rfl) rfl rfl rfl (x_assign (H.r 157 rfl)) ?_; clear H; intro T H
                refine At.v H rfl (wN rfl) rfl rfl rfl (x_assign (H.r 158 rfl)) ?_; clear H; intro T H
                refine At.regionEnd ?_
                refine At.seq ?_
                refine At.region' (l := [0, 1]) rfl ?_
                refine At.v H rfl (wN rfl) rfl rfl rfl (x_move (H.r 25 rfl)) ?_; clear H; intro T H
                refine At.v H rfl (wN rfl) rfl rfl rfl (x_notT (H.r 159 rfl)) ?_; clear H; intro T H
                refine At.regionEnd ?_
                refine At.condF (H.r 160 rfl) ?_
                refine At.skip ?_
                have H0 := ((H.fore (PkS.cons (x := .row (.slice (some ⟨g142, 0, none⟩) _ _) _ _ _ _) (by repeat (first | exact Take.here | apply Take.there)) PkS.nil)).sub (R' := [] ++ [(2, _), (3, _), (7, _), (13, _), (14, _), (15, _), (21, _), (143, _), (144, _), (145, _)]) (by repeat' (first | exact trivial | refine And.intro rfl ?_)))
                refine At.joinF H0 (fun R1 G1 => ∃ _u : Unit, (True) ∧ R1 = [(22, .int .i64 (sumTo list l k + z.worth))] ∧ G1 = [.row (.slice (some ⟨g142, 0, none⟩) men.length men.length) 3 1 men.length (((worthsTo men.length list l k).set m z.worth).flatMap encI)]) ?_ ?_ <;> clear H0
                · intro J
                  refine At.drawnC (m := 19) (L := #[false, false, false, false, false, false, false, false, false, false, false, false, false, false, false, false, false, false, false]) H mixed rfl rfl ?_; clear H; intro w H
                  refine GA.v (i := 0) (L' := #[true, false, false, false, false, false, false, false, false, false, false, false, false, false, false, false, false, false, false]) H rfl (wN rfl) rfl rfl rfl (by kernel_rfl) rfl (fun w H => x_move (H.r 21 rfl)) ?_; clear H; intro T H
                  refine GA.v (i := 1) (L' := #[true, true, false, false, false, false, false, false, false, false, false, false, false, false, false, false, false, false, false]) H rfl (wN rfl) rfl rfl rfl (by kernel_rfl) rfl (fun w H => x_move (H.r 24 rfl)) ?_; clear H; intro T H
                  refine GA.v (i := 2) (L' := #[true, true, true, false, false, false, false, false, false, false, false, false, false, false, false, false, false, false, false]) H rfl (wN rfl) rfl rfl rfl (by kernel_rfl) rfl (fun w H => x_fieldAddr (H.r 3 rfl) fa25_1) ?_; clear H; intro T H
                  refine GA.v (i := 3) (L' := #[true, true, true, true, false, false, false, false, false, false, false, false, false, false, false, false, false, false, false]) H rfl (wN rfl) rfl rfl rfl (by kernel_rfl) rfl (fun w H => x_load (H.r 180 rfl) Try.isAgg23 (by first | exact H.cell (by repeat (first | exact List.mem_cons_self | apply List.mem_cons_of_mem)) _ rfl | exact H.cellR (by repeat (first | exact List.mem_cons_self | apply List.mem_cons_of_mem)) _ rfl)) ?_; clear H; intro T H
                  refine GA.v (i := 4) (L' := #[true, true, true, true, true, false, false, false, false, false, false, false, false, false, false, false, false, false, false]) H rfl (wN rfl) rfl rfl rfl (by kernel_rfl) rfl (fun w H => x_move (H.r 23 rfl)) ?_; clear H; intro T H
                  refine GA.v (i := 5) (L' := #[true, true, true, true, true, true, false, false, false, false, false, false, false, false, false, false, false, false, false]) H rfl (wN rfl) rfl rfl rfl (by kernel_rfl) rfl (fun w H => x_ixSN (H.r 181 rfl) (H.r 182 rfl) Try.runUnderlying23 Try.sizeOf42 (by omega)) ?_; clear H; intro T H
                  refine GA.v (i := 6) (L' := #[true, true, true, true, true, true, true, false, false, false, false, false, false, false, false, false, false, false, false]) H rfl (wN rfl) rfl rfl rfl (by kernel_rfl) rfl (fun w H => x_fieldAddr (H.r 183 rfl) fa42_1) ?_; clear H; intro T H
                  refine GA.v (i := 7) (L' := #[true, true, true, true, true, true, true, true, false, false, false, false, false, false, false, false, false, false, false]) H rfl (wN rfl) rfl rfl rfl (by kernel_rfl) rfl (fun w H => x_load (H.r 184 rfl) Try.isAgg3 (H.ext hzc (by simp))) ?_; clear H; intro T H
                  refine GA.p (i := 8) (L' := #[true, true, true, true, true, true, true, true, true, false, false, false, false, false, false, false, false, false, false]) H rfl (wN rfl) rfl rfl rfl (by kernel_rfl) rfl (fun w => x_move (H.r 22 rfl)) ?_; clear H; intro T H
                  refine GA.v (i := 9) (L' := #[true, true, true, true, true, true, true, true, true, true, false, false, false, false, false, false, false, false, false]) H rfl (wN rfl) rfl rfl rfl (by kernel_rfl) rfl (fun w H => x_fieldAddr (H.r 3 rfl) fa25_1) ?_; clear H; intro T H
                  refine GA.v (i := 10) (L' := #[true, true, true, true, true, true, true, true, true, true, true, false, false, false, false, false, false, false, false]) H rfl (wN rfl) rfl rfl rfl (by kernel_rfl) rfl (fun w H => x_load (H.r 187 rfl) Try.isAgg23 (by first | exact H.cell (by repeat (first | exact List.mem_cons_self | apply List.mem_cons_of_mem)) _ rfl | exact H.cellR (by repeat (first | exact List.mem_cons_self | apply List.mem_cons_of_mem)) _ rfl)) ?_; clear H; intro T H
                  refine GA.v (i := 11) (L' := #[true, true, true, true, true, true, true, true, true, true, true, true, false, false, false, false, false, false, false]) H rfl (wN rfl) rfl rfl rfl (by kernel_rfl) rfl (fun w H => x_move (H.r 23 rfl)) ?_; clear H; intro T H
                  refine GA.v (i := 12) (L' := #[true, true, true, true, true, true, true, true, true, true, true, true, true, false, false, false, false, false, false]) H rfl (wN rfl) rfl rfl rfl (by kernel_rfl) rfl (fun w H => x_ixSN (H.r 188 rfl) (H.r 189 rfl) Try.runUnderlying23 Try.sizeOf42 (by omega)) ?_; clear H; intro T H
                  refine GA.v (i := 13) (L' := #[true, true, true, true, true, true, true, true, true, true, true, true, true, true, false, false, false, false, false]) H rfl (wN rfl) rfl rfl rfl (by kernel_rfl) rfl (fun w H => x_fieldAddr (H.r 190 rfl) fa42_1) ?_; clear H; intro T H
                  refine GA.v (i := 14) (L' := #[true, true, true, true, true, true, true, true, true, true, true, true, true, true, true, false, false, false, false]) H rfl (wN rfl) rfl rfl rfl (by kernel_rfl) rfl (fun w H => x_load (H.r 191 rfl) Try.isAgg3 (H.ext hzc (by simp))) ?_; clear H; intro T H
                  refine GA.p (i := 15) (L' := #[true, true, true, true, true, true, true, true, true, true, true, true, true, true, true, true, false, false, false]) H rfl (wN rfl) rfl rfl rfl (by kernel_rfl) rfl (fun w => x_add (H.r 186 rfl) (H.r 192 rfl) (w64 (by omega) (by omega))) ?_; clear H; intro T H
                  refine GA.v (i := 16) (L' := #[true, true, true, true, true, true, true, true, true, true, true, true, true, true, true, true, true, false, false]) H rfl (wN rfl) rfl rfl rfl (by kernel_rfl) rfl (fun w H => x_ixSN (n := m) (H.r 178 rfl) (H.r 179 rfl) Try.runUnderlying30 Try.sizeOf3 hml) ?_; clear H; intro T H
                  refine GA.one (i := 17) (L' := #[true, true, true, true, true, true, true, true, true, true, true, true, true, true, true, true, true, true, false]) (by kernel_rfl) rfl ?_
                  refine StG.storeR (l' := ((worthsTo men.length list l k).set m z.worth).flatMap encI) H rfl (wN rfl) rfl rfl (H.r 194 rfl) (H.r 185 rfl) Try.sizeOf3 rfl rfl (by repeat (first | exact Take.here | apply Take.there)) (by rw [flat_lenI, worthsTo_len]; omega) (by rw [show 0 + m * 1 = m by omega, flat_set]) ?_; clear H; intro T w _ H
                  refine GA.v (i := 18) (L' := #[true, true, true, true, true, true, true, true, true, true, true, true, true, true, true, true, true, true, true]) H rfl (wN rfl) rfl rfl rfl (by kernel_rfl) rfl (fun w H => x_assign (H.r 193 rfl)) ?_; clear H; intro T H
                  refine GA.done (by kernel_rfl) ?_
                  exact J _ _ _ _ ⟨(), trivial, rfl, rfl⟩ (by simp only [List.cons_append, List.nil_append]; exact (H.pk (by repeat (first | exact Pk.nil | exact Pk.all | refine Pk.cons (by repeat (first | exact Take.here | apply Take.there)) ?_ | apply Pk.skip))).sub (by repeat' (first | exact trivial | refine And.intro rfl ?_)))
                · clear H
                  rintro _ _ T w ⟨_u, _, rfl, rfl⟩ H
                  simp only [List.cons_append, List.nil_append] at H
                  refine At.inBlock ?_
                  refine At.region' (l := [0, 1]) rfl ?_
                  refine At.v H rfl (wN rfl) rfl rfl rfl (x_add (H.r 145 rfl) evC (w64 (by omega) (by omega))) ?_; clear H; intro T H
                  refine At.v H rfl (wN rfl) rfl rfl rfl (x_move (H.r 195 rfl)) ?_; clear H; intro T H
                  refine At.regionEnd ?_
                  exact hnext1 _ _ _ _ _ (by omega) ⟨k + 1, rfl, ⟨by omega, hF2⟩, rfl, rfl⟩ (by simp only [List.cons_append, List.nil_append]; rw [hss2, hws2]; exact (H.pk (by repeat (first | exact Pk.nil | exact Pk.all | refine Pk.cons (by repeat (first | exact Take.here | apply Take.there)) ?_ | apply Pk.skip))).sub (by repeat' (first | exact trivial | refine And.intro rfl ?_)))
              · rw [hcan] at H
                have hnf : ¬ fairL men list l := fun hf => by
                  have := hf k m z ho hz
                  rw [canAt_eq hmi, hcan] at this
                  cases this
                exact absurd (hI.fair rfl) hnf
          · clear H; intro h146 T H
            obtain rfl : list.length = k := by omega
            have hfl : fairL men list l := fun i m z h1 h2 => hF i m z (List.getElem?_eq_some_iff.1 h2).1 h1 h2
            rcases hw60 with ⟨_, hx60, hs60, he60⟩ | ⟨hno, _⟩
            rotate_left
            · exact absurd hfl hno
            subst he60
            refine At.regionEnd ?_
            refine At.seq ?_
            refine At.condF (H.r 146 rfl) ?_
            refine At.exit rfl ?_
            refine At.seq ?_
            refine At.seq ?_
            refine At.region' (l := [0, 1, 2, 3, 4, 5, 6, 7, 8, 9, 10, 11, 12]) rfl ?_
            refine At.v H rfl (wN rfl) rfl rfl rfl (x_move (H.r 15 rfl)) ?_; clear H; intro T H
            refine At.v (v := .bool false) H rfl (wN rfl) rfl rfl rfl (x_neq (H.r 196 rfl) evC) ?_; clear H; intro T H
            refine At.v H rfl (wN rfl) rfl rfl rfl (x_move (H.r 197 rfl)) ?_; clear H; intro T H
            refine At.v H rfl (wS H rfl rfl rfl) rfl rfl rfl (x_move (H.r 13 rfl)) ?_; clear H; intro T H
            refine At.v H rfl (wS H rfl rfl rfl) rfl rfl rfl (x_move (H.r 21 rfl)) ?_; clear H; intro T H
            refine At.f0 H rfl (wS H rfl rfl rfl) rfl rfl rfl (args2 (H.r 199 rfl) (H.r 200 rfl)) Try.call17 (Ints (xs := xs60) (ys := worthsTo men.length list l list.length) (H.rowSl (enc := encI) (by repeat (first | exact List.mem_cons_self | apply List.mem_cons_of_mem)) (fun _ => rfl) hn60 rfl) (H.rowSl (enc := encI) (by repeat (first | exact List.mem_cons_self | apply List.mem_cons_of_mem)) (fun _ => rfl) (worthsTo_len _ _ _ _).symm rfl) (by rw [hx60, worthsL, worthsTo_len]; omega)) ?_; clear H; rintro v201 T w rfl _ H
            rw [decide_eq_true (show xs60 = worthsTo men.length list l list.length by rw [hx60, worthsL, hll])] at H
            refine At.v H rfl (wS H rfl rfl rfl) rfl rfl rfl (x_notT (H.r 201 rfl)) ?_; clear H; intro T H
            refine At.v H rfl (wN rfl) rfl rfl rfl (x_pickF (H.r 198 rfl) (H.r 202 rfl)) ?_; clear H; intro T H
            refine At.v H rfl (wN rfl) rfl rfl rfl (x_move (H.r 203 rfl)) ?_; clear H; intro T H
            refine At.v H rfl (wS H rfl rfl rfl) rfl rfl rfl (x_move (H.r 14 rfl)) ?_; clear H; intro T H
            refine At.v H rfl (wS H rfl rfl rfl) rfl rfl rfl (x_move (H.r 22 rfl)) ?_; clear H; intro T H
            refine At.v (v := .bool false) H rfl (wS H rfl rfl rfl) rfl rfl rfl ((x_neq (H.r 205 rfl) (H.r 206 rfl)).trans (by rw [decide_eq_false (fun h => h (by rw [hs60, sumTo_eq hgl, worthsL, hll]))])) ?_; clear H; intro T H
            refine At.v H rfl (wN rfl) rfl rfl rfl (x_pickF (H.r 204 rfl) (H.r 207 rfl)) ?_; clear H; intro T H
            refine At.regionEnd ?_
            refine At.condF (H.r 208 rfl) ?_
            refine At.skip ?_
            refine At.seq ?_
            refine At.seq ?_
            have H0 := ((H.fore PkS.nil).sub (R' := [] ++ [(3, _), (7, _)]) (by repeat' (first | exact trivial | refine And.intro rfl ?_)))
            refine At.joinF H0 (fun R1 G1 => ∃ (g223 : Nat) (A1 : Option Addr) (c1 : Nat) (A2 : Option Addr) (c2 : Nat), (True) ∧ R1 = [(223, .slice (some ⟨g223, 0, none⟩) 2 2), (224, .int .i64 2), (225, .int .i64 0)] ∧ G1 = [.blk g223 (Eo (.cells [.slice A1 (1 + list.length) c1, .slice A2 (list.length - 1) c2].toArray 30 (0, 0)))]) ?_ ?_ <;> clear H0
            · intro J
              refine At.drawnC (m := 17) (L := #[false, false, false, false, false, false, false, false, false, false, false, false, false, false, false, false, false]) H mixed rfl rfl ?_; clear H; intro w H
              refine GA.v (i := 1) (L' := #[false, true, false, false, false, false, false, false, false, false, false, false, false, false, false, false, false]) H rfl (wN rfl) rfl rfl rfl (by kernel_rfl) rfl (fun w H => x_move (H.r 7 rfl)) ?_; clear H; intro T H
              refine GA.p (i := 3) (L' := #[false, true, false, true, false, false, false, false, false, false, false, false, false, false, false, false, false]) H rfl (wN rfl) rfl rfl rfl (by kernel_rfl) rfl (fun w => x_move (H.r 7 rfl)) ?_; clear H; intro T H
              refine GA.p (i := 4) (L' := #[false, true, false, true, true, false, false, false, false, false, false, false, false, false, false, false, false]) H rfl (wN rfl) rfl rfl rfl (by kernel_rfl) rfl (fun w => x_len (H.r 212 rfl) Try.runUnderlying30) ?_; clear H; intro T H
              refine GA.p (i := 5) (L' := #[false, true, false, true, true, true, false, false, false, false, false, false, false, false, false, false, false]) H rfl (wN rfl) rfl rfl rfl (by kernel_rfl) rfl (fun w => x_addN (a := list.length) (b := 1) (H.r 213 rfl) evC (by omega)) ?_; clear H; intro T H
              refine GA.p (i := 7) (L' := #[false, true, false, true, true, true, false, true, false, false, false, false, false, false, false, false, false]) H rfl (wN rfl) rfl rfl rfl (by kernel_rfl) rfl (fun w => x_move (H.r 7 rfl)) ?_; clear H; intro T H
              refine GA.p (i := 9) (L' := #[false, true, false, true, true, true, false, true, false, true, false, false, false, false, false, false, false]) H rfl (wN rfl) rfl rfl rfl (by kernel_rfl) rfl (fun w => x_move (H.r 7 rfl)) ?_; clear H; intro T H
              refine GA.p (i := 10) (L' := #[false, true, false, true, true, true, false, true, false, true, true, false, false, false, false, false, false]) H rfl (wN rfl) rfl rfl rfl (by kernel_rfl) rfl (fun w => x_len (H.r 218 rfl) Try.runUnderlying30) ?_; clear H; intro T H
              refine GA.p (i := 11) (L' := #[false, true, false, true, true, true, false, true, false, true, true, true, false, false, false, false, false]) H rfl (wN rfl) rfl rfl rfl (by kernel_rfl) rfl (fun w => x_sub (H.r 219 rfl) evC (w64 (by omega) (by omega))) ?_; clear H; intro T H
              refine GA.p (i := 12) (L' := #[false, true, false, true, true, true, false, true, false, true, true, true, true, false, false, false, false]) H rfl (wN rfl) rfl rfl rfl (by kernel_rfl) rfl (fun w => x_max (z := ((list.length - 1 : Nat) : Int)) evC (H.r 220 rfl) (by split <;> omega)) ?_; clear H; intro T H
              refine GA.p (i := 16) (L' := #[false, true, false, true, true, true, false, true, false, true, true, true, true, false, false, false, true]) H rfl (wN rfl) rfl rfl rfl (by kernel_rfl) rfl (fun w => x_move evC) ?_; clear H; intro T H
              refine GA.two' (i := 0) (j := 6) (L' := #[true, true, false, true, true, true, false, true, false, true, true, true, true, false, false, false, true]) (L2 := #[false, true, false, true, true, true, true, true, false, true, true, true, true, false, false, false, true]) (by kernel_rfl) rfl rfl ?_ ?_
              · skip
                refine StG.bs (m := 1) (C := ?l209_6) (e := ?e209_6) H rfl (wN rfl) rfl rfl rfl (x_bs1 evC ?r209_6) ?_
                case r209_6 => (simp [go_sem] <;> rfl)
                clear H; intro b209 T w H
                replace H := H.toRow (g := b209) (n := 1) (sz := 1) (e := 3) (by repeat (first | exact Take.here | apply Take.there)) rfl (by decide)
                refine GA.two' (i := 2) (j := 6) (L' := #[true, true, true, true, true, true, false, true, false, true, true, true, true, false, false, false, true]) (L2 := #[true, true, false, true, true, true, true, true, false, true, true, true, true, false, false, false, true]) (by kernel_rfl) rfl rfl ?_ ?_
                · skip
                  refine StG.append H rfl (wN rfl) rfl rfl rfl (etI w0) (H.r 209 rfl) (H.r 210 rfl) (by repeat (first | exact Take.here | apply Take.there)) (H.rowCells (g := g44) (by repeat (first | exact List.mem_cons_self | apply List.mem_cons_of_mem))) (by rw [flat_lenO]; omega) (flat_one oneO l) (by omega) ?_; clear H; intro A211 c211 T w hc211 hA211 H
                  refine GA.one (i := 6) (L' := #[true, true, true, true, true, true, true, true, false, true, true, true, true, false, false, false, true]) (by kernel_rfl) rfl ?_
                  refine StG.make0 H rfl (wN rfl) rfl rfl rfl (etI w0) evC (H.r 214 rfl) (by omega) ?_; clear H; intro g215 T w H
                  refine GA.one (i := 8) (L' := #[true, true, true, true, true, true, true, true, true, true, true, true, true, false, false, false, true]) (by kernel_rfl) rfl ?_
                  refine StG.append H rfl (wN rfl) rfl rfl rfl (etI w0) (H.r 215 rfl) (H.r 216 rfl) (by repeat (first | exact Take.here | apply Take.there)) (H.rowCells (g := g44) (by repeat (first | exact List.mem_cons_self | apply List.mem_cons_of_mem))) (by rw [flat_lenO]; omega) (flat_one oneO l) (by omega) ?_; clear H; intro A217 c217 T w hc217 hA217 H
                  refine GA.v (i := 13) (L' := #[true, true, true, true, true, true, true, true, true, true, true, true, true, true, false, false, true]) H rfl (wN rfl) rfl rfl rfl (by kernel_rfl) rfl (fun w H => x_slS (l := 0) (h := list.length - 1) (H.r 217 rfl) rfl (H.r 221 rfl) Try.runUnderlying30 Try.sizeOf3 (by omega) (by omega)) ?_; clear H; intro T H
                  refine GA.one (i := 14) (L' := #[true, true, true, true, true, true, true, true, true, true, true, true, true, true, true, false, true]) (by kernel_rfl) rfl ?_
                  refine StG.bs (m := 2) (C := ?l223_7) (e := ?e223_7) H rfl (wN rfl) rfl rfl rfl (x_bs2 (H.r 211 rfl) (H.r 222 rfl) ?r223_7) ?_
                  case r223_7 => (simp [go_sem] <;> rfl)
                  clear H; intro b223 T w H
                  refine GA.v (i := 15) (L' := #[true, true, true, true, true, true, true, true, true, true, true, true, true, true, true, true, true]) H rfl (wN rfl) rfl rfl rfl (by kernel_rfl) rfl (fun w H => x_len (H.r 223 rfl) Try.runUnderlying44) ?_; clear H; intro T H
                  refine GA.done (by kernel_rfl) ?_
                  exact J _ _ _ _ ⟨_, _, _, _, _, trivial, rfl, rfl⟩ (by simp only [List.cons_append, List.nil_append]; exact (H.pk (by repeat (first | exact Pk.nil | exact Pk.all | refine Pk.cons (by repeat (first | exact Take.here | apply Take.there)) ?_ | apply Pk.skip))).sub (by repeat' (first | exact trivial | refine And.intro rfl ?_)))
                · skip
                  refine StG.make0 H rfl (wN rfl) rfl rfl rfl (etI w0) evC (H.r 214 rfl) (by omega) ?_; clear H; intro g215 T w H
                  refine GA.one (i := 2) (L' := #[true, true, true, true, true, true, true, true, false, true, true, true, true, false, false, false, true]) (by kernel_rfl) rfl ?_
                  refine StG.append H rfl (wN rfl) rfl rfl rfl (etI w0) (H.r 209 rfl) (H.r 210 rfl) (by repeat (first | exact Take.here | apply Take.there)) (H.rowCells (g := g44) (by repeat (first | exact List.mem_cons_self | apply List.mem_cons_of_mem))) (by rw [flat_lenO]; omega) (flat_one oneO l) (by omega) ?_; clear H; intro A211 c211 T w hc211 hA211 H
                  refine GA.one (i := 8) (L' := #[true, true, true, true, true, true, true, true, true, true, true, true, true, false, false, false, true]) (by kernel_rfl) rfl ?_
                  refine StG.append H rfl (wN rfl) rfl rfl rfl (etI w0) (H.r 215 rfl) (H.r 216 rfl) (by repeat (first | exact Take.here | apply Take.there)) (H.rowCells (g := g44) (by repeat (first | exact List.mem_cons_self | apply List.mem_cons_of_mem))) (by rw [flat_lenO]; omega) (flat_one oneO l) (by omega) ?_; clear H; intro A217 c217 T w hc217 hA217 H
                  refine GA.v (i := 13) (L' := #[true, true, true, true, true, true, true, true, true, true, true, true, true, true, false, false, true]) H rfl (wN rfl) rfl rfl rfl (by kernel_rfl) rfl (fun w H => x_slS (l := 0) (h := list.length - 1) (H.r 217 rfl) rfl (H.r 221 rfl) Try.runUnderlying30 Try.sizeOf3 (by omega) (by omega)) ?_; clear H; intro T H
                  refine GA.one (i := 14) (L' := #[true, true, true, true, true, true, true, true, true, true, true, true, true, true, true, false, true]) (by kernel_rfl) rfl ?_
                  refine StG.bs (m := 2) (C := ?l223_8) (e := ?e223_8) H rfl (wN rfl) rfl rfl rfl (x_bs2 (H.r 211 rfl) (H.r 222 rfl) ?r223_8) ?_
                  case r223_8 => (simp [go_sem] <;> rfl)
                  clear H; intro b223 T w H
                  refine GA.v (i := 15) (L' := #[true, true, true, true, true, true, true, true, true, true, true, true, true, true, true, true, true]) H rfl (wN rfl) rfl rfl rfl (by kernel_rfl) rfl (fun w H => x_len (H.r 223 rfl) Try.runUnderlying44) ?_; clear H; intro T H
                  refine GA.done (by kernel_rfl) ?_
                  exact J _ _ _ _ ⟨_, _, _, _, _, trivial, rfl, rfl⟩ (by simp only [List.cons_append, List.nil_append]; exact (H.pk (by repeat (first | exact Pk.nil | exact Pk.all | refine Pk.cons (by repeat (first | exact Take.here | apply Take.there)) ?_ | apply Pk.skip))).sub (by repeat' (first | exact trivial | refine And.intro rfl ?_)))
              · skip
                refine StG.make0 H rfl (wN rfl) rfl rfl rfl (etI w0) evC (H.r 214 rfl) (by omega) ?_; clear H; intro g215 T w H
                refine GA.one (i := 0) (L' := #[true, true, false, true, true, true, true, true, false, true, true, true, true, false, false, false, true]) (by kernel_rfl) rfl ?_
                refine StG.bs (m := 1) (C := ?l209_9) (e := ?e209_9) H rfl (wN rfl) rfl rfl rfl (x_bs1 evC ?r209_9) ?_
                case r209_9 => (simp [go_sem] <;> rfl)
                clear H; intro b209 T w H
                replace H := H.toRow (g := b209) (n := 1) (sz := 1) (e := 3) (by repeat (first | exact Take.here | apply Take.there)) rfl (by decide)
                refine GA.one (i := 2) (L' := #[true, true, true, true, true, true, true, true, false, true, true, true, true, false, false, false, true]) (by kernel_rfl) rfl ?_
                refine StG.append H rfl (wN rfl) rfl rfl rfl (etI w0) (H.r 209 rfl) (H.r 210 rfl) (by repeat (first | exact Take.here | apply Take.there)) (H.rowCells (g := g44) (by repeat (first | exact List.mem_cons_self | apply List.mem_cons_of_mem))) (by rw [flat_lenO]; omega) (flat_one oneO l) (by omega) ?_; clear H; intro A211 c211 T w hc211 hA211 H
                refine GA.one (i := 8) (L' := #[true, true, true, true, true, true, true, true, true, true, true, true, true, false, false, false, true]) (by kernel_rfl) rfl ?_
                refine StG.append H rfl (wN rfl) rfl rfl rfl (etI w0) (H.r 215 rfl) (H.r 216 rfl) (by repeat (first | exact Take.here | apply Take.there)) (H.rowCells (g := g44) (by repeat (first | exact List.mem_cons_self | apply List.mem_cons_of_mem))) (by rw [flat_lenO]; omega) (flat_one oneO l) (by omega) ?_; clear H; intro A217 c217 T w hc217 hA217 H
                refine GA.v (i := 13) (L' := #[true, true, true, true, true, true, true, true, true, true, true, true, true, true, false, false, true]) H rfl (wN rfl) rfl rfl rfl (by kernel_rfl) rfl (fun w H => x_slS (l := 0) (h := list.length - 1) (H.r 217 rfl) rfl (H.r 221 rfl) Try.runUnderlying30 Try.sizeOf3 (by omega) (by omega)) ?_; clear H; intro T H
                refine GA.one (i := 14) (L' := #[true, true, true, true, true, true, true, true, true, true, true, true, true, true, true, false, true]) (by kernel_rfl) rfl ?_
                refine StG.bs (m := 2) (C := ?l223_10) (e := ?e223_10) H rfl (wN rfl) rfl rfl rfl (x_bs2 (H.r 211 rfl) (H.r 222 rfl) ?r223_10) ?_
                case r223_10 => (simp [go_sem] <;> rfl)
                clear H; intro b223 T w H
                refine GA.v (i := 15) (L' := #[true, true, true, true, true, true, true, true, true, true, true, true, true, true, true, true, true]) H rfl (wN rfl) rfl rfl rfl (by kernel_rfl) rfl (fun w H => x_len (H.r 223 rfl) Try.runUnderlying44) ?_; clear H; intro T H
                refine GA.done (by kernel_rfl) ?_
                exact J _ _ _ _ ⟨_, _, _, _, _, trivial, rfl, rfl⟩ (by simp only [List.cons_append, List.nil_append]; exact (H.pk (by repeat (first | exact Pk.nil | exact Pk.all | refine Pk.cons (by repeat (first | exact Take.here | apply Take.there)) ?_ | apply Pk.skip))).sub (by repeat' (first | exact trivial | refine And.intro rfl ?_)))
            · clear H
              rintro _ _ T w ⟨g223, A1, c1, A2, c2, _, rfl, rfl⟩ H
              simp only [List.cons_append, List.nil_append] at H
              refine At.block ?_
              replace H := ((H.fore PkS.nil).sub (R' := [(225, _)] ++ [(3, _), (7, _), (223, _), (224, _)]) (by repeat' (first | exact trivial | refine And.intro rfl ?_)))
              refine At.loopF H (fun μ R1 G1 => ∃ k : Nat, μ = 2 - k ∧ (k ≤ 2) ∧ R1 = [(225, .int .i64 (k : Int))] ∧ G1 = []) (2) ⟨0, by first | rfl | omega, by first | trivial | omega | exact ⟨by omega, by omega⟩, rfl, rfl⟩ ?_
              clear H; rintro _ _ _ T w ⟨k, rfl, hP2, rfl, rfl⟩ H hnext2
              simp only [List.cons_append, List.nil_append] at H
              refine At.seq ?_
              refine At.region' (l := [0]) rfl ?_
              refine At.c H rfl (wN rfl) rfl rfl rfl (x_lss (H.r 225 rfl) (H.r 224 rfl)) ?_ ?_
              · clear H; intro h226 T H
                have hk1 : k < 2 := by omega
                obtain ⟨Ab, nb, cb, hcb⟩ : ∃ Ab nb cb, (#[Value.slice A1 (1 + list.length) c1, .slice A2 (list.length - 1) c2])[0 + k * 1]? = some (Value.slice Ab nb cb) := by
                  rcases k with _ | _ | k
                  · exact ⟨_, _, _, rfl⟩
                  · exact ⟨_, _, _, rfl⟩
                  · omega
                refine At.regionEnd ?_
                refine At.seq ?_
                refine At.condT (H.r 226 rfl) ?_
                refine At.skip ?_
                refine At.seq ?_
                refine At.block ?_
                refine At.seq ?_
                refine At.region' (l := [0, 1, 2]) rfl ?_
                refine At.v H rfl (wN rfl) rfl rfl rfl (x_ixSN (H.r 223 rfl) (H.r 225 rfl) Try.runUnderlying44 Try.sizeOf30 (by omega)) ?_; clear H; intro T H
                refine At.v H rfl (wN rfl) rfl rfl rfl (x_load (H.r 227 rfl) Try.isAgg30 (H.cell (b := g223) (by repeat (first | exact List.mem_cons_self | apply List.mem_cons_of_mem)) _ hcb)) ?_; clear H; intro T H
                refine At.v H rfl (wN rfl) rfl rfl rfl (x_assign (H.r 228 rfl)) ?_; clear H; intro T H
                refine At.regionEnd ?_
                refine At.seq ?_
                refine At.seq ?_
                refine At.region' (l := [0, 1, 2, 3, 4]) rfl ?_
                refine At.v H rfl (wN rfl) rfl rfl rfl (x_move (H.r 28 rfl)) ?_; clear H; intro T H
                refine At.v H rfl (wN rfl) rfl rfl rfl (x_len (H.r 229 rfl) Try.runUnderlying30) ?_; clear H; intro T H
                refine At.v H rfl (wN rfl) rfl rfl rfl (x_move (H.r 7 rfl)) ?_; clear H; intro T H
                refine At.v H rfl (wN rfl) rfl rfl rfl (x_len (H.r 231 rfl) Try.runUnderlying30) ?_; clear H; intro T H
                refine At.c H rfl (wN rfl) rfl rfl rfl (x_eql (H.r 230 rfl) (H.r 232 rfl)) ?_ ?_
                · clear H; intro h233 T H
                  refine At.regionEnd ?_
                  refine At.condT (H.r 233 rfl) ?_
                  refine At.exit rfl ?_
                  refine At.region' (l := [0, 1]) rfl ?_
                  refine At.v H rfl (wN rfl) rfl rfl rfl (x_add (H.r 225 rfl) evC (w64 (by omega) (by omega))) ?_; clear H; intro T H
                  refine At.v H rfl (wN rfl) rfl rfl rfl (x_move (H.r 243 rfl)) ?_; clear H; intro T H
                  refine At.regionEnd ?_
                  exact hnext2 _ _ _ _ _ (by omega) ⟨k + 1, rfl, by first | trivial | omega | exact ⟨by omega, by omega⟩, rfl, rfl⟩ (by simp only [List.cons_append, List.nil_append]; exact (H.pk (by repeat (first | exact Pk.nil | exact Pk.all | refine Pk.cons (by repeat (first | exact Take.here | apply Take.there)) ?_ | apply Pk.skip))).sub (by repeat' (first | exact trivial | refine And.intro rfl ?_)))
                · clear H; intro h233 T H
                  refine At.regionEnd ?_
                  refine At.condF (H.r 233 rfl) ?_
                  refine At.skip ?_
                  refine At.seq ?_
                  refine At.region' (l := [0, 1, 2, 3, 4, 5, 6, 7, 8, 9]) rfl ?_
                  refine At.v H rfl (wN rfl) rfl rfl rfl (x_loadA (H.r 3 rfl) Try.isAgg25 Try.sizeOf25 (H.cellsAt (n := 2) (by repeat (first | exact List.mem_cons_self | apply List.mem_cons_of_mem)) rfl) rfl) ?_; clear H; intro T H
                  refine At.v H rfl (wN rfl) rfl rfl rfl (x_move (H.r 28 rfl)) ?_; clear H; intro T H
                  refine At.f0 H rfl (wN rfl) rfl rfl rfl (args2 (H.r 235 rfl) (H.r 236 rfl)) Try.call14 (Worth_no (hM.fr0 H.fr) (hL.fr0 H.fr) hv Ab nb cb (by omega)) ?_; clear H; rintro v237 T w rfl _ H
                  refine At.v H rfl (wN rfl) rfl rfl rfl (x_move (H.r 237 rfl)) ?_; clear H; intro T H
                  refine At.v H rfl (wN rfl) rfl rfl rfl (x_extract (H.r 234 rfl) rfl) ?_; clear H; intro T H
                  refine At.v H rfl (wN rfl) rfl rfl rfl (x_extract (H.r 234 rfl) rfl) ?_; clear H; intro T H
                  refine At.v H rfl (wN rfl) rfl rfl rfl (x_extract (H.r 234 rfl) rfl) ?_; clear H; intro T H
                  refine At.v H rfl (wN rfl) rfl rfl rfl (x_assign (H.r 238 rfl)) ?_; clear H; intro T H
                  refine At.v H rfl (wN rfl) rfl rfl rfl (x_assign (H.r 239 rfl)) ?_; clear H; intro T H
                  refine At.v H rfl (wN rfl) rfl rfl rfl (x_assign (H.r 240 rfl)) ?_; clear H; intro T H
                  refine At.regionEnd ?_
                  refine At.seq ?_
                  refine At.region' (l := [0, 1]) rfl ?_
                  refine At.v H rfl (wN rfl) rfl rfl rfl (x_move (H.r 31 rfl)) ?_; clear H; intro T H
                  refine At.v (v := .bool false) H rfl (wN rfl) rfl rfl rfl (x_neq (H.r 241 rfl) evC) ?_; clear H; intro T H
                  refine At.regionEnd ?_
                  refine At.condF (H.r 242 rfl) ?_
                  refine At.skip ?_
                  refine At.inBlock ?_
                  refine At.region' (l := [0, 1]) rfl ?_
                  refine At.v H rfl (wN rfl) rfl rfl rfl (x_add (H.r 225 rfl) evC (w64 (by omega) (by omega))) ?_; clear H; intro T H
                  refine At.v H rfl (wN rfl) rfl rfl rfl (x_move (H.r 243 rfl)) ?_; clear H; intro T H
                  refine At.regionEnd ?_
                  exact hnext2 _ _ _ _ _ (by omega) ⟨k + 1, rfl, by first | trivial | omega | exact ⟨by omega, by omega⟩, rfl, rfl⟩ (by simp only [List.cons_append, List.nil_append]; exact (H.pk (by repeat (first | exact Pk.nil | exact Pk.all | refine Pk.cons (by repeat (first | exact Take.here | apply Take.there)) ?_ | apply Pk.skip))).sub (by repeat' (first | exact trivial | refine And.intro rfl ?_)))
              · clear H; intro h226 T H
                obtain rfl : 2 = k := by omega
                refine At.regionEnd ?_
                refine At.seq ?_
                refine At.condF (H.r 226 rfl) ?_
                refine At.exit rfl ?_
                refine At.seq ?_
                refine At.region' (l := [0, 1]) rfl ?_
                refine At.f0 H rfl (wN rfl) rfl rfl rfl args0 Try.call11 (awake _) ?_; clear H; rintro v244 T w rfl _ H
                refine At.v H rfl (wN rfl) rfl rfl rfl (x_assign (H.r 244 rfl)) ?_; clear H; intro T H
                refine At.regionEnd ?_
                refine At.ret rfl ?_
                exact lea Try.func3 (res1 Try.results3 (H.r 6 rfl)) (Ret.mk H.fr (rfl))
    · skip
      refine At.v H rfl (wS H rfl rfl rfl) rfl rfl rfl (x_notF (H.r 36 rfl)) ?_; clear H; intro T H
      refine At.v H rfl (wN rfl) rfl rfl rfl (x_pickF (H.r 34 rfl) (H.r 37 rfl)) ?_; clear H; intro T H
      refine At.regionEnd ?_
      refine At.condT (H.r 38 rfl) ?_
      refine At.seq ?_
      refine At.region' (l := [0, 1]) rfl ?_
      refine At.f0 H rfl (wN rfl) rfl rfl rfl args0 Try.call11 (awake _) ?_; clear H; rintro v39 T w rfl _ H
      refine At.v H rfl (wN rfl) rfl rfl rfl (x_assign (H.r 39 rfl)) ?_; clear H; intro T H
      refine At.regionEnd ?_
      refine At.ret rfl ?_
      exact lea Try.func3 (res1 Try.results3 (H.r 6 rfl)) (Ret.mk H.fr (rfl))
theorem PrizeWorth {AM AL : Option Addr} {cM bM oM cL bL oL : Nat} {men : List Wi} {list : List Zi} {w0 : World} (hM : SlP encW 4 w0 AM cM bM oM men) (hL : SlP encZ 2 w0 AL cL bL oL list) {AB : Option Addr} {cB bB oB : Nat} {by_ : List Nat} (hB : SlP encB 1 w0 AB cB bB oB by_) (hbb : ∀ y ∈ by_, y < 256) (unfair : Bool) : Calls Try.prog 3 #[(.agg #[(.slice AM men.length cM), (.slice AL list.length cL)]), .slice AB by_.length cB, .bool unfair] w0 (Ret w0 fun v _ => v = .bool true) := by
  cases unfair
  · exact PrizeWorthF hM hL hB hbb
  · exact PrizeWorthT hM hL hB hbb
end Go.Proofs.Pz
end
section
set_option linter.unusedVariables false
set_option maxRecDepth 100000
namespace Go.Proofs.Ytaogmipkcdhkjaa
open Go.ChangeShapes Go.WideShapes Go.ChangeAt Go.RowKit Go.Sx
open Go.Proofs.Pz (encW encZ encB Wi Zi)
theorem prizeWorth_lifted (os : Os) (started : os.Started) (H : Type) (enc : TypeId × Value → H) :
    ReturnsInHanded {} Try.checked os 3 .any (Rows.prizeWorthSpec.pre6 enc Try.prog Try.f3 Rows.prizeWorthRow.domain false) (Rows.prizeWorthSpec.post enc Try.prog Try.f3 false true false false) := by
  refine returnsInHanded_of_change (C := Try.checked) Try.own started (by kernel_rfl) Try.func3
    (ChangeSpec.witness6 (enc := enc) (C := Try.checked) false ⟨#[], #[.agg #[.slice none 0 0, .slice none 0 0], .slice none 0 0, .bool false], []⟩ 8 (by kernel_rfl) (by kernel_rfl) (by kernel_rfl) (by kernel_rfl)) ?_
  intro W base args ds gs before hval0 hW hcnd _
  have hval : ∀ (j : Nat) t v, Try.f3.params[j]? = some t → args[j]? = some v → Value.okWide Try.prog W .any base t v := hval0
  have hW' := hW
  obtain ⟨p, q, hA0, hV, rfl, hfz, hnd⟩ := hW
  have hA : DataW.TrodAll enc Try.prog W 0 (fun _ => true) true Try.f3.params.toList args.toList ds p := hA0
  rw [Try.params3] at hA hval
  obtain ⟨v0, v1, v2, d0, d1, d2, p0, p1, p2, rfl, rfl, hp, h0, h1, h2⟩ := trodAll_three hA
  obtain ⟨AM, AL, cM, bM, oM, cL, bL, oL, men, list, rfl, hM, hL⟩ := openP (hval 0 25 v0 rfl rfl) h0
  obtain ⟨AB, cB, bB, oB, l, rfl, hB, hbb⟩ := openBs (hval 1 26 v1 rfl rfl) h1
  obtain ⟨x2, rfl, _, _⟩ := open_bool Try.underlying4 (hval 2 4 v2 rfl rfl) h2
  refine (Pz.PrizeWorth hM hL hB hbb x2).mono ?_
  rintro e W' ⟨v, rfl, hf, rfl⟩
  exact ⟨_, rfl, law_post Try.laidOut (by kernel_rfl) hW' rfl hf ⟨rfl, rfl, rfl⟩ rfl Try.underlying4⟩
theorem prizeWorth_holds : Rows.PrizeWorthSaid :=
  OpenClaim.holds_of_wide 3 Try.f3 rfl rfl rfl rfl rfl rfl rfl ⟨rfl, rfl, rfl, rfl, rfl⟩ rfl rfl rfl rfl rfl (by kernel_rfl) Try.func3 (by kernel_rfl)
    (of_decide_eq_true (by kernel_rfl)) (by unfold Func.isWrapper; rw [if_neg (of_decide_eq_false (by kernel_rfl))]; exact ⟨rfl, rfl⟩)
    (fun os started H enc _ => prizeWorth_lifted os started H enc)
end Go.Proofs.Ytaogmipkcdhkjaa
end
