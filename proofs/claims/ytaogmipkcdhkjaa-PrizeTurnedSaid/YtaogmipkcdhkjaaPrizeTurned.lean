/- Proves PrizeTurned: for every input the statement returns true and its arguments read as before. No conditions. -/
import Derived.Test.YtaogmipkcdhkjaaPrizeTurned1
import Derived.Test.YtaogmipkcdhkjaaPrizeTurned2
import Derived.Test.YtaogmipkcdhkjaaPrizeTurned3
import Derived.Test.YtaogmipkcdhkjaaPrizeTurned4
section
namespace Go.Proofs.Pz
open Go.Sx Go.RowKit
set_option linter.unusedVariables false
namespace AWT
theorem fa25_0 (a : Addr) (w : World) : (Instr.fieldAt 25 (.pointer (some a)) 0).run Try.prog w = .ok (.pointer (some (a.add 0))) w := by simp [go_sem]
theorem fa25_1 (a : Addr) (w : World) : (Instr.fieldAt 25 (.pointer (some a)) 1).run Try.prog w = .ok (.pointer (some (a.add 1))) w := by simp [go_sem]
end AWT
open AWT
theorem num {b4 b7 turn n m : Nat} {w0 : World} (h4 : w0.cell? ⟨b4, 0, none⟩ = some (.int .u8 (turn : Int))) (h7 : w0.cell? ⟨b7, 0, none⟩ = some (.int .i64 (n : Int))) (ht : turn < 256) (hn : 0 < n) (hm : m < 256) :
    CallsV Try.prog (.func (.func 26) #[] #[.pointer (some ⟨b4, 0, none⟩), .pointer (some ⟨b7, 0, none⟩)]) #[.int .i64 (m : Int)] w0 (Ret w0 fun v _ => v = .int .i64 (((m + turn) % n : Nat) : Int)) := by
  refine CallsV.func ⟨_, Try.func26, rfl, rfl⟩ ?_
  refine enter (args := [.int .i64 (m : Int), .pointer (some ⟨b4, 0, none⟩), .pointer (some ⟨b7, 0, none⟩)]) (S := []) Try.func26 rfl Try.ntmps26 rfl fun cs T H => ?_
  refine At.seq ?_
  refine At.region' (l := [0]) rfl ?_
  refine At.v H rfl (wN rfl) rfl rfl rfl (x_assign evC) ?_; clear H; intro T H
  refine At.regionEnd ?_
  refine At.seq ?_
  refine At.region' (l := [0, 1, 2, 3, 4, 5, 6]) rfl ?_
  refine At.v H rfl (wN rfl) rfl rfl rfl (x_move (H.r 0 rfl)) ?_; clear H; intro T H
  refine At.v H rfl (wN rfl) rfl rfl rfl (x_load (H.r 1 rfl) Try.isAgg5 (H.ext h4 (by simp))) ?_; clear H; intro T H
  refine At.v H rfl (wN rfl) rfl rfl rfl (x_conv (z := (turn : Int)) (H.r 6 rfl) Try.runUnderlying5 Try.runUnderlying3 (wrapN (by omega))) ?_; clear H; intro T H
  refine At.v H rfl (wN rfl) rfl rfl rfl (x_addN (a := m) (b := turn) (H.r 5 rfl) (H.r 7 rfl) (by omega)) ?_; clear H; intro T H
  refine At.v H rfl (wN rfl) rfl rfl rfl (x_load (H.r 2 rfl) Try.isAgg3 (H.ext h7 (by simp))) ?_; clear H; intro T H
  refine At.v H rfl (wN rfl) rfl rfl rfl (x_remN (a := m + turn) (b := n) (H.r 8 rfl) (H.r 9 rfl) hn) ?_; clear H; intro T H
  refine At.v H rfl (wN rfl) rfl rfl rfl (x_assign (H.r 10 rfl)) ?_; clear H; intro T H
  refine At.regionEnd ?_
  refine At.ret rfl ?_
  exact lea Try.func26 (res1 Try.results26 (H.r 4 rfl)) (Ret.mk H.fr (rfl))
set_option maxHeartbeats 4000000 in
theorem PrizeTurned {AM AL : Option Addr} {cM bM oM cL bL oL : Nat} {men : List Wi} {list : List Zi} {w0 : World} (hM : SlP encW 4 w0 AM cM bM oM men) (hL : SlP encZ 2 w0 AL cL bL oL list) (turn : Nat) (ht8 : turn < 256) (who : Nat) (hw : who < 256) : Calls Try.prog 8 #[(.agg #[(.slice AM men.length cM), (.slice AL list.length cL)]), .int .u8 (turn : Int), .int .u8 (who : Int)] w0 (Ret w0 fun v _ => v = .bool true) := by
  refine enter (args := [(.agg #[(.slice AM men.length cM), (.slice AL list.length cL)]), .int .u8 (turn : Int), .int .u8 (who : Int)]) (S := []) Try.func8 rfl Try.ntmps8 rfl fun cs T H => ?_
  refine At.seq ?_
  refine At.region' (l := [0, 1, 2]) rfl ?_
  refine At.new H rfl (wN rfl) rfl rfl rfl (x_box (H.r 0 rfl) rfl) ?_; clear H; intro b3 T w _ _ H
  refine At.new H rfl (wN rfl) rfl rfl rfl (x_box (H.r 1 rfl) rfl) ?_; clear H; intro b4 T w _ _ H
  refine At.v H rfl (wN rfl) rfl rfl rfl (x_assign evC) ?_; clear H; intro T H
  refine At.regionEnd ?_
  refine At.seq ?_
  refine At.seq ?_
  refine At.region' (l := [0, 1, 2, 3, 4, 5, 6]) rfl ?_
  refine At.v H rfl (wN rfl) rfl rfl rfl (x_loadA (H.r 3 rfl) Try.isAgg25 Try.sizeOf25 (H.cellsAt (n := 2) (by repeat (first | exact List.mem_cons_self | apply List.mem_cons_of_mem)) rfl) rfl) ?_; clear H; intro T H
  refine At.f0 H rfl (wN rfl) rfl rfl rfl (args2 (H.r 47 rfl) evC) Try.call9 (far) ?_; clear H; rintro v48 T w rfl _ H
  by_cases hfar : 40 < men.length ∨ 40 < list.length ∨ 40 < 0
  · first | rw [decide_eq_true hfar] at H | rw [decide_eq_false hfar] at H
    refine At.v H rfl (wN rfl) rfl rfl rfl (x_move (H.r 48 rfl)) ?_; clear H; intro T H
    refine At.u H rfl (wU H rfl rfl rfl rfl) rfl rfl ?_; clear H; intro T H
    refine At.u H rfl (wU H rfl rfl rfl rfl) rfl rfl ?_; clear H; intro T H
    refine At.u H rfl (wU H rfl rfl rfl rfl) rfl rfl ?_; clear H; intro T H
    refine At.v H rfl (wN rfl) rfl rfl rfl (x_pickT (H.r 49 rfl) evC) ?_; clear H; intro T H
    refine At.regionEnd ?_
    refine At.condT (H.r 53 rfl) ?_
    refine At.seq ?_
    refine At.region' (l := [0, 1]) rfl ?_
    refine At.f0 H rfl (wN rfl) rfl rfl rfl args0 Try.call11 (awake _) ?_; clear H; rintro v54 T w rfl _ H
    refine At.v H rfl (wN rfl) rfl rfl rfl (x_assign (H.r 54 rfl)) ?_; clear H; intro T H
    refine At.regionEnd ?_
    refine At.ret rfl ?_
    exact lea Try.func8 (res1 Try.results8 (H.r 6 rfl)) (Ret.mk H.fr (rfl))
  · first | rw [decide_eq_true hfar] at H | rw [decide_eq_false hfar] at H
    refine At.v H rfl (wN rfl) rfl rfl rfl (x_move (H.r 48 rfl)) ?_; clear H; intro T H
    refine At.v H rfl (wS H rfl rfl rfl) rfl rfl rfl (x_loadA (H.r 3 rfl) Try.isAgg25 Try.sizeOf25 (H.cellsAt (n := 2) (by repeat (first | exact List.mem_cons_self | apply List.mem_cons_of_mem)) rfl) rfl) ?_; clear H; intro T H
    refine At.f0 H rfl (wS H rfl rfl rfl) rfl rfl rfl (args1 (H.r 50 rfl)) Try.call10 (Prizes (hM.fr0 H.fr) (hL.fr0 H.fr) (by omega) (by omega)) ?_; clear H; rintro v51 T w hQ36 _ H
    rcases hQ36 with ⟨rfl, hv⟩ | ⟨rfl, hv⟩
    · skip
      have hl6 := hv.l6
      have hn8 := hv.n8
      have hn1 := hv.n1
      refine At.v H rfl (wS H rfl rfl rfl) rfl rfl rfl (x_notT (H.r 51 rfl)) ?_; clear H; intro T H
      refine At.v H rfl (wN rfl) rfl rfl rfl (x_pickF (H.r 49 rfl) (H.r 52 rfl)) ?_; clear H; intro T H
      refine At.regionEnd ?_
      refine At.condF (H.r 53 rfl) ?_
      refine At.skip ?_
      refine At.seq ?_
      refine At.region' (l := [0, 1, 2, 3, 4]) rfl ?_
      refine At.v H rfl (wN rfl) rfl rfl rfl (x_fieldAddr (H.r 3 rfl) fa25_0) ?_; clear H; intro T H
      refine At.v H rfl (wN rfl) rfl rfl rfl (x_load (H.r 55 rfl) Try.isAgg22 (by first | exact H.cell (by repeat (first | exact List.mem_cons_self | apply List.mem_cons_of_mem)) _ rfl | exact H.cellR (by repeat (first | exact List.mem_cons_self | apply List.mem_cons_of_mem)) _ rfl)) ?_; clear H; intro T H
      refine At.v H rfl (wN rfl) rfl rfl rfl (x_len (H.r 56 rfl) Try.runUnderlying22) ?_; clear H; intro T H
      refine At.new H rfl (wN rfl) rfl rfl rfl (x_alloc Try.zeroValue3 rfl) ?_; clear H; intro b7 T w _ _ H
      refine At.store1 H rfl (wN rfl) rfl rfl (H.r 7 rfl) (H.r 57 rfl) Try.sizeOf3 rfl rfl (by repeat (first | exact Upd.here | apply Upd.there)) (by repeat (first | exact SetAt.z | apply SetAt.s)) ?_; clear H; intro T w _ H
      refine At.regionEnd ?_
      refine At.seq ?_
      refine At.region' (l := [0, 1]) rfl ?_
      refine At.v H rfl (wN rfl) rfl rfl rfl (x_makeFunc args0 (args2 (H.r 4 rfl) (H.r 7 rfl))) ?_; clear H; intro T H
      refine At.v H rfl (wN rfl) rfl rfl rfl (x_assign (H.r 58 rfl)) ?_; clear H; intro T H
      refine At.regionEnd ?_
      refine At.seq ?_
      refine At.region' (l := [0, 1, 2]) rfl ?_
      refine At.v H rfl (wN rfl) rfl rfl rfl (x_loadA (H.r 3 rfl) Try.isAgg25 Try.sizeOf25 (H.cellsAt (n := 2) (by repeat (first | exact List.mem_cons_self | apply List.mem_cons_of_mem)) rfl) rfl) ?_; clear H; intro T H
      refine At.new H rfl (wN rfl) rfl rfl rfl (x_alloc Try.zeroValue25 rfl) ?_; clear H; intro b9 T w _ _ H
      refine At.storeA H rfl (wN rfl) rfl rfl (H.r 9 rfl) (H.r 59 rfl) Try.sizeOf25 (List.all_eq_true.1 rfl) (by repeat (first | exact Upd.here | apply Upd.there)) (by rfl) ?_; clear H; intro T w _ H
      refine At.regionEnd ?_
      refine At.seq ?_
      refine At.region' (l := [0, 1, 2, 3]) rfl ?_
      refine At.v H rfl (wN rfl) rfl rfl rfl (x_load (H.r 7 rfl) Try.isAgg3 (by first | exact H.cell (by repeat (first | exact List.mem_cons_self | apply List.mem_cons_of_mem)) _ rfl | exact H.cellR (by repeat (first | exact List.mem_cons_self | apply List.mem_cons_of_mem)) _ rfl)) ?_; clear H; intro T H
      refine At.makeA (l := [Value.int .i64 0, .int .i64 0, .bool false, .bool false]) H rfl (wN rfl) rfl rfl rfl (etW w0) (H.r 60 rfl) (H.r 60 rfl) (by omega) rfl rfl ?_; clear H; intro g61 T w H
      rw [show (List.replicate men.length [Value.int .i64 0, .int .i64 0, .bool false, .bool false]).flatten = (turnTo men turn 0).flatMap encW from flat_zero _] at H
      refine At.v H rfl (wN rfl) rfl rfl rfl (x_fieldAddr (H.r 9 rfl) fa25_0) ?_; clear H; intro T H
      refine At.store1 H rfl (wN rfl) rfl rfl (H.r 62 rfl) (H.r 61 rfl) Try.sizeOf22 rfl rfl (by repeat (first | exact Upd.here | apply Upd.there)) (by repeat (first | exact SetAt.z | apply SetAt.s)) ?_; clear H; intro T w _ H
      refine At.regionEnd ?_
      refine At.seq ?_
      refine At.seq ?_
      refine At.region' (l := [0, 1, 2, 3]) rfl ?_
      refine At.v H rfl (wN rfl) rfl rfl rfl (x_fieldAddr (H.r 3 rfl) fa25_0) ?_; clear H; intro T H
      refine At.v H rfl (wN rfl) rfl rfl rfl (x_load (H.r 63 rfl) Try.isAgg22 (by first | exact H.cell (by repeat (first | exact List.mem_cons_self | apply List.mem_cons_of_mem)) _ rfl | exact H.cellR (by repeat (first | exact List.mem_cons_self | apply List.mem_cons_of_mem)) _ rfl)) ?_; clear H; intro T H
      refine At.v H rfl (wN rfl) rfl rfl rfl (x_len (H.r 64 rfl) Try.runUnderlying22) ?_; clear H; intro T H
      refine At.v H rfl (wN rfl) rfl rfl rfl (x_move evC) ?_; clear H; intro T H
      refine At.regionEnd ?_
      refine At.block ?_
      replace H := ((H.fore (PkS.cons (x := .row _ _ _ _ _) (by repeat (first | exact Take.here | apply Take.there)) PkS.nil)).sub (R' := [(66, _)] ++ [(2, _), (3, _), (6, _), (7, _), (8, _), (9, _), (64, _), (65, _)]) (by repeat' (first | exact trivial | refine And.intro rfl ?_)))
      refine At.loopF H (fun μ R1 G1 => ∃ k : Nat, μ = men.length - k ∧ (k ≤ men.length) ∧ R1 = [(66, .int .i64 (k : Int))] ∧ G1 = [.row (.slice (some ⟨g61, 0, none⟩) men.length men.length) 59 4 men.length ((turnTo men turn k).flatMap encW)]) (men.length) ⟨0, by first | rfl | omega, by first | trivial | omega | exact ⟨by omega, by omega⟩, rfl, rfl⟩ ?_
      clear H; rintro _ _ _ T w ⟨k, rfl, hP0, rfl, rfl⟩ H hnext0
      simp only [List.cons_append, List.nil_append] at H
      refine At.seq ?_
      refine At.region' (l := [0]) rfl ?_
      refine At.c H rfl (wN rfl) rfl rfl rfl (x_lss (H.r 66 rfl) (H.r 65 rfl)) ?_ ?_
      · clear H; intro h67 T H
        have hk1 : k < men.length := by omega
        obtain rfl := hM.addr (fun e => by simp [e] at hk1)
        obtain ⟨m, hm⟩ := get_ex hk1
        have hcl := hM.cell k m hm
        have hts := turnTo_succ (t := turn) hm
        have htl := turnTo_len men turn k
        have hmod : (k + turn) % men.length < men.length := Nat.mod_lt _ (by omega)
        refine At.regionEnd ?_
        refine At.seq ?_
        refine At.condT (H.r 67 rfl) ?_
        refine At.skip ?_
        refine At.seq ?_
        refine At.block ?_
        refine At.seq ?_
        refine At.region' (l := [0, 1, 2, 3, 4, 5]) rfl ?_
        refine At.v H rfl (wN rfl) rfl rfl rfl (x_move (H.r 66 rfl)) ?_; clear H; intro T H
        refine At.v H rfl (wN rfl) rfl rfl rfl (x_ixSN (H.r 64 rfl) (H.r 66 rfl) Try.runUnderlying22 Try.sizeOf59 (by omega)) ?_; clear H; intro T H
        refine At.v H rfl (wN rfl) rfl rfl rfl (x_loadA (H.r 69 rfl) Try.isAgg59 Try.sizeOf59 (H.extA hcl (by simp)) rfl) ?_; clear H; intro T H
        refine At.new H rfl (wN rfl) rfl rfl rfl (x_alloc Try.zeroValue59 rfl) ?_; clear H; intro b11 T w _ _ H
        refine At.v H rfl (wN rfl) rfl rfl rfl (x_assign (H.r 68 rfl)) ?_; clear H; intro T H
        refine At.storeA H rfl (wN rfl) rfl rfl (H.r 11 rfl) (H.r 70 rfl) Try.sizeOf59 (List.all_eq_true.1 rfl) (by repeat (first | exact Upd.here | apply Upd.there)) (by rfl) ?_; clear H; intro T w _ H
        refine At.regionEnd ?_
        refine At.drawnC (m := 8) (L := #[false, false, false, false, false, false, false, false]) H mixed rfl rfl ?_; clear H; intro w H
        refine GA.v (i := 0) (L' := #[true, false, false, false, false, false, false, false]) H rfl (wN rfl) rfl rfl rfl (by kernel_rfl) rfl (fun w H => x_fieldAddr (H.r 9 rfl) fa25_0) ?_; clear H; intro T H
        refine GA.v (i := 1) (L' := #[true, true, false, false, false, false, false, false]) H rfl (wN rfl) rfl rfl rfl (by kernel_rfl) rfl (fun w H => x_load (H.r 71 rfl) Try.isAgg22 (by first | exact H.cell (by repeat (first | exact List.mem_cons_self | apply List.mem_cons_of_mem)) _ rfl | exact H.cellR (by repeat (first | exact List.mem_cons_self | apply List.mem_cons_of_mem)) _ rfl)) ?_; clear H; intro T H
        refine GA.v (i := 2) (L' := #[true, true, true, false, false, false, false, false]) H rfl (wN rfl) rfl rfl rfl (by kernel_rfl) rfl (fun w H => x_move (H.r 8 rfl)) ?_; clear H; intro T H
        refine GA.v (i := 3) (L' := #[true, true, true, true, false, false, false, false]) H rfl (wN rfl) rfl rfl rfl (by kernel_rfl) rfl (fun w H => x_move (H.r 10 rfl)) ?_; clear H; intro T H
        refine GA.v (i := 5) (L' := #[true, true, true, true, false, true, false, false]) H rfl (wN rfl) rfl rfl rfl (by kernel_rfl) rfl (fun w H => x_loadA (H.r 11 rfl) Try.isAgg59 Try.sizeOf59 (H.cellsAt (n := 4) (by repeat (first | exact List.mem_cons_self | apply List.mem_cons_of_mem)) rfl) rfl) ?_; clear H; intro T H
        refine GA.fV (i := 4) (L' := #[true, true, true, true, true, true, false, false]) H rfl (wN rfl) rfl rfl rfl (by kernel_rfl) rfl (H.r 73 rfl) (args1 (H.r 74 rfl)) (num (turn := turn) (n := men.length) (H.cell (b := b4) (by repeat (first | exact List.mem_cons_self | apply List.mem_cons_of_mem)) 0 rfl) (H.cell (b := b7) (by repeat (first | exact List.mem_cons_self | apply List.mem_cons_of_mem)) 0 rfl) (by omega) (by omega) (m := k) (by omega)) ?_; clear H; rintro v75 T w rfl _ H
        refine GA.v (i := 6) (L' := #[true, true, true, true, true, true, true, false]) H rfl (wN rfl) rfl rfl rfl (by kernel_rfl) rfl (fun w H => x_ixSN (n := (k + turn) % men.length) (H.r 72 rfl) (H.r 75 rfl) Try.runUnderlying22 Try.sizeOf59 hmod) ?_; clear H; intro T H
        refine GA.one (i := 7) (L' := #[true, true, true, true, true, true, true, true]) (by kernel_rfl) rfl ?_
        refine StG.storeRA (xs' := ((turnTo men turn k).set ((k + turn) % men.length) m).flatMap encW) (l := encW m) H rfl (wN rfl) rfl rfl (H.r 77 rfl) (H.r 76 rfl) Try.sizeOf59 rfl (oneW m) (by repeat (first | exact Take.here | apply Take.there)) (by rw [flatW_len, htl]; show _ + 4 ≤ _; omega) (by rw [show 0 + (k + turn) % men.length * 4 = (k + turn) % men.length * 4 by omega]; exact flatW_setA (by rw [htl]; exact hmod) m) ?_; clear H; intro T w _ H
        refine GA.done (by kernel_rfl) ?_
        refine At.inBlock ?_
        refine At.region' (l := [0, 1]) rfl ?_
        refine At.v H rfl (wN rfl) rfl rfl rfl (x_add (H.r 66 rfl) evC (w64 (by omega) (by omega))) ?_; clear H; intro T H
        refine At.v H rfl (wN rfl) rfl rfl rfl (x_move (H.r 78 rfl)) ?_; clear H; intro T H
        refine At.regionEnd ?_
        exact hnext0 _ _ _ _ _ (by omega) ⟨k + 1, rfl, by first | trivial | omega | exact ⟨by omega, by omega⟩, rfl, rfl⟩ (by simp only [List.cons_append, List.nil_append]; rw [hts]; exact (H.pk (by repeat (first | exact Pk.nil | exact Pk.all | refine Pk.cons (by repeat (first | exact Take.here | apply Take.there)) ?_ | apply Pk.skip))).sub (by repeat' (first | exact trivial | refine And.intro rfl ?_)))
      · clear H; intro h67 T H
        obtain rfl : men.length = k := by omega
        obtain ⟨tm, htm⟩ : ∃ tm, tm = turnTo men turn men.length := ⟨_, rfl⟩
        rw [← htm] at H
        have hiso : Iso (turnP men.length turn) men tm := by rw [htm]; exact turn_iso men turn
        have htl : tm.length = men.length := hiso.len
        have hvt : Valid tm list := hiso.valid hv
        have hdu := hiso.due hv hvt
        have hbest := hiso.best hv hvt
        have hmany := hiso.many hv hvt
        have htp : ∀ m, m < men.length → turnP men.length turn m = (m + turn) % men.length := fun m hm => by rw [turnP, if_pos hm]
        refine At.regionEnd ?_
        refine At.seq ?_
        refine At.condF (H.r 67 rfl) ?_
        refine At.exit rfl ?_
        refine At.seq ?_
        have H0 := ((H.fore PkS.nil).sub (R' := [] ++ [(2, _), (3, _), (6, _), (7, _), (8, _), (9, _)]) (by repeat' (first | exact trivial | refine And.intro rfl ?_)))
        refine At.joinF H0 (fun R1 G1 => ∃ (gm : Nat) (cm : Nat) (Al : Option Addr) (cl : Nat), (True) ∧ R1 = [(12, .slice (some ⟨gm, 0, none⟩) men.length cm), (13, .slice Al list.length cl)] ∧ G1 = [.row (.slice (some ⟨gm, 0, none⟩) men.length cm) 59 4 men.length (men.flatMap encW), .row (.slice Al list.length cl) 42 2 list.length (list.flatMap encZ)]) ?_ ?_ <;> clear H0
        · intro J
          refine At.drawnC (m := 10) (L := #[false, false, false, false, false, false, false, false, false, false]) H mixed rfl rfl ?_; clear H; intro w H
          refine GA.v (i := 1) (L' := #[false, true, false, false, false, false, false, false, false, false]) H rfl (wN rfl) rfl rfl rfl (by kernel_rfl) rfl (fun w H => x_fieldAddr (H.r 3 rfl) fa25_0) ?_; clear H; intro T H
          refine GA.v (i := 2) (L' := #[false, true, true, false, false, false, false, false, false, false]) H rfl (wN rfl) rfl rfl rfl (by kernel_rfl) rfl (fun w H => x_load (H.r 80 rfl) Try.isAgg22 (by first | exact H.cell (by repeat (first | exact List.mem_cons_self | apply List.mem_cons_of_mem)) _ rfl | exact H.cellR (by repeat (first | exact List.mem_cons_self | apply List.mem_cons_of_mem)) _ rfl)) ?_; clear H; intro T H
          refine GA.p (i := 5) (L' := #[false, true, true, false, false, true, false, false, false, false]) H rfl (wN rfl) rfl rfl rfl (by kernel_rfl) rfl (fun w => x_fieldAddr (H.r 3 rfl) fa25_1) ?_; clear H; intro T H
          refine GA.three (i := 0) (j := 4) (q := 6) (L' := #[true, true, true, false, false, true, false, false, false, false]) (L2 := #[false, true, true, false, true, true, false, false, false, false]) (L3 := #[false, true, true, false, false, true, true, false, false, false]) (by kernel_rfl) rfl rfl rfl ?_ ?_ ?_
          · skip
            refine StG.bs (m := 0) (C := ?l79_1) (e := ?e79_1) H rfl (wN rfl) rfl rfl rfl (x_bs0  ?r79_1) ?_
            case r79_1 => (simp [go_sem] <;> rfl)
            clear H; intro b79 T w H
            replace H := H.toRow (g := b79) (n := 0) (sz := 4) (e := 59) (by repeat (first | exact Take.here | apply Take.there)) rfl (by decide)
            refine GA.three (i := 3) (j := 4) (q := 6) (L' := #[true, true, true, true, false, true, false, false, false, false]) (L2 := #[true, true, true, false, true, true, false, false, false, false]) (L3 := #[true, true, true, false, false, true, true, false, false, false]) (by kernel_rfl) rfl rfl rfl ?_ ?_ ?_
            · skip
              refine StG.appendP H rfl (wN rfl) rfl rfl rfl (etW w0) (H.r 79 rfl) (H.r 81 rfl) (by repeat (first | exact Take.here | apply Take.there)) (by rcases hM.src lenW with h | ⟨g, o, h1, h2⟩; (exact .inl h); exact .inr ⟨g, o, h1, H.extA h2 (by simp)⟩) (flatW_len _) (flat_one oneW men) (by omega) ?_; clear H; intro A82 c82 T w hc82 hA82 H
              refine GA.v (i := 6) (L' := #[true, true, true, true, false, true, true, false, false, false]) H rfl (wN rfl) rfl rfl rfl (by kernel_rfl) rfl (fun w H => x_load (H.r 84 rfl) Try.isAgg23 (by first | exact H.cell (by repeat (first | exact List.mem_cons_self | apply List.mem_cons_of_mem)) _ rfl | exact H.cellR (by repeat (first | exact List.mem_cons_self | apply List.mem_cons_of_mem)) _ rfl)) ?_; clear H; intro T H
              refine GA.one (i := 4) (L' := #[true, true, true, true, true, true, true, false, false, false]) (by kernel_rfl) rfl ?_
              refine StG.bs (m := 0) (C := ?l83_2) (e := ?e83_2) H rfl (wN rfl) rfl rfl rfl (x_bs0  ?r83_2) ?_
              case r83_2 => (simp [go_sem] <;> rfl)
              clear H; intro b83 T w H
              replace H := H.toRow (g := b83) (n := 0) (sz := 2) (e := 42) (by repeat (first | exact Take.here | apply Take.there)) rfl (by decide)
              refine GA.one (i := 7) (L' := #[true, true, true, true, true, true, true, true, false, false]) (by kernel_rfl) rfl ?_
              refine StG.appendP H rfl (wN rfl) rfl rfl rfl (Tn.etZ w0) (H.r 83 rfl) (H.r 85 rfl) (by repeat (first | exact Take.here | apply Take.there)) (by rcases hL.src Tn.lenZ with h | ⟨g, o, h1, h2⟩; (exact .inl h); exact .inr ⟨g, o, h1, H.extA h2 (by simp)⟩) (Tn.flatZ_len _) (flat_one Tn.oneZ list) (by omega) ?_; clear H; intro A86 c86 T w hc86 hA86 H
              refine GA.v (i := 8) (L' := #[true, true, true, true, true, true, true, true, true, false]) H rfl (wN rfl) rfl rfl rfl (by kernel_rfl) rfl (fun w H => x_assign (H.r 82 rfl)) ?_; clear H; intro T H
              refine GA.v (i := 9) (L' := #[true, true, true, true, true, true, true, true, true, true]) H rfl (wN rfl) rfl rfl rfl (by kernel_rfl) rfl (fun w H => x_assign (H.r 86 rfl)) ?_; clear H; intro T H
              refine GA.done (by kernel_rfl) ?_
              obtain ⟨g82, rfl⟩ := hA82 (by omega)
              simp only [Nat.zero_add, List.nil_append] at H
              exact J _ _ _ _ ⟨_, _, _, _, trivial, rfl, rfl⟩ (by simp only [List.cons_append, List.nil_append]; exact (H.pk (by repeat (first | exact Pk.nil | exact Pk.all | refine Pk.cons (by repeat (first | exact Take.here | apply Take.there)) ?_ | apply Pk.skip))).sub (by repeat' (first | exact trivial | refine And.intro rfl ?_)))
            · skip
              refine StG.bs (m := 0) (C := ?l83_3) (e := ?e83_3) H rfl (wN rfl) rfl rfl rfl (x_bs0  ?r83_3) ?_
              case r83_3 => (simp [go_sem] <;> rfl)
              clear H; intro b83 T w H
              replace H := H.toRow (g := b83) (n := 0) (sz := 2) (e := 42) (by repeat (first | exact Take.here | apply Take.there)) rfl (by decide)
              refine GA.two' (i := 3) (j := 6) (L' := #[true, true, true, true, true, true, false, false, false, false]) (L2 := #[true, true, true, false, true, true, true, false, false, false]) (by kernel_rfl) rfl rfl ?_ ?_
              · skip
                refine StG.appendP H rfl (wN rfl) rfl rfl rfl (etW w0) (H.r 79 rfl) (H.r 81 rfl) (by repeat (first | exact Take.here | apply Take.there)) (by rcases hM.src lenW with h | ⟨g, o, h1, h2⟩; (exact .inl h); exact .inr ⟨g, o, h1, H.extA h2 (by simp)⟩) (flatW_len _) (flat_one oneW men) (by omega) ?_; clear H; intro A82 c82 T w hc82 hA82 H
                refine GA.v (i := 6) (L' := #[true, true, true, true, true, true, true, false, false, false]) H rfl (wN rfl) rfl rfl rfl (by kernel_rfl) rfl (fun w H => x_load (H.r 84 rfl) Try.isAgg23 (by first | exact H.cell (by repeat (first | exact List.mem_cons_self | apply List.mem_cons_of_mem)) _ rfl | exact H.cellR (by repeat (first | exact List.mem_cons_self | apply List.mem_cons_of_mem)) _ rfl)) ?_; clear H; intro T H
                refine GA.one (i := 7) (L' := #[true, true, true, true, true, true, true, true, false, false]) (by kernel_rfl) rfl ?_
                refine StG.appendP H rfl (wN rfl) rfl rfl rfl (Tn.etZ w0) (H.r 83 rfl) (H.r 85 rfl) (by repeat (first | exact Take.here | apply Take.there)) (by rcases hL.src Tn.lenZ with h | ⟨g, o, h1, h2⟩; (exact .inl h); exact .inr ⟨g, o, h1, H.extA h2 (by simp)⟩) (Tn.flatZ_len _) (flat_one Tn.oneZ list) (by omega) ?_; clear H; intro A86 c86 T w hc86 hA86 H
                refine GA.v (i := 8) (L' := #[true, true, true, true, true, true, true, true, true, false]) H rfl (wN rfl) rfl rfl rfl (by kernel_rfl) rfl (fun w H => x_assign (H.r 82 rfl)) ?_; clear H; intro T H
                refine GA.v (i := 9) (L' := #[true, true, true, true, true, true, true, true, true, true]) H rfl (wN rfl) rfl rfl rfl (by kernel_rfl) rfl (fun w H => x_assign (H.r 86 rfl)) ?_; clear H; intro T H
                refine GA.done (by kernel_rfl) ?_
                obtain ⟨g82, rfl⟩ := hA82 (by omega)
                simp only [Nat.zero_add, List.nil_append] at H
                exact J _ _ _ _ ⟨_, _, _, _, trivial, rfl, rfl⟩ (by simp only [List.cons_append, List.nil_append]; exact (H.pk (by repeat (first | exact Pk.nil | exact Pk.all | refine Pk.cons (by repeat (first | exact Take.here | apply Take.there)) ?_ | apply Pk.skip))).sub (by repeat' (first | exact trivial | refine And.intro rfl ?_)))
              · skip
                refine StG.v H rfl (wN rfl) rfl rfl rfl (x_load (H.r 84 rfl) Try.isAgg23 (by first | exact H.cell (by repeat (first | exact List.mem_cons_self | apply List.mem_cons_of_mem)) _ rfl | exact H.cellR (by repeat (first | exact List.mem_cons_self | apply List.mem_cons_of_mem)) _ rfl)) ?_; clear H; intro T H
                refine GA.one (i := 3) (L' := #[true, true, true, true, true, true, true, false, false, false]) (by kernel_rfl) rfl ?_
                refine StG.appendP H rfl (wN rfl) rfl rfl rfl (etW w0) (H.r 79 rfl) (H.r 81 rfl) (by repeat (first | exact Take.here | apply Take.there)) (by rcases hM.src lenW with h | ⟨g, o, h1, h2⟩; (exact .inl h); exact .inr ⟨g, o, h1, H.extA h2 (by simp)⟩) (flatW_len _) (flat_one oneW men) (by omega) ?_; clear H; intro A82 c82 T w hc82 hA82 H
                refine GA.one (i := 7) (L' := #[true, true, true, true, true, true, true, true, false, false]) (by kernel_rfl) rfl ?_
                refine StG.appendP H rfl (wN rfl) rfl rfl rfl (Tn.etZ w0) (H.r 83 rfl) (H.r 85 rfl) (by repeat (first | exact Take.here | apply Take.there)) (by rcases hL.src Tn.lenZ with h | ⟨g, o, h1, h2⟩; (exact .inl h); exact .inr ⟨g, o, h1, H.extA h2 (by simp)⟩) (Tn.flatZ_len _) (flat_one Tn.oneZ list) (by omega) ?_; clear H; intro A86 c86 T w hc86 hA86 H
                refine GA.v (i := 8) (L' := #[true, true, true, true, true, true, true, true, true, false]) H rfl (wN rfl) rfl rfl rfl (by kernel_rfl) rfl (fun w H => x_assign (H.r 82 rfl)) ?_; clear H; intro T H
                refine GA.v (i := 9) (L' := #[true, true, true, true, true, true, true, true, true, true]) H rfl (wN rfl) rfl rfl rfl (by kernel_rfl) rfl (fun w H => x_assign (H.r 86 rfl)) ?_; clear H; intro T H
                refine GA.done (by kernel_rfl) ?_
                obtain ⟨g82, rfl⟩ := hA82 (by omega)
                simp only [Nat.zero_add, List.nil_append] at H
                exact J _ _ _ _ ⟨_, _, _, _, trivial, rfl, rfl⟩ (by simp only [List.cons_append, List.nil_append]; exact (H.pk (by repeat (first | exact Pk.nil | exact Pk.all | refine Pk.cons (by repeat (first | exact Take.here | apply Take.there)) ?_ | apply Pk.skip))).sub (by repeat' (first | exact trivial | refine And.intro rfl ?_)))
            · skip
              refine StG.v H rfl (wN rfl) rfl rfl rfl (x_load (H.r 84 rfl) Try.isAgg23 (by first | exact H.cell (by repeat (first | exact List.mem_cons_self | apply List.mem_cons_of_mem)) _ rfl | exact H.cellR (by repeat (first | exact List.mem_cons_self | apply List.mem_cons_of_mem)) _ rfl)) ?_; clear H; intro T H
              refine GA.two' (i := 3) (j := 4) (L' := #[true, true, true, true, false, true, true, false, false, false]) (L2 := #[true, true, true, false, true, true, true, false, false, false]) (by kernel_rfl) rfl rfl ?_ ?_
              · skip
                refine StG.appendP H rfl (wN rfl) rfl rfl rfl (etW w0) (H.r 79 rfl) (H.r 81 rfl) (by repeat (first | exact Take.here | apply Take.there)) (by rcases hM.src lenW with h | ⟨g, o, h1, h2⟩; (exact .inl h); exact .inr ⟨g, o, h1, H.extA h2 (by simp)⟩) (flatW_len _) (flat_one oneW men) (by omega) ?_; clear H; intro A82 c82 T w hc82 hA82 H
                refine GA.one (i := 4) (L' := #[true, true, true, true, true, true, true, false, false, false]) (by kernel_rfl) rfl ?_
                refine StG.bs (m := 0) (C := ?l83_4) (e := ?e83_4) H rfl (wN rfl) rfl rfl rfl (x_bs0  ?r83_4) ?_
                case r83_4 => (simp [go_sem] <;> rfl)
                clear H; intro b83 T w H
                replace H := H.toRow (g := b83) (n := 0) (sz := 2) (e := 42) (by repeat (first | exact Take.here | apply Take.there)) rfl (by decide)
                refine GA.one (i := 7) (L' := #[true, true, true, true, true, true, true, true, false, false]) (by kernel_rfl) rfl ?_
                refine StG.appendP H rfl (wN rfl) rfl rfl rfl (Tn.etZ w0) (H.r 83 rfl) (H.r 85 rfl) (by repeat (first | exact Take.here | apply Take.there)) (by rcases hL.src Tn.lenZ with h | ⟨g, o, h1, h2⟩; (exact .inl h); exact .inr ⟨g, o, h1, H.extA h2 (by simp)⟩) (Tn.flatZ_len _) (flat_one Tn.oneZ list) (by omega) ?_; clear H; intro A86 c86 T w hc86 hA86 H
                refine GA.v (i := 8) (L' := #[true, true, true, true, true, true, true, true, true, false]) H rfl (wN rfl) rfl rfl rfl (by kernel_rfl) rfl (fun w H => x_assign (H.r 82 rfl)) ?_; clear H; intro T H
                refine GA.v (i := 9) (L' := #[true, true, true, true, true, true, true, true, true, true]) H rfl (wN rfl) rfl rfl rfl (by kernel_rfl) rfl (fun w H => x_assign (H.r 86 rfl)) ?_; clear H; intro T H
                refine GA.done (by kernel_rfl) ?_
                obtain ⟨g82, rfl⟩ := hA82 (by omega)
                simp only [Nat.zero_add, List.nil_append] at H
                exact J _ _ _ _ ⟨_, _, _, _, trivial, rfl, rfl⟩ (by simp only [List.cons_append, List.nil_append]; exact (H.pk (by repeat (first | exact Pk.nil | exact Pk.all | refine Pk.cons (by repeat (first | exact Take.here | apply Take.there)) ?_ | apply Pk.skip))).sub (by repeat' (first | exact trivial | refine And.intro rfl ?_)))
              · skip
                refine StG.bs (m := 0) (C := ?l83_5) (e := ?e83_5) H rfl (wN rfl) rfl rfl rfl (x_bs0  ?r83_5) ?_
                case r83_5 => (simp [go_sem] <;> rfl)
                clear H; intro b83 T w H
                replace H := H.toRow (g := b83) (n := 0) (sz := 2) (e := 42) (by repeat (first | exact Take.here | apply Take.there)) rfl (by decide)
                refine GA.one (i := 3) (L' := #[true, true, true, true, true, true, true, false, false, false]) (by kernel_rfl) rfl ?_
                refine StG.appendP H rfl (wN rfl) rfl rfl rfl (etW w0) (H.r 79 rfl) (H.r 81 rfl) (by repeat (first | exact Take.here | apply Take.there)) (by rcases hM.src lenW with h | ⟨g, o, h1, h2⟩; (exact .inl h); exact .inr ⟨g, o, h1, H.extA h2 (by simp)⟩) (flatW_len _) (flat_one oneW men) (by omega) ?_; clear H; intro A82 c82 T w hc82 hA82 H
                refine GA.one (i := 7) (L' := #[true, true, true, true, true, true, true, true, false, false]) (by kernel_rfl) rfl ?_
                refine StG.appendP H rfl (wN rfl) rfl rfl rfl (Tn.etZ w0) (H.r 83 rfl) (H.r 85 rfl) (by repeat (first | exact Take.here | apply Take.there)) (by rcases hL.src Tn.lenZ with h | ⟨g, o, h1, h2⟩; (exact .inl h); exact .inr ⟨g, o, h1, H.extA h2 (by simp)⟩) (Tn.flatZ_len _) (flat_one Tn.oneZ list) (by omega) ?_; clear H; intro A86 c86 T w hc86 hA86 H
                refine GA.v (i := 8) (L' := #[true, true, true, true, true, true, true, true, true, false]) H rfl (wN rfl) rfl rfl rfl (by kernel_rfl) rfl (fun w H => x_assign (H.r 82 rfl)) ?_; clear H; intro T H
                refine GA.v (i := 9) (L' := #[true, true, true, true, true, true, true, true, true, true]) H rfl (wN rfl) rfl rfl rfl (by kernel_rfl) rfl (fun w H => x_assign (H.r 86 rfl)) ?_; clear H; intro T H
                refine GA.done (by kernel_rfl) ?_
                obtain ⟨g82, rfl⟩ := hA82 (by omega)
                simp only [Nat.zero_add, List.nil_append] at H
                exact J _ _ _ _ ⟨_, _, _, _, trivial, rfl, rfl⟩ (by simp only [List.cons_append, List.nil_append]; exact (H.pk (by repeat (first | exact Pk.nil | exact Pk.all | refine Pk.cons (by repeat (first | exact Take.here | apply Take.there)) ?_ | apply Pk.skip))).sub (by repeat' (first | exact trivial | refine And.intro rfl ?_)))
          · skip
            refine StG.bs (m := 0) (C := ?l83_6) (e := ?e83_6) H rfl (wN rfl) rfl rfl rfl (x_bs0  ?r83_6) ?_
            case r83_6 => (simp [go_sem] <;> rfl)
            clear H; intro b83 T w H
            replace H := H.toRow (g := b83) (n := 0) (sz := 2) (e := 42) (by repeat (first | exact Take.here | apply Take.there)) rfl (by decide)
            refine GA.two' (i := 0) (j := 6) (L' := #[true, true, true, false, true, true, false, false, false, false]) (L2 := #[false, true, true, false, true, true, true, false, false, false]) (by kernel_rfl) rfl rfl ?_ ?_
            · skip
              refine StG.bs (m := 0) (C := ?l79_7) (e := ?e79_7) H rfl (wN rfl) rfl rfl rfl (x_bs0  ?r79_7) ?_
              case r79_7 => (simp [go_sem] <;> rfl)
              clear H; intro b79 T w H
              replace H := H.toRow (g := b79) (n := 0) (sz := 4) (e := 59) (by repeat (first | exact Take.here | apply Take.there)) rfl (by decide)
              refine GA.two' (i := 3) (j := 6) (L' := #[true, true, true, true, true, true, false, false, false, false]) (L2 := #[true, true, true, false, true, true, true, false, false, false]) (by kernel_rfl) rfl rfl ?_ ?_
              · skip
                refine StG.appendP H rfl (wN rfl) rfl rfl rfl (etW w0) (H.r 79 rfl) (H.r 81 rfl) (by repeat (first | exact Take.here | apply Take.there)) (by rcases hM.src lenW with h | ⟨g, o, h1, h2⟩; (exact .inl h); exact .inr ⟨g, o, h1, H.extA h2 (by simp)⟩) (flatW_len _) (flat_one oneW men) (by omega) ?_; clear H; intro A82 c82 T w hc82 hA82 H
                refine GA.v (i := 6) (L' := #[true, true, true, true, true, true, true, false, false, false]) H rfl (wN rfl) rfl rfl rfl (by kernel_rfl) rfl (fun w H => x_load (H.r 84 rfl) Try.isAgg23 (by first | exact H.cell (by repeat (first | exact List.mem_cons_self | apply List.mem_cons_of_mem)) _ rfl | exact H.cellR (by repeat (first | exact List.mem_cons_self | apply List.mem_cons_of_mem)) _ rfl)) ?_; clear H; intro T H
                refine GA.one (i := 7) (L' := #[true, true, true, true, true, true, true, true, false, false]) (by kernel_rfl) rfl ?_
                refine StG.appendP H rfl (wN rfl) rfl rfl rfl (Tn.etZ w0) (H.r 83 rfl) (H.r 85 rfl) (by repeat (first | exact Take.here | apply Take.there)) (by rcases hL.src Tn.lenZ with h | ⟨g, o, h1, h2⟩; (exact .inl h); exact .inr ⟨g, o, h1, H.extA h2 (by simp)⟩) (Tn.flatZ_len _) (flat_one Tn.oneZ list) (by omega) ?_; clear H; intro A86 c86 T w hc86 hA86 H
                refine GA.v (i := 8) (L' := #[true, true, true, true, true, true, true, true, true, false]) H rfl (wN rfl) rfl rfl rfl (by kernel_rfl) rfl (fun w H => x_assign (H.r 82 rfl)) ?_; clear H; intro T H
                refine GA.v (i := 9) (L' := #[true, true, true, true, true, true, true, true, true, true]) H rfl (wN rfl) rfl rfl rfl (by kernel_rfl) rfl (fun w H => x_assign (H.r 86 rfl)) ?_; clear H; intro T H
                refine GA.done (by kernel_rfl) ?_
                obtain ⟨g82, rfl⟩ := hA82 (by omega)
                simp only [Nat.zero_add, List.nil_append] at H
                exact J _ _ _ _ ⟨_, _, _, _, trivial, rfl, rfl⟩ (by simp only [List.cons_append, List.nil_append]; exact (H.pk (by repeat (first | exact Pk.nil | exact Pk.all | refine Pk.cons (by repeat (first | exact Take.here | apply Take.there)) ?_ | apply Pk.skip))).sub (by repeat' (first | exact trivial | refine And.intro rfl ?_)))
              · skip
                refine StG.v H rfl (wN rfl) rfl rfl rfl (x_load (H.r 84 rfl) Try.isAgg23 (by first | exact H.cell (by repeat (first | exact List.mem_cons_self | apply List.mem_cons_of_mem)) _ rfl | exact H.cellR (by repeat (first | exact List.mem_cons_self | apply List.mem_cons_of_mem)) _ rfl)) ?_; clear H; intro T H
                refine GA.one (i := 3) (L' := #[true, true, true, true, true, true, true, false, false, false]) (by kernel_rfl) rfl ?_
                refine StG.appendP H rfl (wN rfl) rfl rfl rfl (etW w0) (H.r 79 rfl) (H.r 81 rfl) (by repeat (first | exact Take.here | apply Take.there)) (by rcases hM.src lenW with h | ⟨g, o, h1, h2⟩; (exact .inl h); exact .inr ⟨g, o, h1, H.extA h2 (by simp)⟩) (flatW_len _) (flat_one oneW men) (by omega) ?_; clear H; intro A82 c82 T w hc82 hA82 H
                refine GA.one (i := 7) (L' := #[true, true, true, true, true, true, true, true, false, false]) (by kernel_rfl) rfl ?_
                refine StG.appendP H rfl (wN rfl) rfl rfl rfl (Tn.etZ w0) (H.r 83 rfl) (H.r 85 rfl) (by repeat (first | exact Take.here | apply Take.there)) (by rcases hL.src Tn.lenZ with h | ⟨g, o, h1, h2⟩; (exact .inl h); exact .inr ⟨g, o, h1, H.extA h2 (by simp)⟩) (Tn.flatZ_len _) (flat_one Tn.oneZ list) (by omega) ?_; clear H; intro A86 c86 T w hc86 hA86 H
                refine GA.v (i := 8) (L' := #[true, true, true, true, true, true, true, true, true, false]) H rfl (wN rfl) rfl rfl rfl (by kernel_rfl) rfl (fun w H => x_assign (H.r 82 rfl)) ?_; clear H; intro T H
                refine GA.v (i := 9) (L' := #[true, true, true, true, true, true, true, true, true, true]) H rfl (wN rfl) rfl rfl rfl (by kernel_rfl) rfl (fun w H => x_assign (H.r 86 rfl)) ?_; clear H; intro T H
                refine GA.done (by kernel_rfl) ?_
                obtain ⟨g82, rfl⟩ := hA82 (by omega)
                simp only [Nat.zero_add, List.nil_append] at H
                exact J _ _ _ _ ⟨_, _, _, _, trivial, rfl, rfl⟩ (by simp only [List.cons_append, List.nil_append]; exact (H.pk (by repeat (first | exact Pk.nil | exact Pk.all | refine Pk.cons (by repeat (first | exact Take.here | apply Take.there)) ?_ | apply Pk.skip))).sub (by repeat' (first | exact trivial | refine And.intro rfl ?_)))
            · skip
              refine StG.v H rfl (wN rfl) rfl rfl rfl (x_load (H.r 84 rfl) Try.isAgg23 (by first | exact H.cell (by repeat (first | exact List.mem_cons_self | apply List.mem_cons_of_mem)) _ rfl | exact H.cellR (by repeat (first | exact List.mem_cons_self | apply List.mem_cons_of_mem)) _ rfl)) ?_; clear H; intro T H
              refine GA.one (i := 0) (L' := #[true, true, true, false, true, true, true, false, false, false]) (by kernel_rfl) rfl ?_
              refine StG.bs (m := 0) (C := ?l79_8) (e := ?e79_8) H rfl (wN rfl) rfl rfl rfl (x_bs0  ?r79_8) ?_
              case r79_8 => (simp [go_sem] <;> rfl)
              clear H; intro b79 T w H
              replace H := H.toRow (g := b79) (n := 0) (sz := 4) (e := 59) (by repeat (first | exact Take.here | apply Take.there)) rfl (by decide)
              refine GA.one (i := 3) (L' := #[true, true, true, true, true, true, true, false, false, false]) (by kernel_rfl) rfl ?_
              refine StG.appendP H rfl (wN rfl) rfl rfl rfl (etW w0) (H.r 79 rfl) (H.r 81 rfl) (by repeat (first | exact Take.here | apply Take.there)) (by rcases hM.src lenW with h | ⟨g, o, h1, h2⟩; (exact .inl h); exact .inr ⟨g, o, h1, H.extA h2 (by simp)⟩) (flatW_len _) (flat_one oneW men) (by omega) ?_; clear H; intro A82 c82 T w hc82 hA82 H
              refine GA.one (i := 7) (L' := #[true, true, true, true, true, true, true, true, false, false]) (by kernel_rfl) rfl ?_
              refine StG.appendP H rfl (wN rfl) rfl rfl rfl (Tn.etZ w0) (H.r 83 rfl) (H.r 85 rfl) (by repeat (first | exact Take.here | apply Take.there)) (by rcases hL.src Tn.lenZ with h | ⟨g, o, h1, h2⟩; (exact .inl h); exact .inr ⟨g, o, h1, H.extA h2 (by simp)⟩) (Tn.flatZ_len _) (flat_one Tn.oneZ list) (by omega) ?_; clear H; intro A86 c86 T w hc86 hA86 H
              refine GA.v (i := 8) (L' := #[true, true, true, true, true, true, true, true, true, false]) H rfl (wN rfl) rfl rfl rfl (by kernel_rfl) rfl (fun w H => x_assign (H.r 82 rfl)) ?_; clear H; intro T H
              refine GA.v (i := 9) (L' := #[true, true, true, true, true, true, true, true, true, true]) H rfl (wN rfl) rfl rfl rfl (by kernel_rfl) rfl (fun w H => x_assign (H.r 86 rfl)) ?_; clear H; intro T H
              refine GA.done (by kernel_rfl) ?_
              obtain ⟨g82, rfl⟩ := hA82 (by omega)
              simp only [Nat.zero_add, List.nil_append] at H
              exact J _ _ _ _ ⟨_, _, _, _, trivial, rfl, rfl⟩ (by simp only [List.cons_append, List.nil_append]; exact (H.pk (by repeat (first | exact Pk.nil | exact Pk.all | refine Pk.cons (by repeat (first | exact Take.here | apply Take.there)) ?_ | apply Pk.skip))).sub (by repeat' (first | exact trivial | refine And.intro rfl ?_)))
          · skip
            refine StG.v H rfl (wN rfl) rfl rfl rfl (x_load (H.r 84 rfl) Try.isAgg23 (by first | exact H.cell (by repeat (first | exact List.mem_cons_self | apply List.mem_cons_of_mem)) _ rfl | exact H.cellR (by repeat (first | exact List.mem_cons_self | apply List.mem_cons_of_mem)) _ rfl)) ?_; clear H; intro T H
            refine GA.two' (i := 0) (j := 4) (L' := #[true, true, true, false, false, true, true, false, false, false]) (L2 := #[false, true, true, false, true, true, true, false, false, false]) (by kernel_rfl) rfl rfl ?_ ?_
            · skip
              refine StG.bs (m := 0) (C := ?l79_9) (e := ?e79_9) H rfl (wN rfl) rfl rfl rfl (x_bs0  ?r79_9) ?_
              case r79_9 => (simp [go_sem] <;> rfl)
              clear H; intro b79 T w H
              replace H := H.toRow (g := b79) (n := 0) (sz := 4) (e := 59) (by repeat (first | exact Take.here | apply Take.there)) rfl (by decide)
              refine GA.two' (i := 3) (j := 4) (L' := #[true, true, true, true, false, true, true, false, false, false]) (L2 := #[true, true, true, false, true, true, true, false, false, false]) (by kernel_rfl) rfl rfl ?_ ?_
              · skip
                refine StG.appendP H rfl (wN rfl) rfl rfl rfl (etW w0) (H.r 79 rfl) (H.r 81 rfl) (by repeat (first | exact Take.here | apply Take.there)) (by rcases hM.src lenW with h | ⟨g, o, h1, h2⟩; (exact .inl h); exact .inr ⟨g, o, h1, H.extA h2 (by simp)⟩) (flatW_len _) (flat_one oneW men) (by omega) ?_; clear H; intro A82 c82 T w hc82 hA82 H
                refine GA.one (i := 4) (L' := #[true, true, true, true, true, true, true, false, false, false]) (by kernel_rfl) rfl ?_
                refine StG.bs (m := 0) (C := ?l83_10) (e := ?e83_10) H rfl (wN rfl) rfl rfl rfl (x_bs0  ?r83_10) ?_
                case r83_10 => (simp [go_sem] <;> rfl)
                clear H; intro b83 T w H
                replace H := H.toRow (g := b83) (n := 0) (sz := 2) (e := 42) (by repeat (first | exact Take.here | apply Take.there)) rfl (by decide)
                refine GA.one (i := 7) (L' := #[true, true, true, true, true, true, true, true, false, false]) (by kernel_rfl) rfl ?_
                refine StG.appendP H rfl (wN rfl) rfl rfl rfl (Tn.etZ w0) (H.r 83 rfl) (H.r 85 rfl) (by repeat (first | exact Take.here | apply Take.there)) (by rcases hL.src Tn.lenZ with h | ⟨g, o, h1, h2⟩; (exact .inl h); exact .inr ⟨g, o, h1, H.extA h2 (by simp)⟩) (Tn.flatZ_len _) (flat_one Tn.oneZ list) (by omega) ?_; clear H; intro A86 c86 T w hc86 hA86 H
                refine GA.v (i := 8) (L' := #[true, true, true, true, true, true, true, true, true, false]) H rfl (wN rfl) rfl rfl rfl (by kernel_rfl) rfl (fun w H => x_assign (H.r 82 rfl)) ?_; clear H; intro T H
                refine GA.v (i := 9) (L' := #[true, true, true, true, true, true, true, true, true, true]) H rfl (wN rfl) rfl rfl rfl (by kernel_rfl) rfl (fun w H => x_assign (H.r 86 rfl)) ?_; clear H; intro T H
                refine GA.done (by kernel_rfl) ?_
                obtain ⟨g82, rfl⟩ := hA82 (by omega)
                simp only [Nat.zero_add, List.nil_append] at H
                exact J _ _ _ _ ⟨_, _, _, _, trivial, rfl, rfl⟩ (by simp only [List.cons_append, List.nil_append]; exact (H.pk (by repeat (first | exact Pk.nil | exact Pk.all | refine Pk.cons (by repeat (first | exact Take.here | apply Take.there)) ?_ | apply Pk.skip))).sub (by repeat' (first | exact trivial | refine And.intro rfl ?_)))
              · skip
                refine StG.bs (m := 0) (C := ?l83_11) (e := ?e83_11) H rfl (wN rfl) rfl rfl rfl (x_bs0  ?r83_11) ?_
                case r83_11 => (simp [go_sem] <;> rfl)
                clear H; intro b83 T w H
                replace H := H.toRow (g := b83) (n := 0) (sz := 2) (e := 42) (by repeat (first | exact Take.here | apply Take.there)) rfl (by decide)
                refine GA.one (i := 3) (L' := #[true, true, true, true, true, true, true, false, false, false]) (by kernel_rfl) rfl ?_
                refine StG.appendP H rfl (wN rfl) rfl rfl rfl (etW w0) (H.r 79 rfl) (H.r 81 rfl) (by repeat (first | exact Take.here | apply Take.there)) (by rcases hM.src lenW with h | ⟨g, o, h1, h2⟩; (exact .inl h); exact .inr ⟨g, o, h1, H.extA h2 (by simp)⟩) (flatW_len _) (flat_one oneW men) (by omega) ?_; clear H; intro A82 c82 T w hc82 hA82 H
                refine GA.one (i := 7) (L' := #[true, true, true, true, true, true, true, true, false, false]) (by kernel_rfl) rfl ?_
                refine StG.appendP H rfl (wN rfl) rfl rfl rfl (Tn.etZ w0) (H.r 83 rfl) (H.r 85 rfl) (by repeat (first | exact Take.here | apply Take.there)) (by rcases hL.src Tn.lenZ with h | ⟨g, o, h1, h2⟩; (exact .inl h); exact .inr ⟨g, o, h1, H.extA h2 (by simp)⟩) (Tn.flatZ_len _) (flat_one Tn.oneZ list) (by omega) ?_; clear H; intro A86 c86 T w hc86 hA86 H
                refine GA.v (i := 8) (L' := #[true, true, true, true, true, true, true, true, true, false]) H rfl (wN rfl) rfl rfl rfl (by kernel_rfl) rfl (fun w H => x_assign (H.r 82 rfl)) ?_; clear H; intro T H
                refine GA.v (i := 9) (L' := #[true, true, true, true, true, true, true, true, true, true]) H rfl (wN rfl) rfl rfl rfl (by kernel_rfl) rfl (fun w H => x_assign (H.r 86 rfl)) ?_; clear H; intro T H
                refine GA.done (by kernel_rfl) ?_
                obtain ⟨g82, rfl⟩ := hA82 (by omega)
                simp only [Nat.zero_add, List.nil_append] at H
                exact J _ _ _ _ ⟨_, _, _, _, trivial, rfl, rfl⟩ (by simp only [List.cons_append, List.nil_append]; exact (H.pk (by repeat (first | exact Pk.nil | exact Pk.all | refine Pk.cons (by repeat (first | exact Take.here | apply Take.there)) ?_ | apply Pk.skip))).sub (by repeat' (first | exact trivial | refine And.intro rfl ?_)))
            · skip
              refine StG.bs (m := 0) (C := ?l83_12) (e := ?e83_12) H rfl (wN rfl) rfl rfl rfl (x_bs0  ?r83_12) ?_
              case r83_12 => (simp [go_sem] <;> rfl)
              clear H; intro b83 T w H
              replace H := H.toRow (g := b83) (n := 0) (sz := 2) (e := 42) (by repeat (first | exact Take.here | apply Take.there)) rfl (by decide)
              refine GA.one (i := 0) (L' := #[true, true, true, false, true, true, true, false, false, false]) (by kernel_rfl) rfl ?_
              refine StG.bs (m := 0) (C := ?l79_13) (e := ?e79_13) H rfl (wN rfl) rfl rfl rfl (x_bs0  ?r79_13) ?_
              case r79_13 => (simp [go_sem] <;> rfl)
              clear H; intro b79 T w H
              replace H := H.toRow (g := b79) (n := 0) (sz := 4) (e := 59) (by repeat (first | exact Take.here | apply Take.there)) rfl (by decide)
              refine GA.one (i := 3) (L' := #[true, true, true, true, true, true, true, false, false, false]) (by kernel_rfl) rfl ?_
              refine StG.appendP H rfl (wN rfl) rfl rfl rfl (etW w0) (H.r 79 rfl) (H.r 81 rfl) (by repeat (first | exact Take.here | apply Take.there)) (by rcases hM.src lenW with h | ⟨g, o, h1, h2⟩; (exact .inl h); exact .inr ⟨g, o, h1, H.extA h2 (by simp)⟩) (flatW_len _) (flat_one oneW men) (by omega) ?_; clear H; intro A82 c82 T w hc82 hA82 H
              refine GA.one (i := 7) (L' := #[true, true, true, true, true, true, true, true, false, false]) (by kernel_rfl) rfl ?_
              refine StG.appendP H rfl (wN rfl) rfl rfl rfl (Tn.etZ w0) (H.r 83 rfl) (H.r 85 rfl) (by repeat (first | exact Take.here | apply Take.there)) (by rcases hL.src Tn.lenZ with h | ⟨g, o, h1, h2⟩; (exact .inl h); exact .inr ⟨g, o, h1, H.extA h2 (by simp)⟩) (Tn.flatZ_len _) (flat_one Tn.oneZ list) (by omega) ?_; clear H; intro A86 c86 T w hc86 hA86 H
              refine GA.v (i := 8) (L' := #[true, true, true, true, true, true, true, true, true, false]) H rfl (wN rfl) rfl rfl rfl (by kernel_rfl) rfl (fun w H => x_assign (H.r 82 rfl)) ?_; clear H; intro T H
              refine GA.v (i := 9) (L' := #[true, true, true, true, true, true, true, true, true, true]) H rfl (wN rfl) rfl rfl rfl (by kernel_rfl) rfl (fun w H => x_assign (H.r 86 rfl)) ?_; clear H; intro T H
              refine GA.done (by kernel_rfl) ?_
              obtain ⟨g82, rfl⟩ := hA82 (by omega)
              simp only [Nat.zero_add, List.nil_append] at H
              exact J _ _ _ _ ⟨_, _, _, _, trivial, rfl, rfl⟩ (by simp only [List.cons_append, List.nil_append]; exact (H.pk (by repeat (first | exact Pk.nil | exact Pk.all | refine Pk.cons (by repeat (first | exact Take.here | apply Take.there)) ?_ | apply Pk.skip))).sub (by repeat' (first | exact trivial | refine And.intro rfl ?_)))
        · clear H
          rintro _ _ T w ⟨gm, cm, Al, cl, _, rfl, rfl⟩ H
          simp only [List.cons_append, List.nil_append] at H
          refine At.seq ?_
          refine At.region' (l := [0, 1, 2, 3, 4, 5, 6]) rfl ?_
          refine At.v H rfl (wN rfl) rfl rfl rfl (x_loadA (H.r 3 rfl) Try.isAgg25 Try.sizeOf25 (H.cellsAt (n := 2) (by repeat (first | exact List.mem_cons_self | apply List.mem_cons_of_mem)) rfl) rfl) ?_; clear H; intro T H
          refine At.fG H rfl (wN rfl) rfl rfl rfl (args1 (H.r 88 rfl)) Try.call13 (Due (hM.fr0 H.fr) (hL.fr0 H.fr) hv) ?_; clear H; rintro v89 E89 T w ⟨A89, c89, rfl, rfl⟩ _ H
          refine At.v H rfl (wN rfl) rfl rfl rfl (x_move (H.r 89 rfl)) ?_; clear H; intro T H
          refine At.v H rfl (wN rfl) rfl rfl rfl (x_extract (H.r 87 rfl) rfl) ?_; clear H; intro T H
          refine At.v H rfl (wN rfl) rfl rfl rfl (x_extract (H.r 87 rfl) rfl) ?_; clear H; intro T H
          refine At.v H rfl (wN rfl) rfl rfl rfl (x_assign (H.r 90 rfl)) ?_; clear H; intro T H
          refine At.v H rfl (wN rfl) rfl rfl rfl (x_assign (H.r 91 rfl)) ?_; clear H; intro T H
          refine At.regionEnd ?_
          refine At.seq ?_
          refine At.region' (l := [0, 1, 2, 3, 4, 5, 6]) rfl ?_
          refine At.v H rfl (wN rfl) rfl rfl rfl (x_loadA (H.r 9 rfl) Try.isAgg25 Try.sizeOf25 (H.cellsAt (n := 2) (by repeat (first | exact List.mem_cons_self | apply List.mem_cons_of_mem)) rfl) rfl) ?_; clear H; intro T H
          refine At.fG H rfl (wN rfl) rfl rfl rfl (args1 (H.r 93 rfl)) Try.call13 (Tn.Due htl (H.rowP (enc := encW) (g := g61) (by repeat (first | exact List.mem_cons_self | apply List.mem_cons_of_mem)) (fun _ => rfl) htl.symm rfl) (hL.fr0 H.fr) hvt) ?_; clear H; rintro v94 E94 T w ⟨A94, c94, rfl, rfl⟩ _ H
          refine At.v H rfl (wN rfl) rfl rfl rfl (x_move (H.r 94 rfl)) ?_; clear H; intro T H
          refine At.v H rfl (wN rfl) rfl rfl rfl (x_extract (H.r 92 rfl) rfl) ?_; clear H; intro T H
          refine At.v H rfl (wN rfl) rfl rfl rfl (x_extract (H.r 92 rfl) rfl) ?_; clear H; intro T H
          refine At.v H rfl (wN rfl) rfl rfl rfl (x_assign (H.r 95 rfl)) ?_; clear H; intro T H
          refine At.v H rfl (wN rfl) rfl rfl rfl (x_assign (H.r 96 rfl)) ?_; clear H; intro T H
          refine At.regionEnd ?_
          refine At.seq ?_
          refine At.seq ?_
          refine At.region' (l := [0, 1, 2, 3, 4, 5, 6, 7, 8, 9]) rfl ?_
          refine At.v H rfl (wN rfl) rfl rfl rfl (x_move (H.r 15 rfl)) ?_; clear H; intro T H
          refine At.v H rfl (wN rfl) rfl rfl rfl (x_move (H.r 17 rfl)) ?_; clear H; intro T H
          refine At.v (v := .bool false) H rfl (wN rfl) rfl rfl rfl (x_neq (H.r 97 rfl) (H.r 98 rfl)) ?_; clear H; intro T H
          refine At.v H rfl (wN rfl) rfl rfl rfl (x_move (H.r 99 rfl)) ?_; clear H; intro T H
          refine At.v H rfl (wS H rfl rfl rfl) rfl rfl rfl (x_move (H.r 14 rfl)) ?_; clear H; intro T H
          refine At.v H rfl (wS H rfl rfl rfl) rfl rfl rfl (x_len (H.r 101 rfl) Try.runUnderlying30) ?_; clear H; intro T H
          refine At.v H rfl (wS H rfl rfl rfl) rfl rfl rfl (x_move (H.r 16 rfl)) ?_; clear H; intro T H
          refine At.v H rfl (wS H rfl rfl rfl) rfl rfl rfl (x_len (H.r 103 rfl) Try.runUnderlying30) ?_; clear H; intro T H
          refine At.v (v := .bool false) H rfl (wS H rfl rfl rfl) rfl rfl rfl ((x_neq (H.r 102 rfl) (H.r 104 rfl)).trans (by rw [decide_eq_false (fun h => h rfl)])) ?_; clear H; intro T H
          refine At.v H rfl (wN rfl) rfl rfl rfl (x_pickF (H.r 100 rfl) (H.r 105 rfl)) ?_; clear H; intro T H
          refine At.regionEnd ?_
          refine At.condF (H.r 106 rfl) ?_
          refine At.skip ?_
          refine At.seq ?_
          refine At.seq ?_
          refine At.region' (l := [0, 1, 2]) rfl ?_
          refine At.v H rfl (wN rfl) rfl rfl rfl (x_move (H.r 14 rfl)) ?_; clear H; intro T H
          refine At.v H rfl (wN rfl) rfl rfl rfl (x_len (H.r 107 rfl) Try.runUnderlying30) ?_; clear H; intro T H
          refine At.v H rfl (wN rfl) rfl rfl rfl (x_move evC) ?_; clear H; intro T H
          refine At.regionEnd ?_
          refine At.block ?_
          replace H := ((H.fore PkS.nil).sub (R' := [(109, _)] ++ [(2, _), (3, _), (7, _), (8, _), (9, _), (12, _), (13, _), (14, _), (16, _), (107, _), (108, _)]) (by repeat' (first | exact trivial | refine And.intro rfl ?_)))
          refine At.loopF H (fun μ R1 G1 => ∃ k : Nat, μ = list.length - k ∧ (k ≤ list.length) ∧ R1 = [(109, .int .i64 (k : Int))] ∧ G1 = []) (list.length) ⟨0, by first | rfl | omega, by first | trivial | omega | exact ⟨by omega, by omega⟩, rfl, rfl⟩ ?_
          clear H; rintro _ _ _ T w ⟨k, rfl, hP1, rfl, rfl⟩ H hnext1
          simp only [List.cons_append, List.nil_append] at H
          refine At.seq ?_
          refine At.region' (l := [0]) rfl ?_
          refine At.c H rfl (wN rfl) rfl rfl rfl (x_lss (H.r 109 rfl) (H.r 108 rfl)) ?_ ?_
          · clear H; intro h110 T H
            have hk1 : k < list.length := by omega
            obtain ⟨o, ho⟩ := get_ex (l := (dueL men list)) (k := k) (by rw [dueL_len]; exact hk1)
            have hot : (dueL tm list)[k]? = some (o.map (turnP men.length turn)) := by rw [hdu, List.getElem?_map, ho]; rfl
            obtain ⟨g89, rfl⟩ := H.rowAddr (A := A89) (by repeat (first | exact List.mem_cons_self | apply List.mem_cons_of_mem)) (by omega)
            obtain ⟨g94, rfl⟩ := H.rowAddr (A := A94) (by repeat (first | exact List.mem_cons_self | apply List.mem_cons_of_mem)) (by omega)
            refine At.regionEnd ?_
            refine At.seq ?_
            refine At.condT (H.r 110 rfl) ?_
            refine At.skip ?_
            refine At.seq ?_
            refine At.block ?_
            refine At.seq ?_
            refine At.region' (l := [0, 1, 2, 3, 4]) rfl ?_
            refine At.v H rfl (wN rfl) rfl rfl rfl (x_move (H.r 109 rfl)) ?_; clear H; intro T H
            refine At.v H rfl (wN rfl) rfl rfl rfl (x_ixSN (H.r 107 rfl) (H.r 109 rfl) Try.runUnderlying30 Try.sizeOf3 (by omega)) ?_; clear H; intro T H
            refine At.v H rfl (wN rfl) rfl rfl rfl (x_load (H.r 112 rfl) Try.isAgg3 (by rw [show 0 + k * 1 = k by omega]; exact H.rowCell (g := g89) (by repeat (first | exact List.mem_cons_self | apply List.mem_cons_of_mem)) k (flatO_at ho))) ?_; clear H; intro T H
            refine At.v H rfl (wN rfl) rfl rfl rfl (x_assign (H.r 111 rfl)) ?_; clear H; intro T H
            refine At.v H rfl (wN rfl) rfl rfl rfl (x_assign (H.r 113 rfl)) ?_; clear H; intro T H
            refine At.regionEnd ?_
            refine At.seq ?_
            refine At.drawnC (m := 24) (L := #[false, false, false, false, false, false, false, false, false, false, false, false, false, false, false, false, false, false, false, false, false, false, false, false]) H mixed rfl rfl ?_; clear H; intro w H
            refine GA.v (i := 0) (L' := #[true, false, false, false, false, false, false, false, false, false, false, false, false, false, false, false, false, false, false, false, false, false, false, false]) H rfl (wN rfl) rfl rfl rfl (by kernel_rfl) rfl (fun w H => x_move (H.r 19 rfl)) ?_; clear H; intro T H
            refine GA.c (i := 1) (L' := #[true, true, false, false, false, false, false, false, false, false, false, false, false, false, false, false, false, false, false, false, false, false, false, false]) H rfl (wN rfl) rfl rfl rfl (by kernel_rfl) rfl (fun w H => x_lss (H.r 114 rfl) evC) ?_ ?_
            · clear H; intro h115 T H
              have ho0 : o = none := by
                cases o with
                | none => rfl
                | some m => exact absurd h115 (by simp only [orNone]; omega)
              subst ho0
              refine GA.v (i := 2) (L' := #[true, true, true, false, false, false, false, false, false, false, false, false, false, false, false, false, false, false, false, false, false, false, false, false]) H rfl (wN rfl) rfl rfl rfl (by kernel_rfl) rfl (fun w H => x_move (H.r 115 rfl)) ?_; clear H; intro T H
              refine GA.v (i := 3) (L' := #[true, true, true, true, false, false, false, false, false, false, false, false, false, false, false, false, false, false, false, false, false, false, false, false]) H rfl (wS H rfl rfl rfl) rfl rfl rfl (by kernel_rfl) rfl (fun w H => x_move (H.r 16 rfl)) ?_; clear H; intro T H
              refine GA.v (i := 4) (L' := #[true, true, true, true, true, false, false, false, false, false, false, false, false, false, false, false, false, false, false, false, false, false, false, false]) H rfl (wS H rfl rfl rfl) rfl rfl rfl (by kernel_rfl) rfl (fun w H => x_move (H.r 18 rfl)) ?_; clear H; intro T H
              refine GA.v (i := 5) (L' := #[true, true, true, true, true, true, false, false, false, false, false, false, false, false, false, false, false, false, false, false, false, false, false, false]) H rfl (wS H rfl rfl rfl) rfl rfl rfl (by kernel_rfl) rfl (fun w H => x_ixSN (H.r 117 rfl) (H.r 118 rfl) Try.runUnderlying30 Try.sizeOf3 (by omega)) ?_; clear H; intro T H
              refine GA.v (i := 6) (L' := #[true, true, true, true, true, true, true, false, false, false, false, false, false, false, false, false, false, false, false, false, false, false, false, false]) H rfl (wS H rfl rfl rfl) rfl rfl rfl (by kernel_rfl) rfl (fun w H => x_load (H.r 119 rfl) Try.isAgg3 (by rw [show 0 + k * 1 = k by omega]; exact H.rowCell (g := g94) (by repeat (first | exact List.mem_cons_self | apply List.mem_cons_of_mem)) k (flatO_at hot))) ?_; clear H; intro T H
              refine GA.v (i := 7) (L' := #[true, true, true, true, true, true, true, true, false, false, false, false, false, false, false, false, false, false, false, false, false, false, false, false]) H rfl (wS H rfl rfl rfl) rfl rfl rfl (by kernel_rfl) rfl (fun w H => x_move (H.r 19 rfl)) ?_; clear H; intro T H
              refine GA.v (v := .bool false) (i := 8) (L' := #[true, true, true, true, true, true, true, true, true, false, false, false, false, false, false, false, false, false, false, false, false, false, false, false]) H rfl (wS H rfl rfl rfl) rfl rfl rfl (by kernel_rfl) rfl (fun w H => (x_neq (H.r 120 rfl) (H.r 121 rfl)).trans (by rw [decide_eq_false (fun h => h rfl)])) ?_; clear H; intro T H
              refine GA.v (i := 9) (L' := #[true, true, true, true, true, true, true, true, true, true, false, false, false, false, false, false, false, false, false, false, false, false, false, false]) H rfl (wN rfl) rfl rfl rfl (by kernel_rfl) rfl (fun w H => x_pickT (H.r 116 rfl) (H.r 122 rfl)) ?_; clear H; intro T H
              refine GA.v (i := 10) (L' := #[true, true, true, true, true, true, true, true, true, true, true, false, false, false, false, false, false, false, false, false, false, false, false, false]) H rfl (wN rfl) rfl rfl rfl (by kernel_rfl) rfl (fun w H => x_move (H.r 123 rfl)) ?_; clear H; intro T H
              refine GA.v (i := 11) (L' := #[true, true, true, true, true, true, true, true, true, true, true, true, false, false, false, false, false, false, false, false, false, false, false, false]) H rfl (wS H rfl rfl rfl) rfl rfl rfl (by kernel_rfl) rfl (fun w H => x_move (H.r 19 rfl)) ?_; clear H; intro T H
              refine GA.v (v := .bool false) (i := 12) (L' := #[true, true, true, true, true, true, true, true, true, true, true, true, true, false, false, false, false, false, false, false, false, false, false, false]) H rfl (wS H rfl rfl rfl) rfl rfl rfl (by kernel_rfl) rfl (fun w H => (x_geq (H.r 125 rfl) evC).trans (by rw [decide_eq_false (show ¬ ((0 : Int) ≤ orNone none) by decide)])) ?_; clear H; intro T H
              refine GA.v (i := 13) (L' := #[true, true, true, true, true, true, true, true, true, true, true, true, true, true, false, false, false, false, false, false, false, false, false, false]) H rfl (wS H rfl rfl rfl) rfl rfl rfl (by kernel_rfl) rfl (fun w H => x_move (H.r 126 rfl)) ?_; clear H; intro T H
              refine GA.u (i := 14) (L' := #[true, true, true, true, true, true, true, true, true, true, true, true, true, true, true, false, false, false, false, false, false, false, false, false]) H rfl (wU H rfl rfl rfl rfl) rfl rfl (by kernel_rfl) rfl ?_; clear H; intro T H
              refine GA.u (i := 15) (L' := #[true, true, true, true, true, true, true, true, true, true, true, true, true, true, true, true, false, false, false, false, false, false, false, false]) H rfl (wU H rfl rfl rfl rfl) rfl rfl (by kernel_rfl) rfl ?_; clear H; intro T H
              refine GA.u (i := 16) (L' := #[true, true, true, true, true, true, true, true, true, true, true, true, true, true, true, true, true, false, false, false, false, false, false, false]) H rfl (wU H rfl rfl rfl rfl) rfl rfl (by kernel_rfl) rfl ?_; clear H; intro T H
              refine GA.u (i := 17) (L' := #[true, true, true, true, true, true, true, true, true, true, true, true, true, true, true, true, true, true, false, false, false, false, false, false]) H rfl (wU H rfl rfl rfl rfl) rfl rfl (by kernel_rfl) rfl ?_; clear H; intro T H
              refine GA.u (i := 18) (L' := #[true, true, true, true, true, true, true, true, true, true, true, true, true, true, true, true, true, true, true, false, false, false, false, false]) H rfl (wU H rfl rfl rfl rfl) rfl rfl (by kernel_rfl) rfl ?_; clear H; intro T H
              refine GA.u (i := 19) (L' := #[true, true, true, true, true, true, true, true, true, true, true, true, true, true, true, true, true, true, true, true, false, false, false, false]) H rfl (wU H rfl rfl rfl rfl) rfl rfl (by kernel_rfl) rfl ?_; clear H; intro T H
              refine GA.u (i := 20) (L' := #[true, true, true, true, true, true, true, true, true, true, true, true, true, true, true, true, true, true, true, true, true, false, false, false]) H rfl (wU H rfl rfl rfl rfl) rfl rfl (by kernel_rfl) rfl ?_; clear H; intro T H
              refine GA.u (i := 21) (L' := #[true, true, true, true, true, true, true, true, true, true, true, true, true, true, true, true, true, true, true, true, true, true, false, false]) H rfl (wU H rfl rfl rfl rfl) rfl rfl (by kernel_rfl) rfl ?_; clear H; intro T H
              refine GA.v (i := 22) (L' := #[true, true, true, true, true, true, true, true, true, true, true, true, true, true, true, true, true, true, true, true, true, true, true, false]) H rfl (wS H rfl rfl rfl) rfl rfl rfl (by kernel_rfl) rfl (fun w H => x_pickF (H.r 127 rfl) evC) ?_; clear H; intro T H
              refine GA.v (i := 23) (L' := #[true, true, true, true, true, true, true, true, true, true, true, true, true, true, true, true, true, true, true, true, true, true, true, true]) H rfl (wN rfl) rfl rfl rfl (by kernel_rfl) rfl (fun w H => x_pickF (H.r 124 rfl) (H.r 136 rfl)) ?_; clear H; intro T H
              refine GA.done (by kernel_rfl) ?_
              refine At.condF (H.r 137 rfl) ?_
              refine At.skip ?_
              refine At.inBlock ?_
              refine At.region' (l := [0, 1]) rfl ?_
              refine At.v H rfl (wN rfl) rfl rfl rfl (x_add (H.r 109 rfl) evC (w64 (by omega) (by omega))) ?_; clear H; intro T H
              refine At.v H rfl (wN rfl) rfl rfl rfl (x_move (H.r 138 rfl)) ?_; clear H; intro T H
              refine At.regionEnd ?_
              exact hnext1 _ _ _ _ _ (by omega) ⟨k + 1, rfl, by first | trivial | omega | exact ⟨by omega, by omega⟩, rfl, rfl⟩ (by simp only [List.cons_append, List.nil_append]; exact (H.pk (by repeat (first | exact Pk.nil | exact Pk.all | refine Pk.cons (by repeat (first | exact Take.here | apply Take.there)) ?_ | apply Pk.skip))).sub (by repeat' (first | exact trivial | refine And.intro rfl ?_)))
            · clear H; intro h115 T H
              obtain ⟨m, rfl⟩ : ∃ m, o = some m := by
                cases o with
                | none => exact absurd (by decide) h115
                | some m => exact ⟨m, rfl⟩
              have hml := dueL_lt hv m (List.mem_of_getElem? ho)
              refine GA.v (i := 2) (L' := #[true, true, true, false, false, false, false, false, false, false, false, false, false, false, false, false, false, false, false, false, false, false, false, false]) H rfl (wN rfl) rfl rfl rfl (by kernel_rfl) rfl (fun w H => x_move (H.r 115 rfl)) ?_; clear H; intro T H
              refine GA.u (i := 3) (L' := #[true, true, true, true, false, false, false, false, false, false, false, false, false, false, false, false, false, false, false, false, false, false, false, false]) H rfl (wU H rfl rfl rfl rfl) rfl rfl (by kernel_rfl) rfl ?_; clear H; intro T H
              refine GA.u (i := 4) (L' := #[true, true, true, true, true, false, false, false, false, false, false, false, false, false, false, false, false, false, false, false, false, false, false, false]) H rfl (wU H rfl rfl rfl rfl) rfl rfl (by kernel_rfl) rfl ?_; clear H; intro T H
              refine GA.u (i := 5) (L' := #[true, true, true, true, true, true, false, false, false, false, false, false, false, false, false, false, false, false, false, false, false, false, false, false]) H rfl (wU H rfl rfl rfl rfl) rfl rfl (by kernel_rfl) rfl ?_; clear H; intro T H
              refine GA.u (i := 6) (L' := #[true, true, true, true, true, true, true, false, false, false, false, false, false, false, false, false, false, false, false, false, false, false, false, false]) H rfl (wU H rfl rfl rfl rfl) rfl rfl (by kernel_rfl) rfl ?_; clear H; intro T H
              refine GA.u (i := 7) (L' := #[true, true, true, true, true, true, true, true, false, false, false, false, false, false, false, false, false, false, false, false, false, false, false, false]) H rfl (wU H rfl rfl rfl rfl) rfl rfl (by kernel_rfl) rfl ?_; clear H; intro T H
              refine GA.u (i := 8) (L' := #[true, true, true, true, true, true, true, true, true, false, false, false, false, false, false, false, false, false, false, false, false, false, false, false]) H rfl (wU H rfl rfl rfl rfl) rfl rfl (by kernel_rfl) rfl ?_; clear H; intro T H
              refine GA.v (i := 9) (L' := #[true, true, true, true, true, true, true, true, true, true, false, false, false, false, false, false, false, false, false, false, false, false, false, false]) H rfl (wN rfl) rfl rfl rfl (by kernel_rfl) rfl (fun w H => x_pickF (H.r 116 rfl) evC) ?_; clear H; intro T H
              refine GA.v (i := 10) (L' := #[true, true, true, true, true, true, true, true, true, true, true, false, false, false, false, false, false, false, false, false, false, false, false, false]) H rfl (wN rfl) rfl rfl rfl (by kernel_rfl) rfl (fun w H => x_move (H.r 123 rfl)) ?_; clear H; intro T H
              refine GA.v (i := 11) (L' := #[true, true, true, true, true, true, true, true, true, true, true, true, false, false, false, false, false, false, false, false, false, false, false, false]) H rfl (wS H rfl rfl rfl) rfl rfl rfl (by kernel_rfl) rfl (fun w H => x_move (H.r 19 rfl)) ?_; clear H; intro T H
              refine GA.v (v := .bool true) (i := 12) (L' := #[true, true, true, true, true, true, true, true, true, true, true, true, true, false, false, false, false, false, false, false, false, false, false, false]) H rfl (wS H rfl rfl rfl) rfl rfl rfl (by kernel_rfl) rfl (fun w H => (x_geq (H.r 125 rfl) evC).trans (by rw [decide_eq_true (show (0 : Int) ≤ orNone (some m) by simp only [orNone]; omega)])) ?_; clear H; intro T H
              refine GA.v (i := 13) (L' := #[true, true, true, true, true, true, true, true, true, true, true, true, true, true, false, false, false, false, false, false, false, false, false, false]) H rfl (wS H rfl rfl rfl) rfl rfl rfl (by kernel_rfl) rfl (fun w H => x_move (H.r 126 rfl)) ?_; clear H; intro T H
              refine GA.v (i := 14) (L' := #[true, true, true, true, true, true, true, true, true, true, true, true, true, true, true, false, false, false, false, false, false, false, false, false]) H rfl (wS H rfl rfl rfl) rfl rfl rfl (by kernel_rfl) rfl (fun w H => x_move (H.r 16 rfl)) ?_; clear H; intro T H
              refine GA.v (i := 15) (L' := #[true, true, true, true, true, true, true, true, true, true, true, true, true, true, true, true, false, false, false, false, false, false, false, false]) H rfl (wS H rfl rfl rfl) rfl rfl rfl (by kernel_rfl) rfl (fun w H => x_move (H.r 18 rfl)) ?_; clear H; intro T H
              refine GA.v (i := 16) (L' := #[true, true, true, true, true, true, true, true, true, true, true, true, true, true, true, true, true, false, false, false, false, false, false, false]) H rfl (wS H rfl rfl rfl) rfl rfl rfl (by kernel_rfl) rfl (fun w H => x_ixSN (H.r 128 rfl) (H.r 129 rfl) Try.runUnderlying30 Try.sizeOf3 (by omega)) ?_; clear H; intro T H
              refine GA.v (i := 17) (L' := #[true, true, true, true, true, true, true, true, true, true, true, true, true, true, true, true, true, true, false, false, false, false, false, false]) H rfl (wS H rfl rfl rfl) rfl rfl rfl (by kernel_rfl) rfl (fun w H => x_load (H.r 130 rfl) Try.isAgg3 (by rw [show 0 + k * 1 = k by omega]; exact H.rowCell (g := g94) (by repeat (first | exact List.mem_cons_self | apply List.mem_cons_of_mem)) k (flatO_at hot))) ?_; clear H; intro T H
              refine GA.v (i := 18) (L' := #[true, true, true, true, true, true, true, true, true, true, true, true, true, true, true, true, true, true, true, false, false, false, false, false]) H rfl (wS H rfl rfl rfl) rfl rfl rfl (by kernel_rfl) rfl (fun w H => x_move (H.r 8 rfl)) ?_; clear H; intro T H
              refine GA.v (i := 19) (L' := #[true, true, true, true, true, true, true, true, true, true, true, true, true, true, true, true, true, true, true, true, false, false, false, false]) H rfl (wS H rfl rfl rfl) rfl rfl rfl (by kernel_rfl) rfl (fun w H => x_move (H.r 19 rfl)) ?_; clear H; intro T H
              refine GA.fV (i := 20) (L' := #[true, true, true, true, true, true, true, true, true, true, true, true, true, true, true, true, true, true, true, true, true, false, false, false]) H rfl (wS H rfl rfl rfl) rfl rfl rfl (by kernel_rfl) rfl (H.r 132 rfl) (args1 (H.r 133 rfl)) (num (turn := turn) (n := men.length) (H.cell (b := b4) (by repeat (first | exact List.mem_cons_self | apply List.mem_cons_of_mem)) 0 rfl) (H.cell (b := b7) (by repeat (first | exact List.mem_cons_self | apply List.mem_cons_of_mem)) 0 rfl) (by omega) (by omega) (m := m) (by omega)) ?_; clear H; rintro v134 T w rfl _ H
              refine GA.v (v := .bool false) (i := 21) (L' := #[true, true, true, true, true, true, true, true, true, true, true, true, true, true, true, true, true, true, true, true, true, true, false, false]) H rfl (wS H rfl rfl rfl) rfl rfl rfl (by kernel_rfl) rfl (fun w H => (x_neq (H.r 131 rfl) (H.r 134 rfl)).trans (by rw [decide_eq_false (fun h => h (by rw [Option.map_some, htp m hml]; rfl))])) ?_; clear H; intro T H
              refine GA.v (i := 22) (L' := #[true, true, true, true, true, true, true, true, true, true, true, true, true, true, true, true, true, true, true, true, true, true, true, false]) H rfl (wS H rfl rfl rfl) rfl rfl rfl (by kernel_rfl) rfl (fun w H => x_pickT (H.r 127 rfl) (H.r 135 rfl)) ?_; clear H; intro T H
              refine GA.v (i := 23) (L' := #[true, true, true, true, true, true, true, true, true, true, true, true, true, true, true, true, true, true, true, true, true, true, true, true]) H rfl (wN rfl) rfl rfl rfl (by kernel_rfl) rfl (fun w H => x_pickF (H.r 124 rfl) (H.r 136 rfl)) ?_; clear H; intro T H
              refine GA.done (by kernel_rfl) ?_
              refine At.condF (H.r 137 rfl) ?_
              refine At.skip ?_
              refine At.inBlock ?_
              refine At.region' (l := [0, 1]) rfl ?_
              refine At.v H rfl (wN rfl) rfl rfl rfl (x_add (H.r 109 rfl) evC (w64 (by omega) (by omega))) ?_; clear H; intro T H
              refine At.v H rfl (wN rfl) rfl rfl rfl (x_move (H.r 138 rfl)) ?_; clear H; intro T H
              refine At.regionEnd ?_
              exact hnext1 _ _ _ _ _ (by omega) ⟨k + 1, rfl, by first | trivial | omega | exact ⟨by omega, by omega⟩, rfl, rfl⟩ (by simp only [List.cons_append, List.nil_append]; exact (H.pk (by repeat (first | exact Pk.nil | exact Pk.all | refine Pk.cons (by repeat (first | exact Take.here | apply Take.there)) ?_ | apply Pk.skip))).sub (by repeat' (first | exact trivial | refine And.intro rfl ?_)))
          · clear H; intro h110 T H
            obtain rfl : list.length = k := by omega
            refine At.regionEnd ?_
            refine At.seq ?_
            refine At.condF (H.r 110 rfl) ?_
            refine At.exit rfl ?_
            refine At.seq ?_
            refine At.region' (l := [0, 1, 2, 3, 4]) rfl ?_
            refine At.v H rfl (wN rfl) rfl rfl rfl (x_move (H.r 2 rfl)) ?_; clear H; intro T H
            refine At.v H rfl (wN rfl) rfl rfl rfl (x_conv (z := (who : Int)) (H.r 139 rfl) Try.runUnderlying5 Try.runUnderlying3 (wrapN (by omega))) ?_; clear H; intro T H
            refine At.v H rfl (wN rfl) rfl rfl rfl (x_load (H.r 7 rfl) Try.isAgg3 (by first | exact H.cell (by repeat (first | exact List.mem_cons_self | apply List.mem_cons_of_mem)) _ rfl | exact H.cellR (by repeat (first | exact List.mem_cons_self | apply List.mem_cons_of_mem)) _ rfl)) ?_; clear H; intro T H
            refine At.v H rfl (wN rfl) rfl rfl rfl (x_remN (a := who) (b := men.length) (H.r 140 rfl) (H.r 141 rfl) (by omega)) ?_; clear H; intro T H
            obtain ⟨i, hid⟩ : ∃ i, i = who % men.length := ⟨_, rfl⟩
            have hi : i < men.length := by rw [hid]; exact Nat.mod_lt _ (by omega)
            rw [← hid] at H
            have hit : (i + turn) % men.length < tm.length := by rw [htl]; exact Nat.mod_lt _ (by omega)
            have hpi := htp i hi
            refine At.v H rfl (wN rfl) rfl rfl rfl (x_assign (H.r 142 rfl)) ?_; clear H; intro T H
            refine At.regionEnd ?_
            refine At.seq ?_
            refine At.region' (l := [0, 1, 2, 3, 4, 5, 6, 7]) rfl ?_
            refine At.v H rfl (wN rfl) rfl rfl rfl (x_loadA (H.r 3 rfl) Try.isAgg25 Try.sizeOf25 (H.cellsAt (n := 2) (by repeat (first | exact List.mem_cons_self | apply List.mem_cons_of_mem)) rfl) rfl) ?_; clear H; intro T H
            refine At.v H rfl (wN rfl) rfl rfl rfl (x_move (H.r 20 rfl)) ?_; clear H; intro T H
            refine At.f0 H rfl (wN rfl) rfl rfl rfl (args2 (H.r 144 rfl) (H.r 145 rfl)) Try.call20 (Stay (hM.fr0 H.fr) (hL.fr0 H.fr) hv hi) ?_; clear H; rintro v146 T w rfl _ H
            refine At.v H rfl (wN rfl) rfl rfl rfl (x_move (H.r 146 rfl)) ?_; clear H; intro T H
            refine At.v H rfl (wN rfl) rfl rfl rfl (x_extract (H.r 143 rfl) rfl) ?_; clear H; intro T H
            refine At.v H rfl (wN rfl) rfl rfl rfl (x_extract (H.r 143 rfl) rfl) ?_; clear H; intro T H
            refine At.v H rfl (wN rfl) rfl rfl rfl (x_assign (H.r 147 rfl)) ?_; clear H; intro T H
            refine At.v H rfl (wN rfl) rfl rfl rfl (x_assign (H.r 148 rfl)) ?_; clear H; intro T H
            refine At.regionEnd ?_
            refine At.seq ?_
            refine At.drawnC (m := 10) (L := #[false, false, false, false, false, false, false, false, false, false]) H mixed rfl rfl ?_; clear H; intro w H
            refine GA.v (i := 0) (L' := #[true, false, false, false, false, false, false, false, false, false]) H rfl (wN rfl) rfl rfl rfl (by kernel_rfl) rfl (fun w H => x_loadA (H.r 9 rfl) Try.isAgg25 Try.sizeOf25 (H.cellsAt (n := 2) (by repeat (first | exact List.mem_cons_self | apply List.mem_cons_of_mem)) rfl) rfl) ?_; clear H; intro T H
            refine GA.v (i := 1) (L' := #[true, true, false, false, false, false, false, false, false, false]) H rfl (wN rfl) rfl rfl rfl (by kernel_rfl) rfl (fun w H => x_move (H.r 8 rfl)) ?_; clear H; intro T H
            refine GA.v (i := 2) (L' := #[true, true, true, false, false, false, false, false, false, false]) H rfl (wN rfl) rfl rfl rfl (by kernel_rfl) rfl (fun w H => x_move (H.r 20 rfl)) ?_; clear H; intro T H
            refine GA.fV (i := 3) (L' := #[true, true, true, true, false, false, false, false, false, false]) H rfl (wN rfl) rfl rfl rfl (by kernel_rfl) rfl (H.r 151 rfl) (args1 (H.r 152 rfl)) (num (turn := turn) (n := men.length) (H.cell (b := b4) (by repeat (first | exact List.mem_cons_self | apply List.mem_cons_of_mem)) 0 rfl) (H.cell (b := b7) (by repeat (first | exact List.mem_cons_self | apply List.mem_cons_of_mem)) 0 rfl) (by omega) (by omega) (m := i) (by omega)) ?_; clear H; rintro v153 T w rfl _ H
            refine GA.f0 (i := 4) (L' := #[true, true, true, true, true, false, false, false, false, false]) H rfl (wN rfl) rfl rfl rfl (by kernel_rfl) rfl (args2 (H.r 150 rfl) (H.r 153 rfl)) Try.call20 (Tn.Stay htl (H.rowP (enc := encW) (g := g61) (by repeat (first | exact List.mem_cons_self | apply List.mem_cons_of_mem)) (fun _ => rfl) htl.symm rfl) (hL.fr0 H.fr) hvt hit) ?_; clear H; rintro v154 T w rfl _ H
            refine GA.v (i := 5) (L' := #[true, true, true, true, true, true, false, false, false, false]) H rfl (wN rfl) rfl rfl rfl (by kernel_rfl) rfl (fun w H => x_move (H.r 154 rfl)) ?_; clear H; intro T H
            refine GA.v (i := 6) (L' := #[true, true, true, true, true, true, true, false, false, false]) H rfl (wN rfl) rfl rfl rfl (by kernel_rfl) rfl (fun w H => x_extract (H.r 149 rfl) rfl) ?_; clear H; intro T H
            refine GA.v (i := 7) (L' := #[true, true, true, true, true, true, true, true, false, false]) H rfl (wN rfl) rfl rfl rfl (by kernel_rfl) rfl (fun w H => x_extract (H.r 149 rfl) rfl) ?_; clear H; intro T H
            refine GA.v (i := 8) (L' := #[true, true, true, true, true, true, true, true, true, false]) H rfl (wN rfl) rfl rfl rfl (by kernel_rfl) rfl (fun w H => x_assign (H.r 155 rfl)) ?_; clear H; intro T H
            refine GA.v (i := 9) (L' := #[true, true, true, true, true, true, true, true, true, true]) H rfl (wN rfl) rfl rfl rfl (by kernel_rfl) rfl (fun w H => x_assign (H.r 156 rfl)) ?_; clear H; intro T H
            refine GA.done (by kernel_rfl) ?_
            refine At.seq ?_
            refine At.region' (l := [0, 1, 2, 3, 4, 5, 6, 7]) rfl ?_
            refine At.v H rfl (wN rfl) rfl rfl rfl (x_loadA (H.r 3 rfl) Try.isAgg25 Try.sizeOf25 (H.cellsAt (n := 2) (by repeat (first | exact List.mem_cons_self | apply List.mem_cons_of_mem)) rfl) rfl) ?_; clear H; intro T H
            refine At.v H rfl (wN rfl) rfl rfl rfl (x_move (H.r 20 rfl)) ?_; clear H; intro T H
            refine At.f0 H rfl (wN rfl) rfl rfl rfl (args2 (H.r 158 rfl) (H.r 159 rfl)) Try.call22 (Tn.For rfl (hM.fr0 H.fr) (hL.fr0 H.fr) hv hi) ?_; clear H; rintro v160 T w rfl _ H
            refine At.v H rfl (wN rfl) rfl rfl rfl (x_move (H.r 160 rfl)) ?_; clear H; intro T H
            refine At.v H rfl (wN rfl) rfl rfl rfl (x_extract (H.r 157 rfl) rfl) ?_; clear H; intro T H
            refine At.v H rfl (wN rfl) rfl rfl rfl (x_extract (H.r 157 rfl) rfl) ?_; clear H; intro T H
            refine At.v H rfl (wN rfl) rfl rfl rfl (x_assign (H.r 161 rfl)) ?_; clear H; intro T H
            refine At.v H rfl (wN rfl) rfl rfl rfl (x_assign (H.r 162 rfl)) ?_; clear H; intro T H
            refine At.regionEnd ?_
            refine At.seq ?_
            refine At.drawnC (m := 10) (L := #[false, false, false, false, false, false, false, false, false, false]) H mixed rfl rfl ?_; clear H; intro w H
            refine GA.v (i := 0) (L' := #[true, false, false, false, false, false, false, false, false, false]) H rfl (wN rfl) rfl rfl rfl (by kernel_rfl) rfl (fun w H => x_loadA (H.r 9 rfl) Try.isAgg25 Try.sizeOf25 (H.cellsAt (n := 2) (by repeat (first | exact List.mem_cons_self | apply List.mem_cons_of_mem)) rfl) rfl) ?_; clear H; intro T H
            refine GA.v (i := 1) (L' := #[true, true, false, false, false, false, false, false, false, false]) H rfl (wN rfl) rfl rfl rfl (by kernel_rfl) rfl (fun w H => x_move (H.r 8 rfl)) ?_; clear H; intro T H
            refine GA.v (i := 2) (L' := #[true, true, true, false, false, false, false, false, false, false]) H rfl (wN rfl) rfl rfl rfl (by kernel_rfl) rfl (fun w H => x_move (H.r 20 rfl)) ?_; clear H; intro T H
            refine GA.fV (i := 3) (L' := #[true, true, true, true, false, false, false, false, false, false]) H rfl (wN rfl) rfl rfl rfl (by kernel_rfl) rfl (H.r 165 rfl) (args1 (H.r 166 rfl)) (num (turn := turn) (n := men.length) (H.cell (b := b4) (by repeat (first | exact List.mem_cons_self | apply List.mem_cons_of_mem)) 0 rfl) (H.cell (b := b7) (by repeat (first | exact List.mem_cons_self | apply List.mem_cons_of_mem)) 0 rfl) (by omega) (by omega) (m := i) (by omega)) ?_; clear H; rintro v167 T w rfl _ H
            refine GA.f0 (i := 4) (L' := #[true, true, true, true, true, false, false, false, false, false]) H rfl (wN rfl) rfl rfl rfl (by kernel_rfl) rfl (args2 (H.r 164 rfl) (H.r 167 rfl)) Try.call22 (Tn.For htl (H.rowP (enc := encW) (g := g61) (by repeat (first | exact List.mem_cons_self | apply List.mem_cons_of_mem)) (fun _ => rfl) htl.symm rfl) (hL.fr0 H.fr) hvt hit) ?_; clear H; rintro v168 T w rfl _ H
            rw [show forL tm list ((i + turn) % men.length) = forL men list i by rw [← hpi]; exact hiso.forL hv hvt hi] at H
            refine GA.v (i := 5) (L' := #[true, true, true, true, true, true, false, false, false, false]) H rfl (wN rfl) rfl rfl rfl (by kernel_rfl) rfl (fun w H => x_move (H.r 168 rfl)) ?_; clear H; intro T H
            refine GA.v (i := 6) (L' := #[true, true, true, true, true, true, true, false, false, false]) H rfl (wN rfl) rfl rfl rfl (by kernel_rfl) rfl (fun w H => x_extract (H.r 163 rfl) rfl) ?_; clear H; intro T H
            refine GA.v (i := 7) (L' := #[true, true, true, true, true, true, true, true, false, false]) H rfl (wN rfl) rfl rfl rfl (by kernel_rfl) rfl (fun w H => x_extract (H.r 163 rfl) rfl) ?_; clear H; intro T H
            refine GA.v (i := 8) (L' := #[true, true, true, true, true, true, true, true, true, false]) H rfl (wN rfl) rfl rfl rfl (by kernel_rfl) rfl (fun w H => x_assign (H.r 169 rfl)) ?_; clear H; intro T H
            refine GA.v (i := 9) (L' := #[true, true, true, true, true, true, true, true, true, true]) H rfl (wN rfl) rfl rfl rfl (by kernel_rfl) rfl (fun w H => x_assign (H.r 170 rfl)) ?_; clear H; intro T H
            refine GA.done (by kernel_rfl) ?_
            refine At.seq ?_
            refine At.region' (l := [0, 1, 2, 3, 4, 5, 6, 7, 8]) rfl ?_
            refine At.v H rfl (wN rfl) rfl rfl rfl (x_loadA (H.r 3 rfl) Try.isAgg25 Try.sizeOf25 (H.cellsAt (n := 2) (by repeat (first | exact List.mem_cons_self | apply List.mem_cons_of_mem)) rfl) rfl) ?_; clear H; intro T H
            refine At.f0 H rfl (wN rfl) rfl rfl rfl (args1 (H.r 172 rfl)) Try.call27 (Club (hM.fr0 H.fr) (hL.fr0 H.fr) hv) ?_; clear H; rintro v173 T w rfl _ H
            refine At.v H rfl (wN rfl) rfl rfl rfl (x_move (H.r 173 rfl)) ?_; clear H; intro T H
            refine At.v H rfl (wN rfl) rfl rfl rfl (x_extract (H.r 171 rfl) rfl) ?_; clear H; intro T H
            refine At.v H rfl (wN rfl) rfl rfl rfl (x_extract (H.r 171 rfl) rfl) ?_; clear H; intro T H
            refine At.v H rfl (wN rfl) rfl rfl rfl (x_extract (H.r 171 rfl) rfl) ?_; clear H; intro T H
            refine At.v H rfl (wN rfl) rfl rfl rfl (x_assign (H.r 174 rfl)) ?_; clear H; intro T H
            refine At.v H rfl (wN rfl) rfl rfl rfl (x_assign (H.r 175 rfl)) ?_; clear H; intro T H
            refine At.v H rfl (wN rfl) rfl rfl rfl (x_assign (H.r 176 rfl)) ?_; clear H; intro T H
            refine At.regionEnd ?_
            refine At.seq ?_
            refine At.region' (l := [0, 1, 2, 3, 4, 5, 6, 7, 8]) rfl ?_
            refine At.v H rfl (wN rfl) rfl rfl rfl (x_loadA (H.r 9 rfl) Try.isAgg25 Try.sizeOf25 (H.cellsAt (n := 2) (by repeat (first | exact List.mem_cons_self | apply List.mem_cons_of_mem)) rfl) rfl) ?_; clear H; intro T H
            refine At.f0 H rfl (wN rfl) rfl rfl rfl (args1 (H.r 178 rfl)) Try.call27 (Tn.Club htl (H.rowP (enc := encW) (g := g61) (by repeat (first | exact List.mem_cons_self | apply List.mem_cons_of_mem)) (fun _ => rfl) htl.symm rfl) (hL.fr0 H.fr) hvt) ?_; clear H; rintro v179 T w rfl _ H
            rw [show clubE tm = clubE men by unfold clubE; rw [hbest], hbest] at H
            refine At.v H rfl (wN rfl) rfl rfl rfl (x_move (H.r 179 rfl)) ?_; clear H; intro T H
            refine At.v H rfl (wN rfl) rfl rfl rfl (x_extract (H.r 177 rfl) rfl) ?_; clear H; intro T H
            refine At.v H rfl (wN rfl) rfl rfl rfl (x_extract (H.r 177 rfl) rfl) ?_; clear H; intro T H
            refine At.v H rfl (wN rfl) rfl rfl rfl (x_extract (H.r 177 rfl) rfl) ?_; clear H; intro T H
            refine At.v H rfl (wN rfl) rfl rfl rfl (x_assign (H.r 180 rfl)) ?_; clear H; intro T H
            refine At.v H rfl (wN rfl) rfl rfl rfl (x_assign (H.r 181 rfl)) ?_; clear H; intro T H
            refine At.v H rfl (wN rfl) rfl rfl rfl (x_assign (H.r 182 rfl)) ?_; clear H; intro T H
            refine At.regionEnd ?_
            refine At.seq ?_
            refine At.region' (l := [0, 1, 2, 3, 4, 5, 6, 7, 8]) rfl ?_
            refine At.v H rfl (wN rfl) rfl rfl rfl (x_loadA (H.r 3 rfl) Try.isAgg25 Try.sizeOf25 (H.cellsAt (n := 2) (by repeat (first | exact List.mem_cons_self | apply List.mem_cons_of_mem)) rfl) rfl) ?_; clear H; intro T H
            refine At.fG H rfl (wN rfl) rfl rfl rfl (args1 (H.r 184 rfl)) Try.call18 (Most (hM.fr0 H.fr) (hL.fr0 H.fr) hv) ?_; clear H; rintro v185 E185 T w ⟨A185, c185, rfl, rfl⟩ _ H
            refine At.v H rfl (wN rfl) rfl rfl rfl (x_move (H.r 185 rfl)) ?_; clear H; intro T H
            refine At.v H rfl (wN rfl) rfl rfl rfl (x_extract (H.r 183 rfl) rfl) ?_; clear H; intro T H
            refine At.v H rfl (wN rfl) rfl rfl rfl (x_extract (H.r 183 rfl) rfl) ?_; clear H; intro T H
            refine At.v H rfl (wN rfl) rfl rfl rfl (x_extract (H.r 183 rfl) rfl) ?_; clear H; intro T H
            refine At.v H rfl (wN rfl) rfl rfl rfl (x_assign (H.r 186 rfl)) ?_; clear H; intro T H
            refine At.v H rfl (wN rfl) rfl rfl rfl (x_assign (H.r 187 rfl)) ?_; clear H; intro T H
            refine At.v H rfl (wN rfl) rfl rfl rfl (x_assign (H.r 188 rfl)) ?_; clear H; intro T H
            refine At.regionEnd ?_
            refine At.seq ?_
            refine At.region' (l := [0, 1, 2, 3, 4, 5, 6, 7, 8]) rfl ?_
            refine At.v H rfl (wN rfl) rfl rfl rfl (x_loadA (H.r 9 rfl) Try.isAgg25 Try.sizeOf25 (H.cellsAt (n := 2) (by repeat (first | exact List.mem_cons_self | apply List.mem_cons_of_mem)) rfl) rfl) ?_; clear H; intro T H
            refine At.fG H rfl (wN rfl) rfl rfl rfl (args1 (H.r 190 rfl)) Try.call18 (Tn.Most htl (H.rowP (enc := encW) (g := g61) (by repeat (first | exact List.mem_cons_self | apply List.mem_cons_of_mem)) (fun _ => rfl) htl.symm rfl) (hL.fr0 H.fr) hvt) ?_; clear H; rintro v191 E191 T w ⟨A191, c191, rfl, rfl⟩ _ H
            rw [hmany] at H
            have hS62 : stayL men list i < 2 ^ 62 := Nat.lt_of_lt_of_le (stayL_lt hv.n1) (Nat.pow_le_pow_right (by omega) (by omega))
            have hT62 : stayL tm list ((i + turn) % men.length) < 2 ^ 62 := Nat.lt_of_lt_of_le (stayL_lt hvt.n1) (Nat.pow_le_pow_right (by omega) (by omega))
            refine At.v H rfl (wN rfl) rfl rfl rfl (x_move (H.r 191 rfl)) ?_; clear H; intro T H
            refine At.v H rfl (wN rfl) rfl rfl rfl (x_extract (H.r 189 rfl) rfl) ?_; clear H; intro T H
            refine At.v H rfl (wN rfl) rfl rfl rfl (x_extract (H.r 189 rfl) rfl) ?_; clear H; intro T H
            refine At.v H rfl (wN rfl) rfl rfl rfl (x_extract (H.r 189 rfl) rfl) ?_; clear H; intro T H
            refine At.v H rfl (wN rfl) rfl rfl rfl (x_assign (H.r 192 rfl)) ?_; clear H; intro T H
            refine At.v H rfl (wN rfl) rfl rfl rfl (x_assign (H.r 193 rfl)) ?_; clear H; intro T H
            refine At.v H rfl (wN rfl) rfl rfl rfl (x_assign (H.r 194 rfl)) ?_; clear H; intro T H
            refine At.regionEnd ?_
            refine At.seq ?_
            refine At.seq ?_
            refine At.region' (l := [0, 1, 2, 3, 4, 5, 6, 7, 8, 9, 10, 11, 12, 13, 14, 15, 16, 17, 18, 19, 20, 21, 22, 23, 24, 25, 26, 27, 28, 29, 30, 31, 32, 33, 34, 35, 36, 37]) rfl ?_
            refine At.v H rfl (wN rfl) rfl rfl rfl (x_move (H.r 22 rfl)) ?_; clear H; intro T H
            refine At.v H rfl (wN rfl) rfl rfl rfl (x_move (H.r 24 rfl)) ?_; clear H; intro T H
            refine At.v (v := .bool false) H rfl (wN rfl) rfl rfl rfl (x_neq (H.r 195 rfl) (H.r 196 rfl)) ?_; clear H; intro T H
            refine At.v H rfl (wN rfl) rfl rfl rfl (x_move (H.r 197 rfl)) ?_; clear H; intro T H
            refine At.v H rfl (wS H rfl rfl rfl) rfl rfl rfl (x_move (H.r 25 rfl)) ?_; clear H; intro T H
            refine At.v H rfl (wS H rfl rfl rfl) rfl rfl rfl (x_move (H.r 27 rfl)) ?_; clear H; intro T H
            refine At.v (v := .bool false) H rfl (wS H rfl rfl rfl) rfl rfl rfl ((x_neq (H.r 199 rfl) (H.r 200 rfl)).trans (by rw [decide_eq_false (fun h => h rfl)])) ?_; clear H; intro T H
            refine At.v H rfl (wN rfl) rfl rfl rfl (x_pickF (H.r 198 rfl) (H.r 201 rfl)) ?_; clear H; intro T H
            refine At.v H rfl (wN rfl) rfl rfl rfl (x_move (H.r 202 rfl)) ?_; clear H; intro T H
            refine At.v H rfl (wS H rfl rfl rfl) rfl rfl rfl (x_move (H.r 26 rfl)) ?_; clear H; intro T H
            refine At.v H rfl (wS H rfl rfl rfl) rfl rfl rfl (x_move (H.r 28 rfl)) ?_; clear H; intro T H
            refine At.v (v := .bool false) H rfl (wS H rfl rfl rfl) rfl rfl rfl ((x_neq (H.r 204 rfl) (H.r 205 rfl)).trans (by rw [decide_eq_false (fun h => h rfl)])) ?_; clear H; intro T H
            refine At.v H rfl (wN rfl) rfl rfl rfl (x_pickF (H.r 203 rfl) (H.r 206 rfl)) ?_; clear H; intro T H
            refine At.v H rfl (wN rfl) rfl rfl rfl (x_move (H.r 207 rfl)) ?_; clear H; intro T H
            refine At.v H rfl (wS H rfl rfl rfl) rfl rfl rfl (x_move (H.r 29 rfl)) ?_; clear H; intro T H
            refine At.v H rfl (wS H rfl rfl rfl) rfl rfl rfl (x_move (H.r 32 rfl)) ?_; clear H; intro T H
            refine At.v (v := .bool false) H rfl (wS H rfl rfl rfl) rfl rfl rfl ((x_neq (H.r 209 rfl) (H.r 210 rfl)).trans (by rw [decide_eq_false (fun h => h rfl)])) ?_; clear H; intro T H
            refine At.v H rfl (wN rfl) rfl rfl rfl (x_pickF (H.r 208 rfl) (H.r 211 rfl)) ?_; clear H; intro T H
            refine At.v H rfl (wN rfl) rfl rfl rfl (x_move (H.r 212 rfl)) ?_; clear H; intro T H
            refine At.v H rfl (wS H rfl rfl rfl) rfl rfl rfl (x_move (H.r 30 rfl)) ?_; clear H; intro T H
            refine At.v H rfl (wS H rfl rfl rfl) rfl rfl rfl (x_move (H.r 33 rfl)) ?_; clear H; intro T H
            refine At.v (v := .bool false) H rfl (wS H rfl rfl rfl) rfl rfl rfl ((x_neq (H.r 214 rfl) (H.r 215 rfl)).trans (by rw [decide_eq_false (fun h => h rfl)])) ?_; clear H; intro T H
            refine At.v H rfl (wN rfl) rfl rfl rfl (x_pickF (H.r 213 rfl) (H.r 216 rfl)) ?_; clear H; intro T H
            refine At.v H rfl (wN rfl) rfl rfl rfl (x_move (H.r 217 rfl)) ?_; clear H; intro T H
            refine At.v H rfl (wS H rfl rfl rfl) rfl rfl rfl (x_move (H.r 31 rfl)) ?_; clear H; intro T H
            refine At.v H rfl (wS H rfl rfl rfl) rfl rfl rfl (x_move (H.r 34 rfl)) ?_; clear H; intro T H
            refine At.v (v := .bool false) H rfl (wS H rfl rfl rfl) rfl rfl rfl ((x_neq (H.r 219 rfl) (H.r 220 rfl)).trans (by rw [decide_eq_false (fun h => h rfl)])) ?_; clear H; intro T H
            refine At.v H rfl (wN rfl) rfl rfl rfl (x_pickF (H.r 218 rfl) (H.r 221 rfl)) ?_; clear H; intro T H
            refine At.v H rfl (wN rfl) rfl rfl rfl (x_move (H.r 222 rfl)) ?_; clear H; intro T H
            refine At.v H rfl (wS H rfl rfl rfl) rfl rfl rfl (x_move (H.r 35 rfl)) ?_; clear H; intro T H
            refine At.v H rfl (wS H rfl rfl rfl) rfl rfl rfl (x_move (H.r 38 rfl)) ?_; clear H; intro T H
            refine At.v (v := .bool false) H rfl (wS H rfl rfl rfl) rfl rfl rfl ((x_neq (H.r 224 rfl) (H.r 225 rfl)).trans (by rw [decide_eq_false (fun h => h rfl)])) ?_; clear H; intro T H
            refine At.v H rfl (wN rfl) rfl rfl rfl (x_pickF (H.r 223 rfl) (H.r 226 rfl)) ?_; clear H; intro T H
            refine At.v H rfl (wN rfl) rfl rfl rfl (x_move (H.r 227 rfl)) ?_; clear H; intro T H
            refine At.v H rfl (wS H rfl rfl rfl) rfl rfl rfl (x_move (H.r 37 rfl)) ?_; clear H; intro T H
            refine At.v H rfl (wS H rfl rfl rfl) rfl rfl rfl (x_move (H.r 40 rfl)) ?_; clear H; intro T H
            refine At.v (v := .bool false) H rfl (wS H rfl rfl rfl) rfl rfl rfl (x_neq (H.r 229 rfl) (H.r 230 rfl)) ?_; clear H; intro T H
            refine At.v H rfl (wN rfl) rfl rfl rfl (x_pickF (H.r 228 rfl) (H.r 231 rfl)) ?_; clear H; intro T H
            refine At.regionEnd ?_
            refine At.condF (H.r 232 rfl) ?_
            refine At.skip ?_
            refine At.seq ?_
            refine At.seq ?_
            refine At.region' (l := [0, 1]) rfl ?_
            refine At.v H rfl (wN rfl) rfl rfl rfl (x_load (H.r 7 rfl) Try.isAgg3 (by first | exact H.cell (by repeat (first | exact List.mem_cons_self | apply List.mem_cons_of_mem)) _ rfl | exact H.cellR (by repeat (first | exact List.mem_cons_self | apply List.mem_cons_of_mem)) _ rfl)) ?_; clear H; intro T H
            refine At.v H rfl (wN rfl) rfl rfl rfl (x_move evC) ?_; clear H; intro T H
            refine At.regionEnd ?_
            refine At.block ?_
            replace H := ((H.fore PkS.nil).sub (R' := [(234, _)] ++ [(3, _), (8, _), (12, _), (13, _), (14, _), (21, _), (23, _), (233, _)]) (by repeat' (first | exact trivial | refine And.intro rfl ?_)))
            refine At.loopF H (fun μ R1 G1 => ∃ y : Nat, μ = men.length - y ∧ (y ≤ men.length) ∧ R1 = [(234, .int .i64 (y : Int))] ∧ G1 = []) (men.length) ⟨0, by first | rfl | omega, by first | trivial | omega | exact ⟨by omega, by omega⟩, rfl, rfl⟩ ?_
            clear H; rintro _ _ _ T w ⟨y, rfl, hP2, rfl, rfl⟩ H hnext2
            simp only [List.cons_append, List.nil_append] at H
            refine At.seq ?_
            refine At.region' (l := [0]) rfl ?_
            refine At.c H rfl (wN rfl) rfl rfl rfl (x_lss (H.r 234 rfl) (H.r 233 rfl)) ?_ ?_
            · clear H; intro h235 T H
              have hy1 : y < men.length := by omega
              obtain rfl := hM.addr (fun e => by simp [e] at hy1)
              obtain ⟨m, hm⟩ := get_ex hy1
              have hcl := hM.cell y m hm
              have hstay := hiso.stay hv hvt hi hy1
              rw [hpi, htp y hy1] at hstay
              have hmod : (y + turn) % men.length < men.length := Nat.mod_lt _ (by omega)
              refine At.regionEnd ?_
              refine At.seq ?_
              refine At.condT (H.r 235 rfl) ?_
              refine At.skip ?_
              refine At.seq ?_
              refine At.block ?_
              refine At.seq ?_
              refine At.region' (l := [0, 1]) rfl ?_
              refine At.v H rfl (wN rfl) rfl rfl rfl (x_move (H.r 234 rfl)) ?_; clear H; intro T H
              refine At.v H rfl (wN rfl) rfl rfl rfl (x_assign (H.r 236 rfl)) ?_; clear H; intro T H
              refine At.regionEnd ?_
              refine At.seq ?_
              refine At.drawnC (m := 23) (L := #[false, false, false, false, false, false, false, false, false, false, false, false, false, false, false, false, false, false, false, false, false, false, false]) H mixed rfl rfl ?_; clear H; intro w H
              refine GA.v (i := 0) (L' := #[true, false, false, false, false, false, false, false, false, false, false, false, false, false, false, false, false, false, false, false, false, false, false]) H rfl (wN rfl) rfl rfl rfl (by kernel_rfl) rfl (fun w H => x_move (H.r 21 rfl)) ?_; clear H; intro T H
              refine GA.v (i := 1) (L' := #[true, true, false, false, false, false, false, false, false, false, false, false, false, false, false, false, false, false, false, false, false, false, false]) H rfl (wN rfl) rfl rfl rfl (by kernel_rfl) rfl (fun w H => x_move (H.r 41 rfl)) ?_; clear H; intro T H
              refine GA.v (i := 2) (L' := #[true, true, true, false, false, false, false, false, false, false, false, false, false, false, false, false, false, false, false, false, false, false, false]) H rfl (wN rfl) rfl rfl rfl (by kernel_rfl) rfl (fun w H => x_shrN (a := stayL men list i) (n := y) (H.r 237 rfl) (H.r 238 rfl) (by omega)) ?_; clear H; intro T H
              refine GA.v (i := 3) (L' := #[true, true, true, true, false, false, false, false, false, false, false, false, false, false, false, false, false, false, false, false, false, false, false]) H rfl (wN rfl) rfl rfl rfl (by kernel_rfl) rfl (fun w H => x_andN (a := stayL men list i / 2 ^ y) (b := 1) (H.r 239 rfl) evC (Nat.lt_of_le_of_lt (Nat.div_le_self _ _) hS62) (by omega)) ?_; clear H; intro T H
              refine GA.v (i := 4) (L' := #[true, true, true, true, true, false, false, false, false, false, false, false, false, false, false, false, false, false, false, false, false, false, false]) H rfl (wN rfl) rfl rfl rfl (by kernel_rfl) rfl (fun w H => x_move (H.r 23 rfl)) ?_; clear H; intro T H
              refine GA.v (i := 5) (L' := #[true, true, true, true, true, true, false, false, false, false, false, false, false, false, false, false, false, false, false, false, false, false, false]) H rfl (wN rfl) rfl rfl rfl (by kernel_rfl) rfl (fun w H => x_move (H.r 8 rfl)) ?_; clear H; intro T H
              refine GA.v (i := 6) (L' := #[true, true, true, true, true, true, true, false, false, false, false, false, false, false, false, false, false, false, false, false, false, false, false]) H rfl (wN rfl) rfl rfl rfl (by kernel_rfl) rfl (fun w H => x_move (H.r 41 rfl)) ?_; clear H; intro T H
              refine GA.fV (i := 7) (L' := #[true, true, true, true, true, true, true, true, false, false, false, false, false, false, false, false, false, false, false, false, false, false, false]) H rfl (wN rfl) rfl rfl rfl (by kernel_rfl) rfl (H.r 242 rfl) (args1 (H.r 243 rfl)) (num (turn := turn) (n := men.length) (H.cell (b := b4) (by repeat (first | exact List.mem_cons_self | apply List.mem_cons_of_mem)) 0 rfl) (H.cell (b := b7) (by repeat (first | exact List.mem_cons_self | apply List.mem_cons_of_mem)) 0 rfl) (by omega) (by omega) (m := y) (by omega)) ?_; clear H; rintro v244 T w rfl _ H
              refine GA.v (i := 8) (L' := #[true, true, true, true, true, true, true, true, true, false, false, false, false, false, false, false, false, false, false, false, false, false, false]) H rfl (wN rfl) rfl rfl rfl (by kernel_rfl) rfl (fun w H => x_shrN (a := stayL tm list ((i + turn) % men.length)) (n := (y + turn) % men.length) (H.r 241 rfl) (H.r 244 rfl) (by omega)) ?_; clear H; intro T H
              refine GA.v (i := 9) (L' := #[true, true, true, true, true, true, true, true, true, true, false, false, false, false, false, false, false, false, false, false, false, false, false]) H rfl (wN rfl) rfl rfl rfl (by kernel_rfl) rfl (fun w H => x_andN (a := stayL tm list ((i + turn) % men.length) / 2 ^ ((y + turn) % men.length)) (b := 1) (H.r 245 rfl) evC (Nat.lt_of_le_of_lt (Nat.div_le_self _ _) hT62) (by omega)) ?_; clear H; intro T H
              refine GA.v (v := .bool false) (i := 10) (L' := #[true, true, true, true, true, true, true, true, true, true, true, false, false, false, false, false, false, false, false, false, false, false, false]) H rfl (wN rfl) rfl rfl rfl (by kernel_rfl) rfl (fun w H => (x_neq (H.r 240 rfl) (H.r 246 rfl)).trans (by rw [decide_eq_false (fun h => h (Tn.bit_same hstay.symm))])) ?_; clear H; intro T H
              refine GA.v (i := 11) (L' := #[true, true, true, true, true, true, true, true, true, true, true, true, false, false, false, false, false, false, false, false, false, false, false]) H rfl (wN rfl) rfl rfl rfl (by kernel_rfl) rfl (fun w H => x_move (H.r 247 rfl)) ?_; clear H; intro T H
              refine GA.v (i := 12) (L' := #[true, true, true, true, true, true, true, true, true, true, true, true, true, false, false, false, false, false, false, false, false, false, false]) H rfl (wS H rfl rfl rfl) rfl rfl rfl (by kernel_rfl) rfl (fun w H => x_move (H.r 12 rfl)) ?_; clear H; intro T H
              refine GA.v (i := 13) (L' := #[true, true, true, true, true, true, true, true, true, true, true, true, true, true, false, false, false, false, false, false, false, false, false]) H rfl (wS H rfl rfl rfl) rfl rfl rfl (by kernel_rfl) rfl (fun w H => x_move (H.r 41 rfl)) ?_; clear H; intro T H
              refine GA.v (i := 14) (L' := #[true, true, true, true, true, true, true, true, true, true, true, true, true, true, true, false, false, false, false, false, false, false, false]) H rfl (wS H rfl rfl rfl) rfl rfl rfl (by kernel_rfl) rfl (fun w H => x_ixSN (H.r 249 rfl) (H.r 250 rfl) Try.runUnderlying22 Try.sizeOf59 (by omega)) ?_; clear H; intro T H
              refine GA.v (i := 15) (L' := #[true, true, true, true, true, true, true, true, true, true, true, true, true, true, true, true, false, false, false, false, false, false, false]) H rfl (wS H rfl rfl rfl) rfl rfl rfl (by kernel_rfl) rfl (fun w H => x_loadA (H.r 251 rfl) Try.isAgg59 Try.sizeOf59 (Tn.elW H (g := gm) (by repeat (first | exact List.mem_cons_self | apply List.mem_cons_of_mem)) hm) rfl) ?_; clear H; intro T H
              refine GA.v (i := 16) (L' := #[true, true, true, true, true, true, true, true, true, true, true, true, true, true, true, true, true, false, false, false, false, false, false]) H rfl (wS H rfl rfl rfl) rfl rfl rfl (by kernel_rfl) rfl (fun w H => x_fieldAddr (H.r 3 rfl) fa25_0) ?_; clear H; intro T H
              refine GA.v (i := 17) (L' := #[true, true, true, true, true, true, true, true, true, true, true, true, true, true, true, true, true, true, false, false, false, false, false]) H rfl (wS H rfl rfl rfl) rfl rfl rfl (by kernel_rfl) rfl (fun w H => x_load (H.r 253 rfl) Try.isAgg22 (by first | exact H.cell (by repeat (first | exact List.mem_cons_self | apply List.mem_cons_of_mem)) _ rfl | exact H.cellR (by repeat (first | exact List.mem_cons_self | apply List.mem_cons_of_mem)) _ rfl)) ?_; clear H; intro T H
              refine GA.v (i := 18) (L' := #[true, true, true, true, true, true, true, true, true, true, true, true, true, true, true, true, true, true, true, false, false, false, false]) H rfl (wS H rfl rfl rfl) rfl rfl rfl (by kernel_rfl) rfl (fun w H => x_move (H.r 41 rfl)) ?_; clear H; intro T H
              refine GA.v (i := 19) (L' := #[true, true, true, true, true, true, true, true, true, true, true, true, true, true, true, true, true, true, true, true, false, false, false]) H rfl (wS H rfl rfl rfl) rfl rfl rfl (by kernel_rfl) rfl (fun w H => x_ixSN (H.r 254 rfl) (H.r 255 rfl) Try.runUnderlying22 Try.sizeOf59 (by omega)) ?_; clear H; intro T H
              refine GA.v (i := 20) (L' := #[true, true, true, true, true, true, true, true, true, true, true, true, true, true, true, true, true, true, true, true, true, false, false]) H rfl (wS H rfl rfl rfl) rfl rfl rfl (by kernel_rfl) rfl (fun w H => x_loadA (H.r 256 rfl) Try.isAgg59 Try.sizeOf59 (H.extA hcl (by simp)) rfl) ?_; clear H; intro T H
              refine GA.v (v := .bool false) (i := 21) (L' := #[true, true, true, true, true, true, true, true, true, true, true, true, true, true, true, true, true, true, true, true, true, true, false]) H rfl (wS H rfl rfl rfl) rfl rfl rfl (by kernel_rfl) rfl (fun w H => Tn.x_neqW (H.r 252 rfl) (H.r 257 rfl)) ?_; clear H; intro T H
              refine GA.v (i := 22) (L' := #[true, true, true, true, true, true, true, true, true, true, true, true, true, true, true, true, true, true, true, true, true, true, true]) H rfl (wN rfl) rfl rfl rfl (by kernel_rfl) rfl (fun w H => x_pickF (H.r 248 rfl) (H.r 258 rfl)) ?_; clear H; intro T H
              refine GA.done (by kernel_rfl) ?_
              refine At.condF (H.r 259 rfl) ?_
              refine At.skip ?_
              refine At.inBlock ?_
              refine At.region' (l := [0, 1]) rfl ?_
              refine At.v H rfl (wN rfl) rfl rfl rfl (x_add (H.r 234 rfl) evC (w64 (by omega) (by omega))) ?_; clear H; intro T H
              refine At.v H rfl (wN rfl) rfl rfl rfl (x_move (H.r 260 rfl)) ?_; clear H; intro T H
              refine At.regionEnd ?_
              exact hnext2 _ _ _ _ _ (by omega) ⟨y + 1, rfl, by first | trivial | omega | exact ⟨by omega, by omega⟩, rfl, rfl⟩ (by simp only [List.cons_append, List.nil_append]; exact (H.pk (by repeat (first | exact Pk.nil | exact Pk.all | refine Pk.cons (by repeat (first | exact Take.here | apply Take.there)) ?_ | apply Pk.skip))).sub (by repeat' (first | exact trivial | refine And.intro rfl ?_)))
            · clear H; intro h235 T H
              obtain rfl : men.length = y := by omega
              refine At.regionEnd ?_
              refine At.seq ?_
              refine At.condF (H.r 235 rfl) ?_
              refine At.exit rfl ?_
              refine At.seq ?_
              refine At.seq ?_
              refine At.region' (l := [0, 1, 2]) rfl ?_
              refine At.v H rfl (wN rfl) rfl rfl rfl (x_move (H.r 13 rfl)) ?_; clear H; intro T H
              refine At.v H rfl (wN rfl) rfl rfl rfl (x_len (H.r 261 rfl) Try.runUnderlying23) ?_; clear H; intro T H
              refine At.v H rfl (wN rfl) rfl rfl rfl (x_move evC) ?_; clear H; intro T H
              refine At.regionEnd ?_
              refine At.block ?_
              replace H := ((H.fore PkS.nil).sub (R' := [(263, _)] ++ [(3, _), (13, _), (14, _), (262, _)]) (by repeat' (first | exact trivial | refine And.intro rfl ?_)))
              refine At.loopF H (fun μ R1 G1 => ∃ k : Nat, μ = list.length - k ∧ (k ≤ list.length) ∧ R1 = [(263, .int .i64 (k : Int))] ∧ G1 = []) (list.length) ⟨0, by first | rfl | omega, by first | trivial | omega | exact ⟨by omega, by omega⟩, rfl, rfl⟩ ?_
              clear H; rintro _ _ _ T w ⟨k, rfl, hP3, rfl, rfl⟩ H hnext3
              simp only [List.cons_append, List.nil_append] at H
              refine At.seq ?_
              refine At.region' (l := [0]) rfl ?_
              refine At.c H rfl (wN rfl) rfl rfl rfl (x_lss (H.r 263 rfl) (H.r 262 rfl)) ?_ ?_
              · clear H; intro h264 T H
                have hk1 : k < list.length := by omega
                obtain ⟨z, hz⟩ := get_ex hk1
                obtain ⟨gl, rfl⟩ := H.rowAddr (A := Al) (by repeat (first | exact List.mem_cons_self | apply List.mem_cons_of_mem)) (by omega)
                obtain rfl := hL.addr (fun e => by simp [e] at hk1)
                have hzc := hL.cell k z hz
                refine At.regionEnd ?_
                refine At.seq ?_
                refine At.condT (H.r 264 rfl) ?_
                refine At.skip ?_
                refine At.seq ?_
                refine At.block ?_
                refine At.seq ?_
                refine At.region' (l := [0, 1]) rfl ?_
                refine At.v H rfl (wN rfl) rfl rfl rfl (x_move (H.r 263 rfl)) ?_; clear H; intro T H
                refine At.v H rfl (wN rfl) rfl rfl rfl (x_assign (H.r 265 rfl)) ?_; clear H; intro T H
                refine At.regionEnd ?_
                refine At.seq ?_
                refine At.drawnC (m := 10) (L := #[false, false, false, false, false, false, false, false, false, false]) H mixed rfl rfl ?_; clear H; intro w H
                refine GA.v (i := 0) (L' := #[true, false, false, false, false, false, false, false, false, false]) H rfl (wN rfl) rfl rfl rfl (by kernel_rfl) rfl (fun w H => x_move (H.r 13 rfl)) ?_; clear H; intro T H
                refine GA.v (i := 1) (L' := #[true, true, false, false, false, false, false, false, false, false]) H rfl (wN rfl) rfl rfl rfl (by kernel_rfl) rfl (fun w H => x_move (H.r 42 rfl)) ?_; clear H; intro T H
                refine GA.v (i := 2) (L' := #[true, true, true, false, false, false, false, false, false, false]) H rfl (wN rfl) rfl rfl rfl (by kernel_rfl) rfl (fun w H => x_ixSN (H.r 266 rfl) (H.r 267 rfl) Try.runUnderlying23 Try.sizeOf42 (by omega)) ?_; clear H; intro T H
                refine GA.v (i := 3) (L' := #[true, true, true, true, false, false, false, false, false, false]) H rfl (wN rfl) rfl rfl rfl (by kernel_rfl) rfl (fun w H => x_loadA (H.r 268 rfl) Try.isAgg42 Try.sizeOf42 (Tn.elZ H (g := gl) (by repeat (first | exact List.mem_cons_self | apply List.mem_cons_of_mem)) hz) rfl) ?_; clear H; intro T H
                refine GA.v (i := 4) (L' := #[true, true, true, true, true, false, false, false, false, false]) H rfl (wN rfl) rfl rfl rfl (by kernel_rfl) rfl (fun w H => x_fieldAddr (H.r 3 rfl) fa25_1) ?_; clear H; intro T H
                refine GA.v (i := 5) (L' := #[true, true, true, true, true, true, false, false, false, false]) H rfl (wN rfl) rfl rfl rfl (by kernel_rfl) rfl (fun w H => x_load (H.r 270 rfl) Try.isAgg23 (by first | exact H.cell (by repeat (first | exact List.mem_cons_self | apply List.mem_cons_of_mem)) _ rfl | exact H.cellR (by repeat (first | exact List.mem_cons_self | apply List.mem_cons_of_mem)) _ rfl)) ?_; clear H; intro T H
                refine GA.v (i := 6) (L' := #[true, true, true, true, true, true, true, false, false, false]) H rfl (wN rfl) rfl rfl rfl (by kernel_rfl) rfl (fun w H => x_move (H.r 42 rfl)) ?_; clear H; intro T H
                refine GA.v (i := 7) (L' := #[true, true, true, true, true, true, true, true, false, false]) H rfl (wN rfl) rfl rfl rfl (by kernel_rfl) rfl (fun w H => x_ixSN (H.r 271 rfl) (H.r 272 rfl) Try.runUnderlying23 Try.sizeOf42 (by omega)) ?_; clear H; intro T H
                refine GA.v (i := 8) (L' := #[true, true, true, true, true, true, true, true, true, false]) H rfl (wN rfl) rfl rfl rfl (by kernel_rfl) rfl (fun w H => x_loadA (H.r 273 rfl) Try.isAgg42 Try.sizeOf42 (H.extA hzc (by simp)) rfl) ?_; clear H; intro T H
                refine GA.v (v := .bool false) (i := 9) (L' := #[true, true, true, true, true, true, true, true, true, true]) H rfl (wN rfl) rfl rfl rfl (by kernel_rfl) rfl (fun w H => Tn.x_neqZ (H.r 269 rfl) (H.r 274 rfl)) ?_; clear H; intro T H
                refine GA.done (by kernel_rfl) ?_
                refine At.condF (H.r 275 rfl) ?_
                refine At.skip ?_
                refine At.inBlock ?_
                refine At.region' (l := [0, 1]) rfl ?_
                refine At.v H rfl (wN rfl) rfl rfl rfl (x_add (H.r 263 rfl) evC (w64 (by omega) (by omega))) ?_; clear H; intro T H
                refine At.v H rfl (wN rfl) rfl rfl rfl (x_move (H.r 276 rfl)) ?_; clear H; intro T H
                refine At.regionEnd ?_
                exact hnext3 _ _ _ _ _ (by omega) ⟨k + 1, rfl, by first | trivial | omega | exact ⟨by omega, by omega⟩, rfl, rfl⟩ (by simp only [List.cons_append, List.nil_append]; exact (H.pk (by repeat (first | exact Pk.nil | exact Pk.all | refine Pk.cons (by repeat (first | exact Take.here | apply Take.there)) ?_ | apply Pk.skip))).sub (by repeat' (first | exact trivial | refine And.intro rfl ?_)))
              · clear H; intro h264 T H
                obtain rfl : list.length = k := by omega
                refine At.regionEnd ?_
                refine At.seq ?_
                refine At.condF (H.r 264 rfl) ?_
                refine At.exit rfl ?_
                refine At.seq ?_
                refine At.region' (l := [0, 1, 2, 3]) rfl ?_
                refine At.bs (n := 0) (L := ?l277_14) (e := ?e277_14) H rfl (wN rfl) rfl rfl rfl (x_bs0  ?r277_14) ?_
                case r277_14 => (simp [go_sem] <;> rfl)
                clear H; intro b277 T w H
                replace H := H.toRow (g := b277) (n := 0) (sz := 1) (e := 3) (by repeat (first | exact Take.here | apply Take.there)) rfl (by decide)
                refine At.v H rfl (wN rfl) rfl rfl rfl (x_move (H.r 14 rfl)) ?_; clear H; intro T H
                refine At.appendP H rfl (wN rfl) rfl rfl rfl (etI w0) (H.r 277 rfl) (H.r 278 rfl) (by repeat (first | exact Take.here | apply Take.there)) (Tn.rowSrc H (A := A89) (by repeat (first | exact List.mem_cons_self | apply List.mem_cons_of_mem))) (by rw [flat_lenO, dueL_len]; omega) (flat_one oneO _) (by omega) ?_; clear H; intro A279 c279 T w hc279 hA279 H
                refine At.v H rfl (wN rfl) rfl rfl rfl (x_assign (H.r 279 rfl)) ?_; clear H; intro T H
                simp only [Nat.zero_add, List.nil_append] at H
                rw [← Tn.ng_zero ((dueL men list).flatMap encO)] at H
                have hfl : ((dueL men list).flatMap encO).length = list.length := by rw [flat_lenO, dueL_len]
                refine At.regionEnd ?_
                refine At.seq ?_
                refine At.seq ?_
                refine At.region' (l := [0, 1, 2]) rfl ?_
                refine At.v H rfl (wN rfl) rfl rfl rfl (x_move (H.r 14 rfl)) ?_; clear H; intro T H
                refine At.v H rfl (wN rfl) rfl rfl rfl (x_len (H.r 280 rfl) Try.runUnderlying30) ?_; clear H; intro T H
                refine At.v H rfl (wN rfl) rfl rfl rfl (x_move evC) ?_; clear H; intro T H
                refine At.regionEnd ?_
                refine At.block ?_
                replace H := ((H.fore (PkS.cons (x := .row (.slice A89 _ _) _ _ _ _) (by repeat (first | exact Take.here | apply Take.there)) PkS.nil)).sub (R' := [(282, _)] ++ [(3, _), (14, _), (43, _), (281, _)]) (by repeat' (first | exact trivial | refine And.intro rfl ?_)))
                refine At.loopF H (fun μ R1 G1 => ∃ k : Nat, μ = list.length - k ∧ (k ≤ list.length) ∧ R1 = [(282, .int .i64 (k : Int))] ∧ G1 = [.row (.slice A89 list.length c89) 3 1 list.length (Tn.ng ((dueL men list).flatMap encO) k)]) (list.length) ⟨0, by first | rfl | omega, by first | trivial | omega | exact ⟨by omega, by omega⟩, rfl, rfl⟩ ?_
                clear H; rintro _ _ _ T w ⟨k, rfl, hP4, rfl, rfl⟩ H hnext4
                simp only [List.cons_append, List.nil_append] at H
                refine At.seq ?_
                refine At.region' (l := [0]) rfl ?_
                refine At.c H rfl (wN rfl) rfl rfl rfl (x_lss (H.r 282 rfl) (H.r 281 rfl)) ?_ ?_
                · clear H; intro h283 T H
                  have hk1 : k < list.length := by omega
                  obtain ⟨g89, rfl⟩ := H.rowAddr (A := A89) (by repeat (first | exact List.mem_cons_self | apply List.mem_cons_of_mem)) (by omega)
                  refine At.regionEnd ?_
                  refine At.seq ?_
                  refine At.condT (H.r 283 rfl) ?_
                  refine At.skip ?_
                  refine At.seq ?_
                  refine At.block ?_
                  refine At.seq ?_
                  refine At.region' (l := [0, 1]) rfl ?_
                  refine At.v H rfl (wN rfl) rfl rfl rfl (x_move (H.r 282 rfl)) ?_; clear H; intro T H
                  refine At.v H rfl (wN rfl) rfl rfl rfl (x_assign (H.r 284 rfl)) ?_; clear H; intro T H
                  refine At.regionEnd ?_
                  refine At.region' (l := [0, 1, 2, 3]) rfl ?_
                  refine At.v H rfl (wN rfl) rfl rfl rfl (x_move (H.r 14 rfl)) ?_; clear H; intro T H
                  refine At.v H rfl (wN rfl) rfl rfl rfl (x_move (H.r 44 rfl)) ?_; clear H; intro T H
                  refine At.v H rfl (wN rfl) rfl rfl rfl (x_ixSN (H.r 285 rfl) (H.r 286 rfl) Try.runUnderlying30 Try.sizeOf3 (by omega)) ?_; clear H; intro T H
                  refine At.storeR (l' := Tn.ng ((dueL men list).flatMap encO) (k + 1)) H rfl (wN rfl) rfl rfl (H.r 287 rfl) evC Try.sizeOf3 rfl rfl (by repeat (first | exact Take.here | apply Take.there)) (by rw [Tn.ng_len (by omega)]; omega) (by rw [show 0 + k * 1 = k by omega]; exact Tn.ng_set (by omega)) ?_; clear H; intro T w _ H
                  refine At.regionEnd ?_
                  refine At.inBlock ?_
                  refine At.region' (l := [0, 1]) rfl ?_
                  refine At.v H rfl (wN rfl) rfl rfl rfl (x_add (H.r 282 rfl) evC (w64 (by omega) (by omega))) ?_; clear H; intro T H
                  refine At.v H rfl (wN rfl) rfl rfl rfl (x_move (H.r 288 rfl)) ?_; clear H; intro T H
                  refine At.regionEnd ?_
                  exact hnext4 _ _ _ _ _ (by omega) ⟨k + 1, rfl, by first | trivial | omega | exact ⟨by omega, by omega⟩, rfl, rfl⟩ (by simp only [List.cons_append, List.nil_append]; exact (H.pk (by repeat (first | exact Pk.nil | exact Pk.all | refine Pk.cons (by repeat (first | exact Take.here | apply Take.there)) ?_ | apply Pk.skip))).sub (by repeat' (first | exact trivial | refine And.intro rfl ?_)))
                · clear H; intro h283 T H
                  obtain rfl : list.length = k := by omega
                  refine At.regionEnd ?_
                  refine At.seq ?_
                  refine At.condF (H.r 283 rfl) ?_
                  refine At.exit rfl ?_
                  refine At.seq ?_
                  refine At.region' (l := [0, 1, 2, 3, 4, 5, 6]) rfl ?_
                  refine At.v H rfl (wN rfl) rfl rfl rfl (x_loadA (H.r 3 rfl) Try.isAgg25 Try.sizeOf25 (H.cellsAt (n := 2) (by repeat (first | exact List.mem_cons_self | apply List.mem_cons_of_mem)) rfl) rfl) ?_; clear H; intro T H
                  refine At.fG H rfl (wN rfl) rfl rfl rfl (args1 (H.r 290 rfl)) Try.call13 (Due (hM.fr0 H.fr) (hL.fr0 H.fr) hv) ?_; clear H; rintro v291 E291 T w ⟨A291, c291, rfl, rfl⟩ _ H
                  refine At.v H rfl (wN rfl) rfl rfl rfl (x_move (H.r 291 rfl)) ?_; clear H; intro T H
                  refine At.v H rfl (wN rfl) rfl rfl rfl (x_extract (H.r 289 rfl) rfl) ?_; clear H; intro T H
                  refine At.v H rfl (wN rfl) rfl rfl rfl (x_extract (H.r 289 rfl) rfl) ?_; clear H; intro T H
                  refine At.v H rfl (wN rfl) rfl rfl rfl (x_assign (H.r 292 rfl)) ?_; clear H; intro T H
                  refine At.v H rfl (wN rfl) rfl rfl rfl (x_assign (H.r 293 rfl)) ?_; clear H; intro T H
                  refine At.regionEnd ?_
                  refine At.seq ?_
                  refine At.region' (l := [0, 1, 2, 3, 4, 5, 6]) rfl ?_
                  refine At.v H rfl (wN rfl) rfl rfl rfl (x_move (H.r 45 rfl)) ?_; clear H; intro T H
                  refine At.v H rfl (wN rfl) rfl rfl rfl (x_move (H.r 43 rfl)) ?_; clear H; intro T H
                  refine At.f0 H rfl (wN rfl) rfl rfl rfl (args2 (H.r 294 rfl) (H.r 295 rfl)) Try.call17 (Ints (xs := ((dueL men list)).map orNone) (ys := ((dueL men list)).map orNone) (H.rowSl (enc := encI) (by repeat (first | exact List.mem_cons_self | apply List.mem_cons_of_mem)) (fun _ => rfl) (by simp [dueL_len]) (map_orNone_flat _).symm) (H.rowSl (enc := encI) (l := Tn.ng ((dueL men list).flatMap encO) 0) (by repeat (first | exact List.mem_cons_self | apply List.mem_cons_of_mem)) (fun _ => rfl) (by simp [dueL_len]) (by rw [Tn.ng_zero, map_orNone_flat])) (by simp [dueL_len]; omega)) ?_; clear H; rintro v296 T w rfl _ H
                  rw [decide_eq_true (rfl : ((dueL men list)).map orNone = ((dueL men list)).map orNone)] at H
                  refine At.v H rfl (wN rfl) rfl rfl rfl (x_move (H.r 296 rfl)) ?_; clear H; intro T H
                  refine At.f0 H rfl (wS H rfl rfl rfl) rfl rfl rfl args0 Try.call11 (awake _) ?_; clear H; rintro v298 T w rfl _ H
                  refine At.v H rfl (wN rfl) rfl rfl rfl (x_pickT (H.r 297 rfl) (H.r 298 rfl)) ?_; clear H; intro T H
                  refine At.v H rfl (wN rfl) rfl rfl rfl (x_assign (H.r 299 rfl)) ?_; clear H; intro T H
                  refine At.regionEnd ?_
                  refine At.ret rfl ?_
                  exact lea Try.func8 (res1 Try.results8 (H.r 6 rfl)) (Ret.mk H.fr (rfl))
    · skip
      refine At.v H rfl (wS H rfl rfl rfl) rfl rfl rfl (x_notF (H.r 51 rfl)) ?_; clear H; intro T H
      refine At.v H rfl (wN rfl) rfl rfl rfl (x_pickF (H.r 49 rfl) (H.r 52 rfl)) ?_; clear H; intro T H
      refine At.regionEnd ?_
      refine At.condT (H.r 53 rfl) ?_
      refine At.seq ?_
      refine At.region' (l := [0, 1]) rfl ?_
      refine At.f0 H rfl (wN rfl) rfl rfl rfl args0 Try.call11 (awake _) ?_; clear H; rintro v54 T w rfl _ H
      refine At.v H rfl (wN rfl) rfl rfl rfl (x_assign (H.r 54 rfl)) ?_; clear H; intro T H
      refine At.regionEnd ?_
      refine At.ret rfl ?_
      exact lea Try.func8 (res1 Try.results8 (H.r 6 rfl)) (Ret.mk H.fr (rfl))
end Go.Proofs.Pz
end
section
set_option linter.unusedVariables false
set_option maxRecDepth 100000
namespace Go.Proofs.Ytaogmipkcdhkjaa
open Go.ChangeShapes Go.WideShapes Go.ChangeAt Go.RowKit Go.Sx
open Go.Proofs.Pz (encW encZ encB Wi Zi)
theorem prizeTurned_lifted (os : Os) (started : os.Started) (H : Type) (enc : TypeId × Value → H) :
    ReturnsInHanded {} Try.checked os 8 .any (Rows.prizeTurnedSpec.pre6 enc Try.prog Try.f8 Rows.prizeTurnedRow.domain false) (Rows.prizeTurnedSpec.post enc Try.prog Try.f8 false true false false) := by
  refine returnsInHanded_of_change (C := Try.checked) Try.own started (by kernel_rfl) Try.func8
    (ChangeSpec.witness6 (enc := enc) (C := Try.checked) false ⟨#[], #[.agg #[.slice none 0 0, .slice none 0 0], .int .u8 0, .int .u8 0], []⟩ 8 (by kernel_rfl) (by kernel_rfl) (by kernel_rfl) (by kernel_rfl)) ?_
  intro W base args ds gs before hval0 hW hcnd _
  have hval : ∀ (j : Nat) t v, Try.f8.params[j]? = some t → args[j]? = some v → Value.okWide Try.prog W .any base t v := hval0
  have hW' := hW
  obtain ⟨p, q, hA0, hV, rfl, hfz, hnd⟩ := hW
  have hA : DataW.TrodAll enc Try.prog W 0 (fun _ => true) true Try.f8.params.toList args.toList ds p := hA0
  rw [Try.params8] at hA hval
  obtain ⟨v0, v1, v2, d0, d1, d2, p0, p1, p2, rfl, rfl, hp, h0, h1, h2⟩ := trodAll_three hA
  obtain ⟨AM, AL, cM, bM, oM, cL, bL, oL, men, list, rfl, hM, hL⟩ := openP (hval 0 25 v0 rfl rfl) h0
  obtain ⟨y1, rfl, _, _, wf1⟩ := open_int Try.underlying5 (hval 1 5 v1 rfl rfl) h1
  have hb1 := bounds_u8 wf1
  obtain ⟨x1, rfl⟩ := Int.eq_ofNat_of_zero_le hb1.1
  obtain ⟨y2, rfl, _, _, wf2⟩ := open_int Try.underlying5 (hval 2 5 v2 rfl rfl) h2
  have hb2 := bounds_u8 wf2
  obtain ⟨x2, rfl⟩ := Int.eq_ofNat_of_zero_le hb2.1
  refine (Pz.PrizeTurned hM hL x1 (by omega) x2 (by omega)).mono ?_
  rintro e W' ⟨v, rfl, hf, rfl⟩
  exact ⟨_, rfl, law_post Try.laidOut (by kernel_rfl) hW' rfl hf ⟨rfl, rfl, rfl⟩ rfl Try.underlying4⟩
theorem prizeTurned_holds : Rows.PrizeTurnedSaid :=
  OpenClaim.holds_of_wide 8 Try.f8 rfl rfl rfl rfl rfl rfl rfl ⟨rfl, rfl, rfl, rfl, rfl⟩ rfl rfl rfl rfl rfl (by kernel_rfl) Try.func8 (by kernel_rfl)
    (of_decide_eq_true (by kernel_rfl)) (by unfold Func.isWrapper; rw [if_neg (of_decide_eq_false (by kernel_rfl))]; exact ⟨rfl, rfl⟩)
    (fun os started H enc _ => prizeTurned_lifted os started H enc)
end Go.Proofs.Ytaogmipkcdhkjaa
end
