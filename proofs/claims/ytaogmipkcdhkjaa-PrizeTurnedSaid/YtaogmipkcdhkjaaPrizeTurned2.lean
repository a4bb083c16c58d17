/- A part of the proof that proves PrizeTurned: for every input the statement returns true and its arguments read as before. No conditions. -/
import Derived.Test.YtaogmipkcdhkjaaPrizeTurned1
section
namespace Go.Proofs.Pz
open Go.Sx Go.RowKit
set_option linter.unusedVariables false
namespace A5
theorem fa25_0 (a : Addr) (w : World) : (Instr.fieldAt 25 (.pointer (some a)) 0).run Try.prog w = .ok (.pointer (some (a.add 0))) w := by simp [go_sem]
theorem fa25_1 (a : Addr) (w : World) : (Instr.fieldAt 25 (.pointer (some a)) 1).run Try.prog w = .ok (.pointer (some (a.add 1))) w := by simp [go_sem]
theorem fa42_0 (a : Addr) (w : World) : (Instr.fieldAt 42 (.pointer (some a)) 0).run Try.prog w = .ok (.pointer (some (a.add 0))) w := by simp [go_sem]
theorem fa59_1 (a : Addr) (w : World) : (Instr.fieldAt 59 (.pointer (some a)) 1).run Try.prog w = .ok (.pointer (some (a.add 1))) w := by simp [go_sem]
theorem fa80_0 (a : Addr) (w : World) : (Instr.fieldAt 80 (.pointer (some a)) 0).run Try.prog w = .ok (.pointer (some (a.add 0))) w := by simp [go_sem]
theorem fa90_0 (a : Addr) (w : World) : (Instr.fieldAt 90 (.pointer (some a)) 0).run Try.prog w = .ok (.pointer (some (a.add 0))) w := by simp [go_sem]
theorem fa98_0 (a : Addr) (w : World) : (Instr.fieldAt 98 (.pointer (some a)) 0).run Try.prog w = .ok (.pointer (some (a.add 0))) w := by simp [go_sem]
theorem fa100_0 (a : Addr) (w : World) : (Instr.fieldAt 100 (.pointer (some a)) 0).run Try.prog w = .ok (.pointer (some (a.add 0))) w := by simp [go_sem]
theorem fa100_1 (a : Addr) (w : World) : (Instr.fieldAt 100 (.pointer (some a)) 1).run Try.prog w = .ok (.pointer (some (a.add 1))) w := by simp [go_sem]
end A5
open A5
theorem gives1 {b b5 b3 : Nat} {men : List Wi} {list : List Zi} {w : World} {isV : Value} {p : Nat → Bool} {cn sm : Int} (hO : Op w b men list) (hp : IsP men.length isV p w) (h5 : w.cell? ⟨b5, 0, none⟩ = some isV)
    (h3 : CellsAt w b3 0 [.pointer (some ⟨b, 0, none⟩), .int .i64 cn, .int .i64 sm]) {m : Nat} (hm : m < men.length) :
    Calls Try.prog 86 #[.int .i64 (m : Int), .pointer (some ⟨b5, 0, none⟩), .pointer (some ⟨b3, 0, none⟩)] w (Ret w fun v _ => v = .bool (p m && inClub men cn m)) := by
  obtain ⟨AM, cM, bM, oM, AL, cL, bL, oL, mw, hb, hmw, hM, hL⟩ := hO
  have hmi := List.getElem?_eq_getElem hm
  generalize men[m] = mi at hmi
  have hA := hM.addr (fun e => by simp [e] at hm)
  subst hA
  refine enter (args := [.int .i64 (m : Int), .pointer (some ⟨b5, 0, none⟩), .pointer (some ⟨b3, 0, none⟩)]) (S := []) Try.func86 rfl Try.ntmps86 rfl fun cs T H => ?_
  replace H := H.ro hb (by simp)
  refine At.seq ?_
  refine At.region' (l := [0]) rfl ?_
  refine At.v H rfl (wN rfl) rfl rfl rfl (x_assign evC) ?_; clear H; intro T H
  refine At.regionEnd ?_
  refine At.seq ?_
  refine At.drawnC (m := 21) (L := #[false, false, false, false, false, false, false, false, false, false, false, false, false, false, false, false, false, false, false, false, false]) H mixed rfl rfl ?_; clear H; intro w H
  refine GA.v (i := 0) (L' := #[true, false, false, false, false, false, false, false, false, false, false, false, false, false, false, false, false, false, false, false, false]) H rfl (wN rfl) rfl rfl rfl (by kernel_rfl) rfl (fun w H => x_load (H.r 1 rfl) Try.isAgg55 (H.ext h5 (by simp))) ?_; clear H; intro T H
  refine GA.v (i := 1) (L' := #[true, true, false, false, false, false, false, false, false, false, false, false, false, false, false, false, false, false, false, false, false]) H rfl (wN rfl) rfl rfl rfl (by kernel_rfl) rfl (fun w H => x_move (H.r 0 rfl)) ?_; clear H; intro T H
  refine GA.fV (i := 2) (L' := #[true, true, true, false, false, false, false, false, false, false, false, false, false, false, false, false, false, false, false, false, false]) H rfl (wN rfl) rfl rfl rfl (by kernel_rfl) rfl (H.r 5 rfl) (args1 (H.r 6 rfl)) (hp _ H.fr m hm) ?_; clear H; rintro v7 T w rfl _ H
  rcases Bool.eq_false_or_eq_true (p m) with hpm | hpm
  · rw [hpm] at H
    refine GA.v (i := 3) (L' := #[true, true, true, true, false, false, false, false, false, false, false, false, false, false, false, false, false, false, false, false, false]) H rfl (wN rfl) rfl rfl rfl (by kernel_rfl) rfl (fun w H => x_move (H.r 7 rfl)) ?_; clear H; intro T H
    refine GA.v (i := 4) (L' := #[true, true, true, true, true, false, false, false, false, false, false, false, false, false, false, false, false, false, false, false, false]) H rfl (wS H rfl rfl rfl) rfl rfl rfl (by kernel_rfl) rfl (fun w H => x_fieldAddr (H.r 2 rfl) fa100_0) ?_; clear H; intro T H
    refine GA.v (i := 5) (L' := #[true, true, true, true, true, true, false, false, false, false, false, false, false, false, false, false, false, false, false, false, false]) H rfl (wS H rfl rfl rfl) rfl rfl rfl (by kernel_rfl) rfl (fun w H => x_fieldAddr (H.r 9 rfl) fa98_0) ?_; clear H; intro T H
    refine GA.v (i := 6) (L' := #[true, true, true, true, true, true, true, false, false, false, false, false, false, false, false, false, false, false, false, false, false]) H rfl (wS H rfl rfl rfl) rfl rfl rfl (by kernel_rfl) rfl (fun w H => x_load (H.r 10 rfl) Try.isAgg67 (H.ext (h3 0 _ rfl) (by simp))) ?_; clear H; intro T H
    refine GA.v (i := 7) (L' := #[true, true, true, true, true, true, true, true, false, false, false, false, false, false, false, false, false, false, false, false, false]) H rfl (wS H rfl rfl rfl) rfl rfl rfl (by kernel_rfl) rfl (fun w H => x_nil (H.r 11 rfl)) ?_; clear H; intro T H
    refine GA.v (i := 8) (L' := #[true, true, true, true, true, true, true, true, true, false, false, false, false, false, false, false, false, false, false, false, false]) H rfl (wS H rfl rfl rfl) rfl rfl rfl (by kernel_rfl) rfl (fun w H => x_fieldAddr (H.r 12 rfl) fa80_0) ?_; clear H; intro T H
    refine GA.v (i := 9) (L' := #[true, true, true, true, true, true, true, true, true, true, false, false, false, false, false, false, false, false, false, false, false]) H rfl (wS H rfl rfl rfl) rfl rfl rfl (by kernel_rfl) rfl (fun w H => x_fieldAddr (H.r 13 rfl) fa25_0) ?_; clear H; intro T H
    refine GA.v (i := 10) (L' := #[true, true, true, true, true, true, true, true, true, true, true, false, false, false, false, false, false, false, false, false, false]) H rfl (wS H rfl rfl rfl) rfl rfl rfl (by kernel_rfl) rfl (fun w H => x_load (H.r 14 rfl) Try.isAgg22 (by first | exact H.cell (by repeat (first | exact List.mem_cons_self | apply List.mem_cons_of_mem)) _ rfl | exact H.cellR (by repeat (first | exact List.mem_cons_self | apply List.mem_cons_of_mem)) _ rfl)) ?_; clear H; intro T H
    refine GA.v (i := 11) (L' := #[true, true, true, true, true, true, true, true, true, true, true, true, false, false, false, false, false, false, false, false, false]) H rfl (wS H rfl rfl rfl) rfl rfl rfl (by kernel_rfl) rfl (fun w H => x_move (H.r 0 rfl)) ?_; clear H; intro T H
    refine GA.v (i := 12) (L' := #[true, true, true, true, true, true, true, true, true, true, true, true, true, false, false, false, false, false, false, false, false]) H rfl (wS H rfl rfl rfl) rfl rfl rfl (by kernel_rfl) rfl (fun w H => x_ixSN (H.r 15 rfl) (H.r 16 rfl) Try.runUnderlying22 Try.sizeOf59 (by omega)) ?_; clear H; intro T H
    refine GA.v (i := 13) (L' := #[true, true, true, true, true, true, true, true, true, true, true, true, true, true, false, false, false, false, false, false, false]) H rfl (wS H rfl rfl rfl) rfl rfl rfl (by kernel_rfl) rfl (fun w H => x_fieldAddr (H.r 17 rfl) fa59_1) ?_; clear H; intro T H
    refine GA.v (i := 14) (L' := #[true, true, true, true, true, true, true, true, true, true, true, true, true, true, true, false, false, false, false, false, false]) H rfl (wS H rfl rfl rfl) rfl rfl rfl (by kernel_rfl) rfl (fun w H => x_load (H.r 18 rfl) Try.isAgg3 (H.ext (hM.cell _ mi hmi 1 _ rfl) (by simp))) ?_; clear H; intro T H
    refine GA.v (i := 15) (L' := #[true, true, true, true, true, true, true, true, true, true, true, true, true, true, true, true, false, false, false, false, false]) H rfl (wS H rfl rfl rfl) rfl rfl rfl (by kernel_rfl) rfl (fun w H => x_fieldAddr (H.r 2 rfl) fa100_1) ?_; clear H; intro T H
    refine GA.v (i := 16) (L' := #[true, true, true, true, true, true, true, true, true, true, true, true, true, true, true, true, true, false, false, false, false]) H rfl (wS H rfl rfl rfl) rfl rfl rfl (by kernel_rfl) rfl (fun w H => x_fieldAddr (H.r 20 rfl) fa90_0) ?_; clear H; intro T H
    refine GA.v (i := 17) (L' := #[true, true, true, true, true, true, true, true, true, true, true, true, true, true, true, true, true, true, false, false, false]) H rfl (wS H rfl rfl rfl) rfl rfl rfl (by kernel_rfl) rfl (fun w H => x_load (H.r 21 rfl) Try.isAgg3 (H.ext (h3 1 _ rfl) (by simp))) ?_; clear H; intro T H
    refine GA.v (i := 18) (L' := #[true, true, true, true, true, true, true, true, true, true, true, true, true, true, true, true, true, true, true, false, false]) H rfl (wS H rfl rfl rfl) rfl rfl rfl (by kernel_rfl) rfl (fun w H => x_eql (H.r 19 rfl) (H.r 22 rfl)) ?_; clear H; intro T H
    refine GA.v (i := 19) (L' := #[true, true, true, true, true, true, true, true, true, true, true, true, true, true, true, true, true, true, true, true, false]) H rfl (wN rfl) rfl rfl rfl (by kernel_rfl) rfl (fun w H => x_pickT (H.r 8 rfl) (H.r 23 rfl)) ?_; clear H; intro T H
    refine GA.v (i := 20) (L' := #[true, true, true, true, true, true, true, true, true, true, true, true, true, true, true, true, true, true, true, true, true]) H rfl (wN rfl) rfl rfl rfl (by kernel_rfl) rfl (fun w H => x_assign (H.r 24 rfl)) ?_; clear H; intro T H
    refine GA.done (by kernel_rfl) ?_
    refine At.ret rfl ?_
    exact lea Try.func86 (res1 Try.results86 (H.r 4 rfl)) (Ret.mk H.fr (by simp [hpm, inClub, hmi]))
  · rw [hpm] at H
    refine GA.v (i := 3) (L' := #[true, true, true, true, false, false, false, false, false, false, false, false, false, false, false, false, false, false, false, false, false]) H rfl (wN rfl) rfl rfl rfl (by kernel_rfl) rfl (fun w H => x_move (H.r 7 rfl)) ?_; clear H; intro T H
    refine GA.u (i := 4) (L' := #[true, true, true, true, true, false, false, false, false, false, false, false, false, false, false, false, false, false, false, false, false]) H rfl (wU H rfl rfl rfl rfl) rfl rfl (by kernel_rfl) rfl ?_; clear H; intro T H
    refine GA.u (i := 5) (L' := #[true, true, true, true, true, true, false, false, false, false, false, false, false, false, false, false, false, false, false, false, false]) H rfl (wU H rfl rfl rfl rfl) rfl rfl (by kernel_rfl) rfl ?_; clear H; intro T H
    refine GA.u (i := 6) (L' := #[true, true, true, true, true, true, true, false, false, false, false, false, false, false, false, false, false, false, false, false, false]) H rfl (wU H rfl rfl rfl rfl) rfl rfl (by kernel_rfl) rfl ?_; clear H; intro T H
    refine GA.u (i := 7) (L' := #[true, true, true, true, true, true, true, true, false, false, false, false, false, false, false, false, false, false, false, false, false]) H rfl (wU H rfl rfl rfl rfl) rfl rfl (by kernel_rfl) rfl ?_; clear H; intro T H
    refine GA.u (i := 8) (L' := #[true, true, true, true, true, true, true, true, true, false, false, false, false, false, false, false, false, false, false, false, false]) H rfl (wU H rfl rfl rfl rfl) rfl rfl (by kernel_rfl) rfl ?_; clear H; intro T H
    refine GA.u (i := 9) (L' := #[true, true, true, true, true, true, true, true, true, true, false, false, false, false, false, false, false, false, false, false, false]) H rfl (wU H rfl rfl rfl rfl) rfl rfl (by kernel_rfl) rfl ?_; clear H; intro T H
    refine GA.u (i := 10) (L' := #[true, true, true, true, true, true, true, true, true, true, true, false, false, false, false, false, false, false, false, false, false]) H rfl (wU H rfl rfl rfl rfl) rfl rfl (by kernel_rfl) rfl ?_; clear H; intro T H
    refine GA.u (i := 11) (L' := #[true, true, true, true, true, true, true, true, true, true, true, true, false, false, false, false, false, false, false, false, false]) H rfl (wU H rfl rfl rfl rfl) rfl rfl (by kernel_rfl) rfl ?_; clear H; intro T H
    refine GA.u (i := 12) (L' := #[true, true, true, true, true, true, true, true, true, true, true, true, true, false, false, false, false, false, false, false, false]) H rfl (wU H rfl rfl rfl rfl) rfl rfl (by kernel_rfl) rfl ?_; clear H; intro T H
    refine GA.u (i := 13) (L' := #[true, true, true, true, true, true, true, true, true, true, true, true, true, true, false, false, false, false, false, false, false]) H rfl (wU H rfl rfl rfl rfl) rfl rfl (by kernel_rfl) rfl ?_; clear H; intro T H
    refine GA.u (i := 14) (L' := #[true, true, true, true, true, true, true, true, true, true, true, true, true, true, true, false, false, false, false, false, false]) H rfl (wU H rfl rfl rfl rfl) rfl rfl (by kernel_rfl) rfl ?_; clear H; intro T H
    refine GA.u (i := 15) (L' := #[true, true, true, true, true, true, true, true, true, true, true, true, true, true, true, true, false, false, false, false, false]) H rfl (wU H rfl rfl rfl rfl) rfl rfl (by kernel_rfl) rfl ?_; clear H; intro T H
    refine GA.u (i := 16) (L' := #[true, true, true, true, true, true, true, true, true, true, true, true, true, true, true, true, true, false, false, false, false]) H rfl (wU H rfl rfl rfl rfl) rfl rfl (by kernel_rfl) rfl ?_; clear H; intro T H
    refine GA.u (i := 17) (L' := #[true, true, true, true, true, true, true, true, true, true, true, true, true, true, true, true, true, true, false, false, false]) H rfl (wU H rfl rfl rfl rfl) rfl rfl (by kernel_rfl) rfl ?_; clear H; intro T H
    refine GA.u (i := 18) (L' := #[true, true, true, true, true, true, true, true, true, true, true, true, true, true, true, true, true, true, true, false, false]) H rfl (wU H rfl rfl rfl rfl) rfl rfl (by kernel_rfl) rfl ?_; clear H; intro T H
    refine GA.v (i := 19) (L' := #[true, true, true, true, true, true, true, true, true, true, true, true, true, true, true, true, true, true, true, true, false]) H rfl (wN rfl) rfl rfl rfl (by kernel_rfl) rfl (fun w H => x_pickF (H.r 8 rfl) evC) ?_; clear H; intro T H
    refine GA.v (i := 20) (L' := #[true, true, true, true, true, true, true, true, true, true, true, true, true, true, true, true, true, true, true, true, true]) H rfl (wN rfl) rfl rfl rfl (by kernel_rfl) rfl (fun w H => x_assign (H.r 24 rfl)) ?_; clear H; intro T H
    refine GA.done (by kernel_rfl) ?_
    refine At.ret rfl ?_
    exact lea Try.func86 (res1 Try.results86 (H.r 4 rfl)) (Ret.mk H.fr (by simp [hpm, inClub, hmi]))
theorem gives1_isP {b b5 b3 : Nat} {men : List Wi} {list : List Zi} {w : World} {isV : Value} {p : Nat → Bool} {cn sm : Int} (hO : Op w b men list) (hp : IsP men.length isV p w) (h5 : w.cell? ⟨b5, 0, none⟩ = some isV)
    (h3 : CellsAt w b3 0 [.pointer (some ⟨b, 0, none⟩), .int .i64 cn, .int .i64 sm]) : IsP men.length (.func (.func 86) #[] #[.pointer (some ⟨b5, 0, none⟩), .pointer (some ⟨b3, 0, none⟩)]) (fun m => p m && inClub men cn m) w :=
  fun w' hf m hm => CallsV.func ⟨_, Try.func86, rfl, rfl⟩ (gives1 (hO.fr hf) (hp.fr hf) (hf.cell h5 (by simp)) (h3.fr hf (by simp)) hm)

theorem givesB {b : Nat} {men : List Wi} {list : List Zi} {w : World} (hO : Op w b men list) (hv : Valid men list) {prize : Nat} {z : Zi} (hz : list[prize]? = some z) {p : Nat → Bool} {isV : Value} (hp : IsP men.length isV p w) (hc1 : isV.cells = #[isV]) (cn sm : Int) :
    Calls Try.prog 85 #[.agg #[.pointer (some ⟨b, 0, none⟩), .int .i64 cn, .int .i64 sm], .int .i64 (prize : Int), isV] w (Ret w fun v _ => v = .int .i64 (orNone (givesC men (cn, sm) p z.for_))) := by
  have hO' := hO
  obtain ⟨AM, cM, bM, oM, AL, cL, bL, oL, mw, hb, hmw, hM, hL⟩ := hO
  have hzl := (List.getElem?_eq_some_iff.1 hz).1
  have hB := hL.addr (fun e => by simp [e] at hzl)
  subst hB
  refine enter (args := [.agg #[.pointer (some ⟨b, 0, none⟩), .int .i64 cn, .int .i64 sm], .int .i64 (prize : Int), isV]) (S := []) Try.func85 rfl Try.ntmps85 rfl fun cs T H => ?_
  replace H := H.ro hb (by simp)
  refine At.seq ?_
  refine At.region' (l := [0, 1, 2]) rfl ?_
  refine At.new H rfl (wN rfl) rfl rfl rfl (x_box (H.r 0 rfl) rfl) ?_; clear H; intro b3 T w _ _ H
  refine At.new H rfl (wN rfl) rfl rfl rfl (x_box (l := [isV]) (H.r 2 rfl) hc1) ?_; clear H; intro b5 T w _ _ H
  refine At.v H rfl (wN rfl) rfl rfl rfl (x_assign evC) ?_; clear H; intro T H
  refine At.regionEnd ?_
  refine At.seq ?_
  refine At.seq ?_
  refine At.region' (l := [0, 1, 2, 3, 4, 5, 6, 7, 8, 9, 10, 11]) rfl ?_
  refine At.v H rfl (wN rfl) rfl rfl rfl (x_fieldAddr (H.r 3 rfl) fa100_0) ?_; clear H; intro T H
  refine At.v H rfl (wN rfl) rfl rfl rfl (x_fieldAddr (H.r 7 rfl) fa98_0) ?_; clear H; intro T H
  refine At.v H rfl (wN rfl) rfl rfl rfl (x_load (H.r 8 rfl) Try.isAgg67 (by first | exact H.cell (by repeat (first | exact List.mem_cons_self | apply List.mem_cons_of_mem)) _ rfl | exact H.cellR (by repeat (first | exact List.mem_cons_self | apply List.mem_cons_of_mem)) _ rfl)) ?_; clear H; intro T H
  refine At.v H rfl (wN rfl) rfl rfl rfl (x_nil (H.r 9 rfl)) ?_; clear H; intro T H
  refine At.v H rfl (wN rfl) rfl rfl rfl (x_fieldAddr (H.r 10 rfl) fa80_0) ?_; clear H; intro T H
  refine At.v H rfl (wN rfl) rfl rfl rfl (x_fieldAddr (H.r 11 rfl) fa25_1) ?_; clear H; intro T H
  refine At.v H rfl (wN rfl) rfl rfl rfl (x_load (H.r 12 rfl) Try.isAgg23 (by first | exact H.cell (by repeat (first | exact List.mem_cons_self | apply List.mem_cons_of_mem)) _ rfl | exact H.cellR (by repeat (first | exact List.mem_cons_self | apply List.mem_cons_of_mem)) _ rfl)) ?_; clear H; intro T H
  refine At.v H rfl (wN rfl) rfl rfl rfl (x_move (H.r 1 rfl)) ?_; clear H; intro T H
  refine At.v H rfl (wN rfl) rfl rfl rfl (x_ixSN (H.r 13 rfl) (H.r 14 rfl) Try.runUnderlying23 Try.sizeOf42 (by omega)) ?_; clear H; intro T H
  refine At.v H rfl (wN rfl) rfl rfl rfl (x_fieldAddr (H.r 15 rfl) fa42_0) ?_; clear H; intro T H
  refine At.v H rfl (wN rfl) rfl rfl rfl (x_load (H.r 16 rfl) Try.isAgg3 (H.ext (hL.cell _ z hz 0 _ rfl) (by simp))) ?_; clear H; intro T H
  refine At.c H rfl (wN rfl) rfl rfl rfl (x_neq (H.r 17 rfl) evC) ?_ ?_
  · clear H; intro h18 T H
    refine At.regionEnd ?_
    refine At.condT (H.r 18 rfl) ?_
    refine At.seq ?_
    refine At.region' (l := [0, 1, 2, 3, 4, 5]) rfl ?_
    refine At.v H rfl (wN rfl) rfl rfl rfl (x_fieldAddr (H.r 3 rfl) fa100_0) ?_; clear H; intro T H
    refine At.v H rfl (wN rfl) rfl rfl rfl (x_loadA (H.r 19 rfl) Try.isAgg98 Try.sizeOf98 (H.cellsAt (n := 1) (by repeat (first | exact List.mem_cons_self | apply List.mem_cons_of_mem)) rfl) rfl) ?_; clear H; intro T H
    refine At.v H rfl (wN rfl) rfl rfl rfl (x_move (H.r 1 rfl)) ?_; clear H; intro T H
    refine At.v H rfl (wN rfl) rfl rfl rfl (x_load (H.r 5 rfl) Try.isAgg55 (by first | exact H.cell (by repeat (first | exact List.mem_cons_self | apply List.mem_cons_of_mem)) _ rfl | exact H.cellR (by repeat (first | exact List.mem_cons_self | apply List.mem_cons_of_mem)) _ rfl)) ?_; clear H; intro T H
    refine At.f0 H rfl (wN rfl) rfl rfl rfl (args3 (H.r 20 rfl) (H.r 21 rfl) (H.r 22 rfl)) Try.call84 (gives (hO'.fr H.fr) hv hz (hp.fr H.fr) hc1) ?_; clear H; rintro v23 T w rfl _ H
    have hG : givesC men (cn, sm) p z.for_ = givesP men p z.for_ := by simp [givesC, h18]
    refine At.v H rfl (wN rfl) rfl rfl rfl (x_assign (H.r 23 rfl)) ?_; clear H; intro T H
    refine At.regionEnd ?_
    refine At.ret rfl ?_
    exact lea Try.func85 (res1 Try.results85 (H.r 6 rfl)) (Ret.mk H.fr (by rw [hG] <;> rfl))
  · clear H; intro h18 T H
    refine At.regionEnd ?_
    refine At.condF (H.r 18 rfl) ?_
    refine At.skip ?_
    refine At.seq ?_
    refine At.seq ?_
    refine At.region' (l := [0, 1, 2, 3]) rfl ?_
    refine At.v H rfl (wN rfl) rfl rfl rfl (x_fieldAddr (H.r 3 rfl) fa100_1) ?_; clear H; intro T H
    refine At.v H rfl (wN rfl) rfl rfl rfl (x_loadA (H.r 24 rfl) Try.isAgg90 Try.sizeOf90 (H.cellsAt (n := 2) (by repeat (first | exact List.mem_cons_self | apply List.mem_cons_of_mem)) rfl) rfl) ?_; clear H; intro T H
    refine At.v (v := ?v26_1) H rfl (wN rfl) rfl rfl rfl (x_build0  ?r26_1) ?_
    case r26_1 => (simp [go_sem]; rfl)
    clear H; intro T H
    refine At.c H rfl (wN rfl) rfl rfl rfl (x_eqClub (H.r 25 rfl) (H.r 26 rfl)) ?_ ?_
    · clear H; intro h27 T H
      have hG : givesC men (cn, sm) p z.for_ = none := by simp [givesC, h18, h27]
      refine At.regionEnd ?_
      refine At.condT (H.r 27 rfl) ?_
      refine At.seq ?_
      refine At.region' (l := [0]) rfl ?_
      refine At.v H rfl (wN rfl) rfl rfl rfl (x_assign evC) ?_; clear H; intro T H
      refine At.regionEnd ?_
      refine At.ret rfl ?_
      exact lea Try.func85 (res1 Try.results85 (H.r 6 rfl)) (Ret.mk H.fr (by rw [hG] <;> rfl))
    · clear H; intro h27 T H
      refine At.regionEnd ?_
      refine At.condF (H.r 27 rfl) ?_
      refine At.skip ?_
      refine At.seq ?_
      refine At.region' (l := [0, 1, 2, 3, 4, 5]) rfl ?_
      refine At.v H rfl (wN rfl) rfl rfl rfl (x_fieldAddr (H.r 3 rfl) fa100_0) ?_; clear H; intro T H
      refine At.v H rfl (wN rfl) rfl rfl rfl (x_loadA (H.r 28 rfl) Try.isAgg98 Try.sizeOf98 (H.cellsAt (n := 1) (by repeat (first | exact List.mem_cons_self | apply List.mem_cons_of_mem)) rfl) rfl) ?_; clear H; intro T H
      refine At.v H rfl (wN rfl) rfl rfl rfl (x_move (H.r 1 rfl)) ?_; clear H; intro T H
      refine At.v H rfl (wN rfl) rfl rfl rfl (x_makeFunc args0 (args2 (H.r 5 rfl) (H.r 3 rfl))) ?_; clear H; intro T H
      refine At.f0 H rfl (wN rfl) rfl rfl rfl (args3 (H.r 29 rfl) (H.r 30 rfl) (H.r 31 rfl)) Try.call84 (gives (hO'.fr H.fr) hv hz (gives1_isP (hO'.fr H.fr) (hp.fr H.fr) (H.cell (by repeat (first | exact List.mem_cons_self | apply List.mem_cons_of_mem)) 0 rfl) (H.cellsAt (n := 3) (by repeat (first | exact List.mem_cons_self | apply List.mem_cons_of_mem)) rfl)) rfl) ?_; clear H; rintro v32 T w rfl _ H
      have hG : givesC men (cn, sm) p z.for_ = givesP men (fun m => p m && inClub men cn m) z.for_ := by simp [givesC, h18, h27]
      refine At.v H rfl (wN rfl) rfl rfl rfl (x_assign (H.r 32 rfl)) ?_; clear H; intro T H
      refine At.regionEnd ?_
      refine At.ret rfl ?_
      exact lea Try.func85 (res1 Try.results85 (H.r 6 rfl)) (Ret.mk H.fr (by rw [hG] <;> rfl))
end Go.Proofs.Pz
end
section
namespace Go.Proofs.Pz
open Go.Sx Go.RowKit
set_option linter.unusedVariables false
namespace A6
theorem fa25_0 (a : Addr) (w : World) : (Instr.fieldAt 25 (.pointer (some a)) 0).run Try.prog w = .ok (.pointer (some (a.add 0))) w := by simp [go_sem]
theorem fa59_0 (a : Addr) (w : World) : (Instr.fieldAt 59 (.pointer (some a)) 0).run Try.prog w = .ok (.pointer (some (a.add 0))) w := by simp [go_sem]
theorem fa59_1 (a : Addr) (w : World) : (Instr.fieldAt 59 (.pointer (some a)) 1).run Try.prog w = .ok (.pointer (some (a.add 1))) w := by simp [go_sem]
theorem fa80_0 (a : Addr) (w : World) : (Instr.fieldAt 80 (.pointer (some a)) 0).run Try.prog w = .ok (.pointer (some (a.add 0))) w := by simp [go_sem]
theorem fa90_1 (a : Addr) (w : World) : (Instr.fieldAt 90 (.pointer (some a)) 1).run Try.prog w = .ok (.pointer (some (a.add 1))) w := by simp [go_sem]
end A6
open A6
theorem etI (w : World) : ET Try.prog 30 3 1 8 (.int .i64 0) := ET.of w Try.underlying30 Try.typeInfo3 rfl rfl rfl rfl (by decide) (by decide)
theorem etC (w : World) : ET Try.prog 108 90 2 16 (.agg #[.int .i64 0, .int .i64 0]) := ET.of w Try.underlying108 Try.typeInfo90 rfl rfl rfl rfl (by decide) (by decide)
theorem best1 {b b1 b4 : Nat} {men : List Wi} {list : List Zi} {w : World} {c : Int} (hO : Op w b men list) (h1 : w.cell? ⟨b1, 0, none⟩ = some (.pointer (some ⟨b, 0, none⟩))) (h4 : w.cell? ⟨b4, 0, none⟩ = some (.int .i64 c)) {m : Nat} (hm : m < men.length) :
    Calls Try.prog 59 #[.int .i64 (m : Int), .pointer (some ⟨b1, 0, none⟩), .pointer (some ⟨b4, 0, none⟩)] w (Ret w fun v _ => v = .bool (inClub men c m)) := by
  obtain ⟨AM, cM, bM, oM, AL, cL, bL, oL, mw, hb, hmw, hM, hL⟩ := hO
  have hmi := List.getElem?_eq_getElem hm
  generalize men[m] = mi at hmi
  have hA := hM.addr (fun e => by simp [e] at hm)
  subst hA
  refine enter (args := [.int .i64 (m : Int), .pointer (some ⟨b1, 0, none⟩), .pointer (some ⟨b4, 0, none⟩)]) (S := []) Try.func59 rfl Try.ntmps59 rfl fun cs T H => ?_
  replace H := H.ro hb (by simp)
  refine At.seq ?_
  refine At.region' (l := [0]) rfl ?_
  refine At.v H rfl (wN rfl) rfl rfl rfl (x_assign evC) ?_; clear H; intro T H
  refine At.regionEnd ?_
  refine At.seq ?_
  refine At.drawnC (m := 12) (L := #[false, false, false, false, false, false, false, false, false, false, false, false]) H mixed rfl rfl ?_; clear H; intro w H
  refine GA.v (i := 0) (L' := #[true, false, false, false, false, false, false, false, false, false, false, false]) H rfl (wN rfl) rfl rfl rfl (by kernel_rfl) rfl (fun w H => x_load (H.r 1 rfl) Try.isAgg67 (H.ext h1 (by simp))) ?_; clear H; intro T H
  refine GA.v (i := 1) (L' := #[true, true, false, false, false, false, false, false, false, false, false, false]) H rfl (wN rfl) rfl rfl rfl (by kernel_rfl) rfl (fun w H => x_nil (H.r 5 rfl)) ?_; clear H; intro T H
  refine GA.v (i := 2) (L' := #[true, true, true, false, false, false, false, false, false, false, false, false]) H rfl (wN rfl) rfl rfl rfl (by kernel_rfl) rfl (fun w H => x_fieldAddr (H.r 6 rfl) fa80_0) ?_; clear H; intro T H
  refine GA.v (i := 3) (L' := #[true, true, true, true, false, false, false, false, false, false, false, false]) H rfl (wN rfl) rfl rfl rfl (by kernel_rfl) rfl (fun w H => x_fieldAddr (H.r 7 rfl) fa25_0) ?_; clear H; intro T H
  refine GA.v (i := 4) (L' := #[true, true, true, true, true, false, false, false, false, false, false, false]) H rfl (wN rfl) rfl rfl rfl (by kernel_rfl) rfl (fun w H => x_load (H.r 8 rfl) Try.isAgg22 (by first | exact H.cell (by repeat (first | exact List.mem_cons_self | apply List.mem_cons_of_mem)) _ rfl | exact H.cellR (by repeat (first | exact List.mem_cons_self | apply List.mem_cons_of_mem)) _ rfl)) ?_; clear H; intro T H
  refine GA.v (i := 5) (L' := #[true, true, true, true, true, true, false, false, false, false, false, false]) H rfl (wN rfl) rfl rfl rfl (by kernel_rfl) rfl (fun w H => x_move (H.r 0 rfl)) ?_; clear H; intro T H
  refine GA.v (i := 6) (L' := #[true, true, true, true, true, true, true, false, false, false, false, false]) H rfl (wN rfl) rfl rfl rfl (by kernel_rfl) rfl (fun w H => x_ixSN (H.r 9 rfl) (H.r 10 rfl) Try.runUnderlying22 Try.sizeOf59 (by omega)) ?_; clear H; intro T H
  refine GA.v (i := 7) (L' := #[true, true, true, true, true, true, true, true, false, false, false, false]) H rfl (wN rfl) rfl rfl rfl (by kernel_rfl) rfl (fun w H => x_fieldAddr (H.r 11 rfl) fa59_1) ?_; clear H; intro T H
  refine GA.v (i := 8) (L' := #[true, true, true, true, true, true, true, true, true, false, false, false]) H rfl (wN rfl) rfl rfl rfl (by kernel_rfl) rfl (fun w H => x_load (H.r 12 rfl) Try.isAgg3 (H.ext (hM.cell _ mi hmi 1 _ rfl) (by simp))) ?_; clear H; intro T H
  refine GA.v (i := 9) (L' := #[true, true, true, true, true, true, true, true, true, true, false, false]) H rfl (wN rfl) rfl rfl rfl (by kernel_rfl) rfl (fun w H => x_load (H.r 2 rfl) Try.isAgg3 (H.ext h4 (by simp))) ?_; clear H; intro T H
  refine GA.v (i := 10) (L' := #[true, true, true, true, true, true, true, true, true, true, true, false]) H rfl (wN rfl) rfl rfl rfl (by kernel_rfl) rfl (fun w H => x_eql (H.r 13 rfl) (H.r 14 rfl)) ?_; clear H; intro T H
  refine GA.v (i := 11) (L' := #[true, true, true, true, true, true, true, true, true, true, true, true]) H rfl (wN rfl) rfl rfl rfl (by kernel_rfl) rfl (fun w H => x_assign (H.r 15 rfl)) ?_; clear H; intro T H
  refine GA.done (by kernel_rfl) ?_
  refine At.ret rfl ?_
  exact lea Try.func59 (res1 Try.results59 (H.r 4 rfl)) (Ret.mk H.fr (by simp [inClub, hmi]))
theorem best2 (x y : Int × Int) (w : World) : Calls Try.prog 61 #[.agg (encC x).toArray, .agg (encC y).toArray] w (Ret w fun v _ => v = .bool (decide (x.2 < y.2))) := by
  refine enter (args := [.agg (encC x).toArray, .agg (encC y).toArray]) (S := []) Try.func61 rfl Try.ntmps61 rfl fun cs T H => ?_
  refine At.seq ?_
  refine At.region' (l := [0, 1, 2]) rfl ?_
  refine At.new H rfl (wN rfl) rfl rfl rfl (x_box (H.r 0 rfl) rfl) ?_; clear H; intro b2 T w _ _ H
  refine At.new H rfl (wN rfl) rfl rfl rfl (x_box (H.r 1 rfl) rfl) ?_; clear H; intro b3 T w _ _ H
  refine At.v H rfl (wN rfl) rfl rfl rfl (x_assign evC) ?_; clear H; intro T H
  refine At.regionEnd ?_
  refine At.seq ?_
  refine At.region' (l := [0, 1, 2, 3, 4, 5]) rfl ?_
  refine At.v H rfl (wN rfl) rfl rfl rfl (x_fieldAddr (H.r 2 rfl) fa90_1) ?_; clear H; intro T H
  refine At.v H rfl (wN rfl) rfl rfl rfl (x_load (H.r 5 rfl) Try.isAgg3 (by first | exact H.cell (by repeat (first | exact List.mem_cons_self | apply List.mem_cons_of_mem)) _ rfl | exact H.cellR (by repeat (first | exact List.mem_cons_self | apply List.mem_cons_of_mem)) _ rfl)) ?_; clear H; intro T H
  refine At.v H rfl (wN rfl) rfl rfl rfl (x_fieldAddr (H.r 3 rfl) fa90_1) ?_; clear H; intro T H
  refine At.v H rfl (wN rfl) rfl rfl rfl (x_load (H.r 7 rfl) Try.isAgg3 (by first | exact H.cell (by repeat (first | exact List.mem_cons_self | apply List.mem_cons_of_mem)) _ rfl | exact H.cellR (by repeat (first | exact List.mem_cons_self | apply List.mem_cons_of_mem)) _ rfl)) ?_; clear H; intro T H
  refine At.v H rfl (wN rfl) rfl rfl rfl (x_lss (H.r 6 rfl) (H.r 8 rfl)) ?_; clear H; intro T H
  refine At.v H rfl (wN rfl) rfl rfl rfl (x_assign (H.r 9 rfl)) ?_; clear H; intro T H
  refine At.regionEnd ?_
  refine At.ret rfl ?_
  exact lea Try.func61 (res1 Try.results61 (H.r 4 rfl)) (Ret.mk H.fr rfl)
theorem total {v : Value} {xs : List Int} {w0 : World} (hS : Sl encI 1 w0 v xs) (hb : ∀ x ∈ xs, 0 ≤ x ∧ x ≤ 1000) (hn : xs.length ≤ 1000) : Calls Try.prog 37 #[v] w0 (Ret w0 fun r _ => r = .int .i64 xs.sum) := by
  obtain ⟨A, cap, bk, off, rfl, hP⟩ := hS
  refine enter (args := [.slice A xs.length cap]) (S := []) Try.func37 rfl Try.ntmps37 rfl fun cs T H => ?_
  refine At.seq ?_
  refine At.region' (l := [0]) rfl ?_
  refine At.v H rfl (wN rfl) rfl rfl rfl (x_assign evC) ?_; clear H; intro T H
  refine At.regionEnd ?_
  refine At.seq ?_
  refine At.seq ?_
  refine At.region' (l := [0, 1, 2]) rfl ?_
  refine At.v H rfl (wN rfl) rfl rfl rfl (x_move (H.r 0 rfl)) ?_; clear H; intro T H
  refine At.v H rfl (wN rfl) rfl rfl rfl (x_len (H.r 5 rfl) Try.runUnderlying30) ?_; clear H; intro T H
  refine At.v H rfl (wN rfl) rfl rfl rfl (x_move evC) ?_; clear H; intro T H
  refine At.regionEnd ?_
  refine At.block ?_
  refine At.loopN (fun m T w => ∃ k, m = xs.length - k ∧ k ≤ xs.length ∧ Sx w0 [] 16 [(7, .int .i64 (k : Int)), (6, .int .i64 (xs.length : Int)), (5, .slice A xs.length cap), (2, .int .i64 (xs.take k).sum)] [] T w) (xs.length) ?_ ?_
  · exact ⟨0, rfl, Nat.zero_le _, H.sub ⟨rfl, rfl, rfl, rfl, trivial⟩⟩
  · clear H
    rintro n T w ⟨k, rfl, hk, H⟩ hnext
    refine At.seq ?_
    refine At.region' (l := [0]) rfl ?_
    refine At.c H rfl (wN rfl) rfl rfl rfl (x_lss (H.r 7 rfl) (H.r 6 rfl)) ?_ ?_
    · clear H; intro h8 T H
      have hk1 : k < xs.length := by omega
      have hx := List.getElem?_eq_getElem hk1
      generalize xs[k] = x at hx
      have hA := hP.addr (fun e => by simp [e] at hk1)
      subst hA
      have hbx := hb x (List.mem_of_getElem? hx)
      have hst := sum_bound 1000 (by omega) (xs.take k) (fun y hy => hb y (List.mem_of_mem_take hy))
      rw [List.length_take, Nat.min_eq_left (by omega)] at hst
      refine At.regionEnd ?_
      refine At.seq ?_
      refine At.condT (H.r 8 rfl) ?_
      refine At.skip ?_
      refine At.seq ?_
      refine At.block ?_
      refine At.seq ?_
      refine At.region' (l := [0, 1, 2]) rfl ?_
      refine At.v H rfl (wN rfl) rfl rfl rfl (x_ixSN (H.r 5 rfl) (H.r 7 rfl) Try.runUnderlying30 Try.sizeOf3 (by omega)) ?_; clear H; intro T H
      refine At.v H rfl (wN rfl) rfl rfl rfl (x_load (H.r 9 rfl) Try.isAgg3 (H.ext (hP.cell _ x hx 0 _ rfl) (by simp))) ?_; clear H; intro T H
      refine At.v H rfl (wN rfl) rfl rfl rfl (x_assign (H.r 10 rfl)) ?_; clear H; intro T H
      refine At.regionEnd ?_
      refine At.region' (l := [0, 1, 2, 3]) rfl ?_
      refine At.v H rfl (wN rfl) rfl rfl rfl (x_move (H.r 2 rfl)) ?_; clear H; intro T H
      refine At.v H rfl (wN rfl) rfl rfl rfl (x_move (H.r 4 rfl)) ?_; clear H; intro T H
      refine At.v H rfl (wN rfl) rfl rfl rfl (x_add (H.r 11 rfl) (H.r 12 rfl) (w64 (by omega) (by omega))) ?_; clear H; intro T H
      refine At.v H rfl (wN rfl) rfl rfl rfl (x_assign (H.r 13 rfl)) ?_; clear H; intro T H
      refine At.regionEnd ?_
      refine At.inBlock ?_
      refine At.region' (l := [0, 1]) rfl ?_
      refine At.v H rfl (wN rfl) rfl rfl rfl (x_add (H.r 7 rfl) evC (w64 (by omega) (by omega))) ?_; clear H; intro T H
      refine At.v H rfl (wN rfl) rfl rfl rfl (x_move (H.r 14 rfl)) ?_; clear H; intro T H
      refine At.regionEnd ?_
      exact hnext (xs.length - (k + 1)) _ _ (by omega) ⟨k + 1, rfl, by omega, H.sub ⟨rfl, rfl, rfl, by rw [sum_take_succ hx]; rfl, trivial⟩⟩
    · clear H; intro h8 T H
      refine At.regionEnd ?_
      refine At.seq ?_
      refine At.condF (H.r 8 rfl) ?_
      refine At.exit rfl ?_
      refine At.seq ?_
      refine At.region' (l := [0, 1]) rfl ?_
      refine At.v H rfl (wN rfl) rfl rfl rfl (x_move (H.r 2 rfl)) ?_; clear H; intro T H
      refine At.v H rfl (wN rfl) rfl rfl rfl (x_assign (H.r 15 rfl)) ?_; clear H; intro T H
      refine At.regionEnd ?_
      refine At.ret rfl ?_
      have hkk : k = xs.length := by omega
      subst hkk
      exact lea Try.func37 (res1 Try.results37 (H.r 2 rfl)) (Ret.mk H.fr (by rw [List.take_length]))
theorem first {v : Value} {xs : List (Int × Int)} {w0 : World} (hS : Sl encC 2 w0 v xs) (hn : xs.length ≤ 1000) : Calls Try.prog 60 #[v, .func (.func 61) #[] #[]] w0 (Ret w0 fun r _ => r = .tuple #[.agg (encC ((stC xs).getD (0, 0))).toArray, .bool (stC xs).isSome]) := by
  obtain ⟨A, cap, bk, off, rfl, hP⟩ := hS
  refine enter (args := [.slice A xs.length cap, .func (.func 61) #[] #[]]) (S := []) Try.func60 rfl Try.ntmps60 rfl fun cs T H => ?_
  refine At.seq ?_
  refine At.region' (l := [0, 1]) rfl ?_
  refine At.new H rfl (wN rfl) rfl rfl rfl (x_alloc Try.zeroValue90 rfl) ?_; clear H; intro b4 T w _ _ H
  refine At.v H rfl (wN rfl) rfl rfl rfl (x_assign evC) ?_; clear H; intro T H
  refine At.regionEnd ?_
  refine At.seq ?_
  refine At.seq ?_
  refine At.region' (l := [0, 1, 2]) rfl ?_
  refine At.v H rfl (wN rfl) rfl rfl rfl (x_move (H.r 0 rfl)) ?_; clear H; intro T H
  refine At.v H rfl (wN rfl) rfl rfl rfl (x_len (H.r 8 rfl) Try.runUnderlying108) ?_; clear H; intro T H
  refine At.v H rfl (wN rfl) rfl rfl rfl (x_move evC) ?_; clear H; intro T H
  refine At.regionEnd ?_
  refine At.block ?_
  refine At.loopN (fun m T w => ∃ k, m = xs.length - k ∧ k ≤ xs.length ∧ Sx w0 [] 27 [(10, .int .i64 (k : Int)), (9, .int .i64 (xs.length : Int)), (8, .slice A xs.length cap), (5, .bool (stC (xs.take k)).isSome), (4, .pointer (some ⟨b4, 0, none⟩)), (1, .func (.func 61) #[] #[])] [.blk b4 (Eo (.cells (encC ((stC (xs.take k)).getD (0, 0))).toArray 90 (0, 0)))] T w) (xs.length) ?_ ?_
  · exact ⟨0, rfl, Nat.zero_le _, H.sub ⟨rfl, rfl, rfl, rfl, rfl, rfl, trivial⟩⟩
  · clear H
    rintro n T w ⟨k, rfl, hk, H⟩ hnext
    refine At.seq ?_
    refine At.region' (l := [0]) rfl ?_
    refine At.c H rfl (wN rfl) rfl rfl rfl (x_lss (H.r 10 rfl) (H.r 9 rfl)) ?_ ?_
    · clear H; intro h11 T H
      have hk1 : k < xs.length := by omega
      have hx := List.getElem?_eq_getElem hk1
      generalize xs[k] = x at hx
      have hA := hP.addr (fun e => by simp [e] at hk1)
      subst hA
      have htk : xs.take (k + 1) = xs.take k ++ [x] := by rw [List.take_add_one, hx]; rfl
      refine At.regionEnd ?_
      refine At.seq ?_
      refine At.condT (H.r 11 rfl) ?_
      refine At.skip ?_
      refine At.seq ?_
      refine At.block ?_
      refine At.seq ?_
      refine At.region' (l := [0, 1, 2, 3, 4, 5]) rfl ?_
      refine At.v H rfl (wN rfl) rfl rfl rfl (x_move (H.r 10 rfl)) ?_; clear H; intro T H
      refine At.v H rfl (wN rfl) rfl rfl rfl (x_ixSN (H.r 8 rfl) (H.r 10 rfl) Try.runUnderlying108 Try.sizeOf90 (by omega)) ?_; clear H; intro T H
      refine At.v H rfl (wN rfl) rfl rfl rfl (x_loadA (H.r 13 rfl) Try.isAgg90 Try.sizeOf90 (H.extA (hP.cell k x hx) (by simp)) (l := encC x) rfl) ?_; clear H; intro T H
      refine At.new H rfl (wN rfl) rfl rfl rfl (x_alloc Try.zeroValue90 rfl) ?_; clear H; intro b7 T w _ _ H
      refine At.v H rfl (wN rfl) rfl rfl rfl (x_assign (H.r 12 rfl)) ?_; clear H; intro T H
      refine At.storeA H rfl (wN rfl) rfl rfl (H.r 7 rfl) (H.r 14 rfl) Try.sizeOf90 (List.all_eq_true.1 rfl) (by repeat (first | exact Upd.here | apply Upd.there)) (by rfl) ?_; clear H; intro T w _ H
      refine At.regionEnd ?_
      refine At.seq ?_
      refine At.region' (l := [0, 1, 2, 3, 4, 5, 6, 7]) rfl ?_
      refine At.v H rfl (wN rfl) rfl rfl rfl (x_move (H.r 6 rfl)) ?_; clear H; intro T H
      refine At.c H rfl (wN rfl) rfl rfl rfl (x_eql (H.r 15 rfl) evC) ?_ ?_
      · clear H; intro h16 T H
        have hst : stC (xs.take (k + 1)) = some x := by rw [htk, stC_snoc, show k = 0 by omega]; simp [stC]
        refine At.v H rfl (wN rfl) rfl rfl rfl (x_move (H.r 16 rfl)) ?_; clear H; intro T H
        refine At.u H rfl (wU H rfl rfl rfl rfl) rfl rfl ?_; clear H; intro T H
        refine At.u H rfl (wU H rfl rfl rfl rfl) rfl rfl ?_; clear H; intro T H
        refine At.u H rfl (wU H rfl rfl rfl rfl) rfl rfl ?_; clear H; intro T H
        refine At.u H rfl (wU H rfl rfl rfl rfl) rfl rfl ?_; clear H; intro T H
        refine At.v H rfl (wN rfl) rfl rfl rfl (x_pickT (H.r 17 rfl) evC) ?_; clear H; intro T H
        refine At.regionEnd ?_
        refine At.condT (H.r 22 rfl) ?_
        refine At.region' (l := [0, 1, 2]) rfl ?_
        refine At.v H rfl (wN rfl) rfl rfl rfl (x_loadA (H.r 7 rfl) Try.isAgg90 Try.sizeOf90 (H.cellsAt (n := 2) (by repeat (first | exact List.mem_cons_self | apply List.mem_cons_of_mem)) rfl) rfl) ?_; clear H; intro T H
        refine At.storeA H rfl (wN rfl) rfl rfl (H.r 4 rfl) (H.r 23 rfl) Try.sizeOf90 (List.all_eq_true.1 rfl) (by repeat (first | exact Upd.here | apply Upd.there)) (by rfl) ?_; clear H; intro T w _ H
        refine At.v H rfl (wN rfl) rfl rfl rfl (x_assign evC) ?_; clear H; intro T H
        refine At.regionEnd ?_
        refine At.inBlock ?_
        refine At.region' (l := [0, 1]) rfl ?_
        refine At.v H rfl (wN rfl) rfl rfl rfl (x_add (H.r 10 rfl) evC (w64 (by omega) (by omega))) ?_; clear H; intro T H
        refine At.v H rfl (wN rfl) rfl rfl rfl (x_move (H.r 24 rfl)) ?_; clear H; intro T H
        refine At.regionEnd ?_
        exact hnext (xs.length - (k + 1)) _ _ (by omega) ⟨k + 1, rfl, by omega, by rw [hst]; exact (H.pk (by repeat (first | exact Pk.nil | exact Pk.all | refine Pk.cons (by repeat (first | exact Take.here | apply Take.there)) ?_ | apply Pk.skip))).sub ⟨rfl, rfl, rfl, rfl, rfl, rfl, trivial⟩⟩
      · clear H; intro h16 T H
        obtain ⟨y, hy⟩ : ∃ y, stC (xs.take k) = some y := by
          cases hy : stC (xs.take k) with
          | some y => exact ⟨y, rfl⟩
          | none =>
            rw [stC_none] at hy
            have h0 : (xs.take k).length = 0 := by rw [hy]; rfl
            rw [List.length_take, Nat.min_eq_left (by omega)] at h0
            omega
        rw [hy] at H
        refine At.v H rfl (wN rfl) rfl rfl rfl (x_move (H.r 16 rfl)) ?_; clear H; intro T H
        refine At.v H rfl (wS H rfl rfl rfl) rfl rfl rfl (x_move (H.r 1 rfl)) ?_; clear H; intro T H
        refine At.v H rfl (wS H rfl rfl rfl) rfl rfl rfl (x_loadA (H.r 7 rfl) Try.isAgg90 Try.sizeOf90 (H.cellsAt (n := 2) (by repeat (first | exact List.mem_cons_self | apply List.mem_cons_of_mem)) rfl) rfl) ?_; clear H; intro T H
        refine At.v H rfl (wS H rfl rfl rfl) rfl rfl rfl (x_loadA (H.r 4 rfl) Try.isAgg90 Try.sizeOf90 (H.cellsAt (n := 2) (by repeat (first | exact List.mem_cons_self | apply List.mem_cons_of_mem)) rfl) rfl) ?_; clear H; intro T H
        refine At.fV H rfl (wS H rfl rfl rfl) rfl rfl rfl (H.r 18 rfl) (args2 (H.r 19 rfl) (H.r 20 rfl)) (CallsV.func ⟨_, Try.func61, rfl, rfl⟩ (best2 x y _)) ?_; clear H; rintro v21 T w rfl _ H
        refine At.v H rfl (wN rfl) rfl rfl rfl (x_pickF (H.r 17 rfl) (H.r 21 rfl)) ?_; clear H; intro T H
        refine At.regionEnd ?_
        refine At.condP (H.r 22 rfl) ?_ ?_
        · intro hc4
          have hst : stC (xs.take (k + 1)) = some x := by rw [htk, stC_snoc, hy]; simp [hc4]
          refine At.region' (l := [0, 1, 2]) rfl ?_
          refine At.v H rfl (wN rfl) rfl rfl rfl (x_loadA (H.r 7 rfl) Try.isAgg90 Try.sizeOf90 (H.cellsAt (n := 2) (by repeat (first | exact List.mem_cons_self | apply List.mem_cons_of_mem)) rfl) rfl) ?_; clear H; intro T H
          refine At.storeA H rfl (wN rfl) rfl rfl (H.r 4 rfl) (H.r 23 rfl) Try.sizeOf90 (List.all_eq_true.1 rfl) (by repeat (first | exact Upd.here | apply Upd.there)) (by rfl) ?_; clear H; intro T w _ H
          refine At.v H rfl (wN rfl) rfl rfl rfl (x_assign evC) ?_; clear H; intro T H
          refine At.regionEnd ?_
          refine At.inBlock ?_
          refine At.region' (l := [0, 1]) rfl ?_
          refine At.v H rfl (wN rfl) rfl rfl rfl (x_add (H.r 10 rfl) evC (w64 (by omega) (by omega))) ?_; clear H; intro T H
          refine At.v H rfl (wN rfl) rfl rfl rfl (x_move (H.r 24 rfl)) ?_; clear H; intro T H
          refine At.regionEnd ?_
          exact hnext (xs.length - (k + 1)) _ _ (by omega) ⟨k + 1, rfl, by omega, by rw [hst]; exact (H.pk (by repeat (first | exact Pk.nil | exact Pk.all | refine Pk.cons (by repeat (first | exact Take.here | apply Take.there)) ?_ | apply Pk.skip))).sub ⟨rfl, rfl, rfl, rfl, rfl, rfl, trivial⟩⟩
        · intro hc4
          have hst : stC (xs.take (k + 1)) = some y := by rw [htk, stC_snoc, hy]; simp [hc4]
          refine At.skip ?_
          refine At.inBlock ?_
          refine At.region' (l := [0, 1]) rfl ?_
          refine At.v H rfl (wN rfl) rfl rfl rfl (x_add (H.r 10 rfl) evC (w64 (by omega) (by omega))) ?_; clear H; intro T H
          refine At.v H rfl (wN rfl) rfl rfl rfl (x_move (H.r 24 rfl)) ?_; clear H; intro T H
          refine At.regionEnd ?_
          exact hnext (xs.length - (k + 1)) _ _ (by omega) ⟨k + 1, rfl, by omega, by rw [hst]; exact (H.pk (by repeat (first | exact Pk.nil | exact Pk.all | refine Pk.cons (by repeat (first | exact Take.here | apply Take.there)) ?_ | apply Pk.skip))).sub ⟨rfl, rfl, rfl, rfl, rfl, rfl, trivial⟩⟩
    · clear H; intro h11 T H
      refine At.regionEnd ?_
      refine At.seq ?_
      refine At.condF (H.r 11 rfl) ?_
      refine At.exit rfl ?_
      refine At.seq ?_
      refine At.region' (l := [0, 1, 2, 3]) rfl ?_
      refine At.v H rfl (wN rfl) rfl rfl rfl (x_loadA (H.r 4 rfl) Try.isAgg90 Try.sizeOf90 (H.cellsAt (n := 2) (by repeat (first | exact List.mem_cons_self | apply List.mem_cons_of_mem)) rfl) rfl) ?_; clear H; intro T H
      refine At.v H rfl (wN rfl) rfl rfl rfl (x_move (H.r 5 rfl)) ?_; clear H; intro T H
      refine At.storeA H rfl (wN rfl) rfl rfl (H.r 4 rfl) (H.r 25 rfl) Try.sizeOf90 (List.all_eq_true.1 rfl) (by repeat (first | exact Upd.here | apply Upd.there)) (by rfl) ?_; clear H; intro T w _ H
      refine At.v H rfl (wN rfl) rfl rfl rfl (x_assign (H.r 26 rfl)) ?_; clear H; intro T H
      refine At.regionEnd ?_
      refine At.ret rfl ?_
      have hkk : k = xs.length := by omega
      subst hkk
      rw [List.take_length] at H
      exact lea Try.func60 (resL (rs := [.cell 4 90, .tmp 5]) Try.results60 (.cellA (H.r 4 rfl) Try.isAgg90 Try.sizeOf90 (H.cellsAt (n := 2) (by repeat (first | exact List.mem_cons_self | apply List.mem_cons_of_mem)) rfl) rfl (.tmp (H.r 5 rfl) .nil)) (by simp)) (Ret.mk H.fr rfl)
theorem best {b : Nat} {men : List Wi} {list : List Zi} {w0 : World} (hO : Op w0 b men list) (hv : Valid men list) : Calls Try.prog 50 #[(.pointer (some ⟨b, 0, none⟩))] w0 (Ret w0 fun v _ => v = .agg (encC (bestP men)).toArray) := by
  obtain ⟨AM, cM, bM, oM, AL, cL, bL, oL, mw, hb, hmw, hM, hL⟩ := id hO
  have hA := hM.addr (fun e => by have := hv.n1; simp [e] at this)
  subst hA
  have hbM : w0.cell? ⟨b, 0, none⟩ = some (.slice (some ⟨bM, oM, none⟩) men.length cM) := by rw [cell_of_row _ _ _ _ _ _ hb]; rfl
  have hn8 := hv.n8
  refine enter (args := [(.pointer (some ⟨b, 0, none⟩))]) (S := []) Try.func50 rfl Try.ntmps50 rfl fun cs T H => ?_
  refine At.seq ?_
  refine At.region' (l := [0, 1]) rfl ?_
  refine At.new H rfl (wN rfl) rfl rfl rfl (x_box (H.r 0 rfl) rfl) ?_; clear H; intro b1 T w _ _ H
  refine At.new H rfl (wN rfl) rfl rfl rfl (x_alloc Try.zeroValue90 rfl) ?_; clear H; intro b2 T w _ _ H
  refine At.regionEnd ?_
  refine At.seq ?_
  refine At.region' (l := [0]) rfl ?_
  refine At.v H rfl (wN rfl) rfl rfl rfl (x_assign evC) ?_; clear H; intro T H
  refine At.regionEnd ?_
  refine At.seq ?_
  refine At.seq ?_
  refine At.region' (l := [0, 1]) rfl ?_
  refine At.new H rfl (wN rfl) rfl rfl rfl (x_alloc Try.zeroValue3 rfl) ?_; clear H; intro b4 T w _ _ H
  refine At.store1 H rfl (wN rfl) rfl rfl (H.r 4 rfl) evC Try.sizeOf3 rfl rfl (by repeat (first | exact Upd.here | apply Upd.there)) (by repeat (first | exact SetAt.z | apply SetAt.s)) ?_; clear H; intro T w _ H
  refine At.regionEnd ?_
  refine At.block ?_
  refine At.loopD (fun m D T w => ∃ (k : Nat) (ds : List Nat) (A3 : Option Addr) (c3 b4 : Nat), m = 5 - k ∧ k ≤ 5 ∧ D = ds.map coll ∧ Sx w0 [] 68 [(4, .pointer (some ⟨b4, 0, none⟩)), (3, .slice A3 (clubsTo men k).length c3), (2, .pointer (some ⟨b2, 0, none⟩)), (1, .pointer (some ⟨b1, 0, none⟩))] (.row (.slice A3 (clubsTo men k).length c3) 90 2 (clubsTo men k).length ((clubsTo men k).flatMap encC) :: .blk b4 (Eo (.cells [.int .i64 ((k : Int) + 1)].toArray 3 (0, 0))) :: .blk b2 (Eo (.cells [.int .i64 0, .int .i64 0].toArray 90 (0, 0))) :: .blk b1 (Eo (.cells [(.pointer (some ⟨b, 0, none⟩))].toArray 67 (0, 0))) :: ds.map dE) T w) (5) ?_ ?_
  · exact ⟨0, [], none, 0, b4, rfl, by omega, rfl, (H.addNil 90 2).sub ⟨rfl, rfl, rfl, rfl, trivial⟩⟩
  · clear H
    rintro n D T w ⟨k, ds, A3, c3, b4, rfl, hk, rfl, H⟩ hnext
    have hcl3 := clubsTo_len men k
    refine At.seq ?_
    refine At.seq ?_
    refine At.region' (l := [0, 1]) rfl ?_
    refine At.v H rfl (wN rfl) rfl rfl rfl (x_load (H.r 4 rfl) Try.isAgg3 (by first | exact H.cell (by repeat (first | exact List.mem_cons_self | apply List.mem_cons_of_mem)) _ rfl | exact H.cellR (by repeat (first | exact List.mem_cons_self | apply List.mem_cons_of_mem)) _ rfl)) ?_; clear H; intro T H
    refine At.c H rfl (wN rfl) rfl rfl rfl (x_leq (H.r 9 rfl) evC) ?_ ?_
    · clear H; intro h10 T H
      refine At.regionEnd ?_
      refine At.condT (H.r 10 rfl) ?_
      refine At.skip ?_
      refine At.seq ?_
      refine At.block ?_
      refine At.seq ?_
      refine At.region' (l := [0]) rfl ?_
      refine At.new H rfl (wN rfl) rfl rfl rfl (x_alloc Try.zeroValue30 rfl) ?_; clear H; intro b5 T w _ _ H
      replace H := H.addNil 3 1
      refine At.regionEnd ?_
      refine At.seq ?_
      refine At.seq ?_
      refine At.region' (l := [0, 1, 2]) rfl ?_
      refine At.v H rfl (wN rfl) rfl rfl rfl (x_load (H.r 1 rfl) Try.isAgg67 (by first | exact H.cell (by repeat (first | exact List.mem_cons_self | apply List.mem_cons_of_mem)) _ rfl | exact H.cellR (by repeat (first | exact List.mem_cons_self | apply List.mem_cons_of_mem)) _ rfl)) ?_; clear H; intro T H
      refine At.v H rfl (wN rfl) rfl rfl rfl (x_makeFunc args0 (args2 (H.r 1 rfl) (H.r 4 rfl))) ?_; clear H; intro T H
      refine At.fG H rfl (wN rfl) rfl rfl rfl (args2 (H.r 13 rfl) (H.r 14 rfl)) Try.call45 (order _ rfl) ?_; clear H; rintro v15 E15 T w ⟨bp, bi, rfl, rfl⟩ _ H
      refine At.regionEnd ?_
      refine At.block ?_
      refine At.range H rfl (H.r 15 rfl) ⟨_, Try.func55, rfl, rfl⟩ rfl (order_it (b := b) (isV := (.func (.func 59) #[] #[.pointer (some ⟨b1, 0, none⟩), .pointer (some ⟨b4, 0, none⟩)])) hv (p := inClub men ((k : Int) + 1))) (fun kk G' => ∃ A5 c5, G' = .blk bi (Eo (.cells [(.func (.func 59) #[] #[.pointer (some ⟨b1, 0, none⟩), .pointer (some ⟨b4, 0, none⟩)])].toArray 55 (0, 0))) :: .blk bp (Eo (.cells [(.pointer (some ⟨b, 0, none⟩))].toArray 67 (0, 0))) :: .row (.slice A5 kk c5) 3 1 kk (((placesOf men ((k : Int) + 1)).take kk).map (.int .i64 ·)) :: .blk b5 (Eo (.cells [.slice A5 kk c5].toArray 30 (0, 0))) :: .row (.slice A3 (clubsTo men k).length c3) 90 2 (clubsTo men k).length ((clubsTo men k).flatMap encC) :: .blk b4 (Eo (.cells [.int .i64 ((k : Int) + 1)].toArray 3 (0, 0))) :: .blk b2 (Eo (.cells [.int .i64 0, .int .i64 0].toArray 90 (0, 0))) :: .blk b1 (Eo (.cells [(.pointer (some ⟨b, 0, none⟩))].toArray 67 (0, 0))) :: ds.map dE) (fun _ _ => False) ?_ ?_ ?_ ?_ ?_
      · exact ⟨none, 0, rfl⟩
      · intro kk G1 w1 hI1 H1
        obtain ⟨A5, c5, rfl⟩ := hI1
        exact ⟨hO.fr H1.fr, H1.cell (by repeat (first | exact List.mem_cons_self | apply List.mem_cons_of_mem)) 0 rfl, H1.cell (by repeat (first | exact List.mem_cons_self | apply List.mem_cons_of_mem)) 0 rfl, fun m hm => CallsV.func ⟨_, Try.func59, rfl, rfl⟩ (best1 (hO.fr H1.fr) (H1.cell (by repeat (first | exact List.mem_cons_self | apply List.mem_cons_of_mem)) 0 rfl) (H1.cell (by repeat (first | exact List.mem_cons_self | apply List.mem_cons_of_mem)) 0 rfl) hm)⟩
      · clear H; intro d1 l1 kk x1 G1 T w c1 cs1 lo1 hlo hx1 hI1 H
        obtain ⟨A5, c5, rfl⟩ := hI1
        obtain ⟨m, hm, rfl⟩ := intV_inv hx1
        obtain ⟨mi, hmlt, hmi⟩ := hv.ord_mem (List.mem_filter.1 (List.mem_of_getElem? hm)).1
        have hpl : (placesOf men ((k : Int) + 1))[kk]? = some mi.place := by simp [placesOf, hm, placeAt, hmi]
        have hkk8 : kk < 8 := by have h1 := (List.getElem?_eq_some_iff.1 hpl).1; have h2 := placesOf_len hv ((k : Int) + 1); omega
        have htk : ((placesOf men ((k : Int) + 1)).take (kk + 1)).map (.int .i64 ·) = ((placesOf men ((k : Int) + 1)).take kk).map (.int .i64 ·) ++ [Value.int .i64 mi.place] := by rw [List.take_add_one, hpl]; simp
        refine At.region' (l := [0]) rfl ?_
        refine At.v H rfl (wN rfl) rfl rfl rfl (x_assign (H.r 16 rfl)) ?_; clear H; intro T H
        refine At.regionEnd ?_
        refine At.begR H hlo rfl ?_; clear H; intro w H
        refine At.block ?_
        refine At.drawnC (m := 13) (L := #[false, false, false, false, false, false, false, false, false, false, false, false, false]) H mixed rfl rfl ?_; clear H; intro w H
        refine GA.v (i := 0) (L' := #[true, false, false, false, false, false, false, false, false, false, false, false, false]) H rfl (wN rfl) rfl rfl rfl (by kernel_rfl) rfl (fun w H => x_load (H.r 5 rfl) Try.isAgg30 (by first | exact H.cell (by repeat (first | exact List.mem_cons_self | apply List.mem_cons_of_mem)) _ rfl | exact H.cellR (by repeat (first | exact List.mem_cons_self | apply List.mem_cons_of_mem)) _ rfl)) ?_; clear H; intro T H
        refine GA.v (i := 1) (L' := #[true, true, false, false, false, false, false, false, false, false, false, false, false]) H rfl (wN rfl) rfl rfl rfl (by kernel_rfl) rfl (fun w H => x_load (H.r 1 rfl) Try.isAgg67 (by first | exact H.cell (by repeat (first | exact List.mem_cons_self | apply List.mem_cons_of_mem)) _ rfl | exact H.cellR (by repeat (first | exact List.mem_cons_self | apply List.mem_cons_of_mem)) _ rfl)) ?_; clear H; intro T H
        refine GA.v (i := 2) (L' := #[true, true, true, false, false, false, false, false, false, false, false, false, false]) H rfl (wN rfl) rfl rfl rfl (by kernel_rfl) rfl (fun w H => x_nil (H.r 18 rfl)) ?_; clear H; intro T H
        refine GA.v (i := 3) (L' := #[true, true, true, true, false, false, false, false, false, false, false, false, false]) H rfl (wN rfl) rfl rfl rfl (by kernel_rfl) rfl (fun w H => x_fieldAddr (H.r 19 rfl) fa80_0) ?_; clear H; intro T H
        refine GA.v (i := 4) (L' := #[true, true, true, true, true, false, false, false, false, false, false, false, false]) H rfl (wN rfl) rfl rfl rfl (by kernel_rfl) rfl (fun w H => x_fieldAddr (H.r 20 rfl) fa25_0) ?_; clear H; intro T H
        refine GA.v (i := 5) (L' := #[true, true, true, true, true, true, false, false, false, false, false, false, false]) H rfl (wN rfl) rfl rfl rfl (by kernel_rfl) rfl (fun w H => x_load (H.r 21 rfl) Try.isAgg22 (H.ext hbM (by simp))) ?_; clear H; intro T H
        refine GA.v (i := 6) (L' := #[true, true, true, true, true, true, true, false, false, false, false, false, false]) H rfl (wN rfl) rfl rfl rfl (by kernel_rfl) rfl (fun w H => x_move (H.r 6 rfl)) ?_; clear H; intro T H
        refine GA.v (i := 7) (L' := #[true, true, true, true, true, true, true, true, false, false, false, false, false]) H rfl (wN rfl) rfl rfl rfl (by kernel_rfl) rfl (fun w H => x_ixSN (H.r 22 rfl) (H.r 23 rfl) Try.runUnderlying22 Try.sizeOf59 (by omega)) ?_; clear H; intro T H
        refine GA.v (i := 8) (L' := #[true, true, true, true, true, true, true, true, true, false, false, false, false]) H rfl (wN rfl) rfl rfl rfl (by kernel_rfl) rfl (fun w H => x_fieldAddr (H.r 24 rfl) fa59_0) ?_; clear H; intro T H
        refine GA.v (i := 9) (L' := #[true, true, true, true, true, true, true, true, true, true, false, false, false]) H rfl (wN rfl) rfl rfl rfl (by kernel_rfl) rfl (fun w H => x_load (H.r 25 rfl) Try.isAgg3 (H.ext (hM.cell _ mi hmi 0 _ rfl) (by simp))) ?_; clear H; intro T H
        refine GA.bs (i := 10) (L' := #[true, true, true, true, true, true, true, true, true, true, true, false, false]) (m := 1) (C := ?l27_1) (e := ?e27_1) H rfl (wN rfl) rfl rfl rfl (by kernel_rfl) rfl (x_bs1 (H.r 26 rfl) ?r27_1) ?_
        case r27_1 => (simp [go_sem]; rfl)
        clear H; intro b27 T w H
        refine GA.append (i := 11) (L' := #[true, true, true, true, true, true, true, true, true, true, true, true, false]) H rfl (wN rfl) rfl rfl rfl (by kernel_rfl) rfl (etI w) (H.r 17 rfl) (H.r 27 rfl) (by repeat (first | exact Take.here | apply Take.there)) (show CellsAt _ _ _ [.int .i64 mi.place] from H.cellsAt (n := 1) (by repeat (first | exact List.mem_cons_self | apply List.mem_cons_of_mem)) rfl) rfl (by simp [Value.oneCell']) (by omega) ?_; clear H; intro A28 c28 T w hc28 hA28 H
        refine GA.store1 (i := 12) (L' := #[true, true, true, true, true, true, true, true, true, true, true, true, true]) H rfl (wN rfl) rfl rfl (by kernel_rfl) rfl (H.r 5 rfl) (H.r 28 rfl) Try.sizeOf30 rfl rfl (by repeat (first | exact Upd.here | apply Upd.there)) (by simp) rfl ?_; clear H; intro T w H
        refine GA.done (by kernel_rfl) ?_
        refine At.inBlock ?_
        rw [← htk] at H
        exact At.leaveN H hlo rfl rfl (by repeat (first | exact Picks.nil | exact Picks.all | refine Picks.cons (by repeat (first | exact Take.here | apply Take.there)) ?_ | apply Picks.skip)) ⟨_, _, rfl⟩
      · clear H; intro d1 G1 w hI1 H
        obtain ⟨A5, c5, rfl⟩ := hI1
        have hpn := placesOf_len hv ((k : Int) + 1)
        have hpm := fun p hp => placesOf_mem hv (c := (k : Int) + 1) (p := p) hp
        have hcd : clubSum men ((k : Int) + 1) = clubSum men ((k : Int) + 1) := rfl
        conv at hcd => rhs; unfold clubSum
        rw [show (intV ((ord men).filter (inClub men ((k : Int) + 1)))).length = (placesOf men ((k : Int) + 1)).length by simp [intV, placesOf], List.take_length] at H
        generalize placesOf men ((k : Int) + 1) = pl at *
        have hcz := clubsTo_succ men k
        refine At.inBlock ?_
        refine At.block ?_
        refine At.seq ?_
        refine At.region' (l := [0, 1, 2, 3]) rfl ?_
        refine At.v H rfl (wN rfl) rfl rfl rfl (x_load (H.r 5 rfl) Try.isAgg30 (by first | exact H.cell (by repeat (first | exact List.mem_cons_self | apply List.mem_cons_of_mem)) _ rfl | exact H.cellR (by repeat (first | exact List.mem_cons_self | apply List.mem_cons_of_mem)) _ rfl)) ?_; clear H; intro T H
        refine At.v H rfl (wN rfl) rfl rfl rfl (x_len (H.r 30 rfl) Try.runUnderlying30) ?_; clear H; intro T H
        refine At.c H rfl (wN rfl) rfl rfl rfl (x_eql (H.r 31 rfl) evC) ?_ ?_
        · clear H; intro h32 T H
          obtain ⟨a, rfl⟩ : ∃ a, pl = [a] := List.length_eq_one_iff.1 (by omega)
          simp only [] at hcd
          rw [hcd] at hcz
          have hll : (clubsTo men (k + 1)).length = (clubsTo men k).length + 1 := by rw [hcz]; simp
          have hfl : (clubsTo men (k + 1)).flatMap encC = (clubsTo men k).flatMap encC ++ encC ((k : Int) + 1, a + men.length + 1) := by rw [hcz]; simp
          obtain ⟨g5, rfl⟩ := H.rowAddr (by repeat (first | exact List.mem_cons_self | apply List.mem_cons_of_mem)) (by simp)
          have hpa := hpm a (by simp)
          refine At.v H rfl (wN rfl) rfl rfl rfl (x_assign (H.r 32 rfl)) ?_; clear H; intro T H
          refine At.regionEnd ?_
          refine At.condT (H.r 29 rfl) ?_
          refine At.drawnC (m := 17) (L := #[false, false, false, false, false, false, false, false, false, false, false, false, false, false, false, false, false]) H mixed rfl rfl ?_; clear H; intro w H
          refine GA.v (i := 0) (L' := #[true, false, false, false, false, false, false, false, false, false, false, false, false, false, false, false, false]) H rfl (wN rfl) rfl rfl rfl (by kernel_rfl) rfl (fun w H => x_move (H.r 3 rfl)) ?_; clear H; intro T H
          refine GA.v (i := 1) (L' := #[true, true, false, false, false, false, false, false, false, false, false, false, false, false, false, false, false]) H rfl (wN rfl) rfl rfl rfl (by kernel_rfl) rfl (fun w H => x_load (H.r 4 rfl) Try.isAgg3 (by first | exact H.cell (by repeat (first | exact List.mem_cons_self | apply List.mem_cons_of_mem)) _ rfl | exact H.cellR (by repeat (first | exact List.mem_cons_self | apply List.mem_cons_of_mem)) _ rfl)) ?_; clear H; intro T H
          refine GA.v (i := 2) (L' := #[true, true, true, false, false, false, false, false, false, false, false, false, false, false, false, false, false]) H rfl (wN rfl) rfl rfl rfl (by kernel_rfl) rfl (fun w H => x_load (H.r 5 rfl) Try.isAgg30 (by first | exact H.cell (by repeat (first | exact List.mem_cons_self | apply List.mem_cons_of_mem)) _ rfl | exact H.cellR (by repeat (first | exact List.mem_cons_self | apply List.mem_cons_of_mem)) _ rfl)) ?_; clear H; intro T H
          refine GA.v (i := 3) (L' := #[true, true, true, true, false, false, false, false, false, false, false, false, false, false, false, false, false]) H rfl (wN rfl) rfl rfl rfl (by kernel_rfl) rfl (fun w H => x_ixS (H.r 35 rfl) evC Try.runUnderlying30 Try.sizeOf3 (by omega) (by simp)) ?_; clear H; intro T H
          refine GA.v (i := 4) (L' := #[true, true, true, true, true, false, false, false, false, false, false, false, false, false, false, false, false]) H rfl (wN rfl) rfl rfl rfl (by kernel_rfl) rfl (fun w H => x_load (H.r 36 rfl) Try.isAgg3 (H.rowCell (by repeat (first | exact List.mem_cons_self | apply List.mem_cons_of_mem)) 0 rfl)) ?_; clear H; intro T H
          refine GA.v (i := 5) (L' := #[true, true, true, true, true, true, false, false, false, false, false, false, false, false, false, false, false]) H rfl (wN rfl) rfl rfl rfl (by kernel_rfl) rfl (fun w H => x_load (H.r 1 rfl) Try.isAgg67 (by first | exact H.cell (by repeat (first | exact List.mem_cons_self | apply List.mem_cons_of_mem)) _ rfl | exact H.cellR (by repeat (first | exact List.mem_cons_self | apply List.mem_cons_of_mem)) _ rfl)) ?_; clear H; intro T H
          refine GA.v (i := 6) (L' := #[true, true, true, true, true, true, true, false, false, false, false, false, false, false, false, false, false]) H rfl (wN rfl) rfl rfl rfl (by kernel_rfl) rfl (fun w H => x_nil (H.r 38 rfl)) ?_; clear H; intro T H
          refine GA.v (i := 7) (L' := #[true, true, true, true, true, true, true, true, false, false, false, false, false, false, false, false, false]) H rfl (wN rfl) rfl rfl rfl (by kernel_rfl) rfl (fun w H => x_fieldAddr (H.r 39 rfl) fa80_0) ?_; clear H; intro T H
          refine GA.v (i := 8) (L' := #[true, true, true, true, true, true, true, true, true, false, false, false, false, false, false, false, false]) H rfl (wN rfl) rfl rfl rfl (by kernel_rfl) rfl (fun w H => x_fieldAddr (H.r 40 rfl) fa25_0) ?_; clear H; intro T H
          refine GA.v (i := 9) (L' := #[true, true, true, true, true, true, true, true, true, true, false, false, false, false, false, false, false]) H rfl (wN rfl) rfl rfl rfl (by kernel_rfl) rfl (fun w H => x_load (H.r 41 rfl) Try.isAgg22 (H.ext hbM (by simp))) ?_; clear H; intro T H
          refine GA.v (i := 10) (L' := #[true, true, true, true, true, true, true, true, true, true, true, false, false, false, false, false, false]) H rfl (wN rfl) rfl rfl rfl (by kernel_rfl) rfl (fun w H => x_len (H.r 42 rfl) Try.runUnderlying22) ?_; clear H; intro T H
          refine GA.bs (i := 11) (L' := #[true, true, true, true, true, true, true, true, true, true, true, true, false, false, false, false, false]) (m := 3) (C := ?l44_2) (e := ?e44_2) H rfl (wN rfl) rfl rfl rfl (by kernel_rfl) rfl (x_bs3 (H.r 37 rfl) (H.r 43 rfl) evC ?r44_2) ?_
          case r44_2 => (simp [go_sem]; rfl)
          clear H; intro b44 T w H
          refine GA.f0 (i := 12) (L' := #[true, true, true, true, true, true, true, true, true, true, true, true, true, false, false, false, false]) H rfl (wN rfl) rfl rfl rfl (by kernel_rfl) rfl (args1 (H.r 44 rfl)) Try.call37 (total (xs := [a, (men.length : Int), 1]) (H.blkSl (enc := encI) (by repeat (first | exact List.mem_cons_self | apply List.mem_cons_of_mem)) (fun _ => rfl) rfl (by omega) rfl) (by intro x hx; simp at hx; omega) (by simp)) ?_; clear H; rintro v45 T w rfl _ H
          have hsum : ([a, (men.length : Int), 1] : List Int).sum = a + men.length + 1 := by simp; omega
          rw [hsum] at H
          refine GA.v (v := ?v46_3) (i := 13) (L' := #[true, true, true, true, true, true, true, true, true, true, true, true, true, true, false, false, false]) H rfl (wN rfl) rfl rfl rfl (by kernel_rfl) rfl (fun w H => x_build2 (H.r 34 rfl) (H.r 45 rfl) (by simp [go_sem]; rfl)) ?_; clear H; intro T H
          refine GA.bs (i := 14) (L' := #[true, true, true, true, true, true, true, true, true, true, true, true, true, true, true, false, false]) (m := 1) (C := ?l47_4) (e := ?e47_4) H rfl (wN rfl) rfl rfl rfl (by kernel_rfl) rfl (x_bs1 (H.r 46 rfl) ?r47_4) ?_
          case r47_4 => (simp [go_sem]; rfl)
          clear H; intro b47 T w H
          refine GA.append (i := 15) (L' := #[true, true, true, true, true, true, true, true, true, true, true, true, true, true, true, true, false]) H rfl (wN rfl) rfl rfl rfl (by kernel_rfl) rfl (etC w) (H.r 33 rfl) (H.r 47 rfl) (by repeat (first | exact Take.here | apply Take.there)) (show CellsAt _ _ _ (encC ((k : Int) + 1, a + men.length + 1)) from H.cellsAt (n := 2) (by repeat (first | exact List.mem_cons_self | apply List.mem_cons_of_mem)) rfl) rfl (by simp [encC, Value.oneCell']) (by omega) ?_; clear H; intro A48 c48 T w hc48 hA48 H
          refine GA.v (i := 16) (L' := #[true, true, true, true, true, true, true, true, true, true, true, true, true, true, true, true, true]) H rfl (wN rfl) rfl rfl rfl (by kernel_rfl) rfl (fun w H => x_assign (H.r 48 rfl)) ?_; clear H; intro T H
          refine GA.done (by kernel_rfl) ?_
          refine At.inBlock ?_
          refine At.inBlock ?_
          refine At.seq ?_
          refine At.seq ?_
          refine At.region' (l := [0]) rfl ?_
          refine At.v H rfl (wN rfl) rfl rfl rfl (x_load (H.r 4 rfl) Try.isAgg3 (by first | exact H.cell (by repeat (first | exact List.mem_cons_self | apply List.mem_cons_of_mem)) _ rfl | exact H.cellR (by repeat (first | exact List.mem_cons_self | apply List.mem_cons_of_mem)) _ rfl)) ?_; clear H; intro T H
          refine At.regionEnd ?_
          refine At.region' (l := [0, 1]) rfl ?_
          refine At.new H rfl (wN rfl) rfl rfl rfl (x_alloc Try.zeroValue3 rfl) ?_; clear H; intro b4 T w _ _ H
          refine At.store1 H rfl (wN rfl) rfl rfl (H.r 4 rfl) (H.r 61 rfl) Try.sizeOf3 rfl rfl (by repeat (first | exact Upd.here | apply Upd.there)) (by repeat (first | exact SetAt.z | apply SetAt.s)) ?_; clear H; intro T w _ H
          refine At.regionEnd ?_
          refine At.region' (l := [0, 1, 2]) rfl ?_
          refine At.v H rfl (wN rfl) rfl rfl rfl (x_load (H.r 4 rfl) Try.isAgg3 (by first | exact H.cell (by repeat (first | exact List.mem_cons_self | apply List.mem_cons_of_mem)) _ rfl | exact H.cellR (by repeat (first | exact List.mem_cons_self | apply List.mem_cons_of_mem)) _ rfl)) ?_; clear H; intro T H
          refine At.v H rfl (wN rfl) rfl rfl rfl (x_add (H.r 11 rfl) evC (w64 (by omega) (by omega))) ?_; clear H; intro T H
          refine At.store1 H rfl (wN rfl) rfl rfl (H.r 4 rfl) (H.r 12 rfl) Try.sizeOf3 rfl rfl (by repeat (first | exact Upd.here | apply Upd.there)) (by repeat (first | exact SetAt.z | apply SetAt.s)) ?_; clear H; intro T w _ H
          refine At.regionEnd ?_
          exact hnext (5 - (k + 1)) _ _ _ (by omega) ⟨k + 1, d1 :: ds, _, _, _, rfl, by omega, rfl, by rw [hll, hfl]; exact (H.pk (by repeat (first | exact Pk.nil | exact Pk.all | refine Pk.cons (by repeat (first | exact Take.here | apply Take.there)) ?_ | apply Pk.skip))).sub ⟨rfl, rfl, rfl, rfl, trivial⟩⟩
        · clear H; intro h32 T H
          refine At.v H rfl (wN rfl) rfl rfl rfl (x_assign (H.r 32 rfl)) ?_; clear H; intro T H
          refine At.regionEnd ?_
          refine At.condF (H.r 29 rfl) ?_
          refine At.seq ?_
          refine At.region' (l := [0, 1, 2, 3]) rfl ?_
          refine At.v H rfl (wN rfl) rfl rfl rfl (x_load (H.r 5 rfl) Try.isAgg30 (by first | exact H.cell (by repeat (first | exact List.mem_cons_self | apply List.mem_cons_of_mem)) _ rfl | exact H.cellR (by repeat (first | exact List.mem_cons_self | apply List.mem_cons_of_mem)) _ rfl)) ?_; clear H; intro T H
          refine At.v H rfl (wN rfl) rfl rfl rfl (x_len (H.r 50 rfl) Try.runUnderlying30) ?_; clear H; intro T H
          refine At.c H rfl (wN rfl) rfl rfl rfl (x_gtr (H.r 51 rfl) evC) ?_ ?_
          · clear H; intro h52 T H
            obtain ⟨a, a2, r, rfl⟩ : ∃ a a2 r, pl = a :: a2 :: r := by
              rcases pl with _ | ⟨a, _ | ⟨a2, r⟩⟩
              · simp at h52
              · simp at h52
              · exact ⟨a, a2, r, rfl⟩
            simp only [] at hcd
            rw [hcd] at hcz
            have hll : (clubsTo men (k + 1)).length = (clubsTo men k).length + 1 := by rw [hcz]; simp
            have hfl : (clubsTo men (k + 1)).flatMap encC = (clubsTo men k).flatMap encC ++ encC ((k : Int) + 1, a + a2) := by rw [hcz]; simp
            obtain ⟨g5, rfl⟩ := H.rowAddr (by repeat (first | exact List.mem_cons_self | apply List.mem_cons_of_mem)) (by simp)
            have hpa := hpm a (by simp)
            have hpa2 := hpm a2 (by simp)
            have hcap := H.rowCap (A := some ⟨g5, 0, none⟩) (by repeat (first | exact List.mem_cons_self | apply List.mem_cons_of_mem))
            simp only [List.length_cons] at hcap
            refine At.v H rfl (wN rfl) rfl rfl rfl (x_assign (H.r 52 rfl)) ?_; clear H; intro T H
            refine At.regionEnd ?_
            refine At.condT (H.r 49 rfl) ?_
            refine At.drawnC (m := 9) (L := #[false, false, false, false, false, false, false, false, false]) H mixed rfl rfl ?_; clear H; intro w H
            refine GA.v (i := 0) (L' := #[true, false, false, false, false, false, false, false, false]) H rfl (wN rfl) rfl rfl rfl (by kernel_rfl) rfl (fun w H => x_move (H.r 3 rfl)) ?_; clear H; intro T H
            refine GA.v (i := 1) (L' := #[true, true, false, false, false, false, false, false, false]) H rfl (wN rfl) rfl rfl rfl (by kernel_rfl) rfl (fun w H => x_load (H.r 4 rfl) Try.isAgg3 (by first | exact H.cell (by repeat (first | exact List.mem_cons_self | apply List.mem_cons_of_mem)) _ rfl | exact H.cellR (by repeat (first | exact List.mem_cons_self | apply List.mem_cons_of_mem)) _ rfl)) ?_; clear H; intro T H
            refine GA.v (i := 2) (L' := #[true, true, true, false, false, false, false, false, false]) H rfl (wN rfl) rfl rfl rfl (by kernel_rfl) rfl (fun w H => x_load (H.r 5 rfl) Try.isAgg30 (by first | exact H.cell (by repeat (first | exact List.mem_cons_self | apply List.mem_cons_of_mem)) _ rfl | exact H.cellR (by repeat (first | exact List.mem_cons_self | apply List.mem_cons_of_mem)) _ rfl)) ?_; clear H; intro T H
            refine GA.v (i := 3) (L' := #[true, true, true, true, false, false, false, false, false]) H rfl (wN rfl) rfl rfl rfl (by kernel_rfl) rfl (fun w H => x_slS0 (H.r 55 rfl) evC Try.runUnderlying30 Try.sizeOf3 (by omega) (by omega)) ?_; clear H; intro T H
            refine GA.f0 (i := 4) (L' := #[true, true, true, true, true, false, false, false, false]) H rfl (wN rfl) rfl rfl rfl (by kernel_rfl) rfl (args1 (H.r 56 rfl)) Try.call37 (total (xs := [a, a2]) (Sl.take (m := 2) (H.rowSl (enc := encI) (xs := a :: a2 :: r) (by repeat (first | exact List.mem_cons_self | apply List.mem_cons_of_mem)) (fun _ => rfl) rfl (by rw [flat_encI])) (by simp) (by simp)) (by intro x hx; simp at hx; omega) (by simp)) ?_; clear H; rintro v57 T w rfl _ H
            have hsum : ([a, a2] : List Int).sum = a + a2 := by simp
            rw [hsum] at H
            refine GA.v (v := ?v58_5) (i := 5) (L' := #[true, true, true, true, true, true, false, false, false]) H rfl (wN rfl) rfl rfl rfl (by kernel_rfl) rfl (fun w H => x_build2 (H.r 54 rfl) (H.r 57 rfl) (by simp [go_sem]; rfl)) ?_; clear H; intro T H
            refine GA.bs (i := 6) (L' := #[true, true, true, true, true, true, true, false, false]) (m := 1) (C := ?l59_6) (e := ?e59_6) H rfl (wN rfl) rfl rfl rfl (by kernel_rfl) rfl (x_bs1 (H.r 58 rfl) ?r59_6) ?_
            case r59_6 => (simp [go_sem]; rfl)
            clear H; intro b59 T w H
            refine GA.append (i := 7) (L' := #[true, true, true, true, true, true, true, true, false]) H rfl (wN rfl) rfl rfl rfl (by kernel_rfl) rfl (etC w) (H.r 53 rfl) (H.r 59 rfl) (by repeat (first | exact Take.here | apply Take.there)) (show CellsAt _ _ _ (encC ((k : Int) + 1, a + a2)) from H.cellsAt (n := 2) (by repeat (first | exact List.mem_cons_self | apply List.mem_cons_of_mem)) rfl) rfl (by simp [encC, Value.oneCell']) (by omega) ?_; clear H; intro A60 c60 T w hc60 hA60 H
            refine GA.v (i := 8) (L' := #[true, true, true, true, true, true, true, true, true]) H rfl (wN rfl) rfl rfl rfl (by kernel_rfl) rfl (fun w H => x_assign (H.r 60 rfl)) ?_; clear H; intro T H
            refine GA.done (by kernel_rfl) ?_
            refine At.inBlock ?_
            refine At.inBlock ?_
            refine At.seq ?_
            refine At.seq ?_
            refine At.region' (l := [0]) rfl ?_
            refine At.v H rfl (wN rfl) rfl rfl rfl (x_load (H.r 4 rfl) Try.isAgg3 (by first | exact H.cell (by repeat (first | exact List.mem_cons_self | apply List.mem_cons_of_mem)) _ rfl | exact H.cellR (by repeat (first | exact List.mem_cons_self | apply List.mem_cons_of_mem)) _ rfl)) ?_; clear H; intro T H
            refine At.regionEnd ?_
            refine At.region' (l := [0, 1]) rfl ?_
            refine At.new H rfl (wN rfl) rfl rfl rfl (x_alloc Try.zeroValue3 rfl) ?_; clear H; intro b4 T w _ _ H
            refine At.store1 H rfl (wN rfl) rfl rfl (H.r 4 rfl) (H.r 61 rfl) Try.sizeOf3 rfl rfl (by repeat (first | exact Upd.here | apply Upd.there)) (by repeat (first | exact SetAt.z | apply SetAt.s)) ?_; clear H; intro T w _ H
            refine At.regionEnd ?_
            refine At.region' (l := [0, 1, 2]) rfl ?_
            refine At.v H rfl (wN rfl) rfl rfl rfl (x_load (H.r 4 rfl) Try.isAgg3 (by first | exact H.cell (by repeat (first | exact List.mem_cons_self | apply List.mem_cons_of_mem)) _ rfl | exact H.cellR (by repeat (first | exact List.mem_cons_self | apply List.mem_cons_of_mem)) _ rfl)) ?_; clear H; intro T H
            refine At.v H rfl (wN rfl) rfl rfl rfl (x_add (H.r 11 rfl) evC (w64 (by omega) (by omega))) ?_; clear H; intro T H
            refine At.store1 H rfl (wN rfl) rfl rfl (H.r 4 rfl) (H.r 12 rfl) Try.sizeOf3 rfl rfl (by repeat (first | exact Upd.here | apply Upd.there)) (by repeat (first | exact SetAt.z | apply SetAt.s)) ?_; clear H; intro T w _ H
            refine At.regionEnd ?_
            exact hnext (5 - (k + 1)) _ _ _ (by omega) ⟨k + 1, d1 :: ds, _, _, _, rfl, by omega, rfl, by rw [hll, hfl]; exact (H.pk (by repeat (first | exact Pk.nil | exact Pk.all | refine Pk.cons (by repeat (first | exact Take.here | apply Take.there)) ?_ | apply Pk.skip))).sub ⟨rfl, rfl, rfl, rfl, trivial⟩⟩
          · clear H; intro h52 T H
            obtain rfl : pl = [] := List.eq_nil_of_length_eq_zero (by omega)
            simp only [] at hcd
            rw [hcd] at hcz
            have hll : (clubsTo men (k + 1)).length = (clubsTo men k).length := by rw [hcz]; simp
            have hfl : (clubsTo men (k + 1)).flatMap encC = (clubsTo men k).flatMap encC := by rw [hcz]; simp
            refine At.v H rfl (wN rfl) rfl rfl rfl (x_assign (H.r 52 rfl)) ?_; clear H; intro T H
            refine At.regionEnd ?_
            refine At.condF (H.r 49 rfl) ?_
            refine At.skip ?_
            refine At.inBlock ?_
            refine At.inBlock ?_
            refine At.seq ?_
            refine At.seq ?_
            refine At.region' (l := [0]) rfl ?_
            refine At.v H rfl (wN rfl) rfl rfl rfl (x_load (H.r 4 rfl) Try.isAgg3 (by first | exact H.cell (by repeat (first | exact List.mem_cons_self | apply List.mem_cons_of_mem)) _ rfl | exact H.cellR (by repeat (first | exact List.mem_cons_self | apply List.mem_cons_of_mem)) _ rfl)) ?_; clear H; intro T H
            refine At.regionEnd ?_
            refine At.region' (l := [0, 1]) rfl ?_
            refine At.new H rfl (wN rfl) rfl rfl rfl (x_alloc Try.zeroValue3 rfl) ?_; clear H; intro b4 T w _ _ H
            refine At.store1 H rfl (wN rfl) rfl rfl (H.r 4 rfl) (H.r 61 rfl) Try.sizeOf3 rfl rfl (by repeat (first | exact Upd.here | apply Upd.there)) (by repeat (first | exact SetAt.z | apply SetAt.s)) ?_; clear H; intro T w _ H
            refine At.regionEnd ?_
            refine At.region' (l := [0, 1, 2]) rfl ?_
            refine At.v H rfl (wN rfl) rfl rfl rfl (x_load (H.r 4 rfl) Try.isAgg3 (by first | exact H.cell (by repeat (first | exact List.mem_cons_self | apply List.mem_cons_of_mem)) _ rfl | exact H.cellR (by repeat (first | exact List.mem_cons_self | apply List.mem_cons_of_mem)) _ rfl)) ?_; clear H; intro T H
            refine At.v H rfl (wN rfl) rfl rfl rfl (x_add (H.r 11 rfl) evC (w64 (by omega) (by omega))) ?_; clear H; intro T H
            refine At.store1 H rfl (wN rfl) rfl rfl (H.r 4 rfl) (H.r 12 rfl) Try.sizeOf3 rfl rfl (by repeat (first | exact Upd.here | apply Upd.there)) (by repeat (first | exact SetAt.z | apply SetAt.s)) ?_; clear H; intro T w _ H
            refine At.regionEnd ?_
            exact hnext (5 - (k + 1)) _ _ _ (by omega) ⟨k + 1, d1 :: ds, _, _, _, rfl, by omega, rfl, by rw [hll, hfl]; exact (H.pk (by repeat (first | exact Pk.nil | exact Pk.all | refine Pk.cons (by repeat (first | exact Take.here | apply Take.there)) ?_ | apply Pk.skip))).sub ⟨rfl, rfl, rfl, rfl, trivial⟩⟩
      · clear H; intro d1 c1 G1 w hI1 H
        exact hI1.elim
    · clear H; intro h10 T H
      obtain rfl : k = 5 := by omega
      refine At.regionEnd ?_
      refine At.condF (H.r 10 rfl) ?_
      refine At.exit rfl ?_
      refine At.seq ?_
      refine At.region' (l := [0, 1, 2, 3, 4, 5, 6, 7]) rfl ?_
      refine At.v H rfl (wN rfl) rfl rfl rfl (x_move (H.r 3 rfl)) ?_; clear H; intro T H
      refine At.f0 H rfl (wN rfl) rfl rfl rfl (args2 (H.r 63 rfl) evF) Try.call60 (first (H.rowSl (enc := encC) (by repeat (first | exact List.mem_cons_self | apply List.mem_cons_of_mem)) (fun _ => rfl) rfl rfl) (by omega)) ?_; clear H; rintro v64 T w rfl _ H
      refine At.v H rfl (wN rfl) rfl rfl rfl (x_move (H.r 64 rfl)) ?_; clear H; intro T H
      refine At.v H rfl (wN rfl) rfl rfl rfl (x_extract (H.r 62 rfl) rfl) ?_; clear H; intro T H
      refine At.v H rfl (wN rfl) rfl rfl rfl (x_extract (H.r 62 rfl) rfl) ?_; clear H; intro T H
      refine At.new H rfl (wN rfl) rfl rfl rfl (x_alloc Try.zeroValue90 rfl) ?_; clear H; intro b7 T w _ _ H
      refine At.storeA H rfl (wN rfl) rfl rfl (H.r 7 rfl) (H.r 65 rfl) Try.sizeOf90 (List.all_eq_true.1 rfl) (by repeat (first | exact Upd.here | apply Upd.there)) (by rfl) ?_; clear H; intro T w _ H
      refine At.v H rfl (wN rfl) rfl rfl rfl (x_assign (H.r 66 rfl)) ?_; clear H; intro T H
      refine At.regionEnd ?_
      refine At.seq ?_
      refine At.region' (l := [0, 1]) rfl ?_
      refine At.v H rfl (wN rfl) rfl rfl rfl (x_loadA (H.r 7 rfl) Try.isAgg90 Try.sizeOf90 (H.cellsAt (n := 2) (by repeat (first | exact List.mem_cons_self | apply List.mem_cons_of_mem)) rfl) rfl) ?_; clear H; intro T H
      refine At.storeA H rfl (wN rfl) rfl rfl (H.r 2 rfl) (H.r 67 rfl) Try.sizeOf90 (List.all_eq_true.1 rfl) (by repeat (first | exact Upd.here | apply Upd.there)) (by rfl) ?_; clear H; intro T w _ H
      refine At.regionEnd ?_
      refine At.ret rfl ?_
      exact Lea.colls0 (G' := [.blk b2 (Eo (.cells (encC (bestP men)).toArray 90 (0, 0)))]) (H.pk (by repeat (first | exact Pk.nil | exact Pk.all | refine Pk.cons (by repeat (first | exact Take.here | apply Take.there)) ?_ | apply Pk.skip))) (fun w H => lea Try.func50 (resL1 Try.results50 (.cellA (H.r 2 rfl) Try.isAgg90 Try.sizeOf90 (H.cellsAt (n := 2) (by repeat (first | exact List.mem_cons_self | apply List.mem_cons_of_mem)) rfl) rfl .nil)) (Ret.mk H.fr rfl))
end Go.Proofs.Pz
end
section
namespace Go.Proofs.Pz
open Go.Sx Go.RowKit
set_option linter.unusedVariables false
namespace A7
theorem fa25_1 (a : Addr) (w : World) : (Instr.fieldAt 25 (.pointer (some a)) 1).run Try.prog w = .ok (.pointer (some (a.add 1))) w := by simp [go_sem]
theorem fa80_0 (a : Addr) (w : World) : (Instr.fieldAt 80 (.pointer (some a)) 0).run Try.prog w = .ok (.pointer (some (a.add 0))) w := by simp [go_sem]
end A7
open A7
theorem method_gives (v : Value) (w : World) : (method (Try.prog.types.size + Made.depth) 100 v "furrowworks/prize.gives").run Try.prog w = .ok (85, v) w := by
  have h : Try.prog.types.size + Made.depth = 229 + 1 := by simp [Made.depth]
  rw [h]
  exact meth w Try.typeInfo100 (m := { name := "furrowworks/prize.gives", sig := 76, path := #[], func := some (85, false)}) (by rfl) rfl rfl Try.runUnderlying100 (by intro e h; cases h)
theorem due {b : Nat} {men : List Wi} {list : List Zi} {w0 : World} (hO : Op w0 b men list) (hv : Valid men list) : Calls Try.prog 32 #[(.pointer (some ⟨b, 0, none⟩))] w0 (RetG w0 fun v E _ => ∃ A cap, v = .slice A list.length cap ∧ E = [.row v 3 1 list.length ((dueL men list).flatMap encO)]) := by
  obtain ⟨AM, cM, bM, oM, AL, cL, bL, oL, mw, hb, hmw, hM, hL⟩ := id hO
  have hbL : w0.cell? ⟨b, 1, none⟩ = some (.slice AL list.length cL) := by rw [cell_of_row _ _ _ _ _ _ hb]; rfl
  have hl6 := hv.l6
  refine enter (args := [(.pointer (some ⟨b, 0, none⟩))]) (S := []) Try.func32 rfl Try.ntmps32 rfl fun cs T H => ?_
  refine At.seq ?_
  refine At.region' (l := [0]) rfl ?_
  refine At.v H rfl (wN rfl) rfl rfl rfl (x_assign evC) ?_; clear H; intro T H
  refine At.regionEnd ?_
  refine At.seq ?_
  refine At.region' (l := [0, 1, 2, 3, 4, 5, 6]) rfl ?_
  refine At.v H rfl (wN rfl) rfl rfl rfl (x_move (H.r 0 rfl)) ?_; clear H; intro T H
  refine At.v (v := ?v10_1) H rfl (wN rfl) rfl rfl rfl (x_build1 (H.r 9 rfl) ?r10_1) ?_
  case r10_1 => (simp [go_sem]; rfl)
  clear H; intro T H
  refine At.v H rfl (wN rfl) rfl rfl rfl (x_move (H.r 0 rfl)) ?_; clear H; intro T H
  refine At.f0 H rfl (wN rfl) rfl rfl rfl (args1 (H.r 11 rfl)) Try.call50 (best (hO.fr H.fr) hv) ?_; clear H; rintro v12 T w rfl _ H
  refine At.v (v := ?v13_2) H rfl (wN rfl) rfl rfl rfl (x_build2 (H.r 10 rfl) (H.r 12 rfl) ?r13_2) ?_
  case r13_2 => (simp [go_sem]; rfl)
  clear H; intro T H
  refine At.v H rfl (wN rfl) rfl rfl rfl (x_makeIface (H.r 13 rfl) Try.runUnderlying100 (by intro _ h; cases h)) ?_; clear H; intro T H
  refine At.v H rfl (wN rfl) rfl rfl rfl (x_assign (H.r 14 rfl)) ?_; clear H; intro T H
  refine At.regionEnd ?_
  refine At.seq ?_
  refine At.region' (l := [0, 1]) rfl ?_
  refine At.newObj (f := fun n => .map (some n)) H rfl (wN rfl) rfl rfl rfl x_makeMap ?_; clear H; intro b15 T w _ _ H
  replace H := H.weaken (g := b15) (by repeat (first | exact Take.here | apply Take.there)) Mp.ofNil
  refine At.v H rfl (wN rfl) rfl rfl rfl (x_assign (H.r 15 rfl)) ?_; clear H; intro T H
  refine At.regionEnd ?_
  refine At.seq ?_
  refine At.region' (l := [0, 1, 2]) rfl ?_
  refine At.v H rfl (wN rfl) rfl rfl rfl (x_move (H.r 4 rfl)) ?_; clear H; intro T H
  refine At.v H rfl (wN rfl) rfl rfl rfl (x_makeFunc (args1 (H.r 16 rfl)) args0) ?_; clear H; intro T H
  refine At.v H rfl (wN rfl) rfl rfl rfl (x_assign (H.r 17 rfl)) ?_; clear H; intro T H
  refine At.regionEnd ?_
  refine At.seq ?_
  refine At.region' (l := [0, 1, 2, 3, 4, 5, 6, 7]) rfl ?_
  refine At.v H rfl (wN rfl) rfl rfl rfl (x_move (H.r 0 rfl)) ?_; clear H; intro T H
  refine At.v H rfl (wN rfl) rfl rfl rfl (x_nil (H.r 18 rfl)) ?_; clear H; intro T H
  refine At.v H rfl (wN rfl) rfl rfl rfl (x_fieldAddr (H.r 19 rfl) fa80_0) ?_; clear H; intro T H
  refine At.v H rfl (wN rfl) rfl rfl rfl (x_fieldAddr (H.r 20 rfl) fa25_1) ?_; clear H; intro T H
  refine At.v H rfl (wN rfl) rfl rfl rfl (x_load (H.r 21 rfl) Try.isAgg23 (H.ext hbL (by simp))) ?_; clear H; intro T H
  refine At.v H rfl (wN rfl) rfl rfl rfl (x_len (H.r 22 rfl) Try.runUnderlying23) ?_; clear H; intro T H
  refine At.make0 H rfl (wN rfl) rfl rfl rfl (etI w0) evC (H.r 23 rfl) (by omega) ?_; clear H; intro g24 T w H
  refine At.v H rfl (wN rfl) rfl rfl rfl (x_assign (H.r 24 rfl)) ?_; clear H; intro T H
  refine At.regionEnd ?_
  refine At.seq ?_
  refine At.seq ?_
  refine At.region' (l := [0, 1, 2, 3, 4, 5, 6]) rfl ?_
  refine At.v H rfl (wN rfl) rfl rfl rfl (x_move (H.r 0 rfl)) ?_; clear H; intro T H
  refine At.v H rfl (wN rfl) rfl rfl rfl (x_nil (H.r 25 rfl)) ?_; clear H; intro T H
  refine At.v H rfl (wN rfl) rfl rfl rfl (x_fieldAddr (H.r 26 rfl) fa80_0) ?_; clear H; intro T H
  refine At.v H rfl (wN rfl) rfl rfl rfl (x_fieldAddr (H.r 27 rfl) fa25_1) ?_; clear H; intro T H
  refine At.v H rfl (wN rfl) rfl rfl rfl (x_load (H.r 28 rfl) Try.isAgg23 (H.ext hbL (by simp))) ?_; clear H; intro T H
  refine At.v H rfl (wN rfl) rfl rfl rfl (x_len (H.r 29 rfl) Try.runUnderlying23) ?_; clear H; intro T H
  refine At.v H rfl (wN rfl) rfl rfl rfl (x_move evC) ?_; clear H; intro T H
  refine At.regionEnd ?_
  refine At.block ?_
  refine At.loopN (fun m T w => ∃ (k : Nat) (A6 : Option Addr) (c6 : Nat) (f : Int → Option Value), m = list.length - k ∧ k ≤ list.length ∧ (∀ n, (f n).getD (.bool false) = .bool (hasI (dueL men (list.take k)) n)) ∧ Sx w0 [] 48 [(31, .int .i64 (k : Int)), (30, .int .i64 (list.length : Int)), (6, .slice A6 k c6), (5, .func (.func 41) #[.map (some b15)] #[]), (4, .map (some b15)), (3, .iface 100 (.agg #[(.pointer (some ⟨b, 0, none⟩)), .int .i64 (bestP men).1, .int .i64 (bestP men).2]))] [.row (.slice A6 k c6) 3 1 k ((dueL men (list.take k)).flatMap encO), .blk b15 (Mp f)] T w) (list.length) ?_ ?_
  · exact ⟨0, _, _, fun _ => none, rfl, Nat.zero_le _, fun n => rfl, H.sub ⟨rfl, rfl, rfl, rfl, rfl, rfl, trivial⟩⟩
  · clear H
    rintro n T w ⟨k, A6, c6, f, rfl, hk, hf, H⟩ hnext
    refine At.seq ?_
    refine At.region' (l := [0]) rfl ?_
    refine At.c H rfl (wN rfl) rfl rfl rfl (x_lss (H.r 31 rfl) (H.r 30 rfl)) ?_ ?_
    · clear H; intro h32 T H
      have hk1 : k < list.length := by omega
      have hz := List.getElem?_eq_getElem hk1
      generalize list[k] = z at hz
      have hds := dueL_succ (men := men) hz
      refine At.regionEnd ?_
      refine At.seq ?_
      refine At.condT (H.r 32 rfl) ?_
      refine At.skip ?_
      refine At.seq ?_
      refine At.block ?_
      refine At.seq ?_
      refine At.region' (l := [0, 1]) rfl ?_
      refine At.v H rfl (wN rfl) rfl rfl rfl (x_move (H.r 31 rfl)) ?_; clear H; intro T H
      refine At.v H rfl (wN rfl) rfl rfl rfl (x_assign (H.r 33 rfl)) ?_; clear H; intro T H
      refine At.regionEnd ?_
      refine At.seq ?_
      refine At.region' (l := [0, 1, 2, 3, 4]) rfl ?_
      refine At.v H rfl (wN rfl) rfl rfl rfl (x_move (H.r 3 rfl)) ?_; clear H; intro T H
      refine At.v H rfl (wN rfl) rfl rfl rfl (x_move (H.r 7 rfl)) ?_; clear H; intro T H
      refine At.v H rfl (wN rfl) rfl rfl rfl (x_move (H.r 5 rfl)) ?_; clear H; intro T H
      refine At.inv H rfl (wN rfl) rfl rfl rfl (H.r 34 rfl) (args2 (H.r 35 rfl) (H.r 36 rfl)) (method_gives _ _) Try.call85 (givesB (hO.fr H.fr) hv hz (left_isP (n := men.length) ⟨f, H.mpAt (by repeat (first | exact List.mem_cons_self | apply List.mem_cons_of_mem)), hf⟩) rfl _ _) ?_; clear H; rintro v37 T w rfl _ H
      rw [show ((bestP men).1, (bestP men).2) = bestP men from rfl] at H
      generalize givesC men (bestP men) (fun m => !hasI (dueL men (list.take k)) (m : Int)) z.for_ = o at *
      have hdk : (dueL men (list.take (k + 1))).flatMap encO = (dueL men (list.take k)).flatMap encO ++ encO o := by rw [hds]; simp
      refine At.v H rfl (wN rfl) rfl rfl rfl (x_assign (H.r 37 rfl)) ?_; clear H; intro T H
      refine At.regionEnd ?_
      refine At.seq ?_
      refine At.seq ?_
      refine At.region' (l := [0, 1]) rfl ?_
      refine At.v H rfl (wN rfl) rfl rfl rfl (x_move (H.r 8 rfl)) ?_; clear H; intro T H
      refine At.c H rfl (wN rfl) rfl rfl rfl (x_neq (H.r 38 rfl) evC) ?_ ?_
      · clear H; intro h39 T H
        obtain ⟨m, rfl⟩ : ∃ m, o = some m := by cases o with | none => exact absurd rfl h39 | some m => exact ⟨m, rfl⟩
        obtain ⟨f2, hf2d⟩ : ∃ f2 : Int → Option Value, f2 = fun n => if n = orNone (some m) then some (.bool true) else f n := ⟨_, rfl⟩
        have hf2 : ∀ n, (f2 n).getD (.bool false) = .bool (hasI (dueL men (list.take (k + 1))) n) := by
          intro n
          rw [hds, hasI_snoc, hf2d]
          by_cases hn : n = (m : Int)
          · simp [orNone, hn]
          · have hn2 : ¬ (m : Int) = n := fun e => hn e.symm
            simp [orNone, hn, hn2, hf]
        refine At.regionEnd ?_
        refine At.condT (H.r 39 rfl) ?_
        refine At.region' (l := [0, 1, 2]) rfl ?_
        refine At.v H rfl (wN rfl) rfl rfl rfl (x_move (H.r 4 rfl)) ?_; clear H; intro T H
        refine At.v H rfl (wN rfl) rfl rfl rfl (x_move (H.r 8 rfl)) ?_; clear H; intro T H
        refine At.mapPut H rfl (wN rfl) (.inl rfl) rfl (H.r 40 rfl) (H.r 41 rfl) evC Try.runUnderlying75 Try.runUnderlying3 (by repeat (first | exact Upd.here | apply Upd.there)) ?_; clear H; intro T w _ H
        rw [← hf2d] at H
        refine At.regionEnd ?_
        refine At.region' (l := [0, 1, 2, 3, 4]) rfl ?_
        refine At.v H rfl (wN rfl) rfl rfl rfl (x_move (H.r 6 rfl)) ?_; clear H; intro T H
        refine At.v H rfl (wN rfl) rfl rfl rfl (x_move (H.r 8 rfl)) ?_; clear H; intro T H
        refine At.bs (n := 1) (L := ?l44_3) (e := ?e44_3) H rfl (wN rfl) rfl rfl rfl (x_bs1 (H.r 43 rfl) ?r44_3) ?_
        case r44_3 => (simp [go_sem]; rfl)
        clear H; intro b44 T w H
        refine At.append H rfl (wN rfl) rfl rfl rfl (etI w0) (H.r 42 rfl) (H.r 44 rfl) (by repeat (first | exact Take.here | apply Take.there)) (H.cellsAt (n := 1) (by repeat (first | exact List.mem_cons_self | apply List.mem_cons_of_mem)) rfl) rfl (by simp [Value.oneCell']) (by omega) ?_; clear H; intro A45 c45 T w hc45 hA45 H
        refine At.v H rfl (wN rfl) rfl rfl rfl (x_assign (H.r 45 rfl)) ?_; clear H; intro T H
        refine At.regionEnd ?_
        refine At.inBlock ?_
        refine At.region' (l := [0, 1]) rfl ?_
        refine At.v H rfl (wN rfl) rfl rfl rfl (x_add (H.r 31 rfl) evC (w64 (by omega) (by omega))) ?_; clear H; intro T H
        refine At.v H rfl (wN rfl) rfl rfl rfl (x_move (H.r 46 rfl)) ?_; clear H; intro T H
        refine At.regionEnd ?_
        exact hnext (list.length - (k + 1)) _ _ (by omega) ⟨k + 1, _, _, f2, rfl, by omega, hf2, by rw [hdk]; exact (H.pk (by repeat (first | exact Pk.nil | exact Pk.all | refine Pk.cons (by repeat (first | exact Take.here | apply Take.there)) ?_ | apply Pk.skip))).sub ⟨rfl, rfl, rfl, rfl, rfl, rfl, trivial⟩⟩
      · clear H; intro h39 T H
        obtain rfl : o = none := by
          cases o with
          | none => rfl
          | some m => exact absurd (by simp only [orNone]; omega) h39
        obtain ⟨f2, hf2d⟩ : ∃ f2 : Int → Option Value, f2 = f := ⟨_, rfl⟩
        have hf2 : ∀ n, (f2 n).getD (.bool false) = .bool (hasI (dueL men (list.take (k + 1))) n) := by
          intro n
          rw [hds, hasI_snoc, hf2d, hf]
          simp
        rw [← hf2d] at H
        refine At.regionEnd ?_
        refine At.condF (H.r 39 rfl) ?_
        refine At.skip ?_
        refine At.region' (l := [0, 1, 2, 3, 4]) rfl ?_
        refine At.v H rfl (wN rfl) rfl rfl rfl (x_move (H.r 6 rfl)) ?_; clear H; intro T H
        refine At.v H rfl (wN rfl) rfl rfl rfl (x_move (H.r 8 rfl)) ?_; clear H; intro T H
        refine At.bs (n := 1) (L := ?l44_4) (e := ?e44_4) H rfl (wN rfl) rfl rfl rfl (x_bs1 (H.r 43 rfl) ?r44_4) ?_
        case r44_4 => (simp [go_sem]; rfl)
        clear H; intro b44 T w H
        refine At.append H rfl (wN rfl) rfl rfl rfl (etI w0) (H.r 42 rfl) (H.r 44 rfl) (by repeat (first | exact Take.here | apply Take.there)) (H.cellsAt (n := 1) (by repeat (first | exact List.mem_cons_self | apply List.mem_cons_of_mem)) rfl) rfl (by simp [Value.oneCell']) (by omega) ?_; clear H; intro A45 c45 T w hc45 hA45 H
        refine At.v H rfl (wN rfl) rfl rfl rfl (x_assign (H.r 45 rfl)) ?_; clear H; intro T H
        refine At.regionEnd ?_
        refine At.inBlock ?_
        refine At.region' (l := [0, 1]) rfl ?_
        refine At.v H rfl (wN rfl) rfl rfl rfl (x_add (H.r 31 rfl) evC (w64 (by omega) (by omega))) ?_; clear H; intro T H
        refine At.v H rfl (wN rfl) rfl rfl rfl (x_move (H.r 46 rfl)) ?_; clear H; intro T H
        refine At.regionEnd ?_
        exact hnext (list.length - (k + 1)) _ _ (by omega) ⟨k + 1, _, _, f2, rfl, by omega, hf2, by rw [hdk]; exact (H.pk (by repeat (first | exact Pk.nil | exact Pk.all | refine Pk.cons (by repeat (first | exact Take.here | apply Take.there)) ?_ | apply Pk.skip))).sub ⟨rfl, rfl, rfl, rfl, rfl, rfl, trivial⟩⟩
    · clear H; intro h32 T H
      obtain rfl : k = list.length := by omega
      refine At.regionEnd ?_
      refine At.seq ?_
      refine At.condF (H.r 32 rfl) ?_
      refine At.exit rfl ?_
      refine At.seq ?_
      refine At.region' (l := [0, 1]) rfl ?_
      refine At.v H rfl (wN rfl) rfl rfl rfl (x_move (H.r 6 rfl)) ?_; clear H; intro T H
      refine At.v H rfl (wN rfl) rfl rfl rfl (x_assign (H.r 47 rfl)) ?_; clear H; intro T H
      refine At.regionEnd ?_
      refine At.ret rfl ?_
      rw [List.take_length] at H
      exact lea Try.func32 (res1 Try.results32 (H.r 2 rfl)) (RetG.of H [.row (.slice A6 list.length c6) 3 1 list.length ((dueL men list).flatMap encO)] (by simp) (by simp [Ent.w, Ent.keys]) ⟨A6, c6, rfl, rfl⟩)
end Go.Proofs.Pz
end
section
namespace Go.Proofs.Pz
open Go.Sx Go.RowKit
set_option linter.unusedVariables false
namespace A8
theorem fa25_0 (a : Addr) (w : World) : (Instr.fieldAt 25 (.pointer (some a)) 0).run Try.prog w = .ok (.pointer (some (a.add 0))) w := by simp [go_sem]
theorem fa25_1 (a : Addr) (w : World) : (Instr.fieldAt 25 (.pointer (some a)) 1).run Try.prog w = .ok (.pointer (some (a.add 1))) w := by simp [go_sem]
theorem fa42_1 (a : Addr) (w : World) : (Instr.fieldAt 42 (.pointer (some a)) 1).run Try.prog w = .ok (.pointer (some (a.add 1))) w := by simp [go_sem]
theorem fa80_0 (a : Addr) (w : World) : (Instr.fieldAt 80 (.pointer (some a)) 0).run Try.prog w = .ok (.pointer (some (a.add 0))) w := by simp [go_sem]
end A8
open A8
theorem giving {b : Nat} {men : List Wi} {list : List Zi} {w0 : World} (hO : Op w0 b men list) (hv : Valid men list) {v : Value} {gv : List (Option Nat)} (hS : Sl encO 1 w0 v gv) (hg : GivOK men list gv) :
    Calls Try.prog 33 #[(.pointer (some ⟨b, 0, none⟩)), v] w0 (RetG w0 fun v E _ => ∃ g, v = .slice (some ⟨g, 0, none⟩) gv.length gv.length ∧ E = [.row v 3 1 gv.length (gv.flatMap encO)]) := by
  obtain ⟨AM, cM, bM, oM, AL, cL, bL, oL, mw, hb, hmw, hM, hL⟩ := id hO
  obtain ⟨A, cap, bk, off, rfl, hP⟩ := hS
  have hbL : w0.cell? ⟨b, 1, none⟩ = some (.slice AL list.length cL) := by rw [cell_of_row _ _ _ _ _ _ hb]; rfl
  have hl6 := hv.l6
  have hgl := hg.len
  refine enter (args := [(.pointer (some ⟨b, 0, none⟩)), .slice A gv.length cap]) (S := []) Try.func33 rfl Try.ntmps33 rfl fun cs T H => ?_
  refine At.seq ?_
  refine At.region' (l := [0]) rfl ?_
  refine At.v H rfl (wN rfl) rfl rfl rfl (x_assign evC) ?_; clear H; intro T H
  refine At.regionEnd ?_
  refine At.seq ?_
  refine At.region' (l := [0, 1, 2, 3, 4, 5, 6, 7, 8, 9]) rfl ?_
  refine At.v H rfl (wN rfl) rfl rfl rfl (x_move (H.r 1 rfl)) ?_; clear H; intro T H
  refine At.v H rfl (wN rfl) rfl rfl rfl (x_len (H.r 9 rfl) Try.runUnderlying30) ?_; clear H; intro T H
  refine At.v H rfl (wN rfl) rfl rfl rfl (x_move (H.r 0 rfl)) ?_; clear H; intro T H
  refine At.v H rfl (wN rfl) rfl rfl rfl (x_nil (H.r 11 rfl)) ?_; clear H; intro T H
  refine At.v H rfl (wN rfl) rfl rfl rfl (x_fieldAddr (H.r 12 rfl) fa80_0) ?_; clear H; intro T H
  refine At.v H rfl (wN rfl) rfl rfl rfl (x_fieldAddr (H.r 13 rfl) fa25_1) ?_; clear H; intro T H
  refine At.v H rfl (wN rfl) rfl rfl rfl (x_load (H.r 14 rfl) Try.isAgg23 (H.ext hbL (by simp))) ?_; clear H; intro T H
  refine At.v H rfl (wN rfl) rfl rfl rfl (x_len (H.r 15 rfl) Try.runUnderlying23) ?_; clear H; intro T H
  refine At.c H rfl (wN rfl) rfl rfl rfl (x_eql (H.r 10 rfl) (H.r 16 rfl)) ?_ ?_
  · clear H; intro h17 T H
    refine At.f0 H rfl (wN rfl) rfl rfl rfl (args2 (H.r 17 rfl) evC) Try.call34 (must_ok 2 _) ?_; clear H; rintro v18 T w rfl _ H
    refine At.regionEnd ?_
    refine At.seq ?_
    refine At.region' (l := [0, 1]) rfl ?_
    refine At.newObj (f := fun n => .map (some n)) H rfl (wN rfl) rfl rfl rfl x_makeMap ?_; clear H; intro b19 T w _ _ H
    replace H := H.weaken (g := b19) (by repeat (first | exact Take.here | apply Take.there)) Mp.ofNil
    refine At.v H rfl (wN rfl) rfl rfl rfl (x_assign (H.r 19 rfl)) ?_; clear H; intro T H
    refine At.regionEnd ?_
    refine At.seq ?_
    refine At.seq ?_
    refine At.region' (l := [0, 1, 2]) rfl ?_
    refine At.v H rfl (wN rfl) rfl rfl rfl (x_move (H.r 1 rfl)) ?_; clear H; intro T H
    refine At.v H rfl (wN rfl) rfl rfl rfl (x_len (H.r 20 rfl) Try.runUnderlying30) ?_; clear H; intro T H
    refine At.v H rfl (wN rfl) rfl rfl rfl (x_move evC) ?_; clear H; intro T H
    refine At.regionEnd ?_
    refine At.block ?_
    refine At.loopN (fun m T w => ∃ (k : Nat) (f : Int → Option Value), m = gv.length - k ∧ k ≤ gv.length ∧ (∀ n, (f n).getD (.bool false) = .bool (hasI (gv.take k) n)) ∧ Sx w0 [] 51 [(22, .int .i64 (k : Int)), (21, .int .i64 (gv.length : Int)), (20, .slice A gv.length cap), (5, .map (some b19)), (1, .slice A gv.length cap), (0, (.pointer (some ⟨b, 0, none⟩)))] [.blk b19 (Mp f)] T w) (gv.length) ?_ ?_
    · exact ⟨0, fun _ => none, rfl, Nat.zero_le _, fun n => by simp [hasI], H.sub ⟨rfl, rfl, rfl, rfl, rfl, rfl, trivial⟩⟩
    · clear H
      rintro n T w ⟨k, f, rfl, hk, hf, H⟩ hnext
      refine At.seq ?_
      refine At.region' (l := [0]) rfl ?_
      refine At.c H rfl (wN rfl) rfl rfl rfl (x_lss (H.r 22 rfl) (H.r 21 rfl)) ?_ ?_
      · clear H; intro h23 T H
        have hk1 : k < gv.length := by omega
        have ho := List.getElem?_eq_getElem hk1
        generalize gv[k] = o at ho
        have hA := hP.addr (fun e => by simp [e] at hk1)
        subst hA
        obtain ⟨f2, hf2d⟩ : ∃ f2 : Int → Option Value, f2 = fun n => if n = orNone o then some (.bool (decide (orNone o ≠ -1))) else f n := ⟨_, rfl⟩
        have hf2 : ∀ n, (f2 n).getD (.bool false) = .bool (hasI (gv.take (k + 1)) n) := by
          intro n
          rw [List.take_add_one, ho, Option.toList_some, hasI_snoc, hf2d]
          by_cases hn : n = orNone o
          · cases o with
            | none => subst hn; simp [orNone, hasI_neg]
            | some m => subst hn; simp [orNone]
          · simp only [hn, if_false, hf]
            cases o with
            | none => simp
            | some m => simp [orNone] at hn; have : ¬ (m : Int) = n := fun e => hn e.symm; simp [this]
        refine At.regionEnd ?_
        refine At.seq ?_
        refine At.condT (H.r 23 rfl) ?_
        refine At.skip ?_
        refine At.seq ?_
        refine At.block ?_
        refine At.seq ?_
        refine At.region' (l := [0, 1, 2]) rfl ?_
        refine At.v H rfl (wN rfl) rfl rfl rfl (x_ixSN (H.r 20 rfl) (H.r 22 rfl) Try.runUnderlying30 Try.sizeOf3 (by omega)) ?_; clear H; intro T H
        refine At.v H rfl (wN rfl) rfl rfl rfl (x_load (H.r 24 rfl) Try.isAgg3 (H.ext (hP.cell k o ho 0 _ rfl) (by simp))) ?_; clear H; intro T H
        refine At.v H rfl (wN rfl) rfl rfl rfl (x_assign (H.r 25 rfl)) ?_; clear H; intro T H
        refine At.regionEnd ?_
        refine At.seq ?_
        refine At.region' (l := [0, 1, 2, 3, 4, 5, 6, 7, 8, 9, 10, 11, 12]) rfl ?_
        refine At.v H rfl (wN rfl) rfl rfl rfl (x_move (H.r 7 rfl)) ?_; clear H; intro T H
        refine At.c H rfl (wN rfl) rfl rfl rfl (x_eql (H.r 26 rfl) evC) ?_ ?_
        · clear H; intro h27 T H
          refine At.v H rfl (wN rfl) rfl rfl rfl (x_move (H.r 27 rfl)) ?_; clear H; intro T H
          refine At.u H rfl (wU H rfl rfl rfl rfl) rfl rfl ?_; clear H; intro T H
          refine At.u H rfl (wU H rfl rfl rfl rfl) rfl rfl ?_; clear H; intro T H
          refine At.u H rfl (wU H rfl rfl rfl rfl) rfl rfl ?_; clear H; intro T H
          refine At.u H rfl (wU H rfl rfl rfl rfl) rfl rfl ?_; clear H; intro T H
          refine At.u H rfl (wUu H rfl rfl rfl) rfl rfl ?_; clear H; intro T H
          refine At.u H rfl (wUu H rfl rfl rfl) rfl rfl ?_; clear H; intro T H
          refine At.u H rfl (wUu H rfl rfl rfl) rfl rfl ?_; clear H; intro T H
          refine At.u H rfl (wU H rfl rfl rfl rfl) rfl rfl ?_; clear H; intro T H
          refine At.v H rfl (wN rfl) rfl rfl rfl (x_pickT (H.r 28 rfl) evC) ?_; clear H; intro T H
          refine At.f0 H rfl (wN rfl) rfl rfl rfl (args2 (H.r 37 rfl) evC) Try.call34 (must_ok 2 _) ?_; clear H; rintro v38 T w rfl _ H
          refine At.regionEnd ?_
          refine At.region' (l := [0, 1, 2, 3, 4]) rfl ?_
          refine At.v H rfl (wN rfl) rfl rfl rfl (x_move (H.r 5 rfl)) ?_; clear H; intro T H
          refine At.v H rfl (wN rfl) rfl rfl rfl (x_move (H.r 7 rfl)) ?_; clear H; intro T H
          refine At.v H rfl (wN rfl) rfl rfl rfl (x_move (H.r 7 rfl)) ?_; clear H; intro T H
          refine At.v H rfl (wN rfl) rfl rfl rfl (x_neq (H.r 41 rfl) evC) ?_; clear H; intro T H
          refine At.mapPut H rfl (wN rfl) (.inl rfl) rfl (H.r 39 rfl) (H.r 40 rfl) (H.r 42 rfl) Try.runUnderlying75 Try.runUnderlying3 (by repeat (first | exact Upd.here | apply Upd.there)) ?_; clear H; intro T w _ H
          refine At.regionEnd ?_
          refine At.inBlock ?_
          refine At.region' (l := [0, 1]) rfl ?_
          refine At.v H rfl (wN rfl) rfl rfl rfl (x_add (H.r 22 rfl) evC (w64 (by omega) (by omega))) ?_; clear H; intro T H
          refine At.v H rfl (wN rfl) rfl rfl rfl (x_move (H.r 43 rfl)) ?_; clear H; intro T H
          refine At.regionEnd ?_
          exact hnext (gv.length - (k + 1)) _ _ (by omega) ⟨k + 1, f2, rfl, by omega, hf2, by rw [hf2d]; exact (H.pk (by repeat (first | exact Pk.nil | exact Pk.all | refine Pk.cons (by repeat (first | exact Take.here | apply Take.there)) ?_ | apply Pk.skip))).sub ⟨rfl, rfl, rfl, rfl, rfl, rfl, trivial⟩⟩
        · clear H; intro h27 T H
          obtain ⟨m, rfl⟩ : ∃ m, o = some m := by
            cases o with
            | none => exact absurd rfl h27
            | some m => exact ⟨m, rfl⟩
          have hml := hg.lt m (List.mem_of_getElem? ho)
          have hnd := hg.nd k m ho
          refine At.v H rfl (wN rfl) rfl rfl rfl (x_move (H.r 27 rfl)) ?_; clear H; intro T H
          refine At.v H rfl (wS H rfl rfl rfl) rfl rfl rfl (x_move (H.r 0 rfl)) ?_; clear H; intro T H
          refine At.v H rfl (wS H rfl rfl rfl) rfl rfl rfl (x_move (H.r 7 rfl)) ?_; clear H; intro T H
          refine At.f0 H rfl (wS H rfl rfl rfl) rfl rfl rfl (args2 (H.r 29 rfl) (H.r 30 rfl)) Try.call38 (isMan (hO.fr H.fr) _ hv.n8) ?_; clear H; rintro v31 T w rfl _ H
          rw [decide_eq_true (show 0 ≤ orNone (some m) ∧ orNone (some m) ≤ (men.length : Int) - 1 from by simp only [orNone]; omega)] at H
          refine At.v H rfl (wS H rfl rfl rfl) rfl rfl rfl (x_move (H.r 31 rfl)) ?_; clear H; intro T H
          refine At.v H rfl (wS H rfl rfl rfl) rfl rfl rfl (x_move (H.r 5 rfl)) ?_; clear H; intro T H
          refine At.v H rfl (wS H rfl rfl rfl) rfl rfl rfl (x_move (H.r 7 rfl)) ?_; clear H; intro T H
          refine At.f0 H rfl (wS H rfl rfl rfl) rfl rfl rfl (args2 (H.r 33 rfl) (H.r 34 rfl)) Try.call41 (left ⟨f, H.mpAt (by repeat (first | exact List.mem_cons_self | apply List.mem_cons_of_mem)), hf⟩ _) ?_; clear H; rintro v35 T w rfl _ H
          rw [show (!hasI (gv.take k) (orNone (some m))) = true from by simp only [orNone]; rw [hnd]; rfl] at H
          refine At.v H rfl (wS H rfl rfl rfl) rfl rfl rfl (x_pickT (H.r 32 rfl) (H.r 35 rfl)) ?_; clear H; intro T H
          refine At.v H rfl (wN rfl) rfl rfl rfl (x_pickF (H.r 28 rfl) (H.r 36 rfl)) ?_; clear H; intro T H
          refine At.f0 H rfl (wN rfl) rfl rfl rfl (args2 (H.r 37 rfl) evC) Try.call34 (must_ok 2 _) ?_; clear H; rintro v38 T w rfl _ H
          refine At.regionEnd ?_
          refine At.region' (l := [0, 1, 2, 3, 4]) rfl ?_
          refine At.v H rfl (wN rfl) rfl rfl rfl (x_move (H.r 5 rfl)) ?_; clear H; intro T H
          refine At.v H rfl (wN rfl) rfl rfl rfl (x_move (H.r 7 rfl)) ?_; clear H; intro T H
          refine At.v H rfl (wN rfl) rfl rfl rfl (x_move (H.r 7 rfl)) ?_; clear H; intro T H
          refine At.v H rfl (wN rfl) rfl rfl rfl (x_neq (H.r 41 rfl) evC) ?_; clear H; intro T H
          refine At.mapPut H rfl (wN rfl) (.inl rfl) rfl (H.r 39 rfl) (H.r 40 rfl) (H.r 42 rfl) Try.runUnderlying75 Try.runUnderlying3 (by repeat (first | exact Upd.here | apply Upd.there)) ?_; clear H; intro T w _ H
          refine At.regionEnd ?_
          refine At.inBlock ?_
          refine At.region' (l := [0, 1]) rfl ?_
          refine At.v H rfl (wN rfl) rfl rfl rfl (x_add (H.r 22 rfl) evC (w64 (by omega) (by omega))) ?_; clear H; intro T H
          refine At.v H rfl (wN rfl) rfl rfl rfl (x_move (H.r 43 rfl)) ?_; clear H; intro T H
          refine At.regionEnd ?_
          exact hnext (gv.length - (k + 1)) _ _ (by omega) ⟨k + 1, f2, rfl, by omega, hf2, by rw [hf2d]; exact (H.pk (by repeat (first | exact Pk.nil | exact Pk.all | refine Pk.cons (by repeat (first | exact Take.here | apply Take.there)) ?_ | apply Pk.skip))).sub ⟨rfl, rfl, rfl, rfl, rfl, rfl, trivial⟩⟩
      · clear H; intro h23 T H
        refine At.regionEnd ?_
        refine At.seq ?_
        refine At.condF (H.r 23 rfl) ?_
        refine At.exit rfl ?_
        refine At.seq ?_
        refine At.region' (l := [0, 1, 2, 3]) rfl ?_
        refine At.v H rfl (wN rfl) rfl rfl rfl (x_move (H.r 1 rfl)) ?_; clear H; intro T H
        refine At.v H rfl (wN rfl) rfl rfl rfl (x_len (H.r 44 rfl) Try.runUnderlying30) ?_; clear H; intro T H
        refine At.makeN H rfl (wN rfl) rfl rfl rfl (etI w0) (H.r 45 rfl) (H.r 45 rfl) (by omega) rfl rfl ?_; clear H; intro g46 T w H
        refine At.v H rfl (wN rfl) rfl rfl rfl (x_assign (H.r 46 rfl)) ?_; clear H; intro T H
        refine At.regionEnd ?_
        refine At.seq ?_
        refine At.region' (l := [0, 1, 2]) rfl ?_
        refine At.v H rfl (wN rfl) rfl rfl rfl (x_move (H.r 8 rfl)) ?_; clear H; intro T H
        refine At.v H rfl (wN rfl) rfl rfl rfl (x_move (H.r 1 rfl)) ?_; clear H; intro T H
        refine At.copyR (bk := bk) (off := off) (news := gv.flatMap encO) H rfl (wN rfl) rfl rfl rfl (etI w0) (H.r 47 rfl) (H.r 48 rfl) (by repeat (first | exact Take.here | apply Take.there)) (fun h => ⟨hP.addr (fun e => by simp [e] at h), H.extA (SlP.flatO hP) (by simp)⟩) (flat_lenO gv) (by rw [flat_encO]; simp [Value.oneCell']) ?_; clear H; intro T w H
        refine At.regionEnd ?_
        refine At.seq ?_
        refine At.region' (l := [0, 1]) rfl ?_
        refine At.v H rfl (wN rfl) rfl rfl rfl (x_move (H.r 8 rfl)) ?_; clear H; intro T H
        refine At.v H rfl (wN rfl) rfl rfl rfl (x_assign (H.r 50 rfl)) ?_; clear H; intro T H
        refine At.regionEnd ?_
        refine At.ret rfl ?_
        exact lea Try.func33 (res1 Try.results33 (H.r 4 rfl)) (RetG.of H [.row (.slice (some ⟨g46, 0, none⟩) gv.length gv.length) 3 1 gv.length (gv.flatMap encO)] (by simp) (by simp [Ent.w, Ent.keys]) ⟨g46, rfl, rfl⟩)
  · clear H; intro h17 T H
    exact absurd (by omega) h17
theorem giving_no {b : Nat} {men : List Wi} {list : List Zi} {w0 : World} (hO : Op w0 b men list) (A : Option Addr) (n cap : Nat) (hn : n ≠ list.length) :
    Calls Try.prog 33 #[(.pointer (some ⟨b, 0, none⟩)), .slice A n cap] w0 (Pans w0 (fail 2)) := by
  obtain ⟨AM, cM, bM, oM, AL, cL, bL, oL, mw, hb, hmw, hM, hL⟩ := id hO
  have hbL : w0.cell? ⟨b, 1, none⟩ = some (.slice AL list.length cL) := by rw [cell_of_row _ _ _ _ _ _ hb]; rfl
  refine enter (args := [(.pointer (some ⟨b, 0, none⟩)), .slice A n cap]) (S := []) Try.func33 rfl Try.ntmps33 rfl fun cs T H => ?_
  refine At.seq ?_
  refine At.region' (l := [0]) rfl ?_
  refine At.v H rfl (wN rfl) rfl rfl rfl (x_assign evC) ?_; clear H; intro T H
  refine At.regionEnd ?_
  refine At.seq ?_
  refine At.region' (l := [0, 1, 2, 3, 4, 5, 6, 7, 8, 9]) rfl ?_
  refine At.v H rfl (wN rfl) rfl rfl rfl (x_move (H.r 1 rfl)) ?_; clear H; intro T H
  refine At.v H rfl (wN rfl) rfl rfl rfl (x_len (H.r 9 rfl) Try.runUnderlying30) ?_; clear H; intro T H
  refine At.v H rfl (wN rfl) rfl rfl rfl (x_move (H.r 0 rfl)) ?_; clear H; intro T H
  refine At.v H rfl (wN rfl) rfl rfl rfl (x_nil (H.r 11 rfl)) ?_; clear H; intro T H
  refine At.v H rfl (wN rfl) rfl rfl rfl (x_fieldAddr (H.r 12 rfl) fa80_0) ?_; clear H; intro T H
  refine At.v H rfl (wN rfl) rfl rfl rfl (x_fieldAddr (H.r 13 rfl) fa25_1) ?_; clear H; intro T H
  refine At.v H rfl (wN rfl) rfl rfl rfl (x_load (H.r 14 rfl) Try.isAgg23 (H.ext hbL (by simp))) ?_; clear H; intro T H
  refine At.v H rfl (wN rfl) rfl rfl rfl (x_len (H.r 15 rfl) Try.runUnderlying23) ?_; clear H; intro T H
  refine At.c H rfl (wN rfl) rfl rfl rfl (x_eql (H.r 10 rfl) (H.r 16 rfl)) ?_ ?_
  · clear H; intro h17 T H
    exact absurd (by omega) hn
  · clear H; intro h17 T H
    refine At.fP H rfl (wN rfl) rfl (args2 (H.r 17 rfl) evC) Try.call34 (must_no 2 _) ?_
    clear H; intro w _ H
    exact pan Try.func33 ⟨rfl, H.fr⟩
theorem worths {b : Nat} {men : List Wi} {list : List Zi} {w0 : World} (hO : Op w0 b men list) (hv : Valid men list) {v : Value} {gv : List (Option Nat)} (hS : Sl encO 1 w0 v gv) (hgl : gv.length = list.length) (hlt : ∀ m, some m ∈ gv → m < men.length) :
    Calls Try.prog 36 #[(.pointer (some ⟨b, 0, none⟩)), v] w0 (RetG w0 fun v E _ => ∃ g, v = .slice (some ⟨g, 0, none⟩) men.length men.length ∧ E = [.row v 3 1 men.length ((worthsL men list gv).flatMap encI)]) := by
  obtain ⟨AM, cM, bM, oM, AL, cL, bL, oL, mw, hb, hmw, hM, hL⟩ := id hO
  obtain ⟨A, cap, bk, off, rfl, hP⟩ := hS
  have hbM : w0.cell? ⟨b, 0, none⟩ = some (.slice AM men.length cM) := by rw [cell_of_row _ _ _ _ _ _ hb]; rfl
  have hbL : w0.cell? ⟨b, 1, none⟩ = some (.slice AL list.length cL) := by rw [cell_of_row _ _ _ _ _ _ hb]; rfl
  have hl6 := hv.l6
  have hn8 := hv.n8
  refine enter (args := [(.pointer (some ⟨b, 0, none⟩)), .slice A gv.length cap]) (S := []) Try.func36 rfl Try.ntmps36 rfl fun cs T H => ?_
  refine At.seq ?_
  refine At.region' (l := [0]) rfl ?_
  refine At.v H rfl (wN rfl) rfl rfl rfl (x_assign evC) ?_; clear H; intro T H
  refine At.regionEnd ?_
  refine At.seq ?_
  refine At.region' (l := [0, 1, 2, 3, 4, 5, 6, 7]) rfl ?_
  refine At.v H rfl (wN rfl) rfl rfl rfl (x_move (H.r 0 rfl)) ?_; clear H; intro T H
  refine At.v H rfl (wN rfl) rfl rfl rfl (x_nil (H.r 8 rfl)) ?_; clear H; intro T H
  refine At.v H rfl (wN rfl) rfl rfl rfl (x_fieldAddr (H.r 9 rfl) fa80_0) ?_; clear H; intro T H
  refine At.v H rfl (wN rfl) rfl rfl rfl (x_fieldAddr (H.r 10 rfl) fa25_0) ?_; clear H; intro T H
  refine At.v H rfl (wN rfl) rfl rfl rfl (x_load (H.r 11 rfl) Try.isAgg22 (H.ext hbM (by simp))) ?_; clear H; intro T H
  refine At.v H rfl (wN rfl) rfl rfl rfl (x_len (H.r 12 rfl) Try.runUnderlying22) ?_; clear H; intro T H
  refine At.makeN H rfl (wN rfl) rfl rfl rfl (etI w0) (H.r 13 rfl) (H.r 13 rfl) (by omega) rfl rfl ?_; clear H; intro g14 T w H
  refine At.v H rfl (wN rfl) rfl rfl rfl (x_assign (H.r 14 rfl)) ?_; clear H; intro T H
  refine At.regionEnd ?_
  refine At.seq ?_
  refine At.seq ?_
  refine At.region' (l := [0, 1, 2]) rfl ?_
  refine At.v H rfl (wN rfl) rfl rfl rfl (x_move (H.r 1 rfl)) ?_; clear H; intro T H
  refine At.v H rfl (wN rfl) rfl rfl rfl (x_len (H.r 15 rfl) Try.runUnderlying30) ?_; clear H; intro T H
  refine At.v H rfl (wN rfl) rfl rfl rfl (x_move evC) ?_; clear H; intro T H
  refine At.regionEnd ?_
  refine At.block ?_
  refine At.loopN (fun m T w => ∃ k : Nat, m = gv.length - k ∧ k ≤ gv.length ∧ Sx w0 [] 38 [(17, .int .i64 (k : Int)), (16, .int .i64 (gv.length : Int)), (15, .slice A gv.length cap), (5, .slice (some ⟨g14, 0, none⟩) men.length men.length), (0, (.pointer (some ⟨b, 0, none⟩)))] [.row (.slice (some ⟨g14, 0, none⟩) men.length men.length) 3 1 men.length ((worthsTo men.length list gv k).flatMap encI)] T w) (gv.length) ?_ ?_
  · exact ⟨0, rfl, Nat.zero_le _, by rw [show (worthsTo men.length list gv 0).flatMap encI = List.replicate men.length (.int .i64 0) from by rw [flat_encI]; simp [worthsTo]]; exact H.sub ⟨rfl, rfl, rfl, rfl, rfl, trivial⟩⟩
  · clear H
    rintro n T w ⟨k, rfl, hk, H⟩ hnext
    refine At.seq ?_
    refine At.region' (l := [0]) rfl ?_
    refine At.c H rfl (wN rfl) rfl rfl rfl (x_lss (H.r 17 rfl) (H.r 16 rfl)) ?_ ?_
    · clear H; intro h18 T H
      have hk1 : k < gv.length := by omega
      have ho := List.getElem?_eq_getElem hk1
      generalize gv[k] = o at ho
      have hA := hP.addr (fun e => by simp [e] at hk1)
      subst hA
      have hz := List.getElem?_eq_getElem (l := list) (show k < list.length by omega)
      generalize list[k] = z at hz
      have hB := hL.addr (fun e => by simp [e] at hz)
      subst hB
      refine At.regionEnd ?_
      refine At.seq ?_
      refine At.condT (H.r 18 rfl) ?_
      refine At.skip ?_
      refine At.seq ?_
      refine At.block ?_
      refine At.seq ?_
      refine At.region' (l := [0, 1, 2, 3, 4]) rfl ?_
      refine At.v H rfl (wN rfl) rfl rfl rfl (x_move (H.r 17 rfl)) ?_; clear H; intro T H
      refine At.v H rfl (wN rfl) rfl rfl rfl (x_ixSN (H.r 15 rfl) (H.r 17 rfl) Try.runUnderlying30 Try.sizeOf3 (by omega)) ?_; clear H; intro T H
      refine At.v H rfl (wN rfl) rfl rfl rfl (x_load (H.r 20 rfl) Try.isAgg3 (H.ext (hP.cell k o ho 0 _ rfl) (by simp))) ?_; clear H; intro T H
      refine At.v H rfl (wN rfl) rfl rfl rfl (x_assign (H.r 19 rfl)) ?_; clear H; intro T H
      refine At.v H rfl (wN rfl) rfl rfl rfl (x_assign (H.r 21 rfl)) ?_; clear H; intro T H
      refine At.regionEnd ?_
      refine At.seq ?_
      refine At.region' (l := [0, 1]) rfl ?_
      refine At.v H rfl (wN rfl) rfl rfl rfl (x_move (H.r 7 rfl)) ?_; clear H; intro T H
      refine At.c H rfl (wN rfl) rfl rfl rfl (x_neq (H.r 22 rfl) evC) ?_ ?_
      · clear H; intro h23 T H
        obtain ⟨m, rfl⟩ : ∃ m, o = some m := by
          cases o with
          | none => exact absurd rfl h23
          | some m => exact ⟨m, rfl⟩
        have hml := hlt m (List.mem_of_getElem? ho)
        have hw2 : worthsTo men.length list gv (k + 1) = (worthsTo men.length list gv k).set m z.worth := by rw [worthsTo_succ, ho, hz]
        refine At.regionEnd ?_
        refine At.condT (H.r 23 rfl) ?_
        refine At.region' (l := [0, 1, 2, 3, 4, 5, 6, 7, 8, 9, 10, 11, 12]) rfl ?_
        refine At.v H rfl (wN rfl) rfl rfl rfl (x_move (H.r 5 rfl)) ?_; clear H; intro T H
        refine At.v H rfl (wN rfl) rfl rfl rfl (x_move (H.r 7 rfl)) ?_; clear H; intro T H
        refine At.v H rfl (wN rfl) rfl rfl rfl (x_move (H.r 0 rfl)) ?_; clear H; intro T H
        refine At.v H rfl (wN rfl) rfl rfl rfl (x_nil (H.r 26 rfl)) ?_; clear H; intro T H
        refine At.v H rfl (wN rfl) rfl rfl rfl (x_fieldAddr (H.r 27 rfl) fa80_0) ?_; clear H; intro T H
        refine At.v H rfl (wN rfl) rfl rfl rfl (x_fieldAddr (H.r 28 rfl) fa25_1) ?_; clear H; intro T H
        refine At.v H rfl (wN rfl) rfl rfl rfl (x_load (H.r 29 rfl) Try.isAgg23 (H.ext hbL (by simp))) ?_; clear H; intro T H
        refine At.v H rfl (wN rfl) rfl rfl rfl (x_move (H.r 6 rfl)) ?_; clear H; intro T H
        refine At.v H rfl (wN rfl) rfl rfl rfl (x_ixSN (H.r 30 rfl) (H.r 31 rfl) Try.runUnderlying23 Try.sizeOf42 (by omega)) ?_; clear H; intro T H
        refine At.v H rfl (wN rfl) rfl rfl rfl (x_fieldAddr (H.r 32 rfl) fa42_1) ?_; clear H; intro T H
        refine At.v H rfl (wN rfl) rfl rfl rfl (x_load (H.r 33 rfl) Try.isAgg3 (H.ext (hL.cell k z hz 1 _ rfl) (by simp))) ?_; clear H; intro T H
        refine At.v H rfl (wN rfl) rfl rfl rfl (x_ixSN (n := m) (H.r 24 rfl) (H.r 25 rfl) Try.runUnderlying30 Try.sizeOf3 (by omega)) ?_; clear H; intro T H
        refine At.storeR (l' := ((worthsTo men.length list gv k).set m z.worth).flatMap encI) H rfl (wN rfl) rfl rfl (H.r 35 rfl) (H.r 34 rfl) Try.sizeOf3 rfl rfl (by repeat (first | exact Take.here | apply Take.there)) (by rw [flat_lenI, worthsTo_len]; omega) (by rw [show 0 + m * 1 = m by omega, flat_set]) ?_; clear H; intro T w _ H
        refine At.regionEnd ?_
        refine At.inBlock ?_
        refine At.region' (l := [0, 1]) rfl ?_
        refine At.v H rfl (wN rfl) rfl rfl rfl (x_add (H.r 17 rfl) evC (w64 (by omega) (by omega))) ?_; clear H; intro T H
        refine At.v H rfl (wN rfl) rfl rfl rfl (x_move (H.r 36 rfl)) ?_; clear H; intro T H
        refine At.regionEnd ?_
        exact hnext (gv.length - (k + 1)) _ _ (by omega) ⟨k + 1, rfl, by omega, by rw [hw2]; exact H.sub ⟨rfl, rfl, rfl, rfl, rfl, trivial⟩⟩
      · clear H; intro h23 T H
        obtain rfl : o = none := by
          cases o with
          | none => rfl
          | some m => exact absurd (by simp only [orNone]; omega) h23
        have hw2 : worthsTo men.length list gv (k + 1) = worthsTo men.length list gv k := by rw [worthsTo_succ, ho, hz]
        refine At.regionEnd ?_
        refine At.condF (H.r 23 rfl) ?_
        refine At.skip ?_
        refine At.inBlock ?_
        refine At.region' (l := [0, 1]) rfl ?_
        refine At.v H rfl (wN rfl) rfl rfl rfl (x_add (H.r 17 rfl) evC (w64 (by omega) (by omega))) ?_; clear H; intro T H
        refine At.v H rfl (wN rfl) rfl rfl rfl (x_move (H.r 36 rfl)) ?_; clear H; intro T H
        refine At.regionEnd ?_
        exact hnext (gv.length - (k + 1)) _ _ (by omega) ⟨k + 1, rfl, by omega, by rw [hw2]; exact H.sub ⟨rfl, rfl, rfl, rfl, rfl, trivial⟩⟩
    · clear H; intro h18 T H
      refine At.regionEnd ?_
      refine At.seq ?_
      refine At.condF (H.r 18 rfl) ?_
      refine At.exit rfl ?_
      refine At.seq ?_
      refine At.region' (l := [0, 1]) rfl ?_
      refine At.v H rfl (wN rfl) rfl rfl rfl (x_move (H.r 5 rfl)) ?_; clear H; intro T H
      refine At.v H rfl (wN rfl) rfl rfl rfl (x_assign (H.r 37 rfl)) ?_; clear H; intro T H
      refine At.regionEnd ?_
      refine At.ret rfl ?_
      obtain rfl : k = gv.length := by omega
      exact lea Try.func36 (res1 Try.results36 (H.r 4 rfl)) (RetG.of H [.row (.slice (some ⟨g14, 0, none⟩) men.length men.length) 3 1 men.length ((worthsL men list gv).flatMap encI)] (by simp [worthsL]) (by simp [Ent.w, Ent.keys]) ⟨g14, rfl, rfl⟩)
end Go.Proofs.Pz
end
section
namespace Go.Proofs.Pz
open Go.Sx Go.RowKit
set_option linter.unusedVariables false
namespace A9
theorem fa25_0 (a : Addr) (w : World) : (Instr.fieldAt 25 (.pointer (some a)) 0).run Try.prog w = .ok (.pointer (some (a.add 0))) w := by simp [go_sem]
theorem fa25_1 (a : Addr) (w : World) : (Instr.fieldAt 25 (.pointer (some a)) 1).run Try.prog w = .ok (.pointer (some (a.add 1))) w := by simp [go_sem]
theorem fa42_0 (a : Addr) (w : World) : (Instr.fieldAt 42 (.pointer (some a)) 0).run Try.prog w = .ok (.pointer (some (a.add 0))) w := by simp [go_sem]
theorem fa42_1 (a : Addr) (w : World) : (Instr.fieldAt 42 (.pointer (some a)) 1).run Try.prog w = .ok (.pointer (some (a.add 1))) w := by simp [go_sem]
theorem fa59_0 (a : Addr) (w : World) : (Instr.fieldAt 59 (.pointer (some a)) 0).run Try.prog w = .ok (.pointer (some (a.add 0))) w := by simp [go_sem]
theorem fa59_1 (a : Addr) (w : World) : (Instr.fieldAt 59 (.pointer (some a)) 1).run Try.prog w = .ok (.pointer (some (a.add 1))) w := by simp [go_sem]
theorem fa80_1 (a : Addr) (w : World) : (Instr.fieldAt 80 (.pointer (some a)) 1).run Try.prog w = .ok (.pointer (some (a.add 2))) w := by simp [go_sem]
theorem fa80_2 (a : Addr) (w : World) : (Instr.fieldAt 80 (.pointer (some a)) 2).run Try.prog w = .ok (.pointer (some (a.add 3))) w := by simp [go_sem]
end A9
open A9
theorem open_any {AM AL : Option Addr} {cM bM oM cL bL oL : Nat} {men : List Wi} {list : List Zi} {w0 : World} (hM : SlP encW 4 w0 AM cM bM oM men) (hL : SlP encZ 2 w0 AL cL bL oL list) (h40 : men.length ≤ 40) (hl40 : list.length ≤ 40) :
    Calls Try.prog 31 #[.agg #[(.slice AM men.length cM), (.slice AL list.length cL)]] w0 (fun e w' => (Valid men list ∧ RetG w0 (fun v E _ => ∃ b mw, v = .pointer (some ⟨b, 0, none⟩) ∧ E = [.blk b (Eo (.cells (pzCells AM men.length cM AL list.length cL mw (atL men)).toArray 80 (0, 0))), .blk mw (Eo whoObj)]) e w') ∨ (¬ Valid men list ∧ Pans w0 (fail 1) e w')) := by
  refine enter (args := [.agg #[(.slice AM men.length cM), (.slice AL list.length cL)]]) (S := []) Try.func31 rfl Try.ntmps31 rfl fun cs T H => ?_
  refine At.seq ?_
  refine At.region' (l := [0, 1]) rfl ?_
  refine At.new H rfl (wN rfl) rfl rfl rfl (x_box (H.r 0 rfl) rfl) ?_; clear H; intro b1 T w _ _ H
  refine At.v H rfl (wN rfl) rfl rfl rfl (x_assign evC) ?_; clear H; intro T H
  refine At.regionEnd ?_
  refine At.seq ?_
  refine At.drawnC (m := 5) (L := #[false, false, false, false, false]) H mixed rfl rfl ?_; clear H; intro w H
  refine GA.v (i := 0) (L' := #[true, false, false, false, false]) H rfl (wN rfl) rfl rfl rfl (by kernel_rfl) rfl (fun w H => x_loadA (H.r 1 rfl) Try.isAgg25 Try.sizeOf25 (H.cellsAt (n := 2) (by repeat (first | exact List.mem_cons_self | apply List.mem_cons_of_mem)) rfl) rfl) ?_; clear H; intro T H
  refine GA.fG (i := 1) (L' := #[true, true, false, false, false]) H rfl (wN rfl) rfl rfl rfl (by kernel_rfl) rfl args0 Try.call51 (who _) ?_; clear H; rintro v13 E13 T w ⟨mw, rfl, rfl⟩ _ H
  refine GA.v (v := ?v14_1) (i := 2) (L' := #[true, true, true, false, false]) H rfl (wN rfl) rfl rfl rfl (by kernel_rfl) rfl (fun w H => x_build2 (H.r 12 rfl) (H.r 13 rfl) (by simp [go_sem]; rfl)) ?_; clear H; intro T H
  refine GA.new (i := 3) (L' := #[true, true, true, true, false]) (f := fun m => .pointer (some ⟨m, 0, none⟩)) H rfl (wN rfl) rfl rfl rfl (by kernel_rfl) rfl (x_box (H.r 14 rfl) (l := pzCells AM men.length cM AL list.length cL mw (atI 0)) rfl) ?_; clear H; intro b15 T w H
  refine GA.v (i := 4) (L' := #[true, true, true, true, true]) H rfl (wN rfl) rfl rfl rfl (by kernel_rfl) rfl (fun w H => x_assign (H.r 15 rfl)) ?_; clear H; intro T H
  refine GA.done (by kernel_rfl) ?_
  refine At.seq ?_
  refine At.region' (l := [0, 1, 2, 3]) rfl ?_
  refine At.v H rfl (wN rfl) rfl rfl rfl (x_fieldAddr (H.r 1 rfl) fa25_0) ?_; clear H; intro T H
  refine At.v H rfl (wN rfl) rfl rfl rfl (x_load (H.r 16 rfl) Try.isAgg22 (by first | exact H.cell (by repeat (first | exact List.mem_cons_self | apply List.mem_cons_of_mem)) _ rfl | exact H.cellR (by repeat (first | exact List.mem_cons_self | apply List.mem_cons_of_mem)) _ rfl)) ?_; clear H; intro T H
  refine At.v H rfl (wN rfl) rfl rfl rfl (x_len (H.r 17 rfl) Try.runUnderlying22) ?_; clear H; intro T H
  refine At.v H rfl (wN rfl) rfl rfl rfl (x_assign (H.r 18 rfl)) ?_; clear H; intro T H
  refine At.regionEnd ?_
  refine At.seq ?_
  refine At.region' (l := [0, 1, 2, 3, 4, 5, 6, 7, 8]) rfl ?_
  refine At.v H rfl (wN rfl) rfl rfl rfl (x_move (H.r 4 rfl)) ?_; clear H; intro T H
  refine At.f0 H rfl (wN rfl) rfl rfl rfl (args3 (H.r 19 rfl) evC evC) Try.call52 (within _ _ _ _) ?_; clear H; rintro v20 T w rfl _ H
  by_cases hn : (1 : Int) ≤ (men.length : Int) ∧ (men.length : Int) ≤ 8
  · first | rw [decide_eq_true hn] at H | rw [decide_eq_false hn] at H
    refine At.v H rfl (wN rfl) rfl rfl rfl (x_move (H.r 20 rfl)) ?_; clear H; intro T H
    refine At.v H rfl (wS H rfl rfl rfl) rfl rfl rfl (x_fieldAddr (H.r 1 rfl) fa25_1) ?_; clear H; intro T H
    refine At.v H rfl (wS H rfl rfl rfl) rfl rfl rfl (x_load (H.r 22 rfl) Try.isAgg23 (by first | exact H.cell (by repeat (first | exact List.mem_cons_self | apply List.mem_cons_of_mem)) _ rfl | exact H.cellR (by repeat (first | exact List.mem_cons_self | apply List.mem_cons_of_mem)) _ rfl)) ?_; clear H; intro T H
    refine At.v H rfl (wS H rfl rfl rfl) rfl rfl rfl (x_len (H.r 23 rfl) Try.runUnderlying23) ?_; clear H; intro T H
    refine At.c H rfl (wS H rfl rfl rfl) rfl rfl rfl (x_leq (H.r 24 rfl) evC) ?_ ?_
    · clear H; intro h25 T H
      refine At.v H rfl (wN rfl) rfl rfl rfl (x_pickT (H.r 21 rfl) (H.r 25 rfl)) ?_; clear H; intro T H
      refine At.f0 H rfl (wN rfl) rfl rfl rfl (args2 (H.r 26 rfl) evC) Try.call34 (must_ok 1 _) ?_; clear H; rintro v27 T w rfl _ H
      refine At.regionEnd ?_
      refine At.seq ?_
      refine At.seq ?_
      refine At.region' (l := [0]) rfl ?_
      refine At.v H rfl (wN rfl) rfl rfl rfl (x_move evC) ?_; clear H; intro T H
      refine At.regionEnd ?_
      refine At.block ?_
      refine At.loopN (fun m T w => ∃ k : Nat, m = 9 - k ∧ k ≤ 9 ∧ Sx w0 [] 99 [(28, .int .i64 (k : Int)), (4, .int .i64 (men.length : Int)), (3, .pointer (some ⟨b15, 0, none⟩)), (1, .pointer (some ⟨b1, 0, none⟩))] [.blk b15 (Eo (.cells (pzCells AM men.length cM AL list.length cL mw (atI k)).toArray 80 (0, 0))), .blk mw (Eo whoObj), .blk b1 (Eo (.cells [(.slice AM men.length cM), (.slice AL list.length cL)].toArray 25 (0, 0)))] T w) (9) ?_ ?_
      · exact ⟨0, rfl, by omega, (H.pk (by repeat (first | exact Pk.nil | exact Pk.all | refine Pk.cons (by repeat (first | exact Take.here | apply Take.there)) ?_ | apply Pk.skip))).sub ⟨rfl, rfl, rfl, rfl, trivial⟩⟩
      · clear H
        rintro n T w ⟨k, rfl, hk, H⟩ hnext
        refine At.seq ?_
        refine At.region' (l := [0]) rfl ?_
        refine At.c H rfl (wN rfl) rfl rfl rfl (x_lss (H.r 28 rfl) evC) ?_ ?_
        · clear H; intro h29 T H
          have hk1 : k < 9 := by omega
          refine At.regionEnd ?_
          refine At.seq ?_
          refine At.condT (H.r 29 rfl) ?_
          refine At.skip ?_
          refine At.seq ?_
          refine At.block ?_
          refine At.seq ?_
          refine At.region' (l := [0, 1]) rfl ?_
          refine At.v H rfl (wN rfl) rfl rfl rfl (x_move (H.r 28 rfl)) ?_; clear H; intro T H
          refine At.v H rfl (wN rfl) rfl rfl rfl (x_assign (H.r 30 rfl)) ?_; clear H; intro T H
          refine At.regionEnd ?_
          refine At.region' (l := [0, 1, 2, 3, 4, 5]) rfl ?_
          refine At.v H rfl (wN rfl) rfl rfl rfl (x_move (H.r 3 rfl)) ?_; clear H; intro T H
          refine At.v H rfl (wN rfl) rfl rfl rfl (x_move (H.r 5 rfl)) ?_; clear H; intro T H
          refine At.v H rfl (wN rfl) rfl rfl rfl (x_nil (H.r 31 rfl)) ?_; clear H; intro T H
          refine At.v H rfl (wN rfl) rfl rfl rfl (x_fieldAddr (H.r 33 rfl) fa80_2) ?_; clear H; intro T H
          refine At.v H rfl (wN rfl) rfl rfl rfl (x_ixAN (H.r 34 rfl) (H.r 32 rfl) Try.runUnderlying78 Try.sizeOf3 (by omega)) ?_; clear H; intro T H
          refine At.store1S H rfl (wN rfl) rfl rfl (H.r 35 rfl) evC Try.sizeOf3 rfl rfl (by repeat (first | exact Upd.here | apply Upd.there)) (by rw [pzCells_length, atI_len]; omega) (by rw [pzCells_set, atI_succ k hk1]) ?_; clear H; intro T w H
          refine At.regionEnd ?_
          refine At.inBlock ?_
          refine At.region' (l := [0, 1]) rfl ?_
          refine At.v H rfl (wN rfl) rfl rfl rfl (x_add (H.r 28 rfl) evC (w64 (by omega) (by omega))) ?_; clear H; intro T H
          refine At.v H rfl (wN rfl) rfl rfl rfl (x_move (H.r 36 rfl)) ?_; clear H; intro T H
          refine At.regionEnd ?_
          exact hnext (9 - (k + 1)) _ _ (by omega) ⟨k + 1, rfl, by omega, H.sub ⟨rfl, rfl, rfl, rfl, trivial⟩⟩
        · clear H; intro h29 T H
          obtain rfl : k = 9 := by omega
          rw [atI_end] at H
          refine At.regionEnd ?_
          refine At.seq ?_
          refine At.condF (H.r 29 rfl) ?_
          refine At.exit rfl ?_
          refine At.seq ?_
          refine At.seq ?_
          refine At.region' (l := [0, 1, 2, 3]) rfl ?_
          refine At.v H rfl (wN rfl) rfl rfl rfl (x_fieldAddr (H.r 1 rfl) fa25_0) ?_; clear H; intro T H
          refine At.v H rfl (wN rfl) rfl rfl rfl (x_load (H.r 37 rfl) Try.isAgg22 (by first | exact H.cell (by repeat (first | exact List.mem_cons_self | apply List.mem_cons_of_mem)) _ rfl | exact H.cellR (by repeat (first | exact List.mem_cons_self | apply List.mem_cons_of_mem)) _ rfl)) ?_; clear H; intro T H
          refine At.v H rfl (wN rfl) rfl rfl rfl (x_len (H.r 38 rfl) Try.runUnderlying22) ?_; clear H; intro T H
          refine At.v H rfl (wN rfl) rfl rfl rfl (x_move evC) ?_; clear H; intro T H
          refine At.regionEnd ?_
          refine At.block ?_
          refine At.loopN (fun m T w => ∃ k : Nat, m = men.length - k ∧ k ≤ men.length ∧ MenOK men.length (men.take k) ∧ Sx w0 [] 99 [(40, .int .i64 (k : Int)), (39, .int .i64 (men.length : Int)), (38, (.slice AM men.length cM)), (4, .int .i64 (men.length : Int)), (3, .pointer (some ⟨b15, 0, none⟩)), (1, .pointer (some ⟨b1, 0, none⟩))] [.blk b15 (Eo (.cells (pzCells AM men.length cM AL list.length cL mw (atL (men.take k))).toArray 80 (0, 0))), .blk mw (Eo whoObj), .blk b1 (Eo (.cells [(.slice AM men.length cM), (.slice AL list.length cL)].toArray 25 (0, 0)))] T w) (men.length) ?_ ?_
          · exact ⟨0, rfl, by omega, MenOK.nil _, H.sub ⟨rfl, rfl, rfl, rfl, rfl, rfl, trivial⟩⟩
          · clear H
            rintro n T w ⟨k, rfl, hk, hmo, H⟩ hnext
            refine At.seq ?_
            refine At.region' (l := [0]) rfl ?_
            refine At.c H rfl (wN rfl) rfl rfl rfl (x_lss (H.r 40 rfl) (H.r 39 rfl)) ?_ ?_
            · clear H; intro h41 T H
              have hk1 : k < men.length := by omega
              have hm := List.getElem?_eq_getElem hk1
              generalize men[k] = m at hm
              have hA := hM.addr (fun e => by simp [e] at hk1)
              subst hA
              have htk : men.take (k + 1) = men.take k ++ [m] := by rw [List.take_add_one, hm]; rfl
              have hsub : (men.take k ++ [m]).Sublist men := by rw [← htk]; exact List.take_sublist _ _
              have hlt : (men.take k).length = k := by rw [List.length_take]; omega
              refine At.regionEnd ?_
              refine At.seq ?_
              refine At.condT (H.r 41 rfl) ?_
              refine At.skip ?_
              refine At.seq ?_
              refine At.block ?_
              refine At.seq ?_
              refine At.region' (l := [0, 1, 2, 3, 4, 5]) rfl ?_
              refine At.v H rfl (wN rfl) rfl rfl rfl (x_move (H.r 40 rfl)) ?_; clear H; intro T H
              refine At.v H rfl (wN rfl) rfl rfl rfl (x_ixSN (H.r 38 rfl) (H.r 40 rfl) Try.runUnderlying22 Try.sizeOf59 (by omega)) ?_; clear H; intro T H
              refine At.v H rfl (wN rfl) rfl rfl rfl (x_loadA (H.r 43 rfl) Try.isAgg59 Try.sizeOf59 (H.extA (hM.cell k m hm) (by simp)) (l := encW m) rfl) ?_; clear H; intro T H
              refine At.new H rfl (wN rfl) rfl rfl rfl (x_alloc Try.zeroValue59 rfl) ?_; clear H; intro b7 T w _ _ H
              refine At.v H rfl (wN rfl) rfl rfl rfl (x_assign (H.r 42 rfl)) ?_; clear H; intro T H
              refine At.storeA H rfl (wN rfl) rfl rfl (H.r 7 rfl) (H.r 44 rfl) Try.sizeOf59 (List.all_eq_true.1 rfl) (by repeat (first | exact Upd.here | apply Upd.there)) (by rfl) ?_; clear H; intro T w _ H
              refine At.regionEnd ?_
              refine At.seq ?_
              refine At.drawnC (m := 20) (L := #[false, false, false, false, false, false, false, false, false, false, false, false, false, false, false, false, false, false, false, false]) H mixed rfl rfl ?_; clear H; intro w H
              refine GA.v (i := 0) (L' := #[true, false, false, false, false, false, false, false, false, false, false, false, false, false, false, false, false, false, false, false]) H rfl (wN rfl) rfl rfl rfl (by kernel_rfl) rfl (fun w H => x_fieldAddr (H.r 7 rfl) fa59_0) ?_; clear H; intro T H
              refine GA.v (i := 1) (L' := #[true, true, false, false, false, false, false, false, false, false, false, false, false, false, false, false, false, false, false, false]) H rfl (wN rfl) rfl rfl rfl (by kernel_rfl) rfl (fun w H => x_load (H.r 45 rfl) Try.isAgg3 (by first | exact H.cell (by repeat (first | exact List.mem_cons_self | apply List.mem_cons_of_mem)) _ rfl | exact H.cellR (by repeat (first | exact List.mem_cons_self | apply List.mem_cons_of_mem)) _ rfl)) ?_; clear H; intro T H
              refine GA.v (i := 2) (L' := #[true, true, true, false, false, false, false, false, false, false, false, false, false, false, false, false, false, false, false, false]) H rfl (wN rfl) rfl rfl rfl (by kernel_rfl) rfl (fun w H => x_move (H.r 4 rfl)) ?_; clear H; intro T H
              refine GA.f0 (i := 3) (L' := #[true, true, true, true, false, false, false, false, false, false, false, false, false, false, false, false, false, false, false, false]) H rfl (wN rfl) rfl rfl rfl (by kernel_rfl) rfl (args3 (H.r 46 rfl) evC (H.r 47 rfl)) Try.call52 (within _ _ _ _) ?_; clear H; rintro v48 T w rfl _ H
              by_cases hp1 : 1 ≤ m.place ∧ m.place ≤ (men.length : Int)
              · first | rw [decide_eq_true hp1] at H | rw [decide_eq_false hp1] at H
                obtain ⟨p, hp⟩ := Int.eq_ofNat_of_zero_le (show 0 ≤ m.place by omega)
                obtain ⟨pl, cl, nv, hs⟩ := m
                simp only at hp hp1
                subst hp
                refine GA.v (i := 4) (L' := #[true, true, true, true, true, false, false, false, false, false, false, false, false, false, false, false, false, false, false, false]) H rfl (wN rfl) rfl rfl rfl (by kernel_rfl) rfl (fun w H => x_move (H.r 48 rfl)) ?_; clear H; intro T H
                refine GA.v (i := 5) (L' := #[true, true, true, true, true, true, false, false, false, false, false, false, false, false, false, false, false, false, false, false]) H rfl (wS H rfl rfl rfl) rfl rfl rfl (by kernel_rfl) rfl (fun w H => x_move (H.r 3 rfl)) ?_; clear H; intro T H
                refine GA.v (i := 6) (L' := #[true, true, true, true, true, true, true, false, false, false, false, false, false, false, false, false, false, false, false, false]) H rfl (wS H rfl rfl rfl) rfl rfl rfl (by kernel_rfl) rfl (fun w H => x_fieldAddr (H.r 7 rfl) fa59_0) ?_; clear H; intro T H
                refine GA.v (i := 7) (L' := #[true, true, true, true, true, true, true, true, false, false, false, false, false, false, false, false, false, false, false, false]) H rfl (wS H rfl rfl rfl) rfl rfl rfl (by kernel_rfl) rfl (fun w H => x_load (H.r 51 rfl) Try.isAgg3 (by first | exact H.cell (by repeat (first | exact List.mem_cons_self | apply List.mem_cons_of_mem)) _ rfl | exact H.cellR (by repeat (first | exact List.mem_cons_self | apply List.mem_cons_of_mem)) _ rfl)) ?_; clear H; intro T H
                refine GA.v (i := 8) (L' := #[true, true, true, true, true, true, true, true, true, false, false, false, false, false, false, false, false, false, false, false]) H rfl (wS H rfl rfl rfl) rfl rfl rfl (by kernel_rfl) rfl (fun w H => x_nil (H.r 50 rfl)) ?_; clear H; intro T H
                refine GA.v (i := 9) (L' := #[true, true, true, true, true, true, true, true, true, true, false, false, false, false, false, false, false, false, false, false]) H rfl (wS H rfl rfl rfl) rfl rfl rfl (by kernel_rfl) rfl (fun w H => x_fieldAddr (H.r 53 rfl) fa80_2) ?_; clear H; intro T H
                refine GA.v (i := 10) (L' := #[true, true, true, true, true, true, true, true, true, true, true, false, false, false, false, false, false, false, false, false]) H rfl (wS H rfl rfl rfl) rfl rfl rfl (by kernel_rfl) rfl (fun w H => x_ixAN (n := p) (H.r 54 rfl) (H.r 52 rfl) Try.runUnderlying78 Try.sizeOf3 (by omega)) ?_; clear H; intro T H
                refine GA.v (i := 11) (L' := #[true, true, true, true, true, true, true, true, true, true, true, true, false, false, false, false, false, false, false, false]) H rfl (wS H rfl rfl rfl) rfl rfl rfl (by kernel_rfl) rfl (fun w H => x_load (H.r 55 rfl) Try.isAgg3 (by rw [show 0 + 3 + p * 1 = 3 + p by omega]; exact H.cell (by repeat (first | exact List.mem_cons_self | apply List.mem_cons_of_mem)) _ (pz_at _ _ _ _ _ _ _ _ (by omega)))) ?_; clear H; intro T H
                refine GA.c (i := 12) (L' := #[true, true, true, true, true, true, true, true, true, true, true, true, true, false, false, false, false, false, false, false]) H rfl (wS H rfl rfl rfl) rfl rfl rfl (by kernel_rfl) rfl (fun w H => x_eql (H.r 56 rfl) evC) ?_ ?_
                · clear H; intro h57 T H
                  refine GA.v (i := 13) (L' := #[true, true, true, true, true, true, true, true, true, true, true, true, true, true, false, false, false, false, false, false]) H rfl (wN rfl) rfl rfl rfl (by kernel_rfl) rfl (fun w H => x_pickT (H.r 49 rfl) (H.r 57 rfl)) ?_; clear H; intro T H
                  refine GA.v (i := 14) (L' := #[true, true, true, true, true, true, true, true, true, true, true, true, true, true, true, false, false, false, false, false]) H rfl (wN rfl) rfl rfl rfl (by kernel_rfl) rfl (fun w H => x_move (H.r 58 rfl)) ?_; clear H; intro T H
                  refine GA.v (i := 15) (L' := #[true, true, true, true, true, true, true, true, true, true, true, true, true, true, true, true, false, false, false, false]) H rfl (wS H rfl rfl rfl) rfl rfl rfl (by kernel_rfl) rfl (fun w H => x_fieldAddr (H.r 7 rfl) fa59_1) ?_; clear H; intro T H
                  refine GA.v (i := 16) (L' := #[true, true, true, true, true, true, true, true, true, true, true, true, true, true, true, true, true, false, false, false]) H rfl (wS H rfl rfl rfl) rfl rfl rfl (by kernel_rfl) rfl (fun w H => x_load (H.r 60 rfl) Try.isAgg3 (by first | exact H.cell (by repeat (first | exact List.mem_cons_self | apply List.mem_cons_of_mem)) _ rfl | exact H.cellR (by repeat (first | exact List.mem_cons_self | apply List.mem_cons_of_mem)) _ rfl)) ?_; clear H; intro T H
                  refine GA.f0 (i := 17) (L' := #[true, true, true, true, true, true, true, true, true, true, true, true, true, true, true, true, true, true, false, false]) H rfl (wS H rfl rfl rfl) rfl rfl rfl (by kernel_rfl) rfl (args3 (H.r 61 rfl) evC evC) Try.call52 (within _ _ _ _) ?_; clear H; rintro v62 T w rfl _ H
                  by_cases hp3 : 0 ≤ cl ∧ cl ≤ 5
                  · first | rw [decide_eq_true hp3] at H | rw [decide_eq_false hp3] at H
                    have hmo2 := hmo.snoc (m := ⟨p, cl, nv, hs⟩) hp1 h57 hp3
                    have hset := atL_snoc (men.take k) ⟨p, cl, nv, hs⟩ p rfl (by omega) h57
                    rw [hlt, ← htk] at hset
                    refine GA.v (i := 18) (L' := #[true, true, true, true, true, true, true, true, true, true, true, true, true, true, true, true, true, true, true, false]) H rfl (wN rfl) rfl rfl rfl (by kernel_rfl) rfl (fun w H => x_pickT (H.r 59 rfl) (H.r 62 rfl)) ?_; clear H; intro T H
                    refine GA.f0 (i := 19) (L' := #[true, true, true, true, true, true, true, true, true, true, true, true, true, true, true, true, true, true, true, true]) H rfl (wN rfl) rfl rfl rfl (by kernel_rfl) rfl (args2 (H.r 63 rfl) evC) Try.call34 (must_ok 1 _) ?_; clear H; rintro v64 T w rfl _ H
                    refine GA.done (by kernel_rfl) ?_
                    refine At.drawnC (m := 8) (L := #[false, false, false, false, false, false, false, false]) H mixed rfl rfl ?_; clear H; intro w H
                    refine GA.v (i := 0) (L' := #[true, false, false, false, false, false, false, false]) H rfl (wN rfl) rfl rfl rfl (by kernel_rfl) rfl (fun w H => x_move (H.r 3 rfl)) ?_; clear H; intro T H
                    refine GA.v (i := 1) (L' := #[true, true, false, false, false, false, false, false]) H rfl (wN rfl) rfl rfl rfl (by kernel_rfl) rfl (fun w H => x_fieldAddr (H.r 7 rfl) fa59_0) ?_; clear H; intro T H
                    refine GA.v (i := 2) (L' := #[true, true, true, false, false, false, false, false]) H rfl (wN rfl) rfl rfl rfl (by kernel_rfl) rfl (fun w H => x_load (H.r 66 rfl) Try.isAgg3 (by first | exact H.cell (by repeat (first | exact List.mem_cons_self | apply List.mem_cons_of_mem)) _ rfl | exact H.cellR (by repeat (first | exact List.mem_cons_self | apply List.mem_cons_of_mem)) _ rfl)) ?_; clear H; intro T H
                    refine GA.v (i := 3) (L' := #[true, true, true, true, false, false, false, false]) H rfl (wN rfl) rfl rfl rfl (by kernel_rfl) rfl (fun w H => x_move (H.r 6 rfl)) ?_; clear H; intro T H
                    refine GA.v (i := 4) (L' := #[true, true, true, true, true, false, false, false]) H rfl (wN rfl) rfl rfl rfl (by kernel_rfl) rfl (fun w H => x_nil (H.r 65 rfl)) ?_; clear H; intro T H
                    refine GA.v (i := 5) (L' := #[true, true, true, true, true, true, false, false]) H rfl (wN rfl) rfl rfl rfl (by kernel_rfl) rfl (fun w H => x_fieldAddr (H.r 69 rfl) fa80_2) ?_; clear H; intro T H
                    refine GA.v (i := 6) (L' := #[true, true, true, true, true, true, true, false]) H rfl (wN rfl) rfl rfl rfl (by kernel_rfl) rfl (fun w H => x_ixAN (n := p) (H.r 70 rfl) (H.r 67 rfl) Try.runUnderlying78 Try.sizeOf3 (by omega)) ?_; clear H; intro T H
                    refine GA.store1 (i := 7) (L' := #[true, true, true, true, true, true, true, true]) H rfl (wN rfl) rfl rfl (by kernel_rfl) rfl (H.r 71 rfl) (H.r 68 rfl) Try.sizeOf3 rfl rfl (by repeat (first | exact Upd.here | apply Upd.there)) (by rw [pzCells_length, atL_length]; omega) (by rw [pzCells_set, ← hset]) ?_; clear H; intro T w H
                    refine GA.done (by kernel_rfl) ?_
                    refine At.inBlock ?_
                    refine At.region' (l := [0, 1]) rfl ?_
                    refine At.v H rfl (wN rfl) rfl rfl rfl (x_add (H.r 40 rfl) evC (w64 (by omega) (by omega))) ?_; clear H; intro T H
                    refine At.v H rfl (wN rfl) rfl rfl rfl (x_move (H.r 72 rfl)) ?_; clear H; intro T H
                    refine At.regionEnd ?_
                    exact hnext (men.length - (k + 1)) _ _ (by omega) ⟨k + 1, rfl, by omega, by rw [htk]; exact hmo2, (H.pk (by repeat (first | exact Pk.nil | exact Pk.all | refine Pk.cons (by repeat (first | exact Take.here | apply Take.there)) ?_ | apply Pk.skip))).sub ⟨rfl, rfl, rfl, rfl, rfl, rfl, trivial⟩⟩
                  · first | rw [decide_eq_true hp3] at H | rw [decide_eq_false hp3] at H
                    have hbad : ¬ Valid men list := fun hv => hp3 (hv.club _ (List.mem_of_getElem? hm))
                    refine GA.v (i := 18) (L' := #[true, true, true, true, true, true, true, true, true, true, true, true, true, true, true, true, true, true, true, false]) H rfl (wN rfl) rfl rfl rfl (by kernel_rfl) rfl (fun w H => x_pickT (H.r 59 rfl) (H.r 62 rfl)) ?_; clear H; intro T H
                    refine GA.fP (i := 19) (L' := #[true, true, true, true, true, true, true, true, true, true, true, true, true, true, true, true, true, true, true, true]) H rfl (wN rfl) rfl (by kernel_rfl) rfl (args2 (H.r 63 rfl) evC) Try.call34 (must_no 1 _) ?_
                    clear H; intro w _ H T
                    exact pan Try.func31 (.inr ⟨hbad, rfl, H.fr⟩)
                · clear H; intro h57 T H
                  have hbad : ¬ Valid men list := fun hv => h57 (atP_none.2 (fun x hx e => by
                    have hnd := (hv.men.sub hsub).nd
                    rw [List.map_append, List.nodup_append] at hnd
                    exact hnd.2.2 x.place (List.mem_map.2 ⟨x, hx, rfl⟩) (p : Int) (by simp) e))
                  refine GA.v (i := 13) (L' := #[true, true, true, true, true, true, true, true, true, true, true, true, true, true, false, false, false, false, false, false]) H rfl (wN rfl) rfl rfl rfl (by kernel_rfl) rfl (fun w H => x_pickT (H.r 49 rfl) (H.r 57 rfl)) ?_; clear H; intro T H
                  refine GA.v (i := 14) (L' := #[true, true, true, true, true, true, true, true, true, true, true, true, true, true, true, false, false, false, false, false]) H rfl (wN rfl) rfl rfl rfl (by kernel_rfl) rfl (fun w H => x_move (H.r 58 rfl)) ?_; clear H; intro T H
                  refine GA.u (i := 15) (L' := #[true, true, true, true, true, true, true, true, true, true, true, true, true, true, true, true, false, false, false, false]) H rfl (wU H rfl rfl rfl rfl) rfl rfl (by kernel_rfl) rfl ?_; clear H; intro T H
                  refine GA.u (i := 16) (L' := #[true, true, true, true, true, true, true, true, true, true, true, true, true, true, true, true, true, false, false, false]) H rfl (wU H rfl rfl rfl rfl) rfl rfl (by kernel_rfl) rfl ?_; clear H; intro T H
                  refine GA.u (i := 17) (L' := #[true, true, true, true, true, true, true, true, true, true, true, true, true, true, true, true, true, true, false, false]) H rfl (wU H rfl rfl rfl rfl) rfl rfl (by kernel_rfl) rfl ?_; clear H; intro T H
                  refine GA.v (i := 18) (L' := #[true, true, true, true, true, true, true, true, true, true, true, true, true, true, true, true, true, true, true, false]) H rfl (wN rfl) rfl rfl rfl (by kernel_rfl) rfl (fun w H => x_pickF (H.r 59 rfl) evC) ?_; clear H; intro T H
                  refine GA.fP (i := 19) (L' := #[true, true, true, true, true, true, true, true, true, true, true, true, true, true, true, true, true, true, true, true]) H rfl (wN rfl) rfl (by kernel_rfl) rfl (args2 (H.r 63 rfl) evC) Try.call34 (must_no 1 _) ?_
                  clear H; intro w _ H T
                  exact pan Try.func31 (.inr ⟨hbad, rfl, H.fr⟩)
              · first | rw [decide_eq_true hp1] at H | rw [decide_eq_false hp1] at H
                have hbad : ¬ Valid men list := fun hv => hp1 (hv.place m (List.mem_of_getElem? hm))
                refine GA.v (i := 4) (L' := #[true, true, true, true, true, false, false, false, false, false, false, false, false, false, false, false, false, false, false, false]) H rfl (wN rfl) rfl rfl rfl (by kernel_rfl) rfl (fun w H => x_move (H.r 48 rfl)) ?_; clear H; intro T H
                refine GA.u (i := 5) (L' := #[true, true, true, true, true, true, false, false, false, false, false, false, false, false, false, false, false, false, false, false]) H rfl (wU H rfl rfl rfl rfl) rfl rfl (by kernel_rfl) rfl ?_; clear H; intro T H
                refine GA.u (i := 6) (L' := #[true, true, true, true, true, true, true, false, false, false, false, false, false, false, false, false, false, false, false, false]) H rfl (wU H rfl rfl rfl rfl) rfl rfl (by kernel_rfl) rfl ?_; clear H; intro T H
                refine GA.u (i := 7) (L' := #[true, true, true, true, true, true, true, true, false, false, false, false, false, false, false, false, false, false, false, false]) H rfl (wU H rfl rfl rfl rfl) rfl rfl (by kernel_rfl) rfl ?_; clear H; intro T H
                refine GA.u (i := 8) (L' := #[true, true, true, true, true, true, true, true, true, false, false, false, false, false, false, false, false, false, false, false]) H rfl (wU H rfl rfl rfl rfl) rfl rfl (by kernel_rfl) rfl ?_; clear H; intro T H
                refine GA.u (i := 9) (L' := #[true, true, true, true, true, true, true, true, true, true, false, false, false, false, false, false, false, false, false, false]) H rfl (wU H rfl rfl rfl rfl) rfl rfl (by kernel_rfl) rfl ?_; clear H; intro T H
                refine GA.u (i := 10) (L' := #[true, true, true, true, true, true, true, true, true, true, true, false, false, false, false, false, false, false, false, false]) H rfl (wU H rfl rfl rfl rfl) rfl rfl (by kernel_rfl) rfl ?_; clear H; intro T H
                refine GA.u (i := 11) (L' := #[true, true, true, true, true, true, true, true, true, true, true, true, false, false, false, false, false, false, false, false]) H rfl (wU H rfl rfl rfl rfl) rfl rfl (by kernel_rfl) rfl ?_; clear H; intro T H
                refine GA.u (i := 12) (L' := #[true, true, true, true, true, true, true, true, true, true, true, true, true, false, false, false, false, false, false, false]) H rfl (wU H rfl rfl rfl rfl) rfl rfl (by kernel_rfl) rfl ?_; clear H; intro T H
                refine GA.v (i := 13) (L' := #[true, true, true, true, true, true, true, true, true, true, true, true, true, true, false, false, false, false, false, false]) H rfl (wN rfl) rfl rfl rfl (by kernel_rfl) rfl (fun w H => x_pickF (H.r 49 rfl) evC) ?_; clear H; intro T H
                refine GA.v (i := 14) (L' := #[true, true, true, true, true, true, true, true, true, true, true, true, true, true, true, false, false, false, false, false]) H rfl (wN rfl) rfl rfl rfl (by kernel_rfl) rfl (fun w H => x_move (H.r 58 rfl)) ?_; clear H; intro T H
                refine GA.u (i := 15) (L' := #[true, true, true, true, true, true, true, true, true, true, true, true, true, true, true, true, false, false, false, false]) H rfl (wU H rfl rfl rfl rfl) rfl rfl (by kernel_rfl) rfl ?_; clear H; intro T H
                refine GA.u (i := 16) (L' := #[true, true, true, true, true, true, true, true, true, true, true, true, true, true, true, true, true, false, false, false]) H rfl (wU H rfl rfl rfl rfl) rfl rfl (by kernel_rfl) rfl ?_; clear H; intro T H
                refine GA.u (i := 17) (L' := #[true, true, true, true, true, true, true, true, true, true, true, true, true, true, true, true, true, true, false, false]) H rfl (wU H rfl rfl rfl rfl) rfl rfl (by kernel_rfl) rfl ?_; clear H; intro T H
                refine GA.v (i := 18) (L' := #[true, true, true, true, true, true, true, true, true, true, true, true, true, true, true, true, true, true, true, false]) H rfl (wN rfl) rfl rfl rfl (by kernel_rfl) rfl (fun w H => x_pickF (H.r 59 rfl) evC) ?_; clear H; intro T H
                refine GA.fP (i := 19) (L' := #[true, true, true, true, true, true, true, true, true, true, true, true, true, true, true, true, true, true, true, true]) H rfl (wN rfl) rfl (by kernel_rfl) rfl (args2 (H.r 63 rfl) evC) Try.call34 (must_no 1 _) ?_
                clear H; intro w _ H T
                exact pan Try.func31 (.inr ⟨hbad, rfl, H.fr⟩)
            · clear H; intro h41 T H
              obtain rfl : k = men.length := by omega
              rw [List.take_length] at H hmo
              refine At.regionEnd ?_
              refine At.seq ?_
              refine At.condF (H.r 41 rfl) ?_
              refine At.exit rfl ?_
              refine At.seq ?_
              refine At.seq ?_
              refine At.region' (l := [0, 1, 2, 3]) rfl ?_
              refine At.v H rfl (wN rfl) rfl rfl rfl (x_fieldAddr (H.r 1 rfl) fa25_1) ?_; clear H; intro T H
              refine At.v H rfl (wN rfl) rfl rfl rfl (x_load (H.r 73 rfl) Try.isAgg23 (by first | exact H.cell (by repeat (first | exact List.mem_cons_self | apply List.mem_cons_of_mem)) _ rfl | exact H.cellR (by repeat (first | exact List.mem_cons_self | apply List.mem_cons_of_mem)) _ rfl)) ?_; clear H; intro T H
              refine At.v H rfl (wN rfl) rfl rfl rfl (x_len (H.r 74 rfl) Try.runUnderlying23) ?_; clear H; intro T H
              refine At.v H rfl (wN rfl) rfl rfl rfl (x_move evC) ?_; clear H; intro T H
              refine At.regionEnd ?_
              refine At.block ?_
              refine At.loopN (fun m T w => ∃ k : Nat, m = list.length - k ∧ k ≤ list.length ∧ (∀ z ∈ list.take k, 0 ≤ z.for_ ∧ z.for_ ≤ 4 ∧ 0 ≤ z.worth ∧ z.worth ≤ 1000) ∧ Sx w0 [] 99 [(76, .int .i64 (k : Int)), (75, .int .i64 (list.length : Int)), (74, (.slice AL list.length cL)), (3, .pointer (some ⟨b15, 0, none⟩))] [.blk b15 (Eo (.cells (pzCells AM men.length cM AL list.length cL mw (atL men)).toArray 80 (0, 0))), .blk mw (Eo whoObj)] T w) (list.length) ?_ ?_
              · exact ⟨0, rfl, by omega, by simp, (H.pk (by repeat (first | exact Pk.nil | exact Pk.all | refine Pk.cons (by repeat (first | exact Take.here | apply Take.there)) ?_ | apply Pk.skip))).sub ⟨rfl, rfl, rfl, rfl, trivial⟩⟩
              · clear H
                rintro n T w ⟨k, rfl, hk, hzo, H⟩ hnext
                refine At.seq ?_
                refine At.region' (l := [0]) rfl ?_
                refine At.c H rfl (wN rfl) rfl rfl rfl (x_lss (H.r 76 rfl) (H.r 75 rfl)) ?_ ?_
                · clear H; intro h77 T H
                  have hk1 : k < list.length := by omega
                  have hz := List.getElem?_eq_getElem hk1
                  generalize list[k] = z at hz
                  have hB := hL.addr (fun e => by simp [e] at hk1)
                  subst hB
                  obtain ⟨r, hr1, hr2⟩ := who_any z.for_
                  refine At.regionEnd ?_
                  refine At.seq ?_
                  refine At.condT (H.r 77 rfl) ?_
                  refine At.skip ?_
                  refine At.seq ?_
                  refine At.block ?_
                  refine At.seq ?_
                  refine At.region' (l := [0, 1, 2, 3]) rfl ?_
                  refine At.v H rfl (wN rfl) rfl rfl rfl (x_ixSN (H.r 74 rfl) (H.r 76 rfl) Try.runUnderlying23 Try.sizeOf42 (by omega)) ?_; clear H; intro T H
                  refine At.v H rfl (wN rfl) rfl rfl rfl (x_loadA (H.r 78 rfl) Try.isAgg42 Try.sizeOf42 (H.extA (hL.cell k z hz) (by simp)) (l := encZ z) rfl) ?_; clear H; intro T H
                  refine At.new H rfl (wN rfl) rfl rfl rfl (x_alloc Try.zeroValue42 rfl) ?_; clear H; intro b9 T w _ _ H
                  refine At.storeA H rfl (wN rfl) rfl rfl (H.r 9 rfl) (H.r 79 rfl) Try.sizeOf42 (List.all_eq_true.1 rfl) (by repeat (first | exact Upd.here | apply Upd.there)) (by rfl) ?_; clear H; intro T w _ H
                  refine At.regionEnd ?_
                  refine At.seq ?_
                  refine At.drawnC (m := 12) (L := #[false, false, false, false, false, false, false, false, false, false, false, false]) H mixed rfl rfl ?_; clear H; intro w H
                  refine GA.v (i := 0) (L' := #[true, false, false, false, false, false, false, false, false, false, false, false]) H rfl (wN rfl) rfl rfl rfl (by kernel_rfl) rfl (fun w H => x_move (H.r 3 rfl)) ?_; clear H; intro T H
                  refine GA.v (i := 1) (L' := #[true, true, false, false, false, false, false, false, false, false, false, false]) H rfl (wN rfl) rfl rfl rfl (by kernel_rfl) rfl (fun w H => x_nil (H.r 81 rfl)) ?_; clear H; intro T H
                  refine GA.v (i := 2) (L' := #[true, true, true, false, false, false, false, false, false, false, false, false]) H rfl (wN rfl) rfl rfl rfl (by kernel_rfl) rfl (fun w H => x_fieldAddr (H.r 82 rfl) fa80_1) ?_; clear H; intro T H
                  refine GA.v (i := 3) (L' := #[true, true, true, true, false, false, false, false, false, false, false, false]) H rfl (wN rfl) rfl rfl rfl (by kernel_rfl) rfl (fun w H => x_load (H.r 83 rfl) Try.isAgg77 (by first | exact H.cell (by repeat (first | exact List.mem_cons_self | apply List.mem_cons_of_mem)) _ rfl | exact H.cellR (by repeat (first | exact List.mem_cons_self | apply List.mem_cons_of_mem)) _ rfl)) ?_; clear H; intro T H
                  refine GA.v (i := 4) (L' := #[true, true, true, true, true, false, false, false, false, false, false, false]) H rfl (wN rfl) rfl rfl rfl (by kernel_rfl) rfl (fun w H => x_fieldAddr (H.r 9 rfl) fa42_0) ?_; clear H; intro T H
                  refine GA.v (i := 5) (L' := #[true, true, true, true, true, true, false, false, false, false, false, false]) H rfl (wN rfl) rfl rfl rfl (by kernel_rfl) rfl (fun w H => x_load (H.r 85 rfl) Try.isAgg3 (by first | exact H.cell (by repeat (first | exact List.mem_cons_self | apply List.mem_cons_of_mem)) _ rfl | exact H.cellR (by repeat (first | exact List.mem_cons_self | apply List.mem_cons_of_mem)) _ rfl)) ?_; clear H; intro T H
                  refine GA.v (i := 6) (L' := #[true, true, true, true, true, true, true, false, false, false, false, false]) H rfl (wN rfl) rfl rfl rfl (by kernel_rfl) rfl (fun w H => x_lookup (v := .tuple #[r.elim Value.nilFunc (·.2), .bool r.isSome]) (H.r 84 rfl) (H.r 86 rfl) Try.runUnderlying77 Try.runUnderlying3 Try.zeroValue95 (H.heap (by repeat (first | exact List.mem_cons_self | apply List.mem_cons_of_mem))) hr1 (by cases r <;> rfl)) ?_; clear H; intro T H
                  refine GA.v (i := 7) (L' := #[true, true, true, true, true, true, true, true, false, false, false, false]) H rfl (wN rfl) rfl rfl rfl (by kernel_rfl) rfl (fun w H => x_move (H.r 87 rfl)) ?_; clear H; intro T H
                  refine GA.v (i := 8) (L' := #[true, true, true, true, true, true, true, true, true, false, false, false]) H rfl (wN rfl) rfl rfl rfl (by kernel_rfl) rfl (fun w H => x_extract (H.r 80 rfl) rfl) ?_; clear H; intro T H
                  refine GA.v (i := 9) (L' := #[true, true, true, true, true, true, true, true, true, true, false, false]) H rfl (wN rfl) rfl rfl rfl (by kernel_rfl) rfl (fun w H => x_extract (H.r 80 rfl) rfl) ?_; clear H; intro T H
                  refine GA.v (i := 10) (L' := #[true, true, true, true, true, true, true, true, true, true, true, false]) H rfl (wN rfl) rfl rfl rfl (by kernel_rfl) rfl (fun w H => x_assign (H.r 88 rfl)) ?_; clear H; intro T H
                  refine GA.v (i := 11) (L' := #[true, true, true, true, true, true, true, true, true, true, true, true]) H rfl (wN rfl) rfl rfl rfl (by kernel_rfl) rfl (fun w H => x_assign (H.r 89 rfl)) ?_; clear H; intro T H
                  refine GA.done (by kernel_rfl) ?_
                  refine At.region' (l := [0, 1, 2, 3, 4, 5, 6]) rfl ?_
                  rw [hr2] at H
                  rcases Classical.em (0 ≤ z.for_ ∧ z.for_ ≤ 4) with hz1 | hz1
                  · (first | rw [decide_eq_true hz1] at H | rw [decide_eq_false hz1] at H); refine At.v H rfl (wN rfl) rfl rfl rfl (x_move (H.r 11 rfl)) ?_; clear H; intro T H
                    refine At.v H rfl (wN rfl) rfl rfl rfl (x_move (H.r 90 rfl)) ?_; clear H; intro T H
                    refine At.v H rfl (wS H rfl rfl rfl) rfl rfl rfl (x_fieldAddr (H.r 9 rfl) fa42_1) ?_; clear H; intro T H
                    refine At.v H rfl (wS H rfl rfl rfl) rfl rfl rfl (x_load (H.r 92 rfl) Try.isAgg3 (by first | exact H.cell (by repeat (first | exact List.mem_cons_self | apply List.mem_cons_of_mem)) _ rfl | exact H.cellR (by repeat (first | exact List.mem_cons_self | apply List.mem_cons_of_mem)) _ rfl)) ?_; clear H; intro T H
                    refine At.f0 H rfl (wS H rfl rfl rfl) rfl rfl rfl (args3 (H.r 93 rfl) evC evC) Try.call52 (within _ _ _ _) ?_; clear H; rintro v94 T w rfl _ H
                    by_cases hz2 : 0 ≤ z.worth ∧ z.worth ≤ 1000
                    · first | rw [decide_eq_true hz2] at H | rw [decide_eq_false hz2] at H
                      have hzo2 : ∀ z ∈ list.take (k + 1), 0 ≤ z.for_ ∧ z.for_ ≤ 4 ∧ 0 ≤ z.worth ∧ z.worth ≤ 1000 := by
                        intro y hy
                        rw [List.take_add_one, hz] at hy
                        rcases List.mem_append.1 hy with hy | hy
                        · exact hzo y hy
                        · obtain rfl : y = z := by simpa using hy
                          exact ⟨hz1.1, hz1.2, hz2.1, hz2.2⟩
                      refine At.v H rfl (wN rfl) rfl rfl rfl (x_pickT (H.r 91 rfl) (H.r 94 rfl)) ?_; clear H; intro T H
                      refine At.f0 H rfl (wN rfl) rfl rfl rfl (args2 (H.r 95 rfl) evC) Try.call34 (must_ok 1 _) ?_; clear H; rintro v96 T w rfl _ H
                      refine At.regionEnd ?_
                      refine At.inBlock ?_
                      refine At.region' (l := [0, 1]) rfl ?_
                      refine At.v H rfl (wN rfl) rfl rfl rfl (x_add (H.r 76 rfl) evC (w64 (by omega) (by omega))) ?_; clear H; intro T H
                      refine At.v H rfl (wN rfl) rfl rfl rfl (x_move (H.r 97 rfl)) ?_; clear H; intro T H
                      refine At.regionEnd ?_
                      exact hnext (list.length - (k + 1)) _ _ (by omega) ⟨k + 1, rfl, by omega, hzo2, (H.pk (by repeat (first | exact Pk.nil | exact Pk.all | refine Pk.cons (by repeat (first | exact Take.here | apply Take.there)) ?_ | apply Pk.skip))).sub ⟨rfl, rfl, rfl, rfl, trivial⟩⟩
                    · first | rw [decide_eq_true hz2] at H | rw [decide_eq_false hz2] at H
                      have hbad : ¬ Valid men list := fun hv => hz2 ⟨(hv.prize z (List.mem_of_getElem? hz)).2.2.1, (hv.prize z (List.mem_of_getElem? hz)).2.2.2⟩
                      refine At.v H rfl (wN rfl) rfl rfl rfl (x_pickT (H.r 91 rfl) (H.r 94 rfl)) ?_; clear H; intro T H
                      refine At.fP H rfl (wN rfl) rfl (args2 (H.r 95 rfl) evC) Try.call34 (must_no 1 _) ?_
                      clear H; intro w _ H
                      exact pan Try.func31 (.inr ⟨hbad, rfl, H.fr⟩)
                  · (first | rw [decide_eq_true hz1] at H | rw [decide_eq_false hz1] at H); refine At.v H rfl (wN rfl) rfl rfl rfl (x_move (H.r 11 rfl)) ?_; clear H; intro T H
                    have hbad : ¬ Valid men list := fun hv => hz1 ⟨(hv.prize z (List.mem_of_getElem? hz)).1, (hv.prize z (List.mem_of_getElem? hz)).2.1⟩
                    refine At.v H rfl (wN rfl) rfl rfl rfl (x_move (H.r 90 rfl)) ?_; clear H; intro T H
                    refine At.u H rfl (wU H rfl rfl rfl rfl) rfl rfl ?_; clear H; intro T H
                    refine At.u H rfl (wU H rfl rfl rfl rfl) rfl rfl ?_; clear H; intro T H
                    refine At.u H rfl (wU H rfl rfl rfl rfl) rfl rfl ?_; clear H; intro T H
                    refine At.v H rfl (wN rfl) rfl rfl rfl (x_pickF (H.r 91 rfl) evC) ?_; clear H; intro T H
                    refine At.fP H rfl (wN rfl) rfl (args2 (H.r 95 rfl) evC) Try.call34 (must_no 1 _) ?_
                    clear H; intro w _ H
                    exact pan Try.func31 (.inr ⟨hbad, rfl, H.fr⟩)
                · clear H; intro h77 T H
                  obtain rfl : k = list.length := by omega
                  rw [List.take_length] at hzo
                  refine At.regionEnd ?_
                  refine At.seq ?_
                  refine At.condF (H.r 77 rfl) ?_
                  refine At.exit rfl ?_
                  refine At.seq ?_
                  refine At.region' (l := [0, 1]) rfl ?_
                  refine At.v H rfl (wN rfl) rfl rfl rfl (x_move (H.r 3 rfl)) ?_; clear H; intro T H
                  refine At.v H rfl (wN rfl) rfl rfl rfl (x_assign (H.r 98 rfl)) ?_; clear H; intro T H
                  refine At.regionEnd ?_
                  refine At.ret rfl ?_
                  exact lea Try.func31 (res1 Try.results31 (H.r 2 rfl)) (.inl ⟨⟨by omega, by omega, by omega, hmo.place, hmo.club, hmo.nd, hzo⟩, RetG.of H [.blk b15 (Eo (.cells (pzCells AM men.length cM AL list.length cL mw (atL men)).toArray 80 (0, 0))), .blk mw (Eo whoObj)] (List.Sublist.refl _) (by simp [Ent.w, Ent.keys]) ⟨b15, mw, rfl, rfl⟩⟩)
    · clear H; intro h25 T H
      have hbad : ¬ Valid men list := fun hv => h25 (by have := hv.l6; omega)
      refine At.v H rfl (wN rfl) rfl rfl rfl (x_pickT (H.r 21 rfl) (H.r 25 rfl)) ?_; clear H; intro T H
      refine At.fP H rfl (wN rfl) rfl (args2 (H.r 26 rfl) evC) Try.call34 (must_no 1 _) ?_
      clear H; intro w _ H
      exact pan Try.func31 (.inr ⟨hbad, rfl, H.fr⟩)
  · first | rw [decide_eq_true hn] at H | rw [decide_eq_false hn] at H
    have hbad : ¬ Valid men list := fun hv => hn ⟨by have := hv.n1; omega, by have := hv.n8; omega⟩
    refine At.v H rfl (wN rfl) rfl rfl rfl (x_move (H.r 20 rfl)) ?_; clear H; intro T H
    refine At.u H rfl (wU H rfl rfl rfl rfl) rfl rfl ?_; clear H; intro T H
    refine At.u H rfl (wU H rfl rfl rfl rfl) rfl rfl ?_; clear H; intro T H
    refine At.u H rfl (wU H rfl rfl rfl rfl) rfl rfl ?_; clear H; intro T H
    refine At.u H rfl (wU H rfl rfl rfl rfl) rfl rfl ?_; clear H; intro T H
    refine At.v H rfl (wN rfl) rfl rfl rfl (x_pickF (H.r 21 rfl) evC) ?_; clear H; intro T H
    refine At.fP H rfl (wN rfl) rfl (args2 (H.r 26 rfl) evC) Try.call34 (must_no 1 _) ?_
    clear H; intro w _ H
    exact pan Try.func31 (.inr ⟨hbad, rfl, H.fr⟩)
end Go.Proofs.Pz
end
section
namespace Go.Proofs.Pz
open Go.Sx Go.RowKit
set_option linter.unusedVariables false
namespace AA
theorem fa90_0 (a : Addr) (w : World) : (Instr.fieldAt 90 (.pointer (some a)) 0).run Try.prog w = .ok (.pointer (some (a.add 0))) w := by simp [go_sem]
theorem fa90_1 (a : Addr) (w : World) : (Instr.fieldAt 90 (.pointer (some a)) 1).run Try.prog w = .ok (.pointer (some (a.add 1))) w := by simp [go_sem]
end AA
open AA
section
variable {Φ : Machine → Prop} {b : Frame} {cs : List Frame} {D : List Deferred} {T : Array Value} {w w0 : World} {S : List Nat} {N : Nat} {R : List (Nat × Value)} {G : List Ent}
def dT (e : Nat) : Deferred := { target := .fn (.func 30) #[], args := #[.pointer (some ⟨e, 0, none⟩)] }
theorem leaT {e : Nat} (H : Sx w0 S N R G T w) (K : ∀ w', Sx w0 S N R G T w' → Lea Try.prog Φ b cs D T w') : Lea Try.prog Φ b cs (dT e :: D) T w := by
  refine Lea.defer (cap := #[]) (args := #[.pointer (some ⟨e, 0, none⟩)]) (R := fun u w' => u = .returning ∧ Fr [] w w') ⟨_, Try.func30, rfl, rfl⟩ ?_ ?_
  · simpa using told_ret e (.int .i64 0) w
  · rintro u w' ⟨rfl, hf⟩
    exact ⟨rfl, K w' (H.world hf)⟩
theorem panT {e : Nat} {v : Value} {c : Int} {G' : List Ent} (H : Sx w0 S N R G T w) (hu : Upd (.blk e (Eo (.cells [.int .i64 c].toArray 32 (0, 0)))) (.blk e (Eo (.cells [v].toArray 32 (0, 0)))) G G') (K : ∀ w', Sx w0 S N R G' T w' → Lea Try.prog Φ b cs D T w') : Pan Try.prog Φ b cs (dT e :: D) T w [{ v := fail c, recovered := false }] := by
  have hb := H.heap hu.mem
  refine Pan.defer (cap := #[]) (args := #[.pointer (some ⟨e, 0, none⟩)]) (R := fun u w' => u = .returning ∧ Fr [e] w w' ∧ w'.heap[e]? = some (.cells #[.int .i64 c] 32 (0, 0))) ⟨_, Try.func30, rfl, rfl⟩ ?_ ?_
  · simpa using told_pan e c v w hb
  · rintro u w' ⟨rfl, hf, hh⟩
    exact .inl ⟨rfl, K w' (H.upd hu hf ⟨_, hh, rfl⟩ (by simp [Ent.keys, Ent.w]) (by simp [Ent.keys]))⟩
theorem Op.ofH {AM AL : Option Addr} {cM bM oM cL bL oL : Nat} {men : List Wi} {list : List Zi} {bp mw : Nat} (H : Sx w0 [] N R G T w) (h1 : Ent.blk bp (Eo (.cells (pzCells AM men.length cM AL list.length cL mw (atL men)).toArray 80 (0, 0))) ∈ G) (h2 : Ent.blk mw (Eo whoObj) ∈ G)
    (hM : SlP encW 4 w0 AM cM bM oM men) (hL : SlP encZ 2 w0 AL cL bL oL list) : Op w bp men list :=
  ⟨AM, cM, bM, oM, AL, cL, bL, oL, mw, H.heap h1, H.heap h2, hM.fr0 H.fr, hL.fr0 H.fr⟩
end
theorem openV {AM AL : Option Addr} {cM bM oM cL bL oL : Nat} {men : List Wi} {list : List Zi} {w0 : World} (hM : SlP encW 4 w0 AM cM bM oM men) (hL : SlP encZ 2 w0 AL cL bL oL list) (hv : Valid men list) : Calls Try.prog 31 #[(.agg #[(.slice AM men.length cM), (.slice AL list.length cL)])] w0 (RetG w0 fun v E _ => ∃ b mw, v = .pointer (some ⟨b, 0, none⟩) ∧ E = [.blk b (Eo (.cells (pzCells AM men.length cM AL list.length cL mw (atL men)).toArray 80 (0, 0))), .blk mw (Eo whoObj)]) :=
  (open_any hM hL (by have := hv.n8; omega) (by have := hv.l6; omega)).mono (by
    rintro e w' (⟨_, h⟩ | ⟨h, _⟩)
    · exact h
    · exact absurd hv h)
theorem openNo {AM AL : Option Addr} {cM bM oM cL bL oL : Nat} {men : List Wi} {list : List Zi} {w0 : World} (hM : SlP encW 4 w0 AM cM bM oM men) (hL : SlP encZ 2 w0 AL cL bL oL list) (hv : ¬ Valid men list) (h1 : men.length ≤ 40) (h2 : list.length ≤ 40) : Calls Try.prog 31 #[(.agg #[(.slice AM men.length cM), (.slice AL list.length cL)])] w0 (Pans w0 (fail 1)) :=
  (open_any hM hL h1 h2).mono (by
    rintro e w' (⟨h, _⟩ | ⟨_, h⟩)
    · exact absurd h hv
    · exact h)

theorem Due {AM AL : Option Addr} {cM bM oM cL bL oL : Nat} {men : List Wi} {list : List Zi} {w0 : World} (hM : SlP encW 4 w0 AM cM bM oM men) (hL : SlP encZ 2 w0 AL cL bL oL list) (hv : Valid men list) : Calls Try.prog 13 #[(.agg #[(.slice AM men.length cM), (.slice AL list.length cL)])] w0 (RetG w0 fun v E _ => ∃ A cap, v = .tuple #[.slice A list.length cap, .int .i64 0] ∧ E = [.row (.slice A list.length cap) 3 1 list.length ((dueL men list).flatMap encO)]) := by
  refine enter (args := [(.agg #[(.slice AM men.length cM), (.slice AL list.length cL)])]) (S := []) Try.func13 rfl Try.ntmps13 rfl fun cs T H => ?_
  refine At.seq ?_
  refine At.region' (l := [0, 1, 2]) rfl ?_
  refine At.new H rfl (wN rfl) rfl rfl rfl (x_box (H.r 0 rfl) rfl) ?_; clear H; intro b1 T w _ _ H
  refine At.v H rfl (wN rfl) rfl rfl rfl (x_assign evC) ?_; clear H; intro T H
  refine At.new H rfl (wN rfl) rfl rfl rfl (x_alloc Try.zeroValue32 rfl) ?_; clear H; intro b3 T w _ _ H
  refine At.regionEnd ?_
  refine At.seq ?_
  refine At.region' (l := [0]) rfl ?_
  refine At.defer rfl rfl (wN rfl) rfl (x_defer evF (args1 (H.r 3 rfl))) ?_
  refine At.regionEnd ?_
  refine At.seq ?_
  refine At.region' (l := [0, 1, 2, 3, 4]) rfl ?_
  refine At.v H rfl (wN rfl) rfl rfl rfl (x_loadA (H.r 1 rfl) Try.isAgg25 Try.sizeOf25 (H.cellsAt (n := 2) (by repeat (first | exact List.mem_cons_self | apply List.mem_cons_of_mem)) rfl) rfl) ?_; clear H; intro T H
  refine At.fG H rfl (wN rfl) rfl rfl rfl (args1 (H.r 4 rfl)) Try.call31 (openV (hM.fr0 H.fr) (hL.fr0 H.fr) hv) ?_; clear H; rintro v5 E5 T w ⟨bp, mw, rfl, rfl⟩ _ H
  refine At.fG H rfl (wN rfl) rfl rfl rfl (args1 (H.r 5 rfl)) Try.call32 (due (Op.ofH H (bp := bp) (by repeat (first | exact List.mem_cons_self | apply List.mem_cons_of_mem)) (by repeat (first | exact List.mem_cons_self | apply List.mem_cons_of_mem)) hM hL) hv) ?_; clear H; rintro v6 E6 T w ⟨A5, c5, rfl, rfl⟩ _ H
  refine At.v H rfl (wN rfl) rfl rfl rfl (x_assign (H.r 6 rfl)) ?_; clear H; intro T H
  refine At.store1 H rfl (wN rfl) rfl rfl (H.r 3 rfl) evC Try.sizeOf32 rfl rfl (by repeat (first | exact Upd.here | apply Upd.there)) (by repeat (first | exact SetAt.z | apply SetAt.s)) ?_; clear H; intro T w _ H
  refine At.regionEnd ?_
  refine At.ret rfl ?_
  exact leaT H (fun w H => lea Try.func13 (resL (rs := [.tmp 2, .cell 3 32]) Try.results13 (.tmp (H.r 2 rfl) (.cell (H.r 3 rfl) Try.isAgg32 (H.cell (by repeat (first | exact List.mem_cons_self | apply List.mem_cons_of_mem)) 0 rfl) .nil)) (by simp)) (RetG.of H [.row (.slice A5 list.length c5) 3 1 list.length ((dueL men list).flatMap encO)] (by simp) (by simp [Ent.w, Ent.keys]) ⟨A5, c5, rfl, rfl⟩))
theorem Can {AM AL : Option Addr} {cM bM oM cL bL oL : Nat} {men : List Wi} {list : List Zi} {w0 : World} (hM : SlP encW 4 w0 AM cM bM oM men) (hL : SlP encZ 2 w0 AL cL bL oL list) (hv : Valid men list) {man prize : Nat} {m : Wi} {z : Zi} (hm : men[man]? = some m) (hz : list[prize]? = some z) : Calls Try.prog 16 #[(.agg #[(.slice AM men.length cM), (.slice AL list.length cL)]), .int .i64 (man : Int), .int .i64 (prize : Int)] w0 (Ret w0 fun v _ => v = .tuple #[.bool (canW z.for_ m), .int .i64 0]) := by
  have hml := (List.getElem?_eq_some_iff.1 hm).1
  have hzl := (List.getElem?_eq_some_iff.1 hz).1
  refine enter (args := [(.agg #[(.slice AM men.length cM), (.slice AL list.length cL)]), .int .i64 (man : Int), .int .i64 (prize : Int)]) (S := []) Try.func16 rfl Try.ntmps16 rfl fun cs T H => ?_
  refine At.seq ?_
  refine At.region' (l := [0, 1, 2]) rfl ?_
  refine At.new H rfl (wN rfl) rfl rfl rfl (x_box (H.r 0 rfl) rfl) ?_; clear H; intro b3 T w _ _ H
  refine At.v H rfl (wN rfl) rfl rfl rfl (x_assign evC) ?_; clear H; intro T H
  refine At.new H rfl (wN rfl) rfl rfl rfl (x_alloc Try.zeroValue32 rfl) ?_; clear H; intro b7 T w _ _ H
  refine At.regionEnd ?_
  refine At.seq ?_
  refine At.region' (l := [0]) rfl ?_
  refine At.defer rfl rfl (wN rfl) rfl (x_defer evF (args1 (H.r 7 rfl))) ?_
  refine At.regionEnd ?_
  refine At.seq ?_
  refine At.region' (l := [0, 1, 2]) rfl ?_
  refine At.v H rfl (wN rfl) rfl rfl rfl (x_loadA (H.r 3 rfl) Try.isAgg25 Try.sizeOf25 (H.cellsAt (n := 2) (by repeat (first | exact List.mem_cons_self | apply List.mem_cons_of_mem)) rfl) rfl) ?_; clear H; intro T H
  refine At.fG H rfl (wN rfl) rfl rfl rfl (args1 (H.r 9 rfl)) Try.call31 (openV (hM.fr0 H.fr) (hL.fr0 H.fr) hv) ?_; clear H; rintro v10 E10 T w ⟨bp, mw, rfl, rfl⟩ _ H
  refine At.v H rfl (wN rfl) rfl rfl rfl (x_assign (H.r 10 rfl)) ?_; clear H; intro T H
  refine At.regionEnd ?_
  refine At.seq ?_
  refine At.region' (l := [0, 1, 2, 3, 4, 5, 6, 7, 8]) rfl ?_
  refine At.v H rfl (wN rfl) rfl rfl rfl (x_move (H.r 8 rfl)) ?_; clear H; intro T H
  refine At.v H rfl (wN rfl) rfl rfl rfl (x_move (H.r 1 rfl)) ?_; clear H; intro T H
  refine At.f0 H rfl (wN rfl) rfl rfl rfl (args2 (H.r 11 rfl) (H.r 12 rfl)) Try.call38 (isMan (Op.ofH H (bp := bp) (by repeat (first | exact List.mem_cons_self | apply List.mem_cons_of_mem)) (by repeat (first | exact List.mem_cons_self | apply List.mem_cons_of_mem)) hM hL) _ hv.n8) ?_; clear H; rintro v13 T w rfl _ H
  rw [decide_eq_true (show 0 ≤ (man : Int) ∧ (man : Int) ≤ (men.length : Int) - 1 from by omega)] at H
  refine At.v H rfl (wN rfl) rfl rfl rfl (x_move (H.r 13 rfl)) ?_; clear H; intro T H
  refine At.v H rfl (wS H rfl rfl rfl) rfl rfl rfl (x_move (H.r 8 rfl)) ?_; clear H; intro T H
  refine At.v H rfl (wS H rfl rfl rfl) rfl rfl rfl (x_move (H.r 2 rfl)) ?_; clear H; intro T H
  refine At.f0 H rfl (wS H rfl rfl rfl) rfl rfl rfl (args2 (H.r 15 rfl) (H.r 16 rfl)) Try.call39 (isPrize (Op.ofH H (bp := bp) (by repeat (first | exact List.mem_cons_self | apply List.mem_cons_of_mem)) (by repeat (first | exact List.mem_cons_self | apply List.mem_cons_of_mem)) hM hL) _ (by have := hv.l6; omega)) ?_; clear H; rintro v17 T w rfl _ H
  rw [decide_eq_true (show 0 ≤ (prize : Int) ∧ (prize : Int) ≤ (list.length : Int) - 1 from by omega)] at H
  refine At.v H rfl (wN rfl) rfl rfl rfl (x_pickT (H.r 14 rfl) (H.r 17 rfl)) ?_; clear H; intro T H
  refine At.f0 H rfl (wN rfl) rfl rfl rfl (args2 (H.r 18 rfl) evC) Try.call34 (must_ok 2 _) ?_; clear H; rintro v19 T w rfl _ H
  refine At.regionEnd ?_
  refine At.seq ?_
  refine At.region' (l := [0, 1, 2, 3, 4, 5]) rfl ?_
  refine At.v H rfl (wN rfl) rfl rfl rfl (x_move (H.r 8 rfl)) ?_; clear H; intro T H
  refine At.v H rfl (wN rfl) rfl rfl rfl (x_move (H.r 1 rfl)) ?_; clear H; intro T H
  refine At.v H rfl (wN rfl) rfl rfl rfl (x_move (H.r 2 rfl)) ?_; clear H; intro T H
  refine At.f0 H rfl (wN rfl) rfl rfl rfl (args3 (H.r 20 rfl) (H.r 21 rfl) (H.r 22 rfl)) Try.call35 (can (Op.ofH H (bp := bp) (by repeat (first | exact List.mem_cons_self | apply List.mem_cons_of_mem)) (by repeat (first | exact List.mem_cons_self | apply List.mem_cons_of_mem)) hM hL) hv hm hz) ?_; clear H; rintro v23 T w rfl _ H
  refine At.v H rfl (wN rfl) rfl rfl rfl (x_assign (H.r 23 rfl)) ?_; clear H; intro T H
  refine At.store1 H rfl (wN rfl) rfl rfl (H.r 7 rfl) evC Try.sizeOf32 rfl rfl (by repeat (first | exact Upd.here | apply Upd.there)) (by repeat (first | exact SetAt.z | apply SetAt.s)) ?_; clear H; intro T w _ H
  refine At.regionEnd ?_
  refine At.ret rfl ?_
  exact leaT H (fun w H => lea Try.func16 (resL (rs := [.tmp 6, .cell 7 32]) Try.results16 (.tmp (H.r 6 rfl) (.cell (H.r 7 rfl) Try.isAgg32 (H.cell (by repeat (first | exact List.mem_cons_self | apply List.mem_cons_of_mem)) 0 rfl) .nil)) (by simp)) (Ret.mk H.fr rfl))
theorem x_neqClub {ρ : Operand → Value} {d : Option Tmp} {ty u : TypeId} {pos : String} {af : Array Edge} {g : Option (Nat × Bool)} {w : World} {x y : Operand} {a b : Int} (hx : ρ x = .agg #[.int .i64 a, .int .i64 b]) (hy : ρ y = .agg #[.int .i64 0, .int .i64 0]) :
    (execOp ρ ⟨d, .binOp .neq 90 x y u, ty, pos, af, g⟩).run Try.prog w = .ok (.value (.bool (decide (¬ (a = 0 ∧ b = 0))))) w := by
  by_cases h1 : a = 0
  · by_cases h2 : b = 0
    · subst h1 h2; simp [execOp, hx, hy, go_sem]
    · have : (b == 0) = false := by simpa using h2
      subst h1; simp [execOp, hx, hy, go_sem, this, h2]
  · have : (a == 0) = false := by simpa using h1
    simp [execOp, hx, hy, go_sem, this, h1]
def clubE (men : List Wi) : Int := if (bestP men).1 = 0 ∧ (bestP men).2 = 0 then 4 else 0
theorem Club {AM AL : Option Addr} {cM bM oM cL bL oL : Nat} {men : List Wi} {list : List Zi} {w0 : World} (hM : SlP encW 4 w0 AM cM bM oM men) (hL : SlP encZ 2 w0 AL cL bL oL list) (hv : Valid men list) : Calls Try.prog 27 #[(.agg #[(.slice AM men.length cM), (.slice AL list.length cL)])] w0 (Ret w0 fun v _ => v = .tuple #[.int .i64 (bestP men).1, .int .i64 (bestP men).2, .int .i64 (clubE men)]) := by
  refine enter (args := [(.agg #[(.slice AM men.length cM), (.slice AL list.length cL)])]) (S := []) Try.func27 rfl Try.ntmps27 rfl fun cs T H => ?_
  refine At.seq ?_
  refine At.region' (l := [0, 1, 2, 3]) rfl ?_
  refine At.new H rfl (wN rfl) rfl rfl rfl (x_box (H.r 0 rfl) rfl) ?_; clear H; intro b1 T w _ _ H
  refine At.v H rfl (wN rfl) rfl rfl rfl (x_assign evC) ?_; clear H; intro T H
  refine At.v H rfl (wN rfl) rfl rfl rfl (x_assign evC) ?_; clear H; intro T H
  refine At.new H rfl (wN rfl) rfl rfl rfl (x_alloc Try.zeroValue32 rfl) ?_; clear H; intro b4 T w _ _ H
  refine At.regionEnd ?_
  refine At.seq ?_
  refine At.region' (l := [0]) rfl ?_
  refine At.defer rfl rfl (wN rfl) rfl (x_defer evF (args1 (H.r 4 rfl))) ?_
  refine At.regionEnd ?_
  refine At.seq ?_
  refine At.region' (l := [0, 1, 2, 3, 4]) rfl ?_
  refine At.v H rfl (wN rfl) rfl rfl rfl (x_loadA (H.r 1 rfl) Try.isAgg25 Try.sizeOf25 (H.cellsAt (n := 2) (by repeat (first | exact List.mem_cons_self | apply List.mem_cons_of_mem)) rfl) rfl) ?_; clear H; intro T H
  refine At.fG H rfl (wN rfl) rfl rfl rfl (args1 (H.r 6 rfl)) Try.call31 (openV (hM.fr0 H.fr) (hL.fr0 H.fr) hv) ?_; clear H; rintro v7 E7 T w ⟨bp, mw, rfl, rfl⟩ _ H
  refine At.f0 H rfl (wN rfl) rfl rfl rfl (args1 (H.r 7 rfl)) Try.call50 (best (Op.ofH H (bp := bp) (by repeat (first | exact List.mem_cons_self | apply List.mem_cons_of_mem)) (by repeat (first | exact List.mem_cons_self | apply List.mem_cons_of_mem)) hM hL) hv) ?_; clear H; rintro v8 T w rfl _ H
  refine At.new H rfl (wN rfl) rfl rfl rfl (x_alloc Try.zeroValue90 rfl) ?_; clear H; intro b5 T w _ _ H
  refine At.storeA H rfl (wN rfl) rfl rfl (H.r 5 rfl) (H.r 8 rfl) Try.sizeOf90 (List.all_eq_true.1 rfl) (by repeat (first | exact Upd.here | apply Upd.there)) (by rfl) ?_; clear H; intro T w _ H
  refine At.regionEnd ?_
  refine At.seq ?_
  refine At.region' (l := [0, 1, 2, 3]) rfl ?_
  refine At.v H rfl (wN rfl) rfl rfl rfl (x_loadA (H.r 5 rfl) Try.isAgg90 Try.sizeOf90 (H.cellsAt (n := 2) (by repeat (first | exact List.mem_cons_self | apply List.mem_cons_of_mem)) rfl) rfl) ?_; clear H; intro T H
  refine At.v (v := ?v10_1) H rfl (wN rfl) rfl rfl rfl (x_build0  ?r10_1) ?_
  case r10_1 => (simp [go_sem]; rfl)
  clear H; intro T H
  refine At.c H rfl (wN rfl) rfl rfl rfl (x_neqClub (H.r 9 rfl) (H.r 10 rfl)) ?_ ?_
  · clear H; intro h11 T H
    have hE : clubE men = 0 := by rw [clubE, if_neg h11]
    refine At.f0 H rfl (wN rfl) rfl rfl rfl (args2 (H.r 11 rfl) evC) Try.call34 (must_ok 4 _) ?_; clear H; rintro v12 T w rfl _ H
    refine At.regionEnd ?_
    refine At.seq ?_
    refine At.drawnC (m := 7) (L := #[false, false, false, false, false, false, false]) H mixed rfl rfl ?_; clear H; intro w H
    refine GA.v (i := 0) (L' := #[true, false, false, false, false, false, false]) H rfl (wN rfl) rfl rfl rfl (by kernel_rfl) rfl (fun w H => x_fieldAddr (H.r 5 rfl) fa90_0) ?_; clear H; intro T H
    refine GA.v (i := 1) (L' := #[true, true, false, false, false, false, false]) H rfl (wN rfl) rfl rfl rfl (by kernel_rfl) rfl (fun w H => x_load (H.r 13 rfl) Try.isAgg3 (by first | exact H.cell (by repeat (first | exact List.mem_cons_self | apply List.mem_cons_of_mem)) _ rfl | exact H.cellR (by repeat (first | exact List.mem_cons_self | apply List.mem_cons_of_mem)) _ rfl)) ?_; clear H; intro T H
    refine GA.v (i := 2) (L' := #[true, true, true, false, false, false, false]) H rfl (wN rfl) rfl rfl rfl (by kernel_rfl) rfl (fun w H => x_fieldAddr (H.r 5 rfl) fa90_1) ?_; clear H; intro T H
    refine GA.v (i := 3) (L' := #[true, true, true, true, false, false, false]) H rfl (wN rfl) rfl rfl rfl (by kernel_rfl) rfl (fun w H => x_load (H.r 15 rfl) Try.isAgg3 (by first | exact H.cell (by repeat (first | exact List.mem_cons_self | apply List.mem_cons_of_mem)) _ rfl | exact H.cellR (by repeat (first | exact List.mem_cons_self | apply List.mem_cons_of_mem)) _ rfl)) ?_; clear H; intro T H
    refine GA.v (i := 4) (L' := #[true, true, true, true, true, false, false]) H rfl (wN rfl) rfl rfl rfl (by kernel_rfl) rfl (fun w H => x_assign (H.r 14 rfl)) ?_; clear H; intro T H
    refine GA.v (i := 5) (L' := #[true, true, true, true, true, true, false]) H rfl (wN rfl) rfl rfl rfl (by kernel_rfl) rfl (fun w H => x_assign (H.r 16 rfl)) ?_; clear H; intro T H
    refine GA.store1 (i := 6) (L' := #[true, true, true, true, true, true, true]) H rfl (wN rfl) rfl rfl (by kernel_rfl) rfl (H.r 4 rfl) evC Try.sizeOf32 rfl rfl (by repeat (first | exact Upd.here | apply Upd.there)) (by simp) rfl ?_; clear H; intro T w H
    refine GA.done (by kernel_rfl) ?_
    refine At.ret rfl ?_
    exact leaT H (fun w H => lea Try.func27 (resL (rs := [.tmp 2, .tmp 3, .cell 4 32]) Try.results27 (.tmp (H.r 2 rfl) (.tmp (H.r 3 rfl) (.cell (H.r 4 rfl) Try.isAgg32 (H.cell (by repeat (first | exact List.mem_cons_self | apply List.mem_cons_of_mem)) 0 rfl) .nil))) (by simp)) (Ret.mk H.fr (by rw [hE]; rfl)))
  · clear H; intro h11 T H
    have h12 := Classical.not_not.1 h11
    have hE : clubE men = 4 := by rw [clubE, if_pos h12]
    refine At.fP H rfl (wN rfl) rfl (args2 (H.r 11 rfl) evC) Try.call34 (must_no 4 _) ?_
    clear H; intro w _ H
    exact panT H (by repeat (first | exact Upd.here | apply Upd.there)) (fun w H => lea Try.func27 (resL (rs := [.tmp 2, .tmp 3, .cell 4 32]) Try.results27 (.tmp (H.r 2 rfl) (.tmp (H.r 3 rfl) (.cell (H.r 4 rfl) Try.isAgg32 (H.cell (by repeat (first | exact List.mem_cons_self | apply List.mem_cons_of_mem)) 0 rfl) .nil))) (by simp)) (Ret.mk H.fr (by rw [h12.1, h12.2, hE]; rfl)))
theorem Wrong {AM AL : Option Addr} {cM bM oM cL bL oL : Nat} {men : List Wi} {list : List Zi} {w0 : World} (hM : SlP encW 4 w0 AM cM bM oM men) (hL : SlP encZ 2 w0 AL cL bL oL list) (hv : Valid men list) {v : Value} {gv : List (Option Nat)} (hS : Sl encO 1 w0 v gv) (hg : GivOK men list gv) : Calls Try.prog 15 #[(.agg #[(.slice AM men.length cM), (.slice AL list.length cL)]), v] w0
    (Ret w0 fun v _ => v = match firstD (dueL men list) gv with | some i => .tuple #[.int .i64 (i : Int), .int .i64 (orNone ((dueL men list)[i]?.getD none)), .int .i64 0] | none => .tuple #[.int .i64 0, .int .i64 0, .int .i64 4]) := by
  have hdl := dueL_len men list
  have hgl := hg.len
  have hl6 := hv.l6
  refine enter (args := [(.agg #[(.slice AM men.length cM), (.slice AL list.length cL)]), v]) (S := []) Try.func15 rfl Try.ntmps15 rfl fun cs T H => ?_
  refine At.seq ?_
  refine At.region' (l := [0, 1, 2, 3]) rfl ?_
  refine At.new H rfl (wN rfl) rfl rfl rfl (x_box (H.r 0 rfl) rfl) ?_; clear H; intro b2 T w _ _ H
  refine At.v H rfl (wN rfl) rfl rfl rfl (x_assign evC) ?_; clear H; intro T H
  refine At.v H rfl (wN rfl) rfl rfl rfl (x_assign evC) ?_; clear H; intro T H
  refine At.new H rfl (wN rfl) rfl rfl rfl (x_alloc Try.zeroValue32 rfl) ?_; clear H; intro b6 T w _ _ H
  refine At.regionEnd ?_
  refine At.seq ?_
  refine At.region' (l := [0]) rfl ?_
  refine At.defer rfl rfl (wN rfl) rfl (x_defer evF (args1 (H.r 6 rfl))) ?_
  refine At.regionEnd ?_
  refine At.seq ?_
  refine At.region' (l := [0, 1, 2]) rfl ?_
  refine At.v H rfl (wN rfl) rfl rfl rfl (x_loadA (H.r 2 rfl) Try.isAgg25 Try.sizeOf25 (H.cellsAt (n := 2) (by repeat (first | exact List.mem_cons_self | apply List.mem_cons_of_mem)) rfl) rfl) ?_; clear H; intro T H
  refine At.fG H rfl (wN rfl) rfl rfl rfl (args1 (H.r 11 rfl)) Try.call31 (openV (hM.fr0 H.fr) (hL.fr0 H.fr) hv) ?_; clear H; rintro v12 E12 T w ⟨bp, mw, rfl, rfl⟩ _ H
  refine At.v H rfl (wN rfl) rfl rfl rfl (x_assign (H.r 12 rfl)) ?_; clear H; intro T H
  refine At.regionEnd ?_
  refine At.seq ?_
  refine At.region' (l := [0, 1, 2, 3]) rfl ?_
  refine At.v H rfl (wN rfl) rfl rfl rfl (x_move (H.r 7 rfl)) ?_; clear H; intro T H
  refine At.v H rfl (wN rfl) rfl rfl rfl (x_move (H.r 1 rfl)) ?_; clear H; intro T H
  refine At.fG H rfl (wN rfl) rfl rfl rfl (args2 (H.r 13 rfl) (H.r 14 rfl)) Try.call33 (giving (Op.ofH H (bp := bp) (by repeat (first | exact List.mem_cons_self | apply List.mem_cons_of_mem)) (by repeat (first | exact List.mem_cons_self | apply List.mem_cons_of_mem)) hM hL) hv (hS.fr0 H.fr) hg) ?_; clear H; rintro v15 E15 T w ⟨g15, rfl, rfl⟩ _ H
  refine At.v H rfl (wN rfl) rfl rfl rfl (x_assign (H.r 15 rfl)) ?_; clear H; intro T H
  refine At.regionEnd ?_
  refine At.seq ?_
  refine At.seq ?_
  refine At.region' (l := [0, 1, 2, 3]) rfl ?_
  refine At.v H rfl (wN rfl) rfl rfl rfl (x_move (H.r 7 rfl)) ?_; clear H; intro T H
  refine At.fG H rfl (wN rfl) rfl rfl rfl (args1 (H.r 16 rfl)) Try.call32 (due (Op.ofH H (bp := bp) (by repeat (first | exact List.mem_cons_self | apply List.mem_cons_of_mem)) (by repeat (first | exact List.mem_cons_self | apply List.mem_cons_of_mem)) hM hL) hv) ?_; clear H; rintro v17 E17 T w ⟨A17, c17, rfl, rfl⟩ _ H
  refine At.v H rfl (wN rfl) rfl rfl rfl (x_len (H.r 17 rfl) Try.runUnderlying30) ?_; clear H; intro T H
  refine At.v H rfl (wN rfl) rfl rfl rfl (x_move evC) ?_; clear H; intro T H
  refine At.regionEnd ?_
  refine At.block ?_
  refine At.loopN (fun m T w => ∃ k : Nat, m = list.length - k ∧ k ≤ list.length ∧ ((List.range (dueL men list).length).take k).find? (fun i => decide (gv[i]? ≠ (dueL men list)[i]?)) = none ∧ Sx w0 [] 33 [(19, .int .i64 (k : Int)), (18, .int .i64 (list.length : Int)), (17, .slice A17 list.length c17), (8, .slice (some ⟨g15, 0, none⟩) gv.length gv.length), (6, .pointer (some ⟨b6, 0, none⟩))] [.row (.slice A17 list.length c17) 3 1 list.length ((dueL men list).flatMap encO), .row (.slice (some ⟨g15, 0, none⟩) gv.length gv.length) 3 1 gv.length (gv.flatMap encO), .blk b6 (Eo (.cells [.int .i64 0].toArray 32 (0, 0)))] T w) (list.length) ?_ ?_
  · exact ⟨0, rfl, by omega, by simp, (H.pk (by repeat (first | exact Pk.nil | exact Pk.all | refine Pk.cons (by repeat (first | exact Take.here | apply Take.there)) ?_ | apply Pk.skip))).sub ⟨rfl, rfl, rfl, rfl, rfl, trivial⟩⟩
  · clear H
    rintro n T w ⟨k, rfl, hk, hN, H⟩ hnext
    refine At.seq ?_
    refine At.region' (l := [0]) rfl ?_
    refine At.c H rfl (wN rfl) rfl rfl rfl (x_lss (H.r 19 rfl) (H.r 18 rfl)) ?_ ?_
    · clear H; intro h20 T H
      have hk1 : k < list.length := by omega
      have ho := List.getElem?_eq_getElem (l := gv) (show k < gv.length by omega)
      generalize gv[k] = o at ho
      have hd := List.getElem?_eq_getElem (l := dueL men list) (show k < (dueL men list).length by omega)
      generalize (dueL men list)[k] = d at hd
      obtain ⟨gd, rfl⟩ := H.rowAddr (A := A17) (by repeat (first | exact List.mem_cons_self | apply List.mem_cons_of_mem)) (by omega)
      refine At.regionEnd ?_
      refine At.seq ?_
      refine At.condT (H.r 20 rfl) ?_
      refine At.skip ?_
      refine At.seq ?_
      refine At.block ?_
      refine At.seq ?_
      refine At.region' (l := [0, 1, 2, 3, 4]) rfl ?_
      refine At.v H rfl (wN rfl) rfl rfl rfl (x_move (H.r 19 rfl)) ?_; clear H; intro T H
      refine At.v H rfl (wN rfl) rfl rfl rfl (x_ixSN (H.r 17 rfl) (H.r 19 rfl) Try.runUnderlying30 Try.sizeOf3 (by omega)) ?_; clear H; intro T H
      refine At.v H rfl (wN rfl) rfl rfl rfl (x_load (H.r 22 rfl) Try.isAgg3 (by rw [show 0 + k * 1 = k by omega]; exact H.rowCell (g := gd) (by repeat (first | exact List.mem_cons_self | apply List.mem_cons_of_mem)) k (flatO_at hd))) ?_; clear H; intro T H
      refine At.v H rfl (wN rfl) rfl rfl rfl (x_assign (H.r 21 rfl)) ?_; clear H; intro T H
      refine At.v H rfl (wN rfl) rfl rfl rfl (x_assign (H.r 23 rfl)) ?_; clear H; intro T H
      refine At.regionEnd ?_
      refine At.seq ?_
      refine At.region' (l := [0, 1, 2, 3, 4, 5]) rfl ?_
      refine At.v H rfl (wN rfl) rfl rfl rfl (x_move (H.r 8 rfl)) ?_; clear H; intro T H
      refine At.v H rfl (wN rfl) rfl rfl rfl (x_move (H.r 9 rfl)) ?_; clear H; intro T H
      refine At.v H rfl (wN rfl) rfl rfl rfl (x_ixSN (H.r 24 rfl) (H.r 25 rfl) Try.runUnderlying30 Try.sizeOf3 (by omega)) ?_; clear H; intro T H
      refine At.v H rfl (wN rfl) rfl rfl rfl (x_load (H.r 26 rfl) Try.isAgg3 (by rw [show 0 + k * 1 = k by omega]; exact H.rowCell (g := g15) (by repeat (first | exact List.mem_cons_self | apply List.mem_cons_of_mem)) k (flatO_at ho))) ?_; clear H; intro T H
      refine At.v H rfl (wN rfl) rfl rfl rfl (x_move (H.r 10 rfl)) ?_; clear H; intro T H
      refine At.c H rfl (wN rfl) rfl rfl rfl (x_neq (H.r 27 rfl) (H.r 28 rfl)) ?_ ?_
      · clear H; intro h29 T H
        have hF : firstD (dueL men list) gv = some k := find_some_of hN (range_at (by omega)) (by rw [ho, hd]; simpa using fun e => h29 (orNone_inj.2 e))
        have hG : (dueL men list)[k]?.getD none = d := by rw [hd]; rfl
        refine At.regionEnd ?_
        refine At.condT (H.r 29 rfl) ?_
        refine At.seq ?_
        refine At.region' (l := [0, 1, 2, 3, 4]) rfl ?_
        refine At.v H rfl (wN rfl) rfl rfl rfl (x_move (H.r 9 rfl)) ?_; clear H; intro T H
        refine At.v H rfl (wN rfl) rfl rfl rfl (x_move (H.r 10 rfl)) ?_; clear H; intro T H
        refine At.v H rfl (wN rfl) rfl rfl rfl (x_assign (H.r 30 rfl)) ?_; clear H; intro T H
        refine At.v H rfl (wN rfl) rfl rfl rfl (x_assign (H.r 31 rfl)) ?_; clear H; intro T H
        refine At.store1 H rfl (wN rfl) rfl rfl (H.r 6 rfl) evC Try.sizeOf32 rfl rfl (by repeat (first | exact Upd.here | apply Upd.there)) (by repeat (first | exact SetAt.z | apply SetAt.s)) ?_; clear H; intro T w _ H
        refine At.regionEnd ?_
        refine At.ret rfl ?_
        exact leaT H (fun w H => lea Try.func15 (resL (rs := [.tmp 4, .tmp 5, .cell 6 32]) Try.results15 (.tmp (H.r 4 rfl) (.tmp (H.r 5 rfl) (.cell (H.r 6 rfl) Try.isAgg32 (H.cell (by repeat (first | exact List.mem_cons_self | apply List.mem_cons_of_mem)) 0 rfl) .nil))) (by simp)) (Ret.mk H.fr (by rw [hF]; first | rfl | (rw [← hG]; rfl))))
      · clear H; intro h29 T H
        refine At.regionEnd ?_
        refine At.condF (H.r 29 rfl) ?_
        refine At.skip ?_
        refine At.inBlock ?_
        refine At.region' (l := [0, 1]) rfl ?_
        refine At.v H rfl (wN rfl) rfl rfl rfl (x_add (H.r 19 rfl) evC (w64 (by omega) (by omega))) ?_; clear H; intro T H
        refine At.v H rfl (wN rfl) rfl rfl rfl (x_move (H.r 32 rfl)) ?_; clear H; intro T H
        refine At.regionEnd ?_
        exact hnext (list.length - (k + 1)) _ _ (by omega) ⟨k + 1, rfl, by omega, find_none_succ hN (range_at (by omega)) (by rw [ho, hd]; simpa using orNone_inj.1 (Classical.not_not.1 h29)), H.sub ⟨rfl, rfl, rfl, rfl, rfl, trivial⟩⟩
    · clear H; intro h20 T H
      obtain rfl : k = list.length := by omega
      rw [List.take_of_length_le (by simp [hdl])] at hN
      have hF : firstD (dueL men list) gv = none := hN
      refine At.regionEnd ?_
      refine At.seq ?_
      refine At.condF (H.r 20 rfl) ?_
      refine At.exit rfl ?_
      refine At.seq ?_
      refine At.region' (l := [0, 1, 2]) rfl ?_
      refine At.v H rfl (wN rfl) rfl rfl rfl (x_assign evC) ?_; clear H; intro T H
      refine At.v H rfl (wN rfl) rfl rfl rfl (x_assign evC) ?_; clear H; intro T H
      refine At.store1 H rfl (wN rfl) rfl rfl (H.r 6 rfl) evC Try.sizeOf32 rfl rfl (by repeat (first | exact Upd.here | apply Upd.there)) (by repeat (first | exact SetAt.z | apply SetAt.s)) ?_; clear H; intro T w _ H
      refine At.regionEnd ?_
      refine At.ret rfl ?_
      exact leaT H (fun w H => lea Try.func15 (resL (rs := [.tmp 4, .tmp 5, .cell 6 32]) Try.results15 (.tmp (H.r 4 rfl) (.tmp (H.r 5 rfl) (.cell (H.r 6 rfl) Try.isAgg32 (H.cell (by repeat (first | exact List.mem_cons_self | apply List.mem_cons_of_mem)) 0 rfl) .nil))) (by simp)) (Ret.mk H.fr (by rw [hF]; first | rfl | (rw [← hG]; rfl))))
theorem Worth {AM AL : Option Addr} {cM bM oM cL bL oL : Nat} {men : List Wi} {list : List Zi} {w0 : World} (hM : SlP encW 4 w0 AM cM bM oM men) (hL : SlP encZ 2 w0 AL cL bL oL list) (hv : Valid men list) {v : Value} {gv : List (Option Nat)} (hS : Sl encO 1 w0 v gv) (hg : GivOK men list gv) : Calls Try.prog 14 #[(.agg #[(.slice AM men.length cM), (.slice AL list.length cL)]), v] w0 (RetG w0 fun v E _ => ((fairL men list gv ∧ ∃ g, v = .tuple #[.slice (some ⟨g, 0, none⟩) men.length men.length, .int .i64 (worthsL men list gv).sum, .int .i64 0] ∧ E = [.row (.slice (some ⟨g, 0, none⟩) men.length men.length) 3 1 men.length ((worthsL men list gv).flatMap encI)]) ∨ (¬ fairL men list gv ∧ v = .tuple #[.slice none 0 0, .int .i64 0, .int .i64 4] ∧ E = []))) := by
  have hgl := hg.len
  have hl6 := hv.l6
  have hn8 := hv.n8
  refine enter (args := [(.agg #[(.slice AM men.length cM), (.slice AL list.length cL)]), v]) (S := []) Try.func14 rfl Try.ntmps14 rfl fun cs T H => ?_
  refine At.seq ?_
  refine At.region' (l := [0, 1, 2, 3]) rfl ?_
  refine At.new H rfl (wN rfl) rfl rfl rfl (x_box (H.r 0 rfl) rfl) ?_; clear H; intro b2 T w _ _ H
  refine At.v H rfl (wN rfl) rfl rfl rfl (x_assign evC) ?_; clear H; intro T H
  refine At.v H rfl (wN rfl) rfl rfl rfl (x_assign evC) ?_; clear H; intro T H
  refine At.new H rfl (wN rfl) rfl rfl rfl (x_alloc Try.zeroValue32 rfl) ?_; clear H; intro b6 T w _ _ H
  refine At.regionEnd ?_
  refine At.seq ?_
  refine At.region' (l := [0]) rfl ?_
  refine At.defer rfl rfl (wN rfl) rfl (x_defer evF (args1 (H.r 6 rfl))) ?_
  refine At.regionEnd ?_
  refine At.seq ?_
  refine At.region' (l := [0, 1, 2]) rfl ?_
  refine At.v H rfl (wN rfl) rfl rfl rfl (x_loadA (H.r 2 rfl) Try.isAgg25 Try.sizeOf25 (H.cellsAt (n := 2) (by repeat (first | exact List.mem_cons_self | apply List.mem_cons_of_mem)) rfl) rfl) ?_; clear H; intro T H
  refine At.fG H rfl (wN rfl) rfl rfl rfl (args1 (H.r 11 rfl)) Try.call31 (openV (hM.fr0 H.fr) (hL.fr0 H.fr) hv) ?_; clear H; rintro v12 E12 T w ⟨bp, mw, rfl, rfl⟩ _ H
  refine At.v H rfl (wN rfl) rfl rfl rfl (x_assign (H.r 12 rfl)) ?_; clear H; intro T H
  refine At.regionEnd ?_
  refine At.seq ?_
  refine At.region' (l := [0, 1, 2, 3]) rfl ?_
  refine At.v H rfl (wN rfl) rfl rfl rfl (x_move (H.r 7 rfl)) ?_; clear H; intro T H
  refine At.v H rfl (wN rfl) rfl rfl rfl (x_move (H.r 1 rfl)) ?_; clear H; intro T H
  refine At.fG H rfl (wN rfl) rfl rfl rfl (args2 (H.r 13 rfl) (H.r 14 rfl)) Try.call33 (giving (Op.ofH H (bp := bp) (by repeat (first | exact List.mem_cons_self | apply List.mem_cons_of_mem)) (by repeat (first | exact List.mem_cons_self | apply List.mem_cons_of_mem)) hM hL) hv (hS.fr0 H.fr) hg) ?_; clear H; rintro v15 E15 T w ⟨g15, rfl, rfl⟩ _ H
  refine At.v H rfl (wN rfl) rfl rfl rfl (x_assign (H.r 15 rfl)) ?_; clear H; intro T H
  refine At.regionEnd ?_
  refine At.seq ?_
  refine At.seq ?_
  refine At.region' (l := [0, 1, 2]) rfl ?_
  refine At.v H rfl (wN rfl) rfl rfl rfl (x_move (H.r 8 rfl)) ?_; clear H; intro T H
  refine At.v H rfl (wN rfl) rfl rfl rfl (x_len (H.r 16 rfl) Try.runUnderlying30) ?_; clear H; intro T H
  refine At.v H rfl (wN rfl) rfl rfl rfl (x_move evC) ?_; clear H; intro T H
  refine At.regionEnd ?_
  refine At.block ?_
  refine At.loopN (fun m T w => ∃ k : Nat, m = gv.length - k ∧ k ≤ gv.length ∧ (∀ (i m : Nat) (z : Zi), i < k → gv[i]? = some (some m) → list[i]? = some z → canAt men z.for_ m = true) ∧ Sx w0 [] 39 [(18, .int .i64 (k : Int)), (17, .int .i64 (gv.length : Int)), (16, .slice (some ⟨g15, 0, none⟩) gv.length gv.length), (8, .slice (some ⟨g15, 0, none⟩) gv.length gv.length), (7, (.pointer (some ⟨bp, 0, none⟩))), (4, .slice none 0 0), (5, .int .i64 0), (6, .pointer (some ⟨b6, 0, none⟩))] [.row (.slice (some ⟨g15, 0, none⟩) gv.length gv.length) 3 1 gv.length (gv.flatMap encO), .blk bp (Eo (.cells (pzCells AM men.length cM AL list.length cL mw (atL men)).toArray 80 (0, 0))), .blk mw (Eo whoObj), .blk b6 (Eo (.cells [.int .i64 0].toArray 32 (0, 0)))] T w) (gv.length) ?_ ?_
  · exact ⟨0, rfl, by omega, by omega, (H.pk (by repeat (first | exact Pk.nil | exact Pk.all | refine Pk.cons (by repeat (first | exact Take.here | apply Take.there)) ?_ | apply Pk.skip))).sub ⟨rfl, rfl, rfl, rfl, rfl, rfl, rfl, rfl, trivial⟩⟩
  · clear H
    rintro n T w ⟨k, rfl, hk, hN, H⟩ hnext
    refine At.seq ?_
    refine At.region' (l := [0]) rfl ?_
    refine At.c H rfl (wN rfl) rfl rfl rfl (x_lss (H.r 18 rfl) (H.r 17 rfl)) ?_ ?_
    · clear H; intro h19 T H
      have hk1 : k < gv.length := by omega
      have ho := List.getElem?_eq_getElem hk1
      generalize gv[k] = o at ho
      have hz := List.getElem?_eq_getElem (l := list) (show k < list.length by omega)
      generalize list[k] = z at hz
      refine At.regionEnd ?_
      refine At.seq ?_
      refine At.condT (H.r 19 rfl) ?_
      refine At.skip ?_
      refine At.seq ?_
      refine At.block ?_
      refine At.seq ?_
      refine At.region' (l := [0, 1, 2, 3, 4]) rfl ?_
      refine At.v H rfl (wN rfl) rfl rfl rfl (x_move (H.r 18 rfl)) ?_; clear H; intro T H
      refine At.v H rfl (wN rfl) rfl rfl rfl (x_ixSN (H.r 16 rfl) (H.r 18 rfl) Try.runUnderlying30 Try.sizeOf3 (by omega)) ?_; clear H; intro T H
      refine At.v H rfl (wN rfl) rfl rfl rfl (x_load (H.r 21 rfl) Try.isAgg3 (by rw [show 0 + k * 1 = k by omega]; exact H.rowCell (g := g15) (by repeat (first | exact List.mem_cons_self | apply List.mem_cons_of_mem)) k (flatO_at ho))) ?_; clear H; intro T H
      refine At.v H rfl (wN rfl) rfl rfl rfl (x_assign (H.r 20 rfl)) ?_; clear H; intro T H
      refine At.v H rfl (wN rfl) rfl rfl rfl (x_assign (H.r 22 rfl)) ?_; clear H; intro T H
      refine At.regionEnd ?_
      refine At.region' (l := [0, 1, 2, 3, 4, 5, 6, 7, 8]) rfl ?_
      refine At.v H rfl (wN rfl) rfl rfl rfl (x_move (H.r 10 rfl)) ?_; clear H; intro T H
      refine At.c H rfl (wN rfl) rfl rfl rfl (x_eql (H.r 23 rfl) evC) ?_ ?_
      · clear H; intro h24 T H
        have hN2 : ∀ (i m : Nat) (z : Zi), i < k + 1 → gv[i]? = some (some m) → list[i]? = some z → canAt men z.for_ m = true := by
          intro i m z hi h1 h2
          by_cases hik : i = k
          · subst hik; rw [ho] at h1; cases o with
            | none => cases h1
            | some m => exact absurd h24 (by simp only [orNone]; omega)
          · exact hN i m z (by omega) h1 h2
        refine At.v H rfl (wN rfl) rfl rfl rfl (x_move (H.r 24 rfl)) ?_; clear H; intro T H
        refine At.u H rfl (wU H rfl rfl rfl rfl) rfl rfl ?_; clear H; intro T H
        refine At.u H rfl (wU H rfl rfl rfl rfl) rfl rfl ?_; clear H; intro T H
        refine At.u H rfl (wU H rfl rfl rfl rfl) rfl rfl ?_; clear H; intro T H
        refine At.u H rfl (wU H rfl rfl rfl rfl) rfl rfl ?_; clear H; intro T H
        refine At.v H rfl (wN rfl) rfl rfl rfl (x_pickT (H.r 25 rfl) evC) ?_; clear H; intro T H
        refine At.f0 H rfl (wN rfl) rfl rfl rfl (args2 (H.r 30 rfl) evC) Try.call34 (must_ok 4 _) ?_; clear H; rintro v31 T w rfl _ H
        refine At.regionEnd ?_
        refine At.inBlock ?_
        refine At.region' (l := [0, 1]) rfl ?_
        refine At.v H rfl (wN rfl) rfl rfl rfl (x_add (H.r 18 rfl) evC (w64 (by omega) (by omega))) ?_; clear H; intro T H
        refine At.v H rfl (wN rfl) rfl rfl rfl (x_move (H.r 32 rfl)) ?_; clear H; intro T H
        refine At.regionEnd ?_
        exact hnext (gv.length - (k + 1)) _ _ (by omega) ⟨k + 1, rfl, by omega, hN2, H.sub ⟨rfl, rfl, rfl, rfl, rfl, rfl, rfl, rfl, trivial⟩⟩
      · clear H; intro h24 T H
        obtain ⟨m, rfl⟩ : ∃ m, o = some m := by
          cases o with
          | none => exact absurd rfl h24
          | some m => exact ⟨m, rfl⟩
        have hml := hg.lt m (List.mem_of_getElem? ho)
        have hmi := List.getElem?_eq_getElem hml
        generalize men[m] = mi at hmi
        refine At.v H rfl (wN rfl) rfl rfl rfl (x_move (H.r 24 rfl)) ?_; clear H; intro T H
        refine At.v H rfl (wS H rfl rfl rfl) rfl rfl rfl (x_move (H.r 7 rfl)) ?_; clear H; intro T H
        refine At.v H rfl (wS H rfl rfl rfl) rfl rfl rfl (x_move (H.r 10 rfl)) ?_; clear H; intro T H
        refine At.v H rfl (wS H rfl rfl rfl) rfl rfl rfl (x_move (H.r 9 rfl)) ?_; clear H; intro T H
        refine At.f0 H rfl (wS H rfl rfl rfl) rfl rfl rfl (args3 (H.r 26 rfl) (H.r 27 rfl) (H.r 28 rfl)) Try.call35 (can (Op.ofH H (bp := bp) (by repeat (first | exact List.mem_cons_self | apply List.mem_cons_of_mem)) (by repeat (first | exact List.mem_cons_self | apply List.mem_cons_of_mem)) hM hL) hv hmi hz) ?_; clear H; rintro v29 T w rfl _ H
        rcases Bool.eq_false_or_eq_true (canW z.for_ mi) with hcb | hcb
        · rw [hcb] at H
          have hN2 : ∀ (i m : Nat) (z : Zi), i < k + 1 → gv[i]? = some (some m) → list[i]? = some z → canAt men z.for_ m = true := by
            intro i m2 z2 hi h1 h2
            by_cases hik : i = k
            · subst hik
              rw [ho] at h1
              rw [hz] at h2
              simp only [Option.some.injEq] at h1 h2
              subst h1 h2
              rw [canAt_eq hmi, hcb]
            · exact hN i m2 z2 (by omega) h1 h2
          refine At.v H rfl (wN rfl) rfl rfl rfl (x_pickF (H.r 25 rfl) (H.r 29 rfl)) ?_; clear H; intro T H
          refine At.f0 H rfl (wN rfl) rfl rfl rfl (args2 (H.r 30 rfl) evC) Try.call34 (must_ok 4 _) ?_; clear H; rintro v31 T w rfl _ H
          refine At.regionEnd ?_
          refine At.inBlock ?_
          refine At.region' (l := [0, 1]) rfl ?_
          refine At.v H rfl (wN rfl) rfl rfl rfl (x_add (H.r 18 rfl) evC (w64 (by omega) (by omega))) ?_; clear H; intro T H
          refine At.v H rfl (wN rfl) rfl rfl rfl (x_move (H.r 32 rfl)) ?_; clear H; intro T H
          refine At.regionEnd ?_
          exact hnext (gv.length - (k + 1)) _ _ (by omega) ⟨k + 1, rfl, by omega, hN2, H.sub ⟨rfl, rfl, rfl, rfl, rfl, rfl, rfl, rfl, trivial⟩⟩
        · rw [hcb] at H
          have hF : ¬ fairL men list gv := fun h => by have := h k m z ho hz; rw [canAt_eq hmi, hcb] at this; cases this
          refine At.v H rfl (wN rfl) rfl rfl rfl (x_pickF (H.r 25 rfl) (H.r 29 rfl)) ?_; clear H; intro T H
          refine At.fP H rfl (wN rfl) rfl (args2 (H.r 30 rfl) evC) Try.call34 (must_no 4 _) ?_
          clear H; intro w _ H
          exact panT H (by repeat (first | exact Upd.here | apply Upd.there)) (fun w H => lea Try.func14 (resL (rs := [.tmp 4, .tmp 5, .cell 6 32]) Try.results14 (.tmp (H.r 4 rfl) (.tmp (H.r 5 rfl) (.cell (H.r 6 rfl) Try.isAgg32 (H.cell (by repeat (first | exact List.mem_cons_self | apply List.mem_cons_of_mem)) 0 rfl) .nil))) (by simp)) (RetG.of H [] (by simp) (by simp) (.inr ⟨hF, rfl, rfl⟩)))
    · clear H; intro h19 T H
      have hF : fairL men list gv := fun i m z h1 h2 => hN i m z (by have := (List.getElem?_eq_some_iff.1 h1).1; omega) h1 h2
      refine At.regionEnd ?_
      refine At.seq ?_
      refine At.condF (H.r 19 rfl) ?_
      refine At.exit rfl ?_
      refine At.seq ?_
      refine At.region' (l := [0, 1, 2, 3]) rfl ?_
      refine At.v H rfl (wN rfl) rfl rfl rfl (x_move (H.r 7 rfl)) ?_; clear H; intro T H
      refine At.v H rfl (wN rfl) rfl rfl rfl (x_move (H.r 8 rfl)) ?_; clear H; intro T H
      refine At.fG H rfl (wN rfl) rfl rfl rfl (args2 (H.r 33 rfl) (H.r 34 rfl)) Try.call36 (worths (Op.ofH H (bp := bp) (by repeat (first | exact List.mem_cons_self | apply List.mem_cons_of_mem)) (by repeat (first | exact List.mem_cons_self | apply List.mem_cons_of_mem)) hM hL) hv (H.rowSl (enc := encO) (by repeat (first | exact List.mem_cons_self | apply List.mem_cons_of_mem)) (fun _ => rfl) rfl rfl) hgl hg.lt) ?_; clear H; rintro v35 E35 T w ⟨g35, rfl, rfl⟩ _ H
      refine At.v H rfl (wN rfl) rfl rfl rfl (x_assign (H.r 35 rfl)) ?_; clear H; intro T H
      refine At.regionEnd ?_
      refine At.seq ?_
      refine At.region' (l := [0, 1, 2, 3, 4, 5]) rfl ?_
      refine At.v H rfl (wN rfl) rfl rfl rfl (x_move (H.r 4 rfl)) ?_; clear H; intro T H
      refine At.v H rfl (wN rfl) rfl rfl rfl (x_move (H.r 4 rfl)) ?_; clear H; intro T H
      refine At.f0 H rfl (wN rfl) rfl rfl rfl (args1 (H.r 37 rfl)) Try.call37 (total (xs := worthsL men list gv) (H.rowSl (enc := encI) (by repeat (first | exact List.mem_cons_self | apply List.mem_cons_of_mem)) (fun _ => rfl) (worthsTo_len _ _ _ _).symm rfl) (worthsTo_mem hv _ _ _) (by rw [worthsL, worthsTo_len]; omega)) ?_; clear H; rintro v38 T w rfl _ H
      refine At.v H rfl (wN rfl) rfl rfl rfl (x_assign (H.r 36 rfl)) ?_; clear H; intro T H
      refine At.v H rfl (wN rfl) rfl rfl rfl (x_assign (H.r 38 rfl)) ?_; clear H; intro T H
      refine At.store1 H rfl (wN rfl) rfl rfl (H.r 6 rfl) evC Try.sizeOf32 rfl rfl (by repeat (first | exact Upd.here | apply Upd.there)) (by repeat (first | exact SetAt.z | apply SetAt.s)) ?_; clear H; intro T w _ H
      refine At.regionEnd ?_
      refine At.ret rfl ?_
      exact leaT H (fun w H => lea Try.func14 (resL (rs := [.tmp 4, .tmp 5, .cell 6 32]) Try.results14 (.tmp (H.r 4 rfl) (.tmp (H.r 5 rfl) (.cell (H.r 6 rfl) Try.isAgg32 (H.cell (by repeat (first | exact List.mem_cons_self | apply List.mem_cons_of_mem)) 0 rfl) .nil))) (by simp)) (RetG.of H [.row (.slice (some ⟨g35, 0, none⟩) men.length men.length) 3 1 men.length ((worthsL men list gv).flatMap encI)] (by simp) (by simp [Ent.w, Ent.keys]) (.inl ⟨hF, g35, rfl, rfl⟩)))
theorem Worth_no {AM AL : Option Addr} {cM bM oM cL bL oL : Nat} {men : List Wi} {list : List Zi} {w0 : World} (hM : SlP encW 4 w0 AM cM bM oM men) (hL : SlP encZ 2 w0 AL cL bL oL list) (hv : Valid men list) (A : Option Addr) (n cap : Nat) (hn : n ≠ list.length) : Calls Try.prog 14 #[(.agg #[(.slice AM men.length cM), (.slice AL list.length cL)]), .slice A n cap] w0 (Ret w0 fun v _ => v = .tuple #[.slice none 0 0, .int .i64 0, .int .i64 2]) := by
  refine enter (args := [(.agg #[(.slice AM men.length cM), (.slice AL list.length cL)]), .slice A n cap]) (S := []) Try.func14 rfl Try.ntmps14 rfl fun cs T H => ?_
  refine At.seq ?_
  refine At.region' (l := [0, 1, 2, 3]) rfl ?_
  refine At.new H rfl (wN rfl) rfl rfl rfl (x_box (H.r 0 rfl) rfl) ?_; clear H; intro b2 T w _ _ H
  refine At.v H rfl (wN rfl) rfl rfl rfl (x_assign evC) ?_; clear H; intro T H
  refine At.v H rfl (wN rfl) rfl rfl rfl (x_assign evC) ?_; clear H; intro T H
  refine At.new H rfl (wN rfl) rfl rfl rfl (x_alloc Try.zeroValue32 rfl) ?_; clear H; intro b6 T w _ _ H
  refine At.regionEnd ?_
  refine At.seq ?_
  refine At.region' (l := [0]) rfl ?_
  refine At.defer rfl rfl (wN rfl) rfl (x_defer evF (args1 (H.r 6 rfl))) ?_
  refine At.regionEnd ?_
  refine At.seq ?_
  refine At.region' (l := [0, 1, 2]) rfl ?_
  refine At.v H rfl (wN rfl) rfl rfl rfl (x_loadA (H.r 2 rfl) Try.isAgg25 Try.sizeOf25 (H.cellsAt (n := 2) (by repeat (first | exact List.mem_cons_self | apply List.mem_cons_of_mem)) rfl) rfl) ?_; clear H; intro T H
  refine At.fG H rfl (wN rfl) rfl rfl rfl (args1 (H.r 11 rfl)) Try.call31 (openV (hM.fr0 H.fr) (hL.fr0 H.fr) hv) ?_; clear H; rintro v12 E12 T w ⟨bp, mw, rfl, rfl⟩ _ H
  refine At.v H rfl (wN rfl) rfl rfl rfl (x_assign (H.r 12 rfl)) ?_; clear H; intro T H
  refine At.regionEnd ?_
  refine At.seq ?_
  refine At.region' (l := [0, 1, 2, 3]) rfl ?_
  refine At.v H rfl (wN rfl) rfl rfl rfl (x_move (H.r 7 rfl)) ?_; clear H; intro T H
  refine At.v H rfl (wN rfl) rfl rfl rfl (x_move (H.r 1 rfl)) ?_; clear H; intro T H
  refine At.fP H rfl (wN rfl) rfl (args2 (H.r 13 rfl) (H.r 14 rfl)) Try.call33 (giving_no (Op.ofH H (bp := bp) (by repeat (first | exact List.mem_cons_self | apply List.mem_cons_of_mem)) (by repeat (first | exact List.mem_cons_self | apply List.mem_cons_of_mem)) hM hL) A n cap hn) ?_
  clear H; intro w _ H
  exact panT H (by repeat (first | exact Upd.here | apply Upd.there)) (fun w H => lea Try.func14 (resL (rs := [.tmp 4, .tmp 5, .cell 6 32]) Try.results14 (.tmp (H.r 4 rfl) (.tmp (H.r 5 rfl) (.cell (H.r 6 rfl) Try.isAgg32 (H.cell (by repeat (first | exact List.mem_cons_self | apply List.mem_cons_of_mem)) 0 rfl) .nil))) (by simp)) (Ret.mk H.fr rfl))
end Go.Proofs.Pz
end
section
namespace Go.Sx
open Go.RowKit

/-- two blocks turn, that are told of -/
def RetM (w : World) (g1 g2 : Nat) (Q : Value → (Obj → Prop) → (Obj → Prop) → Prop) : Ending → World → Prop := fun e w' =>
  ∃ v B1 B2, e = .returned v ∧ Fr [g1, g2] w w' ∧ (∃ o, w'.heap[g1]? = some o ∧ B1 o) ∧ (∃ o, w'.heap[g2]? = some o ∧ B2 o) ∧ Q v B1 B2

section
variable {P : Program} {Φ : Machine → Prop} {b : Frame} {cs : List Frame} {D : List Deferred} {k : List Item}
variable {ops : Array Oper} {T : Array Value} {w : World} {w0 : World} {S : List Nat} {N : Nat} {R : List (Nat × Value)} {G : List Ent}
variable {i : Nat} {o : Oper} {rest : List Nat}

theorem Sx.turn2 {g1 g2 : Nat} {A1 A2 B1 B2 : Obj → Prop} {G0 : List Ent} (H : Sx w0 S N R (.blk g1 A1 :: .blk g2 A2 :: G0) T w) {w' : World} (hf : Fr [g1, g2] w w') (h1 : ∃ o, w'.heap[g1]? = some o ∧ B1 o) (h2 : ∃ o, w'.heap[g2]? = some o ∧ B2 o) : Sx w0 S N R (.blk g1 B1 :: .blk g2 B2 :: G0) T w' := by
  have hnd := H.nd
  simp only [List.flatMap_cons, Ent.keys, List.cons_append, List.nil_append] at hnd
  rw [List.nodup_cons, List.nodup_cons] at hnd
  refine ⟨?_, H.size, H.reg, ?_, ?_, H.nd⟩
  · refine H.fr.trans hf ?_
    intro s hs hlt
    rcases List.mem_cons.1 hs with rfl | hs
    · rcases H.own (.blk s A1) (by simp) s (by simp [Ent.w]) with h | h
      · omega
      · exact h
    · obtain rfl : s = g2 := by simpa using hs
      rcases H.own (.blk s A2) (by simp) s (by simp [Ent.w]) with h | h
      · omega
      · exact h
  · intro x hx
    rcases List.mem_cons.1 hx with rfl | hx
    · exact h1
    · rcases List.mem_cons.1 hx with rfl | hx
      · exact h2
      · refine Ent.kept (H.ent x (by simp [hx])) hf (fun k hk hs => ?_)
        have hm : k ∈ G0.flatMap Ent.keys := List.mem_flatMap.2 ⟨x, hx, hk⟩
        rcases List.mem_cons.1 hs with rfl | hs
        · exact hnd.1 (by simp [hm])
        · obtain rfl : k = g2 := by simpa using hs
          exact hnd.2.1 hm
  · intro x hx
    rcases List.mem_cons.1 hx with rfl | hx
    · exact H.own (.blk g1 A1) (by simp)
    · rcases List.mem_cons.1 hx with rfl | hx
      · exact H.own (.blk g2 A2) (by simp)
      · exact H.own x (by simp [hx])

/-- a call of a function value that turns two blocks of ours -/
theorem At.fV2 {x : Operand} {xs : Array Operand} {ts : Array TypeId} {fv : Value} {args : Array Value} {Q : Value → (Obj → Prop) → (Obj → Prop) → Prop} {d : Tmp} {g1 g2 : Nat} {A1 A2 : Obj → Prop} {G0 : List Ent}
    (H : Sx w0 S N R G T w) (ho : ops[i]? = some o) (hw : Region.wanted o (yielded ops T) = true)
    (hop : o.op = .call { callee := .value x, args := xs, argTypes := ts }) (hd : o.dst = some d) (hN : Nat.blt d N = true)
    (hx : evT T x = fv) (ha : xs.map (evT T) = args) (hp : Picks G (.blk g1 A1 :: .blk g2 A2 :: G0)) (hc : CallsV P fv args w (RetM w g1 g2 Q))
    (K : ∀ v B1 B2 T' w', Q v B1 B2 → Sx w0 S N ((d, v) :: R) (.blk g1 B1 :: .blk g2 B2 :: G0) T' w' → At P Φ b cs D (.inRegion ops rest :: k) T' w') :
    At P Φ b cs D (.inRegion ops (i :: rest) :: k) T w := by
  refine At.callV ho hw hop hx ha hc ?_
  rintro e w2 ⟨v, B1, B2, rfl, hf, h1, h2, hQ⟩
  show At _ _ _ _ _ _ _ _
  rw [hd]
  exact K v B1 B2 _ w2 hQ (((H.picks hp).turn2 hf h1 h2).put d v (lt_of_blt hN))
end
end Go.Sx
namespace Go.Sx
open Go.RowKit
theorem Sx.ownGe {w0 w : World} {N : Nat} {R : List (Nat × Value)} {G : List Ent} {T : Array Value} (H : Sx w0 [] N R G T w) {g : Nat} {A : Obj → Prop} (h : Ent.blk g A ∈ G) : w0.heap.size ≤ g := by
  rcases H.own _ h g (by simp [Ent.w]) with h | h
  · exact h
  · cases h
section
variable {P : Program} {w : World} {ρ : Operand → Value} {d : Option Tmp} {ty : TypeId} {pos : String} {af : Array Edge} {g : Option (Nat × Bool)}
theorem x_bs0 {t : TypeId} {n : Nat} {v : Value} {w' : World} (hr : (Instr.buildSlice t n #[]).run P w = .ok v w') :
    (execOp ρ ⟨d, .buildSlice t n #[], ty, pos, af, g⟩).run P w = .ok (.value v) w' := by
  simp [execOp, hr]
end
end Go.Sx
namespace Go.Sx
theorem args5 {T : Array Value} {a c e f g : Operand} {x y z u t : Value} (h : evT T a = x) (h2 : evT T c = y) (h3 : evT T e = z) (h4 : evT T f = u) (h5 : evT T g = t) : (#[a, c, e, f, g] : Array Operand).map (evT T) = #[x, y, z, u, t] := by simp [h, h2, h3, h4, h5]
theorem args6 {T : Array Value} {a c e f g i : Operand} {x y z u t v : Value} (h : evT T a = x) (h2 : evT T c = y) (h3 : evT T e = z) (h4 : evT T f = u) (h5 : evT T g = t) (h6 : evT T i = v) : (#[a, c, e, f, g, i] : Array Operand).map (evT T) = #[x, y, z, u, t, v] := by simp [h, h2, h3, h4, h5, h6]
end Go.Sx
namespace Go.Sx
theorem Sx.ne2 {w0 w : World} {S : List Nat} {N : Nat} {R : List (Nat × Value)} {G G0 : List Ent} {T : Array Value} (H : Sx w0 S N R G T w) {g g1 g2 : Nat} {A A1 A2 : Obj → Prop} (ht : Take (.blk g A) G G0) (h1 : Ent.blk g1 A1 ∈ G0) (h2 : Ent.blk g2 A2 ∈ G0) : g ∉ [g1, g2] := by
  have hnd := (H.front ht).nd
  rw [List.flatMap_cons, List.nodup_append] at hnd
  intro h
  have hd := hnd.2.2 g (by simp [Ent.keys])
  rcases List.mem_cons.1 h with rfl | h
  · exact hd g (List.mem_flatMap.2 ⟨_, h1, by simp [Ent.keys]⟩) rfl
  · obtain rfl : g = g2 := by simpa using h
    exact hd g (List.mem_flatMap.2 ⟨_, h2, by simp [Ent.keys]⟩) rfl
theorem Sx.ne1 {w0 w : World} {S : List Nat} {N : Nat} {R : List (Nat × Value)} {G G0 : List Ent} {T : Array Value} (H : Sx w0 S N R G T w) {g g1 : Nat} {A A1 : Obj → Prop} (ht : Take (.blk g A) G G0) (h1 : Ent.blk g1 A1 ∈ G0) : g ≠ g1 := by
  have := H.ne2 ht h1 h1
  simp at this
  exact this
end Go.Sx
end
section
set_option linter.unusedVariables false
namespace Go.Proofs.Pz
open Go.Sx

/-! ### as many as can be given -/
structure MSt where
  ok : Bool
  seen : Nat → Bool
  mt : Nat → Option Nat

def setF {α : Type} (f : Nat → α) (m : Nat) (v : α) : Nat → α := fun k => if k = m then v else f k

def stepM (can : Nat → Nat → Bool) (rec : Nat → (Nat → Bool) → (Nat → Option Nat) → MSt) (z : Nat) (s : MSt) (m : Nat) : MSt :=
  if s.ok then s else if s.seen m || !can m z then s else
  match s.mt m with
  | none => ⟨true, setF s.seen m true, setF s.mt m (some z)⟩
  | some old => let t := rec old (setF s.seen m true) s.mt; if t.ok then ⟨true, t.seen, setF t.mt m (some z)⟩ else t

def placeS (can : Nat → Nat → Bool) (xs : List Nat) : Nat → Nat → (Nat → Bool) → (Nat → Option Nat) → MSt
  | 0, _, seen, mt => ⟨false, seen, mt⟩
  | f + 1, z, seen, mt => xs.foldl (stepM can (placeS can xs f) z) ⟨false, seen, mt⟩

def mostS (can : Nat → Nat → Bool) (xs : List Nat) (zs : List Nat) : Nat × (Nat → Option Nat) :=
  zs.foldl (fun c z => let t := placeS can xs 9 z (fun _ => false) c.2; (if t.ok then c.1 + 1 else c.1, t.mt)) (0, fun _ => none)

def unseen (n : Nat) (seen : Nat → Bool) : Nat := ((List.range n).filter fun m => !seen m).length

theorem filter_len_le {l : List Nat} {p q : Nat → Bool} (h : ∀ x ∈ l, p x = true → q x = true) : (l.filter p).length ≤ (l.filter q).length := by
  induction l with
  | nil => simp
  | cons x r ih =>
    have ih := ih (fun y hy => h y (by simp [hy]))
    have hx := h x (by simp)
    cases hp : p x <;> cases hq : q x <;> simp_all <;> omega
theorem filter_len_lt {l : List Nat} {p q : Nat → Bool} {m : Nat} (hm : m ∈ l) (h : ∀ x ∈ l, p x = true → q x = true) (hpm : p m = false) (hqm : q m = true) : (l.filter p).length < (l.filter q).length := by
  induction l with
  | nil => simp at hm
  | cons x r ih =>
    have hle := filter_len_le (l := r) (fun y hy => h y (by simp [hy]))
    have hx := h x (by simp)
    rcases List.mem_cons.1 hm with rfl | hm
    · simp [hpm, hqm]; omega
    · have ih := ih hm (fun y hy => h y (by simp [hy]))
      cases hp : p x <;> cases hq : q x <;> simp_all <;> omega
theorem unseen_mono {n : Nat} {s t : Nat → Bool} (h : ∀ m, s m = true → t m = true) : unseen n t ≤ unseen n s :=
  filter_len_le (fun x _ hx => by
    have := h x
    cases hs : s x <;> simp_all)
theorem unseen_set {n m : Nat} {s : Nat → Bool} (hm : m < n) (h : s m = false) : unseen n (setF s m true) < unseen n s :=
  filter_len_lt (m := m) (List.mem_range.2 hm) (fun x _ hx => by
    by_cases hxm : x = m
    · subst hxm; simp [setF] at hx
    · simpa [setF, hxm] using hx) (by simp [setF]) (by simp [h])

/-- what a state may have become -/
structure MLe (l : Nat) (seen : Nat → Bool) (s : MSt) : Prop where
  seen : ∀ m, seen m = true → s.seen m = true
  mt : ∀ m o, s.mt m = some o → o < l

theorem stepM_le {can : Nat → Nat → Bool} {rec : Nat → (Nat → Bool) → (Nat → Option Nat) → MSt} {l z : Nat} (hz : z < l)
    (hrec : ∀ z seen mt, z < l → (∀ m o, mt m = some o → o < l) → MLe l seen (rec z seen mt)) {seen : Nat → Bool} {s : MSt} (h : MLe l seen s) (m : Nat) : MLe l seen (stepM can rec z s m) := by
  unfold stepM
  split
  · exact h
  · split
    · exact h
    · split
      · refine ⟨fun k hk => ?_, fun k o hk => ?_⟩
        · simp only [setF]; split
          · rfl
          · exact h.seen k hk
        · simp only [setF] at hk
          split at hk
          · simp only [Option.some.injEq] at hk; omega
          · exact h.mt k o hk
      · rename_i old hold
        have hr := hrec old (setF s.seen m true) s.mt (h.mt m old hold) h.mt
        have hs : ∀ k, seen k = true → (rec old (setF s.seen m true) s.mt).seen k = true := fun k hk => hr.seen k (by
          simp only [setF]; split
          · rfl
          · exact h.seen k hk)
        simp only
        split
        · refine ⟨hs, fun k o hk => ?_⟩
          simp only [setF] at hk
          split at hk
          · simp only [Option.some.injEq] at hk; omega
          · exact hr.mt k o hk
        · exact ⟨hs, hr.mt⟩
theorem foldM_le {can : Nat → Nat → Bool} {rec : Nat → (Nat → Bool) → (Nat → Option Nat) → MSt} {l z : Nat} (hz : z < l)
    (hrec : ∀ z seen mt, z < l → (∀ m o, mt m = some o → o < l) → MLe l seen (rec z seen mt)) {seen : Nat → Bool} : ∀ (xs : List Nat) {s : MSt}, MLe l seen s → MLe l seen (xs.foldl (stepM can rec z) s)
  | [], _, h => h
  | x :: r, _, h => foldM_le hz hrec r (stepM_le hz hrec h x)
theorem placeS_le {can : Nat → Nat → Bool} {xs : List Nat} {l : Nat} : ∀ (f z : Nat) (seen : Nat → Bool) (mt : Nat → Option Nat), z < l → (∀ m o, mt m = some o → o < l) → MLe l seen (placeS can xs f z seen mt)
  | 0, z, seen, mt, _, h => ⟨fun _ h => h, h⟩
  | f + 1, z, seen, mt, hz, h => foldM_le hz (fun z seen mt hz h => placeS_le f z seen mt hz h) xs ⟨fun _ h => h, h⟩
theorem foldM_ok {can : Nat → Nat → Bool} {rec : Nat → (Nat → Bool) → (Nat → Option Nat) → MSt} {z : Nat} : ∀ (xs : List Nat) {s : MSt}, s.ok = true → xs.foldl (stepM can rec z) s = s
  | [], _, _ => rfl
  | x :: r, s, h => by
    rw [List.foldl_cons, show stepM can rec z s x = s by simp [stepM, h]]
    exact foldM_ok r h
theorem foldM_succ {can : Nat → Nat → Bool} {rec : Nat → (Nat → Bool) → (Nat → Option Nat) → MSt} {z k m : Nat} {xs : List Nat} {s : MSt} (h : xs[k]? = some m) : (xs.take (k + 1)).foldl (stepM can rec z) s = stepM can rec z ((xs.take k).foldl (stepM can rec z) s) m := by
  rw [take_succ_of h, List.foldl_append]; rfl
theorem foldM_end {can : Nat → Nat → Bool} {rec : Nat → (Nat → Bool) → (Nat → Option Nat) → MSt} {z k : Nat} {xs : List Nat} {s t : MSt} (h : (xs.take k).foldl (stepM can rec z) s = t) (ht : t.ok = true) : xs.foldl (stepM can rec z) s = t := by
  rw [← List.take_append_drop k xs, List.foldl_append, h, foldM_ok _ ht]
end Go.Proofs.Pz
namespace Go.Proofs.Pz
open Go.Sx
def canZ (men : List Wi) (list : List Zi) (m z : Nat) : Bool := match list[z]? with | some zz => canAt men zz.for_ m | none => false
def RepS (f : Int → Option Value) (s : Nat → Bool) : Prop := ∀ m : Nat, (f (m : Int)).getD (.bool false) = .bool (s m)
def RepP (f : Int → Option Value) (mt : Nat → Option Nat) : Prop := ∀ m : Nat, f (m : Int) = (mt m).map fun (z : Nat) => Value.int .i64 (z : Int)
theorem RepS.set {f : Int → Option Value} {s : Nat → Bool} (h : RepS f s) (m : Nat) : RepS (fun n => if n = (m : Int) then some (.bool true) else f n) (setF s m true) := by
  intro k
  by_cases hk : k = m
  · subst hk; simp [setF]
  · have : ¬ (k : Int) = (m : Int) := by omega
    simp only [setF, hk, if_false, this]
    exact h k
theorem RepP.set {f : Int → Option Value} {mt : Nat → Option Nat} (h : RepP f mt) (m z : Nat) : RepP (fun n => if n = (m : Int) then some (.int .i64 (z : Int)) else f n) (setF mt m (some z)) := by
  intro k
  by_cases hk : k = m
  · subst hk; simp [setF]
  · have : ¬ (k : Int) = (m : Int) := by omega
    simp only [setF, hk, if_false, this]
    exact h k
theorem RepS.nil : RepS (fun _ => none) (fun _ => false) := fun _ => rfl
theorem RepP.nil : RepP (fun _ => none) (fun _ => none) := fun _ => rfl
theorem opt_cases (o : Option Nat) : (∃ x, o = some x) ∨ o = none := by cases o <;> simp
end Go.Proofs.Pz
namespace Go.Proofs.Pz
open Go.Sx
theorem mostS_snoc (can : Nat → Nat → Bool) (xs zs : List Nat) (z : Nat) : mostS can xs (zs ++ [z]) = (let t := placeS can xs 9 z (fun _ => false) (mostS can xs zs).2; (if t.ok then (mostS can xs zs).1 + 1 else (mostS can xs zs).1, t.mt)) := by
  unfold mostS
  rw [List.foldl_append]
  rfl
theorem range'_snoc (a k : Nat) (h : a ≤ k) : List.range' a (k + 1 - a) = List.range' a (k - a) ++ [k] := by
  rw [show k + 1 - a = (k - a) + 1 by omega, List.range'_concat]
  congr 2
  omega
theorem mostS_le (can : Nat → Nat → Bool) (xs : List Nat) (l : Nat) (zs : List Nat) (h : ∀ z ∈ zs, z < l) : (mostS can xs zs).1 ≤ zs.length ∧ ∀ m o, (mostS can xs zs).2 m = some o → o < l := by
  rcases List.eq_nil_or_concat zs with rfl | ⟨r, z, rfl⟩
  · simp [mostS]
  · rw [List.concat_eq_append] at *
    have ih := mostS_le can xs l r (fun y hy => h y (by simp [hy]))
    have hp := placeS_le (can := can) (xs := xs) (l := l) 9 z (fun _ => false) (mostS can xs r).2 (h z (by simp)) ih.2
    rw [mostS_snoc]
    refine ⟨?_, hp.mt⟩
    simp only [List.length_append, List.length_singleton]
    split <;> omega
termination_by zs.length
theorem unseen_le (n : Nat) (s : Nat → Bool) : unseen n s ≤ n := by
  have := List.length_filter_le (fun m => !s m) (List.range n)
  simpa [unseen] using this

/-- how many prizes from one on can be given to those that have none -/
def manyM (men : List Wi) (list : List Zi) (z : Nat) (has : Nat → Bool) : Nat := (mostS (canZ men list) ((ord men).filter fun m => !has m) (List.range' z (list.length - z))).1
structure MoSt where
  has : Nat → Bool
  rest : Nat
  acc : List (Option Nat)
def pickM (men : List Wi) (list : List Zi) (has : Nat → Bool) (rest z k : Nat) : Bool := !has k && canZ men list k z && decide (manyM men list (z + 1) (setF has k true) = rest - 1)
def stepMo (men : List Wi) (list : List Zi) (s : MoSt) (z : Nat) : MoSt :=
  if manyM men list (z + 1) s.has < s.rest then
    match (List.range men.length).find? (pickM men list s.has s.rest z) with
    | some k => ⟨setF s.has k true, s.rest - 1, s.acc ++ [some k]⟩
    | none => ⟨s.has, s.rest - 1, s.acc ++ [none]⟩
  else ⟨s.has, s.rest, s.acc ++ [none]⟩
def mostTo (men : List Wi) (list : List Zi) (k : Nat) : MoSt := (List.range k).foldl (stepMo men list) ⟨fun _ => false, manyM men list 0 (fun _ => false), []⟩
theorem mostTo_succ (men : List Wi) (list : List Zi) (k : Nat) : mostTo men list (k + 1) = stepMo men list (mostTo men list k) k := by simp [mostTo, List.range_succ, List.foldl_append]
def mostL (men : List Wi) (list : List Zi) : List (Option Nat) := (mostTo men list list.length).acc
theorem stepMo_len (men : List Wi) (list : List Zi) (s : MoSt) (z : Nat) : (stepMo men list s z).acc.length = s.acc.length + 1 := by
  unfold stepMo
  split
  · split <;> simp
  · simp
theorem mostTo_len (men : List Wi) (list : List Zi) (k : Nat) : (mostTo men list k).acc.length = k := by
  induction k with
  | zero => rfl
  | succ k ih => rw [mostTo_succ, stepMo_len, ih]
theorem manyM_le (men : List Wi) (list : List Zi) (z : Nat) (has : Nat → Bool) : manyM men list z has ≤ list.length := by
  have := (mostS_le (canZ men list) ((ord men).filter fun m => !has m) (list.length + z) (List.range' z (list.length - z)) (fun x hx => by rw [List.mem_range'_1] at hx; omega)).1
  simp only [List.length_range'] at this
  unfold manyM
  omega
theorem mostTo_rest (men : List Wi) (list : List Zi) (k : Nat) : (mostTo men list k).rest ≤ list.length := by
  induction k with
  | zero => exact manyM_le _ _ _ _
  | succ k ih =>
    rw [mostTo_succ]
    unfold stepMo
    split
    · split <;> (simp only; omega)
    · exact ih
theorem setF_back {s : Nat → Bool} {k : Nat} (h : s k = false) : setF (setF s k true) k false = s := by
  funext m
  simp only [setF]
  split
  · rename_i e; rw [e, h]
  · rfl
theorem RepS.setB {f : Int → Option Value} {s : Nat → Bool} (h : RepS f s) (m : Nat) (c : Bool) : RepS (fun n => if n = (m : Int) then some (.bool c) else f n) (setF s m c) := by
  intro k
  by_cases hk : k = m
  · subst hk; simp [setF]
  · have : ¬ (k : Int) = (m : Int) := by omega
    simp only [setF, hk, if_false, this]
    exact h k
end Go.Proofs.Pz
end
section
namespace Go.Proofs.Pz
open Go.Sx Go.RowKit
set_option linter.unusedVariables false
namespace AB

end AB
open AB
structure PlEnv (men : List Wi) (list : List Zi) (b : Nat) (isV : Value) (p : Nat → Bool) (k1 k2 k3 k4 k5 hs hp : Nat) (wB w : World) : Prop where
  op : Op wB b men list
  fB : Fr [] wB w
  isp : IsP men.length isV p wB
  l1 : wB.heap.size ≤ hs
  l2 : wB.heap.size ≤ hp
  ne : hs ≠ hp
  n1 : k1 ∉ [hs, hp]
  n2 : k2 ∉ [hs, hp]
  n3 : k3 ∉ [hs, hp]
  n4 : k4 ∉ [hs, hp]
  n5 : k5 ∉ [hs, hp]
  c1 : w.cell? ⟨k1, 0, none⟩ = some (.pointer (some ⟨b, 0, none⟩))
  c2 : w.cell? ⟨k2, 0, none⟩ = some isV
  c3 : w.cell? ⟨k3, 0, none⟩ = some (.map (some hs))
  c4 : w.cell? ⟨k4, 0, none⟩ = some (.map (some hp))
  c5 : w.cell? ⟨k5, 0, none⟩ = some (.func (.func 53) #[] #[.pointer (some ⟨k1, 0, none⟩), .pointer (some ⟨k2, 0, none⟩), .pointer (some ⟨k3, 0, none⟩), .pointer (some ⟨k4, 0, none⟩), .pointer (some ⟨k5, 0, none⟩)])
theorem PlEnv.fr {men : List Wi} {list : List Zi} {b : Nat} {isV : Value} {p : Nat → Bool} {k1 k2 k3 k4 k5 hs hp : Nat} {wB w w' : World} (h : PlEnv men list b isV p k1 k2 k3 k4 k5 hs hp wB w) (hf : Fr [hs, hp] w w') : PlEnv men list b isV p k1 k2 k3 k4 k5 hs hp wB w' := by
  refine ⟨h.op, h.fB.trans hf ?_, h.isp, h.l1, h.l2, h.ne, h.n1, h.n2, h.n3, h.n4, h.n5, hf.cell h.c1 h.n1, hf.cell h.c2 h.n2, hf.cell h.c3 h.n3, hf.cell h.c4 h.n4, hf.cell h.c5 h.n5⟩
  intro s hs hlt
  have h1 := h.l1
  have h2 := h.l2
  rcases List.mem_cons.1 hs with rfl | hs
  · omega
  · obtain rfl : s = hp := by simpa using hs
    omega
theorem place {men : List Wi} {list : List Zi} (hv : Valid men list) {b : Nat} {isV : Value} (hc1 : isV.cells = #[isV]) {p : Nat → Bool} {k1 k2 k3 k4 k5 hs hp : Nat} {wB : World} : ∀ (fuel : Nat) (w : World) (seen : Nat → Bool) (mt : Nat → Option Nat) (fs fp : Int → Option Value) (z : Nat),
    PlEnv men list b isV p k1 k2 k3 k4 k5 hs hp wB w → (∃ o, w.heap[hs]? = some o ∧ Mp fs o) → (∃ o, w.heap[hp]? = some o ∧ Mp fp o) → RepS fs seen → RepP fp mt → unseen men.length seen < fuel → z < list.length → (∀ m o, mt m = some o → o < list.length) →
    Calls Try.prog 53 #[.int .i64 (z : Int), .pointer (some ⟨k1, 0, none⟩), .pointer (some ⟨k2, 0, none⟩), .pointer (some ⟨k3, 0, none⟩), .pointer (some ⟨k4, 0, none⟩), .pointer (some ⟨k5, 0, none⟩)] w
      (RetM w hs hp fun v B1 B2 => ∃ fs' fp', v = .bool (placeS (canZ men list) ((ord men).filter p) fuel z seen mt).ok ∧ B1 = Mp fs' ∧ B2 = Mp fp' ∧ RepS fs' (placeS (canZ men list) ((ord men).filter p) fuel z seen mt).seen ∧ RepP fp' (placeS (canZ men list) ((ord men).filter p) fuel z seen mt).mt) := by
  intro fuel
  induction fuel with
  | zero => intro w seen mt fs fp z _ _ _ _ _ h; omega
  | succ fuel ih =>
    intro w seen mt fs fp z hE hms hmp hrs hrp hun hz hmt
    have hzz := List.getElem?_eq_getElem hz
    generalize list[z] = zz at hzz
    refine enterG (args := [.int .i64 (z : Int), .pointer (some ⟨k1, 0, none⟩), .pointer (some ⟨k2, 0, none⟩), .pointer (some ⟨k3, 0, none⟩), .pointer (some ⟨k4, 0, none⟩), .pointer (some ⟨k5, 0, none⟩)]) (S := [hs, hp]) (G := [.blk hs (Mp fs), .blk hp (Mp fp)]) Try.func53 rfl Try.ntmps53 rfl (by
      intro x hx
      rcases List.mem_cons.1 hx with rfl | hx
      · exact hms
      · obtain rfl : x = .blk hp (Mp fp) := by simpa using hx
        exact hmp) (by simp [Ent.keys]) (by simp [Ent.keys, hE.ne]) fun cs T H => ?_
    refine At.seq ?_
    refine At.region' (l := [0, 1]) rfl ?_
    refine At.new H rfl (wN rfl) rfl rfl rfl (x_box (H.r 0 rfl) rfl) ?_; clear H; intro b6 T w _ _ H
    refine At.new H rfl (wN rfl) rfl rfl rfl (x_alloc Try.zeroValue4 rfl) ?_; clear H; intro b7 T w _ _ H
    refine At.regionEnd ?_
    refine At.seq ?_
    refine At.seq ?_
    refine At.region' (l := [0, 1, 2]) rfl ?_
    refine At.v H rfl (wN rfl) rfl rfl rfl (x_load (H.r 1 rfl) Try.isAgg67 (H.ext hE.c1 hE.n1)) ?_; clear H; intro T H
    refine At.v H rfl (wN rfl) rfl rfl rfl (x_load (H.r 2 rfl) Try.isAgg55 (H.ext hE.c2 hE.n2)) ?_; clear H; intro T H
    refine At.fG H rfl (wN rfl) rfl rfl rfl (args2 (H.r 11 rfl) (H.r 12 rfl)) Try.call45 (order _ hc1) ?_; clear H; rintro v13 E13 T w ⟨bp, bi, rfl, rfl⟩ _ H
    refine At.regionEnd ?_
    refine At.block ?_
    refine At.range H rfl (H.r 13 rfl) ⟨_, Try.func55, rfl, rfl⟩ rfl (order_it (b := b) (isV := isV) hv (p := p)) (fun k G' => ∃ s fs1 fp1, G' = [.blk bi (Eo (.cells [isV].toArray 55 (0, 0))), .blk bp (Eo (.cells [.pointer (some ⟨b, 0, none⟩)].toArray 67 (0, 0))), .blk b7 (Eo (.cells [.bool false].toArray 4 (0, 0))), .blk b6 (Eo (.cells [.int .i64 (z : Int)].toArray 3 (0, 0))), .blk hs (Mp fs1), .blk hp (Mp fp1)] ∧ s = (((ord men).filter p).take k).foldl (stepM (canZ men list) (placeS (canZ men list) ((ord men).filter p) fuel) z) (⟨false, seen, mt⟩ : MSt) ∧ s.ok = false ∧ RepS fs1 s.seen ∧ RepP fp1 s.mt) (fun c G' => c = .ret ∧ ∃ s fs1 fp1, G' = [.blk bi (Eo (.cells [isV].toArray 55 (0, 0))), .blk bp (Eo (.cells [.pointer (some ⟨b, 0, none⟩)].toArray 67 (0, 0))), .blk b7 (Eo (.cells [.bool true].toArray 4 (0, 0))), .blk b6 (Eo (.cells [.int .i64 (z : Int)].toArray 3 (0, 0))), .blk hs (Mp fs1), .blk hp (Mp fp1)] ∧ s = ((ord men).filter p).foldl (stepM (canZ men list) (placeS (canZ men list) ((ord men).filter p) fuel) z) (⟨false, seen, mt⟩ : MSt) ∧ s.ok = true ∧ RepS fs1 s.seen ∧ RepP fp1 s.mt) ?_ ?_ ?_ ?_ ?_
    · exact ⟨(⟨false, seen, mt⟩ : MSt), fs, fp, rfl, by simp, rfl, hrs, hrp⟩
    · intro kk G1 w1 hI1 H1
      obtain ⟨s, fs1, fp1, rfl, hs1, hs2, hr1, hr2⟩ := hI1
      have hE1 := hE.fr H1.fr
      exact ⟨hE1.op.fr hE1.fB, H1.cell (by repeat (first | exact List.mem_cons_self | apply List.mem_cons_of_mem)) 0 rfl, H1.cell (by repeat (first | exact List.mem_cons_self | apply List.mem_cons_of_mem)) 0 rfl, hE1.isp _ hE1.fB⟩
    · clear H; intro d1 l1 kk x1 G1 T w c1 cs1 lo1 hlo hx1 hI1 H
      obtain ⟨s, fs1, fp1, rfl, hs1, hs2, hr1, hr2⟩ := hI1
      obtain ⟨m, hm, rfl⟩ := intV_inv hx1
      obtain ⟨mi, hmlt, hmi⟩ := hv.ord_mem (List.mem_filter.1 (List.mem_of_getElem? hm)).1
      have hst := foldM_succ (can := canZ men list) (rec := placeS (canZ men list) ((ord men).filter p) fuel) (z := z) (s := (⟨false, seen, mt⟩ : MSt)) hm
      rw [← hs1] at hst
      have hle : MLe list.length seen s := by rw [hs1]; exact foldM_le hz (fun z seen mt hz h => placeS_le fuel z seen mt hz h) _ ⟨fun _ h => h, hmt⟩
      have hus := unseen_mono (n := men.length) hle.seen
      have hcan : canZ men list m z = canW zz.for_ mi := by simp [canZ, hzz, canAt_eq hmi]
      refine At.region' (l := [0]) rfl ?_
      refine At.v H rfl (wN rfl) rfl rfl rfl (x_assign (H.r 14 rfl)) ?_; clear H; intro T H
      refine At.regionEnd ?_
      refine At.begR H hlo rfl ?_; clear H; intro w H
      refine At.block ?_
      refine At.seq ?_
      refine At.seq ?_
      refine At.region' (l := [0, 1, 2, 3, 4, 5, 6, 7, 8, 9]) rfl ?_
      refine At.v H rfl (wN rfl) rfl rfl rfl (x_load (H.r 3 rfl) Try.isAgg75 (H.ext hE.c3 hE.n3)) ?_; clear H; intro T H
      refine At.v H rfl (wN rfl) rfl rfl rfl (x_move (H.r 8 rfl)) ?_; clear H; intro T H
      refine At.v H rfl (wN rfl) rfl rfl rfl (x_look (H.r 15 rfl) (H.r 16 rfl) Try.runUnderlying75 Try.runUnderlying3 Try.zeroValue4 (H.mpAt (by repeat (first | exact List.mem_cons_self | apply List.mem_cons_of_mem)))) ?_; clear H; intro T H
      rw [hr1 m] at H
      rcases Bool.eq_false_or_eq_true (s.seen m) with hsm | hsm
      · rw [hsm] at H; refine At.v H rfl (wN rfl) rfl rfl rfl (x_move (H.r 17 rfl)) ?_; clear H; intro T H
        have hs3 : s = (((ord men).filter p).take (kk + 1)).foldl (stepM (canZ men list) (placeS (canZ men list) ((ord men).filter p) fuel) z) (⟨false, seen, mt⟩ : MSt) := by rw [hst, stepM]; simp [hs2, hsm]
        refine At.u H rfl (wU H rfl rfl rfl rfl) rfl rfl ?_; clear H; intro T H
        refine At.u H rfl (wU H rfl rfl rfl rfl) rfl rfl ?_; clear H; intro T H
        refine At.u H rfl (wU H rfl rfl rfl rfl) rfl rfl ?_; clear H; intro T H
        refine At.u H rfl (wU H rfl rfl rfl rfl) rfl rfl ?_; clear H; intro T H
        refine At.u H rfl (wU H rfl rfl rfl rfl) rfl rfl ?_; clear H; intro T H
        refine At.v H rfl (wN rfl) rfl rfl rfl (x_pickT (H.r 18 rfl) evC) ?_; clear H; intro T H
        refine At.regionEnd ?_
        refine At.condT (H.r 24 rfl) ?_
        refine At.exit rfl ?_
        first | exact At.leaveN H hlo rfl rfl (by repeat (first | exact Picks.nil | exact Picks.all | refine Picks.cons (by repeat (first | exact Take.here | apply Take.there)) ?_ | apply Picks.skip)) ⟨s, fs1, fp1, rfl, hs3, hs2, hr1, hr2⟩ | exact At.leaveN H hlo rfl rfl (by repeat (first | exact Picks.nil | exact Picks.all | refine Picks.cons (by repeat (first | exact Take.here | apply Take.there)) ?_ | apply Picks.skip)) ⟨_, fs3, fp3, rfl, hs3, hc6, hr3, hr4⟩
      · rw [hsm] at H; refine At.v H rfl (wN rfl) rfl rfl rfl (x_move (H.r 17 rfl)) ?_; clear H; intro T H
        refine At.v H rfl (wS H rfl rfl rfl) rfl rfl rfl (x_load (H.r 1 rfl) Try.isAgg67 (H.ext hE.c1 hE.n1)) ?_; clear H; intro T H
        refine At.v H rfl (wS H rfl rfl rfl) rfl rfl rfl (x_move (H.r 8 rfl)) ?_; clear H; intro T H
        refine At.v H rfl (wS H rfl rfl rfl) rfl rfl rfl (x_load (H.r 6 rfl) Try.isAgg3 (by first | exact H.cell (by repeat (first | exact List.mem_cons_self | apply List.mem_cons_of_mem)) _ rfl | exact H.cellR (by repeat (first | exact List.mem_cons_self | apply List.mem_cons_of_mem)) _ rfl)) ?_; clear H; intro T H
        refine At.f0 H rfl (wS H rfl rfl rfl) rfl rfl rfl (args3 (H.r 19 rfl) (H.r 20 rfl) (H.r 21 rfl)) Try.call35 (can ((hE.fr H.fr).op.fr (hE.fr H.fr).fB) hv hmi hzz) ?_; clear H; rintro v22 T w rfl _ H
        refine At.v H rfl (wS H rfl rfl rfl) rfl rfl rfl (x_not (H.r 22 rfl)) ?_; clear H; intro T H
        refine At.v H rfl (wN rfl) rfl rfl rfl (x_pickF (H.r 18 rfl) (H.r 23 rfl)) ?_; clear H; intro T H
        refine At.regionEnd ?_
        refine At.condB (H.r 24 rfl) ?_ ?_
        · intro hc3
          have hcb : canW zz.for_ mi = false := by simpa using hc3
          have hs3 : s = (((ord men).filter p).take (kk + 1)).foldl (stepM (canZ men list) (placeS (canZ men list) ((ord men).filter p) fuel) z) (⟨false, seen, mt⟩ : MSt) := by rw [hst, stepM]; simp [hs2, hsm, hcan, hcb]
          refine At.exit rfl ?_
          first | exact At.leaveN H hlo rfl rfl (by repeat (first | exact Picks.nil | exact Picks.all | refine Picks.cons (by repeat (first | exact Take.here | apply Take.there)) ?_ | apply Picks.skip)) ⟨s, fs1, fp1, rfl, hs3, hs2, hr1, hr2⟩ | exact At.leaveN H hlo rfl rfl (by repeat (first | exact Picks.nil | exact Picks.all | refine Picks.cons (by repeat (first | exact Take.here | apply Take.there)) ?_ | apply Picks.skip)) ⟨_, fs3, fp3, rfl, hs3, hc6, hr3, hr4⟩
        · intro hc3
          have hcb : canW zz.for_ mi = true := by simpa using hc3
          refine At.skip ?_
          refine At.seq ?_
          refine At.region' (l := [0, 1, 2]) rfl ?_
          refine At.v H rfl (wN rfl) rfl rfl rfl (x_load (H.r 3 rfl) Try.isAgg75 (H.ext hE.c3 hE.n3)) ?_; clear H; intro T H
          refine At.v H rfl (wN rfl) rfl rfl rfl (x_move (H.r 8 rfl)) ?_; clear H; intro T H
          refine At.mapPut H rfl (wN rfl) (.inl rfl) rfl (H.r 25 rfl) (H.r 26 rfl) evC Try.runUnderlying75 Try.runUnderlying3 (by repeat (first | exact Upd.here | apply Upd.there)) ?_; clear H; intro T w _ H
          refine At.regionEnd ?_
          refine At.seq ?_
          refine At.region' (l := [0, 1, 2, 3, 4, 5, 6, 7]) rfl ?_
          refine At.v H rfl (wN rfl) rfl rfl rfl (x_load (H.r 4 rfl) Try.isAgg103 (H.ext hE.c4 hE.n4)) ?_; clear H; intro T H
          refine At.v H rfl (wN rfl) rfl rfl rfl (x_move (H.r 8 rfl)) ?_; clear H; intro T H
          refine At.v H rfl (wN rfl) rfl rfl rfl (x_lookOk (H.r 28 rfl) (H.r 29 rfl) Try.runUnderlying103 Try.runUnderlying3 Try.zeroValue3 (H.mpAt (by repeat (first | exact List.mem_cons_self | apply List.mem_cons_of_mem)))) ?_; clear H; intro T H
          rw [hr2 m] at H
          refine At.v H rfl (wN rfl) rfl rfl rfl (x_move (H.r 30 rfl)) ?_; clear H; intro T H
          refine At.v H rfl (wN rfl) rfl rfl rfl (x_extract (H.r 27 rfl) rfl) ?_; clear H; intro T H
          refine At.v H rfl (wN rfl) rfl rfl rfl (x_extract (H.r 27 rfl) rfl) ?_; clear H; intro T H
          refine At.v H rfl (wN rfl) rfl rfl rfl (x_assign (H.r 31 rfl)) ?_; clear H; intro T H
          refine At.v H rfl (wN rfl) rfl rfl rfl (x_assign (H.r 32 rfl)) ?_; clear H; intro T H
          refine At.regionEnd ?_
          refine At.seq ?_
          refine At.region' (l := [0, 1, 2, 3, 4, 5, 6]) rfl ?_
          rcases opt_cases (s.mt m) with ⟨old, hmt1⟩ | hmt1
          · rw [hmt1] at H; refine At.v H rfl (wN rfl) rfl rfl rfl (x_move (H.r 10 rfl)) ?_; clear H; intro T H
            refine At.v H rfl (wN rfl) rfl rfl rfl (x_notT (H.r 33 rfl)) ?_; clear H; intro T H
            refine At.v H rfl (wN rfl) rfl rfl rfl (x_move (H.r 34 rfl)) ?_; clear H; intro T H
            refine At.v H rfl (wS H rfl rfl rfl) rfl rfl rfl (x_load (H.r 5 rfl) Try.isAgg55 (H.ext hE.c5 hE.n5)) ?_; clear H; intro T H
            refine At.v H rfl (wS H rfl rfl rfl) rfl rfl rfl (x_move (H.r 9 rfl)) ?_; clear H; intro T H
            refine At.fV2 (g1 := hs) (g2 := hp) H rfl (wS H rfl rfl rfl) rfl rfl rfl (H.r 36 rfl) (args1 (H.r 37 rfl)) (Picks.cons (by repeat (first | exact Take.here | apply Take.there)) (Picks.cons (by repeat (first | exact Take.here | apply Take.there)) .all)) (CallsV.func ⟨_, Try.func53, rfl, rfl⟩ (ih w (setF s.seen m true) s.mt _ fp1 old (hE.fr H.fr) (H.mpAt (by repeat (first | exact List.mem_cons_self | apply List.mem_cons_of_mem))) (H.mpAt (by repeat (first | exact List.mem_cons_self | apply List.mem_cons_of_mem))) (hr1.set m) hr2 (by have := unseen_set hmlt hsm; omega) (hle.mt m old hmt1) hle.mt)) ?_
            clear H; rintro v38 B1 B2 T w ⟨fs3, fp3, rfl, rfl, rfl, hr3, hr4⟩ H
            refine At.v H rfl (wN rfl) rfl rfl rfl (x_pickF (H.r 35 rfl) (H.r 38 rfl)) ?_; clear H; intro T H
            refine At.regionEnd ?_
            refine At.condB (H.r 39 rfl) ?_ ?_
            · intro hc6
              have hfin := foldM_end (can := canZ men list) (rec := placeS (canZ men list) ((ord men).filter p) fuel) (k := kk + 1) (t := ⟨true, (placeS (canZ men list) ((ord men).filter p) fuel old (setF s.seen m true) s.mt).seen, setF (placeS (canZ men list) ((ord men).filter p) fuel old (setF s.seen m true) s.mt).mt m (some z)⟩) (by rw [hst, stepM]; simp [hs2, hsm, hcan, hcb, hmt1, hc6]) rfl
              have hq1 := hr3
              have hq2 := hr4.set m z
              refine At.seq ?_
              refine At.region' (l := [0, 1, 2, 3]) rfl ?_
              refine At.v H rfl (wN rfl) rfl rfl rfl (x_load (H.r 4 rfl) Try.isAgg103 (H.ext hE.c4 hE.n4)) ?_; clear H; intro T H
              refine At.v H rfl (wN rfl) rfl rfl rfl (x_move (H.r 8 rfl)) ?_; clear H; intro T H
              refine At.v H rfl (wN rfl) rfl rfl rfl (x_load (H.r 6 rfl) Try.isAgg3 (by first | exact H.cell (by repeat (first | exact List.mem_cons_self | apply List.mem_cons_of_mem)) _ rfl | exact H.cellR (by repeat (first | exact List.mem_cons_self | apply List.mem_cons_of_mem)) _ rfl)) ?_; clear H; intro T H
              refine At.mapPut H rfl (wN rfl) (.inl rfl) rfl (H.r 40 rfl) (H.r 41 rfl) (H.r 42 rfl) Try.runUnderlying103 Try.runUnderlying3 (by repeat (first | exact Upd.here | apply Upd.there)) ?_; clear H; intro T w _ H
              refine At.regionEnd ?_
              refine At.seq ?_
              refine At.region' (l := [0]) rfl ?_
              refine At.store1 H rfl (wN rfl) rfl rfl (H.r 7 rfl) evC Try.sizeOf4 rfl rfl (by repeat (first | exact Upd.here | apply Upd.there)) (by repeat (first | exact SetAt.z | apply SetAt.s)) ?_; clear H; intro T w _ H
              refine At.regionEnd ?_
              exact At.leaveRet H hlo rfl rfl (by repeat (first | exact Picks.nil | exact Picks.all | refine Picks.cons (by repeat (first | exact Take.here | apply Take.there)) ?_ | apply Picks.skip)) ⟨rfl, _, _, _, rfl, hfin.symm, rfl, hq1, hq2⟩
            · intro hc6
              have hs3 : placeS (canZ men list) ((ord men).filter p) fuel old (setF s.seen m true) s.mt = (((ord men).filter p).take (kk + 1)).foldl (stepM (canZ men list) (placeS (canZ men list) ((ord men).filter p) fuel) z) (⟨false, seen, mt⟩ : MSt) := by rw [hst, stepM]; simp [hs2, hsm, hcan, hcb, hmt1, hc6]
              refine At.skip ?_
              refine At.inBlock ?_
              first | exact At.leaveN H hlo rfl rfl (by repeat (first | exact Picks.nil | exact Picks.all | refine Picks.cons (by repeat (first | exact Take.here | apply Take.there)) ?_ | apply Picks.skip)) ⟨s, fs1, fp1, rfl, hs3, hs2, hr1, hr2⟩ | exact At.leaveN H hlo rfl rfl (by repeat (first | exact Picks.nil | exact Picks.all | refine Picks.cons (by repeat (first | exact Take.here | apply Take.there)) ?_ | apply Picks.skip)) ⟨_, fs3, fp3, rfl, hs3, hc6, hr3, hr4⟩
          · rw [hmt1] at H; refine At.v H rfl (wN rfl) rfl rfl rfl (x_move (H.r 10 rfl)) ?_; clear H; intro T H
            have hfin := foldM_end (can := canZ men list) (rec := placeS (canZ men list) ((ord men).filter p) fuel) (k := kk + 1) (t := ⟨true, setF s.seen m true, setF s.mt m (some z)⟩) (by rw [hst, stepM]; simp [hs2, hsm, hcan, hcb, hmt1]) rfl
            have hq1 := hr1.set m
            have hq2 := hr2.set m z
            refine At.v H rfl (wN rfl) rfl rfl rfl (x_notF (H.r 33 rfl)) ?_; clear H; intro T H
            refine At.v H rfl (wN rfl) rfl rfl rfl (x_move (H.r 34 rfl)) ?_; clear H; intro T H
            refine At.u H rfl (wU H rfl rfl rfl rfl) rfl rfl ?_; clear H; intro T H
            refine At.u H rfl (wU H rfl rfl rfl rfl) rfl rfl ?_; clear H; intro T H
            refine At.u H rfl (wU H rfl rfl rfl rfl) rfl rfl ?_; clear H; intro T H
            refine At.v H rfl (wN rfl) rfl rfl rfl (x_pickT (H.r 35 rfl) evC) ?_; clear H; intro T H
            refine At.regionEnd ?_
            refine At.condT (H.r 39 rfl) ?_
            refine At.seq ?_
            refine At.region' (l := [0, 1, 2, 3]) rfl ?_
            refine At.v H rfl (wN rfl) rfl rfl rfl (x_load (H.r 4 rfl) Try.isAgg103 (H.ext hE.c4 hE.n4)) ?_; clear H; intro T H
            refine At.v H rfl (wN rfl) rfl rfl rfl (x_move (H.r 8 rfl)) ?_; clear H; intro T H
            refine At.v H rfl (wN rfl) rfl rfl rfl (x_load (H.r 6 rfl) Try.isAgg3 (by first | exact H.cell (by repeat (first | exact List.mem_cons_self | apply List.mem_cons_of_mem)) _ rfl | exact H.cellR (by repeat (first | exact List.mem_cons_self | apply List.mem_cons_of_mem)) _ rfl)) ?_; clear H; intro T H
            refine At.mapPut H rfl (wN rfl) (.inl rfl) rfl (H.r 40 rfl) (H.r 41 rfl) (H.r 42 rfl) Try.runUnderlying103 Try.runUnderlying3 (by repeat (first | exact Upd.here | apply Upd.there)) ?_; clear H; intro T w _ H
            refine At.regionEnd ?_
            refine At.seq ?_
            refine At.region' (l := [0]) rfl ?_
            refine At.store1 H rfl (wN rfl) rfl rfl (H.r 7 rfl) evC Try.sizeOf4 rfl rfl (by repeat (first | exact Upd.here | apply Upd.there)) (by repeat (first | exact SetAt.z | apply SetAt.s)) ?_; clear H; intro T w _ H
            refine At.regionEnd ?_
            exact At.leaveRet H hlo rfl rfl (by repeat (first | exact Picks.nil | exact Picks.all | refine Picks.cons (by repeat (first | exact Take.here | apply Take.there)) ?_ | apply Picks.skip)) ⟨rfl, _, _, _, rfl, hfin.symm, rfl, hq1, hq2⟩
    · clear H; intro d1 G1 w hI1 H
      obtain ⟨s, fs1, fp1, rfl, hs1, hs2, hr1, hr2⟩ := hI1
      rw [intV_len, List.take_length] at hs1
      refine At.inBlock ?_
      refine At.seq ?_
      refine At.region' (l := [0]) rfl ?_
      refine At.store1 H rfl (wN rfl) rfl rfl (H.r 7 rfl) evC Try.sizeOf4 rfl rfl (by repeat (first | exact Upd.here | apply Upd.there)) (by repeat (first | exact SetAt.z | apply SetAt.s)) ?_; clear H; intro T w _ H
      refine At.regionEnd ?_
      refine At.ret rfl ?_
      have hpl : placeS (canZ men list) ((ord men).filter p) (fuel + 1) z seen mt = s := hs1.symm
      exact Lea.coll1 H .all (fun w H => lea Try.func53 (resL1 Try.results53 (.cell (H.r 7 rfl) Try.isAgg4 (H.cell (by repeat (first | exact List.mem_cons_self | apply List.mem_cons_of_mem)) 0 rfl) .nil)) ⟨_, _, _, rfl, H.fr, H.mpAt (g := hs) (by repeat (first | exact List.mem_cons_self | apply List.mem_cons_of_mem)), H.mpAt (g := hp) (by repeat (first | exact List.mem_cons_self | apply List.mem_cons_of_mem)), fs1, fp1, by rw [hpl, hs2]; rfl, rfl, rfl, by rw [hpl]; exact hr1, by rw [hpl]; exact hr2⟩)
    · clear H; intro d1 c1 G1 w hI1 H
      obtain ⟨rfl, s, fs1, fp1, rfl, hs1, hs2, hr1, hr2⟩ := hI1
      refine At.ret rfl ?_
      have hpl : placeS (canZ men list) ((ord men).filter p) (fuel + 1) z seen mt = s := hs1.symm
      exact Lea.coll1 H .all (fun w H => lea Try.func53 (resL1 Try.results53 (.cell (H.r 7 rfl) Try.isAgg4 (H.cell (by repeat (first | exact List.mem_cons_self | apply List.mem_cons_of_mem)) 0 rfl) .nil)) ⟨_, _, _, rfl, H.fr, H.mpAt (g := hs) (by repeat (first | exact List.mem_cons_self | apply List.mem_cons_of_mem)), H.mpAt (g := hp) (by repeat (first | exact List.mem_cons_self | apply List.mem_cons_of_mem)), fs1, fp1, by rw [hpl, hs2]; rfl, rfl, rfl, by rw [hpl]; exact hr1, by rw [hpl]; exact hr2⟩)
end Go.Proofs.Pz
end
section
namespace Go.Proofs.Pz
open Go.Sx Go.RowKit
set_option linter.unusedVariables false
namespace AC
theorem fa25_1 (a : Addr) (w : World) : (Instr.fieldAt 25 (.pointer (some a)) 1).run Try.prog w = .ok (.pointer (some (a.add 1))) w := by simp [go_sem]
theorem fa80_0 (a : Addr) (w : World) : (Instr.fieldAt 80 (.pointer (some a)) 0).run Try.prog w = .ok (.pointer (some (a.add 0))) w := by simp [go_sem]
end AC
open AC
attribute [local irreducible] placeS mostS
theorem leftN {h : Nat} {f : Int → Option Value} {w : World} (hm : ∃ o, w.heap[h]? = some o ∧ Mp f o) {m : Int} {c : Bool} (hs : (f m).getD (.bool false) = .bool c) : Calls Try.prog 41 #[.map (some h), .int .i64 m] w (Ret w fun v _ => v = .bool (!c)) := by
  refine enter (args := [.map (some h), .int .i64 m]) (S := []) Try.func41 rfl Try.ntmps41 rfl fun cs T H => ?_
  refine At.seq ?_
  refine At.region' (l := [0]) rfl ?_
  refine At.v H rfl (wN rfl) rfl rfl rfl (x_assign evC) ?_; clear H; intro T H
  refine At.regionEnd ?_
  refine At.seq ?_
  refine At.region' (l := [0, 1, 2, 3, 4]) rfl ?_
  refine At.v H rfl (wN rfl) rfl rfl rfl (x_move (H.r 0 rfl)) ?_; clear H; intro T H
  refine At.v H rfl (wN rfl) rfl rfl rfl (x_move (H.r 1 rfl)) ?_; clear H; intro T H
  refine At.v H rfl (wN rfl) rfl rfl rfl (x_look (H.r 5 rfl) (H.r 6 rfl) Try.runUnderlying75 Try.runUnderlying3 Try.zeroValue4 hm) ?_; clear H; intro T H
  rw [hs] at H
  refine At.v H rfl (wN rfl) rfl rfl rfl (x_not (H.r 7 rfl)) ?_; clear H; intro T H
  refine At.v H rfl (wN rfl) rfl rfl rfl (x_assign (H.r 8 rfl)) ?_; clear H; intro T H
  refine At.regionEnd ?_
  refine At.ret rfl ?_
  exact lea Try.func41 (res1 Try.results41 (H.r 4 rfl)) (Ret.mk H.fr rfl)
theorem leftN_isP {n h : Nat} {f : Int → Option Value} {s : Nat → Bool} {w : World} (hm : ∃ o, w.heap[h]? = some o ∧ Mp f o) (hs : RepS f s) : IsP n (.func (.func 41) #[.map (some h)] #[]) (fun m => !s m) w :=
  fun w' hf m _ => CallsV.func ⟨_, Try.func41, rfl, rfl⟩ (leftN (by obtain ⟨o, h1, h2⟩ := hm; exact ⟨o, hf.heap h1 (by simp), h2⟩) (hs m))
theorem most {b : Nat} {men : List Wi} {list : List Zi} {w0 : World} (hO : Op w0 b men list) (hv : Valid men list) {p : Nat → Bool} {isV : Value} (hp : IsP men.length isV p w0) (hc1 : isV.cells = #[isV]) (a : Nat) (ha : a ≤ list.length) :
    Calls Try.prog 40 #[.pointer (some ⟨b, 0, none⟩), .int .i64 (a : Int), isV] w0 (Ret w0 fun v _ => v = .int .i64 ((mostS (canZ men list) ((ord men).filter p) (List.range' a (list.length - a))).1 : Int)) := by
  obtain ⟨AM, cM, bM, oM, AL, cL, bL, oL, mw, hb, hmw, hM, hL⟩ := id hO
  have hbL : w0.cell? ⟨b, 1, none⟩ = some (.slice AL list.length cL) := by rw [cell_of_row _ _ _ _ _ _ hb]; rfl
  have hl6 := hv.l6
  have hn8 := hv.n8
  refine enter (args := [.pointer (some ⟨b, 0, none⟩), .int .i64 (a : Int), isV]) (S := []) Try.func40 rfl Try.ntmps40 rfl fun cs T H => ?_
  refine At.seq ?_
  refine At.region' (l := [0, 1, 2]) rfl ?_
  refine At.new H rfl (wN rfl) rfl rfl rfl (x_box (H.r 0 rfl) rfl) ?_; clear H; intro b3 T w _ _ H
  refine At.new H rfl (wN rfl) rfl rfl rfl (x_box (l := [isV]) (H.r 2 rfl) hc1) ?_; clear H; intro b5 T w _ _ H
  refine At.v H rfl (wN rfl) rfl rfl rfl (x_assign evC) ?_; clear H; intro T H
  refine At.regionEnd ?_
  refine At.seq ?_
  refine At.region' (l := [0, 1, 2]) rfl ?_
  refine At.newObj (f := fun n => .map (some n)) H rfl (wN rfl) rfl rfl rfl x_makeMap ?_; clear H; intro b11 T w _ _ H
  replace H := H.weaken (g := b11) (by repeat (first | exact Take.here | apply Take.there)) Mp.ofNil
  refine At.new H rfl (wN rfl) rfl rfl rfl (x_alloc Try.zeroValue103 rfl) ?_; clear H; intro b7 T w _ _ H
  refine At.store1 H rfl (wN rfl) rfl rfl (H.r 7 rfl) (H.r 11 rfl) Try.sizeOf103 rfl rfl (by repeat (first | exact Upd.here | apply Upd.there)) (by repeat (first | exact SetAt.z | apply SetAt.s)) ?_; clear H; intro T w _ H
  refine At.regionEnd ?_
  refine At.seq ?_
  refine At.seq ?_
  refine At.region' (l := [0, 1]) rfl ?_
  refine At.v H rfl (wN rfl) rfl rfl rfl (x_move (H.r 1 rfl)) ?_; clear H; intro T H
  refine At.v H rfl (wN rfl) rfl rfl rfl (x_assign (H.r 12 rfl)) ?_; clear H; intro T H
  refine At.regionEnd ?_
  refine At.block ?_
  refine At.loopN (fun m T w => ∃ (k : Nat) (fp : Int → Option Value), m = list.length - k ∧ a ≤ k ∧ k ≤ list.length ∧ RepP fp (mostS (canZ men list) ((ord men).filter p) (List.range' a (k - a))).2 ∧ Sx w0 [] 31 [(8, .int .i64 (k : Int)), (7, .pointer (some ⟨b7, 0, none⟩)), (6, .int .i64 ((mostS (canZ men list) ((ord men).filter p) (List.range' a (k - a))).1 : Int)), (5, .pointer (some ⟨b5, 0, none⟩)), (3, .pointer (some ⟨b3, 0, none⟩))] [.blk b11 (Mp fp), .blk b7 (Eo (.cells [.map (some b11)].toArray 103 (0, 0))), .blk b5 (Eo (.cells [isV].toArray 55 (0, 0))), .blk b3 (Eo (.cells [.pointer (some ⟨b, 0, none⟩)].toArray 67 (0, 0)))] T w) (list.length - a) ?_ ?_
  · have hm0 : mostS (canZ men list) ((ord men).filter p) [] = (0, fun _ => none) := by unfold mostS; rfl
    exact ⟨a, fun _ => none, rfl, Nat.le_refl _, ha, by rw [Nat.sub_self]; rw [show List.range' a 0 = [] from rfl, hm0]; exact RepP.nil, by rw [Nat.sub_self, show List.range' a 0 = [] from rfl, hm0]; exact (H.pk (by repeat (first | exact Pk.nil | exact Pk.all | refine Pk.cons (by repeat (first | exact Take.here | apply Take.there)) ?_ | apply Pk.skip))).sub ⟨rfl, rfl, rfl, rfl, rfl, trivial⟩⟩
  · clear H
    rintro n T w ⟨k, fp, rfl, hak, hk, hrp, H⟩ hnext
    have hml := mostS_le (canZ men list) ((ord men).filter p) list.length (List.range' a (k - a)) (fun x hx => by rw [List.mem_range'_1] at hx; omega)
    rw [List.length_range'] at hml
    have hms0 := fun (h : k < list.length) => mostS_snoc (canZ men list) ((ord men).filter p) (List.range' a (k - a)) k
    rw [← range'_snoc a k hak] at hms0
    generalize hcm : (mostS (canZ men list) ((ord men).filter p) (List.range' a (k - a))) = cm at hrp H hml hms0
    refine At.seq ?_
    refine At.seq ?_
    refine At.region' (l := [0, 1, 2, 3, 4, 5, 6, 7]) rfl ?_
    refine At.v H rfl (wN rfl) rfl rfl rfl (x_move (H.r 8 rfl)) ?_; clear H; intro T H
    refine At.v H rfl (wN rfl) rfl rfl rfl (x_load (H.r 3 rfl) Try.isAgg67 (by first | exact H.cell (by repeat (first | exact List.mem_cons_self | apply List.mem_cons_of_mem)) _ rfl | exact H.cellR (by repeat (first | exact List.mem_cons_self | apply List.mem_cons_of_mem)) _ rfl)) ?_; clear H; intro T H
    refine At.v H rfl (wN rfl) rfl rfl rfl (x_nil (H.r 14 rfl)) ?_; clear H; intro T H
    refine At.v H rfl (wN rfl) rfl rfl rfl (x_fieldAddr (H.r 15 rfl) fa80_0) ?_; clear H; intro T H
    refine At.v H rfl (wN rfl) rfl rfl rfl (x_fieldAddr (H.r 16 rfl) fa25_1) ?_; clear H; intro T H
    refine At.v H rfl (wN rfl) rfl rfl rfl (x_load (H.r 17 rfl) Try.isAgg23 (H.ext hbL (by simp))) ?_; clear H; intro T H
    refine At.v H rfl (wN rfl) rfl rfl rfl (x_len (H.r 18 rfl) Try.runUnderlying23) ?_; clear H; intro T H
    refine At.c H rfl (wN rfl) rfl rfl rfl (x_lss (H.r 13 rfl) (H.r 19 rfl)) ?_ ?_
    · clear H; intro h20 T H
      have hk1 : k < list.length := by omega
      replace hms0 := hms0 hk1
      refine At.regionEnd ?_
      refine At.condT (H.r 20 rfl) ?_
      refine At.skip ?_
      refine At.seq ?_
      refine At.block ?_
      refine At.seq ?_
      refine At.region' (l := [0, 1, 2]) rfl ?_
      refine At.newObj (f := fun n => .map (some n)) H rfl (wN rfl) rfl rfl rfl x_makeMap ?_; clear H; intro b23 T w _ _ H
      replace H := H.weaken (g := b23) (by repeat (first | exact Take.here | apply Take.there)) Mp.ofNil
      refine At.new H rfl (wN rfl) rfl rfl rfl (x_alloc Try.zeroValue75 rfl) ?_; clear H; intro b9 T w _ _ H
      refine At.store1 H rfl (wN rfl) rfl rfl (H.r 9 rfl) (H.r 23 rfl) Try.sizeOf75 rfl rfl (by repeat (first | exact Upd.here | apply Upd.there)) (by repeat (first | exact SetAt.z | apply SetAt.s)) ?_; clear H; intro T w _ H
      refine At.regionEnd ?_
      refine At.seq ?_
      refine At.region' (l := [0]) rfl ?_
      refine At.new H rfl (wN rfl) rfl rfl rfl (x_alloc Try.zeroValue55 rfl) ?_; clear H; intro b10 T w _ _ H
      refine At.regionEnd ?_
      refine At.seq ?_
      refine At.region' (l := [0, 1]) rfl ?_
      refine At.v H rfl (wN rfl) rfl rfl rfl (x_makeFunc args0 (args5 (H.r 3 rfl) (H.r 5 rfl) (H.r 9 rfl) (H.r 7 rfl) (H.r 10 rfl))) ?_; clear H; intro T H
      refine At.store1 H rfl (wN rfl) rfl rfl (H.r 10 rfl) (H.r 24 rfl) Try.sizeOf55 rfl rfl (by repeat (first | exact Upd.here | apply Upd.there)) (by repeat (first | exact SetAt.z | apply SetAt.s)) ?_; clear H; intro T w _ H
      refine At.regionEnd ?_
      refine At.seq ?_
      refine At.region' (l := [0, 1, 2]) rfl ?_
      refine At.v H rfl (wN rfl) rfl rfl rfl (x_load (H.r 10 rfl) Try.isAgg55 (by first | exact H.cell (by repeat (first | exact List.mem_cons_self | apply List.mem_cons_of_mem)) _ rfl | exact H.cellR (by repeat (first | exact List.mem_cons_self | apply List.mem_cons_of_mem)) _ rfl)) ?_; clear H; intro T H
      refine At.v H rfl (wN rfl) rfl rfl rfl (x_move (H.r 8 rfl)) ?_; clear H; intro T H
      have hne : b23 ≠ b11 := H.ne1 (by repeat (first | exact Take.here | apply Take.there)) (g1 := b11) (by repeat (first | exact List.mem_cons_self | apply List.mem_cons_of_mem))
      have hn1 : b3 ∉ [b23, b11] := H.ne2 (by repeat (first | exact Take.here | apply Take.there)) (g1 := b23) (g2 := b11) (by repeat (first | exact List.mem_cons_self | apply List.mem_cons_of_mem)) (by repeat (first | exact List.mem_cons_self | apply List.mem_cons_of_mem))
      have hn2 : b5 ∉ [b23, b11] := H.ne2 (by repeat (first | exact Take.here | apply Take.there)) (g1 := b23) (g2 := b11) (by repeat (first | exact List.mem_cons_self | apply List.mem_cons_of_mem)) (by repeat (first | exact List.mem_cons_self | apply List.mem_cons_of_mem))
      have hn3 : b9 ∉ [b23, b11] := H.ne2 (by repeat (first | exact Take.here | apply Take.there)) (g1 := b23) (g2 := b11) (by repeat (first | exact List.mem_cons_self | apply List.mem_cons_of_mem)) (by repeat (first | exact List.mem_cons_self | apply List.mem_cons_of_mem))
      have hn4 : b7 ∉ [b23, b11] := H.ne2 (by repeat (first | exact Take.here | apply Take.there)) (g1 := b23) (g2 := b11) (by repeat (first | exact List.mem_cons_self | apply List.mem_cons_of_mem)) (by repeat (first | exact List.mem_cons_self | apply List.mem_cons_of_mem))
      have hn5 : b10 ∉ [b23, b11] := H.ne2 (by repeat (first | exact Take.here | apply Take.there)) (g1 := b23) (g2 := b11) (by repeat (first | exact List.mem_cons_self | apply List.mem_cons_of_mem)) (by repeat (first | exact List.mem_cons_self | apply List.mem_cons_of_mem))
      have hl1 := H.ownGe (g := b23) (by repeat (first | exact List.mem_cons_self | apply List.mem_cons_of_mem))
      have hl2 := H.ownGe (g := b11) (by repeat (first | exact List.mem_cons_self | apply List.mem_cons_of_mem))
      have hpe : PlEnv men list b isV p b3 b5 b9 b7 b10 b23 b11 w0 w := ⟨hO, H.fr, hp, hl1, hl2, hne, hn1, hn2, hn3, hn4, hn5, H.cell (by repeat (first | exact List.mem_cons_self | apply List.mem_cons_of_mem)) 0 rfl, H.cell (by repeat (first | exact List.mem_cons_self | apply List.mem_cons_of_mem)) 0 rfl, H.cell (by repeat (first | exact List.mem_cons_self | apply List.mem_cons_of_mem)) 0 rfl, H.cell (by repeat (first | exact List.mem_cons_self | apply List.mem_cons_of_mem)) 0 rfl, H.cell (by repeat (first | exact List.mem_cons_self | apply List.mem_cons_of_mem)) 0 rfl⟩
      have hcl := place hv hc1 9 w (fun _ => false) cm.2 (fun _ => none) fp k hpe (H.mpAt (by repeat (first | exact List.mem_cons_self | apply List.mem_cons_of_mem))) (H.mpAt (by repeat (first | exact List.mem_cons_self | apply List.mem_cons_of_mem))) RepS.nil hrp (by have := unseen_le men.length (fun _ => false); omega) hk1 hml.2
      refine At.fV2 (g1 := b23) (g2 := b11) H rfl (wN rfl) rfl rfl rfl (H.r 25 rfl) (args1 (H.r 26 rfl)) (Picks.cons (by repeat (first | exact Take.here | apply Take.there)) (Picks.cons (by repeat (first | exact Take.here | apply Take.there)) .all)) (CallsV.func ⟨_, Try.func53, rfl, rfl⟩ hcl) ?_
      clear H; rintro v27 B1 B2 T w ⟨fs3, fp3, rfl, rfl, rfl, hr3, hr4⟩ H
      refine At.regionEnd ?_
      refine At.condB (H.r 27 rfl) ?_ ?_
      · intro hc8
        have hms : mostS (canZ men list) ((ord men).filter p) (List.range' a (k + 1 - a)) = (cm.1 + 1, (placeS (canZ men list) ((ord men).filter p) 9 k (fun _ => false) cm.2).mt) := by rw [hms0]; simp only [hc8, if_true]
        refine At.region' (l := [0, 1, 2]) rfl ?_
        refine At.v H rfl (wN rfl) rfl rfl rfl (x_move (H.r 6 rfl)) ?_; clear H; intro T H
        refine At.v H rfl (wN rfl) rfl rfl rfl (x_add (H.r 28 rfl) evC (w64 (by omega) (by omega))) ?_; clear H; intro T H
        refine At.v H rfl (wN rfl) rfl rfl rfl (x_assign (H.r 29 rfl)) ?_; clear H; intro T H
        refine At.regionEnd ?_
        refine At.inBlock ?_
        refine At.region' (l := [0, 1, 2]) rfl ?_
        refine At.v H rfl (wN rfl) rfl rfl rfl (x_move (H.r 8 rfl)) ?_; clear H; intro T H
        refine At.v H rfl (wN rfl) rfl rfl rfl (x_add (H.r 21 rfl) evC (w64 (by omega) (by omega))) ?_; clear H; intro T H
        refine At.v H rfl (wN rfl) rfl rfl rfl (x_assign (H.r 22 rfl)) ?_; clear H; intro T H
        refine At.regionEnd ?_
        exact hnext (list.length - (k + 1)) _ _ (by omega) ⟨k + 1, _, rfl, by omega, by omega, by rw [hms]; exact hr4, by rw [hms]; exact (H.pk (by repeat (first | exact Pk.nil | exact Pk.all | refine Pk.cons (by repeat (first | exact Take.here | apply Take.there)) ?_ | apply Pk.skip))).sub ⟨rfl, rfl, rfl, rfl, rfl, trivial⟩⟩
      · intro hc8
        have hms : mostS (canZ men list) ((ord men).filter p) (List.range' a (k + 1 - a)) = (cm.1, (placeS (canZ men list) ((ord men).filter p) 9 k (fun _ => false) cm.2).mt) := by rw [hms0]; simp only [hc8, Bool.false_eq_true, if_false]
        refine At.skip ?_
        refine At.inBlock ?_
        refine At.region' (l := [0, 1, 2]) rfl ?_
        refine At.v H rfl (wN rfl) rfl rfl rfl (x_move (H.r 8 rfl)) ?_; clear H; intro T H
        refine At.v H rfl (wN rfl) rfl rfl rfl (x_add (H.r 21 rfl) evC (w64 (by omega) (by omega))) ?_; clear H; intro T H
        refine At.v H rfl (wN rfl) rfl rfl rfl (x_assign (H.r 22 rfl)) ?_; clear H; intro T H
        refine At.regionEnd ?_
        exact hnext (list.length - (k + 1)) _ _ (by omega) ⟨k + 1, _, rfl, by omega, by omega, by rw [hms]; exact hr4, by rw [hms]; exact (H.pk (by repeat (first | exact Pk.nil | exact Pk.all | refine Pk.cons (by repeat (first | exact Take.here | apply Take.there)) ?_ | apply Pk.skip))).sub ⟨rfl, rfl, rfl, rfl, rfl, trivial⟩⟩
    · clear H; intro h20 T H
      refine At.regionEnd ?_
      refine At.condF (H.r 20 rfl) ?_
      refine At.exit rfl ?_
      refine At.seq ?_
      refine At.region' (l := [0, 1]) rfl ?_
      refine At.v H rfl (wN rfl) rfl rfl rfl (x_move (H.r 6 rfl)) ?_; clear H; intro T H
      refine At.v H rfl (wN rfl) rfl rfl rfl (x_assign (H.r 30 rfl)) ?_; clear H; intro T H
      refine At.regionEnd ?_
      refine At.ret rfl ?_
      obtain rfl : k = list.length := by omega
      exact lea Try.func40 (res1 Try.results40 (H.r 6 rfl)) (Ret.mk H.fr (by rw [hcm]))
end Go.Proofs.Pz
end
