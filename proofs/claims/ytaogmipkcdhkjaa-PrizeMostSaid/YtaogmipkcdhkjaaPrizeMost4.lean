/- A part of the proof that proves PrizeMost: for every input the statement returns true and its arguments read as before. No conditions. -/
import Derived.Test.YtaogmipkcdhkjaaPrizeMost1
import Derived.Test.YtaogmipkcdhkjaaPrizeMost2
import Derived.Test.YtaogmipkcdhkjaaPrizeMost3
import Derived.ProofKit
import Derived.Deep.Slices
import Derived.Lib.SmallJoins
import Derived.Test.YtaogmipkcdhkjaaRows
section
namespace Go.Proofs.Pz
open Go.Sx Go.RowKit
set_option linter.unusedVariables false
namespace AK

end AK
open AK
def sampM : List Wi := [⟨2, 1, false, false⟩, ⟨1, 2, false, false⟩, ⟨3, 1, true, false⟩, ⟨5, 0, true, true⟩, ⟨4, 2, false, true⟩]
def sampL : List Zi := [⟨0, 100⟩, ⟨1, 50⟩, ⟨4, 80⟩, ⟨2, 40⟩, ⟨3, 20⟩]
theorem sampV : Valid sampM sampL := ⟨by decide, by decide, by decide, by decide, by decide, by decide, by decide⟩
theorem sample (w0 : World) : Calls Try.prog 29 #[] w0 (RetG w0 fun v E _ => ∃ g1 g2, v = .agg #[.slice (some ⟨g1, 0, none⟩) 5 5, .slice (some ⟨g2, 0, none⟩) 5 5] ∧ E = [.row (.slice (some ⟨g1, 0, none⟩) 5 5) 59 4 5 (sampM.flatMap encW), .row (.slice (some ⟨g2, 0, none⟩) 5 5) 42 2 5 (sampL.flatMap encZ)]) := by
  refine enter (args := []) (S := []) Try.func29 rfl Try.ntmps29 rfl fun cs T H => ?_
  refine At.seq ?_
  refine At.region' (l := [0]) rfl ?_
  refine At.new H rfl (wN rfl) rfl rfl rfl (x_alloc Try.zeroValue25 rfl) ?_; clear H; intro b0 T w _ _ H
  refine At.regionEnd ?_
  refine At.seq ?_
  refine At.region' (l := [0, 1, 2, 3, 4, 5, 6, 7, 8, 9, 10, 11, 12, 13]) rfl ?_
  refine At.v (v := ?v1_1) H rfl (wN rfl) rfl rfl rfl (x_build2 evC evC ?r1_1) ?_
  case r1_1 => (simp [go_sem]; rfl)
  clear H; intro T H
  refine At.v (v := ?v2_2) H rfl (wN rfl) rfl rfl rfl (x_build2 evC evC ?r2_2) ?_
  case r2_2 => (simp [go_sem]; rfl)
  clear H; intro T H
  refine At.v (v := ?v3_3) H rfl (wN rfl) rfl rfl rfl (x_build3 evC evC evC ?r3_3) ?_
  case r3_3 => (simp [go_sem]; rfl)
  clear H; intro T H
  refine At.v (v := ?v4_4) H rfl (wN rfl) rfl rfl rfl (x_build3 evC evC evC ?r4_4) ?_
  case r4_4 => (simp [go_sem]; rfl)
  clear H; intro T H
  refine At.v (v := ?v5_5) H rfl (wN rfl) rfl rfl rfl (x_build3 evC evC evC ?r5_5) ?_
  case r5_5 => (simp [go_sem]; rfl)
  clear H; intro T H
  refine At.bs (n := 5) (L := ?l6_6) (e := ?e6_6) H rfl (wN rfl) rfl rfl rfl (x_bs5 (H.r 1 rfl) (H.r 2 rfl) (H.r 3 rfl) (H.r 4 rfl) (H.r 5 rfl) ?r6_6) ?_
  case r6_6 => (simp [go_sem]; rfl)
  clear H; intro b6 T w H
  replace H := H.toRow (n := 5) (sz := 4) (e := 59) (by repeat (first | exact Take.here | apply Take.there)) rfl (by decide)
  refine At.v (v := ?v7_7) H rfl (wN rfl) rfl rfl rfl (x_build2 evC evC ?r7_7) ?_
  case r7_7 => (simp [go_sem]; rfl)
  clear H; intro T H
  refine At.v (v := ?v8_8) H rfl (wN rfl) rfl rfl rfl (x_build2 evC evC ?r8_8) ?_
  case r8_8 => (simp [go_sem]; rfl)
  clear H; intro T H
  refine At.v (v := ?v9_9) H rfl (wN rfl) rfl rfl rfl (x_build2 evC evC ?r9_9) ?_
  case r9_9 => (simp [go_sem]; rfl)
  clear H; intro T H
  refine At.v (v := ?v10_10) H rfl (wN rfl) rfl rfl rfl (x_build2 evC evC ?r10_10) ?_
  case r10_10 => (simp [go_sem]; rfl)
  clear H; intro T H
  refine At.v (v := ?v11_11) H rfl (wN rfl) rfl rfl rfl (x_build2 evC evC ?r11_11) ?_
  case r11_11 => (simp [go_sem]; rfl)
  clear H; intro T H
  refine At.bs (n := 5) (L := ?l12_12) (e := ?e12_12) H rfl (wN rfl) rfl rfl rfl (x_bs5 (H.r 7 rfl) (H.r 8 rfl) (H.r 9 rfl) (H.r 10 rfl) (H.r 11 rfl) ?r12_12) ?_
  case r12_12 => (simp [go_sem]; rfl)
  clear H; intro b12 T w H
  replace H := H.toRow (n := 5) (sz := 2) (e := 42) (by repeat (first | exact Take.here | apply Take.there)) rfl (by decide)
  refine At.v (v := ?v13_13) H rfl (wN rfl) rfl rfl rfl (x_build2 (H.r 6 rfl) (H.r 12 rfl) ?r13_13) ?_
  case r13_13 => (simp [go_sem]; rfl)
  clear H; intro T H
  refine At.storeA H rfl (wN rfl) rfl rfl (H.r 0 rfl) (H.r 13 rfl) Try.sizeOf25 (List.all_eq_true.1 rfl) (by repeat (first | exact Upd.here | apply Upd.there)) (by rfl) ?_; clear H; intro T w _ H
  refine At.regionEnd ?_
  refine At.ret rfl ?_
  exact lea Try.func29 (resL1 Try.results29 (.cellA (H.r 0 rfl) Try.isAgg25 Try.sizeOf25 (H.cellsAt (n := 2) (by repeat (first | exact List.mem_cons_self | apply List.mem_cons_of_mem)) rfl) rfl .nil)) (RetG.of (H.pk (G' := [.row (.slice (some ⟨b6, 0, none⟩) 5 5) 59 4 5 (sampM.flatMap encW), .row (.slice (some ⟨b12, 0, none⟩) 5 5) 42 2 5 (sampL.flatMap encZ)]) (by repeat (first | exact Pk.nil | exact Pk.all | refine Pk.cons (by repeat (first | exact Take.here | apply Take.there)) ?_ | apply Pk.skip))) [.row (.slice (some ⟨b6, 0, none⟩) 5 5) 59 4 5 (sampM.flatMap encW), .row (.slice (some ⟨b12, 0, none⟩) 5 5) 42 2 5 (sampL.flatMap encZ)] (List.Sublist.refl _) (by simp [Ent.w, Ent.keys]) (⟨b6, b12, rfl, rfl⟩))
theorem sDue : dueL sampM sampL = [some 1, some 2, some 0, some 4, some 3] := by decide +kernel
theorem sWrong : firstD (dueL sampM sampL) [some 1, some 2, some 0, some 4, none] = some 4 := by decide +kernel
theorem sGiv : GivOK sampM sampL [some 1, some 2, some 0, some 4, none] := by
  refine ⟨rfl, fun m hm => ?_, fun k m h => ?_⟩
  · simp at hm; show m < 5; omega
  · rcases k with _ | _ | _ | _ | _ | k
    all_goals first | (simp at h; done) | (simp at h; subst h; decide)
theorem sGiv2 : GivOK sampM sampL [some 1, some 2, some 0, some 4, some 3] := by
  refine ⟨rfl, fun m hm => ?_, fun k m h => ?_⟩
  · simp at hm; show m < 5; omega
  · rcases k with _ | _ | _ | _ | _ | k
    all_goals first | (simp at h; done) | (simp at h; subst h; decide)
theorem sBest : bestP sampM = (1, 5) := by decide +kernel
theorem sClub : clubE sampM = 0 := by decide +kernel
theorem sWorth : worthsL sampM sampL [some 1, some 2, some 0, some 4, some 3] = [80, 100, 50, 20, 40] := by decide +kernel
theorem sFair : fairL sampM sampL [some 1, some 2, some 0, some 4, some 3] := by
  intro i m z h1 h2
  rcases i with _ | _ | _ | _ | _ | i
  all_goals first | (simp at h1; done) | (simp [sampL] at h1 h2; subst h1; subst h2; decide)
theorem sMany : manyM sampM sampL 0 (fun _ => false) = 5 := by decide +kernel
theorem sMost : mostL sampM sampL = [some 0, some 2, some 1, some 4, some 3] := by decide +kernel
theorem sStay : stayL sampM sampL 0 = 24 := by decide +kernel
theorem sFor : forL sampM sampL 0 = some 3 := by decide +kernel
theorem awake (w0 : World) : Calls Try.prog 11 #[] w0 (Ret w0 fun v _ => v = .bool true) := by
  refine enter (args := []) (S := []) Try.func11 rfl Try.ntmps11 rfl fun cs T H => ?_
  refine At.seq ?_
  refine At.region' (l := [0]) rfl ?_
  refine At.v H rfl (wN rfl) rfl rfl rfl (x_assign evC) ?_; clear H; intro T H
  refine At.regionEnd ?_
  refine At.seq ?_
  refine At.region' (l := [0, 1, 2, 3, 4, 5, 6]) rfl ?_
  refine At.fG H rfl (wN rfl) rfl rfl rfl args0 Try.call29 (sample _) ?_; clear H; rintro v22 E22 T w ⟨ga1, gb1, rfl, rfl⟩ _ H
  refine At.f0 H rfl (wN rfl) rfl rfl rfl (args3 (H.r 22 rfl) evC evC) Try.call16 (Can (men := sampM) (list := sampL) (H.rowP (enc := encW) (by repeat (first | exact List.mem_cons_self | apply List.mem_cons_of_mem)) (fun _ => rfl) rfl rfl) (H.rowP (enc := encZ) (by repeat (first | exact List.mem_cons_self | apply List.mem_cons_of_mem)) (fun _ => rfl) rfl rfl) sampV (man := 3) (prize := 2) (m := ⟨5, 0, true, true⟩) (z := ⟨4, 80⟩) rfl rfl) ?_; clear H; rintro v23 T w rfl _ H
  rw [show canW 4 ⟨5, 0, true, true⟩ = false from rfl] at H
  refine At.v H rfl (wN rfl) rfl rfl rfl (x_move (H.r 23 rfl)) ?_; clear H; intro T H
  refine At.v H rfl (wN rfl) rfl rfl rfl (x_extract (H.r 21 rfl) rfl) ?_; clear H; intro T H
  refine At.v H rfl (wN rfl) rfl rfl rfl (x_extract (H.r 21 rfl) rfl) ?_; clear H; intro T H
  refine At.v H rfl (wN rfl) rfl rfl rfl (x_assign (H.r 24 rfl)) ?_; clear H; intro T H
  refine At.v H rfl (wN rfl) rfl rfl rfl (x_assign (H.r 25 rfl)) ?_; clear H; intro T H
  refine At.regionEnd ?_
  refine At.seq ?_
  refine At.region' (l := [0, 1, 2, 3, 4, 5, 6]) rfl ?_
  refine At.fG H rfl (wN rfl) rfl rfl rfl args0 Try.call29 (sample _) ?_; clear H; rintro v27 E27 T w ⟨ga2, gb2, rfl, rfl⟩ _ H
  refine At.fG H rfl (wN rfl) rfl rfl rfl (args1 (H.r 27 rfl)) Try.call13 (Due (men := sampM) (list := sampL) (H.rowP (enc := encW) (by repeat (first | exact List.mem_cons_self | apply List.mem_cons_of_mem)) (fun _ => rfl) rfl rfl) (H.rowP (enc := encZ) (by repeat (first | exact List.mem_cons_self | apply List.mem_cons_of_mem)) (fun _ => rfl) rfl rfl) sampV) ?_; clear H; rintro v28 E28 T w ⟨A28, c28, rfl, rfl⟩ _ H
  rw [sDue] at H
  refine At.v H rfl (wN rfl) rfl rfl rfl (x_move (H.r 28 rfl)) ?_; clear H; intro T H
  refine At.v H rfl (wN rfl) rfl rfl rfl (x_extract (H.r 26 rfl) rfl) ?_; clear H; intro T H
  refine At.v H rfl (wN rfl) rfl rfl rfl (x_extract (H.r 26 rfl) rfl) ?_; clear H; intro T H
  refine At.v H rfl (wN rfl) rfl rfl rfl (x_assign (H.r 29 rfl)) ?_; clear H; intro T H
  refine At.v H rfl (wN rfl) rfl rfl rfl (x_assign (H.r 30 rfl)) ?_; clear H; intro T H
  refine At.regionEnd ?_
  refine At.seq ?_
  refine At.region' (l := [0, 1, 2, 3, 4, 5, 6, 7, 8, 9]) rfl ?_
  refine At.fG H rfl (wN rfl) rfl rfl rfl args0 Try.call29 (sample _) ?_; clear H; rintro v32 E32 T w ⟨ga3, gb3, rfl, rfl⟩ _ H
  refine At.bs (n := 5) (L := ?l33_1) (e := ?e33_1) H rfl (wN rfl) rfl rfl rfl (x_bs5 evC evC evC evC evC ?r33_1) ?_
  case r33_1 => (simp [go_sem]; rfl)
  clear H; intro b33 T w H
  replace H := H.toRow (n := 5) (sz := 1) (e := 3) (by repeat (first | exact Take.here | apply Take.there)) rfl (by decide)
  refine At.f0 H rfl (wN rfl) rfl rfl rfl (args2 (H.r 32 rfl) (H.r 33 rfl)) Try.call15 (Wrong (men := sampM) (list := sampL) (H.rowP (enc := encW) (by repeat (first | exact List.mem_cons_self | apply List.mem_cons_of_mem)) (fun _ => rfl) rfl rfl) (H.rowP (enc := encZ) (by repeat (first | exact List.mem_cons_self | apply List.mem_cons_of_mem)) (fun _ => rfl) rfl rfl) sampV (gv := [some 1, some 2, some 0, some 4, none]) (H.rowSl (enc := encO) (by repeat (first | exact List.mem_cons_self | apply List.mem_cons_of_mem)) (fun _ => rfl) rfl rfl) sGiv) ?_; clear H; rintro v34 T w rfl _ H
  rw [sWrong] at H
  refine At.v H rfl (wN rfl) rfl rfl rfl (x_move (H.r 34 rfl)) ?_; clear H; intro T H
  refine At.v H rfl (wN rfl) rfl rfl rfl (x_extract (H.r 31 rfl) rfl) ?_; clear H; intro T H
  refine At.v H rfl (wN rfl) rfl rfl rfl (x_extract (H.r 31 rfl) rfl) ?_; clear H; intro T H
  refine At.v H rfl (wN rfl) rfl rfl rfl (x_extract (H.r 31 rfl) rfl) ?_; clear H; intro T H
  refine At.v H rfl (wN rfl) rfl rfl rfl (x_assign (H.r 35 rfl)) ?_; clear H; intro T H
  refine At.v H rfl (wN rfl) rfl rfl rfl (x_assign (H.r 36 rfl)) ?_; clear H; intro T H
  refine At.v H rfl (wN rfl) rfl rfl rfl (x_assign (H.r 37 rfl)) ?_; clear H; intro T H
  refine At.regionEnd ?_
  refine At.seq ?_
  refine At.region' (l := [0, 1, 2, 3, 4, 5, 6, 7, 8]) rfl ?_
  refine At.fG H rfl (wN rfl) rfl rfl rfl args0 Try.call29 (sample _) ?_; clear H; rintro v39 E39 T w ⟨ga4, gb4, rfl, rfl⟩ _ H
  refine At.f0 H rfl (wN rfl) rfl rfl rfl (args1 (H.r 39 rfl)) Try.call27 (Club (men := sampM) (list := sampL) (H.rowP (enc := encW) (by repeat (first | exact List.mem_cons_self | apply List.mem_cons_of_mem)) (fun _ => rfl) rfl rfl) (H.rowP (enc := encZ) (by repeat (first | exact List.mem_cons_self | apply List.mem_cons_of_mem)) (fun _ => rfl) rfl rfl) sampV) ?_; clear H; rintro v40 T w rfl _ H
  rw [sBest, sClub] at H
  refine At.v H rfl (wN rfl) rfl rfl rfl (x_move (H.r 40 rfl)) ?_; clear H; intro T H
  refine At.v H rfl (wN rfl) rfl rfl rfl (x_extract (H.r 38 rfl) rfl) ?_; clear H; intro T H
  refine At.v H rfl (wN rfl) rfl rfl rfl (x_extract (H.r 38 rfl) rfl) ?_; clear H; intro T H
  refine At.v H rfl (wN rfl) rfl rfl rfl (x_extract (H.r 38 rfl) rfl) ?_; clear H; intro T H
  refine At.v H rfl (wN rfl) rfl rfl rfl (x_assign (H.r 41 rfl)) ?_; clear H; intro T H
  refine At.v H rfl (wN rfl) rfl rfl rfl (x_assign (H.r 42 rfl)) ?_; clear H; intro T H
  refine At.v H rfl (wN rfl) rfl rfl rfl (x_assign (H.r 43 rfl)) ?_; clear H; intro T H
  refine At.regionEnd ?_
  refine At.seq ?_
  refine At.region' (l := [0, 1, 2, 3, 4, 5, 6, 7, 8, 9]) rfl ?_
  refine At.fG H rfl (wN rfl) rfl rfl rfl args0 Try.call29 (sample _) ?_; clear H; rintro v45 E45 T w ⟨ga5, gb5, rfl, rfl⟩ _ H
  refine At.v H rfl (wN rfl) rfl rfl rfl (x_move (H.r 3 rfl)) ?_; clear H; intro T H
  refine At.fG H rfl (wN rfl) rfl rfl rfl (args2 (H.r 45 rfl) (H.r 46 rfl)) Try.call14 (Worth (men := sampM) (list := sampL) (H.rowP (enc := encW) (by repeat (first | exact List.mem_cons_self | apply List.mem_cons_of_mem)) (fun _ => rfl) rfl rfl) (H.rowP (enc := encZ) (by repeat (first | exact List.mem_cons_self | apply List.mem_cons_of_mem)) (fun _ => rfl) rfl rfl) sampV (gv := [some 1, some 2, some 0, some 4, some 3]) (H.rowSl (enc := encO) (by repeat (first | exact List.mem_cons_self | apply List.mem_cons_of_mem)) (fun _ => rfl) rfl rfl) sGiv2) ?_; clear H; rintro v47 E47 T w hQ47 _ H
  rcases hQ47 with ⟨_, g47, rfl, rfl⟩ | ⟨hQ47, _⟩
  rotate_left
  · exact absurd sFair hQ47
  rw [sWorth] at H
  refine At.v H rfl (wN rfl) rfl rfl rfl (x_move (H.r 47 rfl)) ?_; clear H; intro T H
  refine At.v H rfl (wN rfl) rfl rfl rfl (x_extract (H.r 44 rfl) rfl) ?_; clear H; intro T H
  refine At.v H rfl (wN rfl) rfl rfl rfl (x_extract (H.r 44 rfl) rfl) ?_; clear H; intro T H
  refine At.v H rfl (wN rfl) rfl rfl rfl (x_extract (H.r 44 rfl) rfl) ?_; clear H; intro T H
  refine At.v H rfl (wN rfl) rfl rfl rfl (x_assign (H.r 48 rfl)) ?_; clear H; intro T H
  refine At.v H rfl (wN rfl) rfl rfl rfl (x_assign (H.r 49 rfl)) ?_; clear H; intro T H
  refine At.v H rfl (wN rfl) rfl rfl rfl (x_assign (H.r 50 rfl)) ?_; clear H; intro T H
  refine At.regionEnd ?_
  refine At.seq ?_
  refine At.region' (l := [0, 1, 2, 3, 4, 5, 6, 7, 8]) rfl ?_
  refine At.fG H rfl (wN rfl) rfl rfl rfl args0 Try.call29 (sample _) ?_; clear H; rintro v52 E52 T w ⟨ga6, gb6, rfl, rfl⟩ _ H
  refine At.fG H rfl (wN rfl) rfl rfl rfl (args1 (H.r 52 rfl)) Try.call18 (Most (men := sampM) (list := sampL) (H.rowP (enc := encW) (by repeat (first | exact List.mem_cons_self | apply List.mem_cons_of_mem)) (fun _ => rfl) rfl rfl) (H.rowP (enc := encZ) (by repeat (first | exact List.mem_cons_self | apply List.mem_cons_of_mem)) (fun _ => rfl) rfl rfl) sampV) ?_; clear H; rintro v53 E53 T w ⟨A53, c53, rfl, rfl⟩ _ H
  rw [sMany, sMost] at H
  refine At.v H rfl (wN rfl) rfl rfl rfl (x_move (H.r 53 rfl)) ?_; clear H; intro T H
  refine At.v H rfl (wN rfl) rfl rfl rfl (x_extract (H.r 51 rfl) rfl) ?_; clear H; intro T H
  refine At.v H rfl (wN rfl) rfl rfl rfl (x_extract (H.r 51 rfl) rfl) ?_; clear H; intro T H
  refine At.v H rfl (wN rfl) rfl rfl rfl (x_extract (H.r 51 rfl) rfl) ?_; clear H; intro T H
  refine At.v H rfl (wN rfl) rfl rfl rfl (x_assign (H.r 54 rfl)) ?_; clear H; intro T H
  refine At.v H rfl (wN rfl) rfl rfl rfl (x_assign (H.r 55 rfl)) ?_; clear H; intro T H
  refine At.v H rfl (wN rfl) rfl rfl rfl (x_assign (H.r 56 rfl)) ?_; clear H; intro T H
  refine At.regionEnd ?_
  refine At.seq ?_
  refine At.region' (l := [0, 1, 2, 3, 4, 5, 6]) rfl ?_
  refine At.fG H rfl (wN rfl) rfl rfl rfl args0 Try.call29 (sample _) ?_; clear H; rintro v58 E58 T w ⟨ga7, gb7, rfl, rfl⟩ _ H
  refine At.f0 H rfl (wN rfl) rfl rfl rfl (args2 (H.r 58 rfl) evC) Try.call20 (Stay (men := sampM) (list := sampL) (H.rowP (enc := encW) (by repeat (first | exact List.mem_cons_self | apply List.mem_cons_of_mem)) (fun _ => rfl) rfl rfl) (H.rowP (enc := encZ) (by repeat (first | exact List.mem_cons_self | apply List.mem_cons_of_mem)) (fun _ => rfl) rfl rfl) sampV (i := 0) (by decide)) ?_; clear H; rintro v59 T w rfl _ H
  rw [sStay] at H
  refine At.v H rfl (wN rfl) rfl rfl rfl (x_move (H.r 59 rfl)) ?_; clear H; intro T H
  refine At.v H rfl (wN rfl) rfl rfl rfl (x_extract (H.r 57 rfl) rfl) ?_; clear H; intro T H
  refine At.v H rfl (wN rfl) rfl rfl rfl (x_extract (H.r 57 rfl) rfl) ?_; clear H; intro T H
  refine At.v H rfl (wN rfl) rfl rfl rfl (x_assign (H.r 60 rfl)) ?_; clear H; intro T H
  refine At.v H rfl (wN rfl) rfl rfl rfl (x_assign (H.r 61 rfl)) ?_; clear H; intro T H
  refine At.regionEnd ?_
  refine At.seq ?_
  refine At.region' (l := [0, 1, 2, 3, 4, 5, 6]) rfl ?_
  refine At.fG H rfl (wN rfl) rfl rfl rfl args0 Try.call29 (sample _) ?_; clear H; rintro v63 E63 T w ⟨ga8, gb8, rfl, rfl⟩ _ H
  refine At.f0 H rfl (wN rfl) rfl rfl rfl (args2 (H.r 63 rfl) evC) Try.call22 (For (men := sampM) (list := sampL) (H.rowP (enc := encW) (by repeat (first | exact List.mem_cons_self | apply List.mem_cons_of_mem)) (fun _ => rfl) rfl rfl) (H.rowP (enc := encZ) (by repeat (first | exact List.mem_cons_self | apply List.mem_cons_of_mem)) (fun _ => rfl) rfl rfl) sampV (i := 0) (by decide)) ?_; clear H; rintro v64 T w rfl _ H
  rw [sFor] at H
  refine At.v H rfl (wN rfl) rfl rfl rfl (x_move (H.r 64 rfl)) ?_; clear H; intro T H
  refine At.v H rfl (wN rfl) rfl rfl rfl (x_extract (H.r 62 rfl) rfl) ?_; clear H; intro T H
  refine At.v H rfl (wN rfl) rfl rfl rfl (x_extract (H.r 62 rfl) rfl) ?_; clear H; intro T H
  refine At.v H rfl (wN rfl) rfl rfl rfl (x_assign (H.r 65 rfl)) ?_; clear H; intro T H
  refine At.v H rfl (wN rfl) rfl rfl rfl (x_assign (H.r 66 rfl)) ?_; clear H; intro T H
  refine At.regionEnd ?_
  refine At.seq ?_
  refine At.seq ?_
  refine At.region' (l := [0, 1, 2, 3, 4, 5, 6, 7, 8, 9, 10, 11, 12, 13, 14, 15, 16, 17, 18, 19, 20, 21, 22, 23, 24, 25, 26, 27, 28, 29, 30, 31, 32, 33, 34, 35, 36, 37, 38, 39, 40, 41, 42, 43, 44, 45, 46, 47, 48, 49, 50, 51, 52]) rfl ?_
  refine At.v H rfl (wN rfl) rfl rfl rfl (x_move (H.r 1 rfl)) ?_; clear H; intro T H
  refine At.v H rfl (wN rfl) rfl rfl rfl (x_move (H.r 67 rfl)) ?_; clear H; intro T H
  refine At.v H rfl (wS H rfl rfl rfl) rfl rfl rfl (x_move (H.r 2 rfl)) ?_; clear H; intro T H
  refine At.v (v := .bool false) H rfl (wS H rfl rfl rfl) rfl rfl rfl (x_neq (H.r 69 rfl) evC) ?_; clear H; intro T H
  refine At.v H rfl (wN rfl) rfl rfl rfl (x_pickF (H.r 68 rfl) (H.r 70 rfl)) ?_; clear H; intro T H
  refine At.v H rfl (wN rfl) rfl rfl rfl (x_move (H.r 71 rfl)) ?_; clear H; intro T H
  refine At.v H rfl (wS H rfl rfl rfl) rfl rfl rfl (x_move (H.r 3 rfl)) ?_; clear H; intro T H
  refine At.bs (n := 5) (L := ?l74_2) (e := ?e74_2) H rfl (wS H rfl rfl rfl) rfl rfl rfl (x_bs5 evC evC evC evC evC ?r74_2) ?_
  case r74_2 => (simp [go_sem]; rfl)
  clear H; intro b74 T w H
  replace H := H.toRow (n := 5) (sz := 1) (e := 3) (by repeat (first | exact Take.here | apply Take.there)) rfl (by decide)
  refine At.f0 H rfl (wS H rfl rfl rfl) rfl rfl rfl (args2 (H.r 73 rfl) (H.r 74 rfl)) Try.call17 (Ints (xs := [1, 2, 0, 4, 3]) (ys := [1, 2, 0, 4, 3]) (H.rowSl (enc := encI) (l := [some 1, some 2, some 0, some 4, some 3].flatMap encO) (by repeat (first | exact List.mem_cons_self | apply List.mem_cons_of_mem)) (fun _ => rfl) rfl rfl) (H.rowSl (enc := encI) (by repeat (first | exact List.mem_cons_self | apply List.mem_cons_of_mem)) (fun _ => rfl) rfl rfl) (by decide)) ?_; clear H; rintro v75 T w rfl _ H
  rw [decide_eq_true (rfl : ([1, 2, 0, 4, 3] : List Int) = [1, 2, 0, 4, 3])] at H
  refine At.v H rfl (wS H rfl rfl rfl) rfl rfl rfl (x_notT (H.r 75 rfl)) ?_; clear H; intro T H
  refine At.v H rfl (wN rfl) rfl rfl rfl (x_pickF (H.r 72 rfl) (H.r 76 rfl)) ?_; clear H; intro T H
  refine At.v H rfl (wN rfl) rfl rfl rfl (x_move (H.r 77 rfl)) ?_; clear H; intro T H
  refine At.v H rfl (wS H rfl rfl rfl) rfl rfl rfl (x_move (H.r 4 rfl)) ?_; clear H; intro T H
  refine At.v (v := .bool false) H rfl (wS H rfl rfl rfl) rfl rfl rfl (x_neq (H.r 79 rfl) evC) ?_; clear H; intro T H
  refine At.v H rfl (wN rfl) rfl rfl rfl (x_pickF (H.r 78 rfl) (H.r 80 rfl)) ?_; clear H; intro T H
  refine At.v H rfl (wN rfl) rfl rfl rfl (x_move (H.r 81 rfl)) ?_; clear H; intro T H
  refine At.v H rfl (wS H rfl rfl rfl) rfl rfl rfl (x_move (H.r 5 rfl)) ?_; clear H; intro T H
  refine At.v (v := .bool false) H rfl (wS H rfl rfl rfl) rfl rfl rfl (x_neq (H.r 83 rfl) evC) ?_; clear H; intro T H
  refine At.v H rfl (wN rfl) rfl rfl rfl (x_pickF (H.r 82 rfl) (H.r 84 rfl)) ?_; clear H; intro T H
  refine At.v H rfl (wN rfl) rfl rfl rfl (x_move (H.r 85 rfl)) ?_; clear H; intro T H
  refine At.v H rfl (wS H rfl rfl rfl) rfl rfl rfl (x_move (H.r 6 rfl)) ?_; clear H; intro T H
  refine At.v (v := .bool false) H rfl (wS H rfl rfl rfl) rfl rfl rfl (x_neq (H.r 87 rfl) evC) ?_; clear H; intro T H
  refine At.v H rfl (wN rfl) rfl rfl rfl (x_pickF (H.r 86 rfl) (H.r 88 rfl)) ?_; clear H; intro T H
  refine At.v H rfl (wN rfl) rfl rfl rfl (x_move (H.r 89 rfl)) ?_; clear H; intro T H
  refine At.v H rfl (wS H rfl rfl rfl) rfl rfl rfl (x_move (H.r 7 rfl)) ?_; clear H; intro T H
  refine At.v (v := .bool false) H rfl (wS H rfl rfl rfl) rfl rfl rfl (x_neq (H.r 91 rfl) evC) ?_; clear H; intro T H
  refine At.v H rfl (wN rfl) rfl rfl rfl (x_pickF (H.r 90 rfl) (H.r 92 rfl)) ?_; clear H; intro T H
  refine At.v H rfl (wN rfl) rfl rfl rfl (x_move (H.r 93 rfl)) ?_; clear H; intro T H
  refine At.v H rfl (wS H rfl rfl rfl) rfl rfl rfl (x_move (H.r 8 rfl)) ?_; clear H; intro T H
  refine At.v (v := .bool false) H rfl (wS H rfl rfl rfl) rfl rfl rfl (x_neq (H.r 95 rfl) evC) ?_; clear H; intro T H
  refine At.v H rfl (wN rfl) rfl rfl rfl (x_pickF (H.r 94 rfl) (H.r 96 rfl)) ?_; clear H; intro T H
  refine At.v H rfl (wN rfl) rfl rfl rfl (x_move (H.r 97 rfl)) ?_; clear H; intro T H
  refine At.v H rfl (wS H rfl rfl rfl) rfl rfl rfl (x_move (H.r 9 rfl)) ?_; clear H; intro T H
  refine At.v (v := .bool false) H rfl (wS H rfl rfl rfl) rfl rfl rfl (x_neq (H.r 99 rfl) evC) ?_; clear H; intro T H
  refine At.v H rfl (wN rfl) rfl rfl rfl (x_pickF (H.r 98 rfl) (H.r 100 rfl)) ?_; clear H; intro T H
  refine At.v H rfl (wN rfl) rfl rfl rfl (x_move (H.r 101 rfl)) ?_; clear H; intro T H
  refine At.v H rfl (wS H rfl rfl rfl) rfl rfl rfl (x_move (H.r 10 rfl)) ?_; clear H; intro T H
  refine At.v (v := .bool false) H rfl (wS H rfl rfl rfl) rfl rfl rfl (x_neq (H.r 103 rfl) evC) ?_; clear H; intro T H
  refine At.v H rfl (wN rfl) rfl rfl rfl (x_pickF (H.r 102 rfl) (H.r 104 rfl)) ?_; clear H; intro T H
  refine At.v H rfl (wN rfl) rfl rfl rfl (x_move (H.r 105 rfl)) ?_; clear H; intro T H
  refine At.v H rfl (wS H rfl rfl rfl) rfl rfl rfl (x_move (H.r 11 rfl)) ?_; clear H; intro T H
  refine At.bs (n := 5) (L := ?l108_3) (e := ?e108_3) H rfl (wS H rfl rfl rfl) rfl rfl rfl (x_bs5 evC evC evC evC evC ?r108_3) ?_
  case r108_3 => (simp [go_sem]; rfl)
  clear H; intro b108 T w H
  replace H := H.toRow (n := 5) (sz := 1) (e := 3) (by repeat (first | exact Take.here | apply Take.there)) rfl (by decide)
  refine At.f0 H rfl (wS H rfl rfl rfl) rfl rfl rfl (args2 (H.r 107 rfl) (H.r 108 rfl)) Try.call17 (Ints (xs := [80, 100, 50, 20, 40]) (ys := [80, 100, 50, 20, 40]) (H.rowSl (enc := encI) (by repeat (first | exact List.mem_cons_self | apply List.mem_cons_of_mem)) (fun _ => rfl) rfl rfl) (H.rowSl (enc := encI) (by repeat (first | exact List.mem_cons_self | apply List.mem_cons_of_mem)) (fun _ => rfl) rfl rfl) (by decide)) ?_; clear H; rintro v109 T w rfl _ H
  rw [decide_eq_true (rfl : ([80, 100, 50, 20, 40] : List Int) = [80, 100, 50, 20, 40])] at H
  refine At.v H rfl (wS H rfl rfl rfl) rfl rfl rfl (x_notT (H.r 109 rfl)) ?_; clear H; intro T H
  refine At.v H rfl (wN rfl) rfl rfl rfl (x_pickF (H.r 106 rfl) (H.r 110 rfl)) ?_; clear H; intro T H
  refine At.v H rfl (wN rfl) rfl rfl rfl (x_move (H.r 111 rfl)) ?_; clear H; intro T H
  refine At.v H rfl (wS H rfl rfl rfl) rfl rfl rfl (x_move (H.r 12 rfl)) ?_; clear H; intro T H
  refine At.v (v := .bool false) H rfl (wS H rfl rfl rfl) rfl rfl rfl (x_neq (H.r 113 rfl) evC) ?_; clear H; intro T H
  refine At.v H rfl (wN rfl) rfl rfl rfl (x_pickF (H.r 112 rfl) (H.r 114 rfl)) ?_; clear H; intro T H
  refine At.v H rfl (wN rfl) rfl rfl rfl (x_move (H.r 115 rfl)) ?_; clear H; intro T H
  refine At.v H rfl (wS H rfl rfl rfl) rfl rfl rfl (x_move (H.r 13 rfl)) ?_; clear H; intro T H
  refine At.v (v := .bool false) H rfl (wS H rfl rfl rfl) rfl rfl rfl (x_neq (H.r 117 rfl) evC) ?_; clear H; intro T H
  refine At.v H rfl (wN rfl) rfl rfl rfl (x_pickF (H.r 116 rfl) (H.r 118 rfl)) ?_; clear H; intro T H
  refine At.regionEnd ?_
  refine At.condF (H.r 119 rfl) ?_
  refine At.skip ?_
  refine At.seq ?_
  refine At.region' (l := [0, 1, 2, 3, 4, 5, 6, 7, 8, 9, 10, 11, 12, 13, 14, 15, 16, 17, 18, 19, 20, 21, 22, 23, 24, 25, 26, 27]) rfl ?_
  refine At.v H rfl (wN rfl) rfl rfl rfl (x_move (H.r 14 rfl)) ?_; clear H; intro T H
  refine At.v (v := .bool true) H rfl (wN rfl) rfl rfl rfl (x_eql (H.r 120 rfl) evC) ?_; clear H; intro T H
  refine At.v H rfl (wN rfl) rfl rfl rfl (x_move (H.r 121 rfl)) ?_; clear H; intro T H
  refine At.v H rfl (wS H rfl rfl rfl) rfl rfl rfl (x_move (H.r 15 rfl)) ?_; clear H; intro T H
  refine At.bs (n := 5) (L := ?l124_4) (e := ?e124_4) H rfl (wS H rfl rfl rfl) rfl rfl rfl (x_bs5 evC evC evC evC evC ?r124_4) ?_
  case r124_4 => (simp [go_sem]; rfl)
  clear H; intro b124 T w H
  replace H := H.toRow (n := 5) (sz := 1) (e := 3) (by repeat (first | exact Take.here | apply Take.there)) rfl (by decide)
  refine At.f0 H rfl (wS H rfl rfl rfl) rfl rfl rfl (args2 (H.r 123 rfl) (H.r 124 rfl)) Try.call17 (Ints (xs := [0, 2, 1, 4, 3]) (ys := [0, 2, 1, 4, 3]) (H.rowSl (enc := encI) (l := [some 0, some 2, some 1, some 4, some 3].flatMap encO) (by repeat (first | exact List.mem_cons_self | apply List.mem_cons_of_mem)) (fun _ => rfl) rfl rfl) (H.rowSl (enc := encI) (by repeat (first | exact List.mem_cons_self | apply List.mem_cons_of_mem)) (fun _ => rfl) rfl rfl) (by decide)) ?_; clear H; rintro v125 T w rfl _ H
  rw [decide_eq_true (rfl : ([0, 2, 1, 4, 3] : List Int) = [0, 2, 1, 4, 3])] at H
  refine At.v H rfl (wN rfl) rfl rfl rfl (x_pickT (H.r 122 rfl) (H.r 125 rfl)) ?_; clear H; intro T H
  refine At.v H rfl (wN rfl) rfl rfl rfl (x_move (H.r 126 rfl)) ?_; clear H; intro T H
  refine At.v H rfl (wS H rfl rfl rfl) rfl rfl rfl (x_move (H.r 16 rfl)) ?_; clear H; intro T H
  refine At.v (v := .bool true) H rfl (wS H rfl rfl rfl) rfl rfl rfl (x_eql (H.r 128 rfl) evC) ?_; clear H; intro T H
  refine At.v H rfl (wN rfl) rfl rfl rfl (x_pickT (H.r 127 rfl) (H.r 129 rfl)) ?_; clear H; intro T H
  refine At.v H rfl (wN rfl) rfl rfl rfl (x_move (H.r 130 rfl)) ?_; clear H; intro T H
  refine At.v H rfl (wS H rfl rfl rfl) rfl rfl rfl (x_move (H.r 17 rfl)) ?_; clear H; intro T H
  refine At.v (v := .bool true) H rfl (wS H rfl rfl rfl) rfl rfl rfl (x_eql (H.r 132 rfl) evC) ?_; clear H; intro T H
  refine At.v H rfl (wN rfl) rfl rfl rfl (x_pickT (H.r 131 rfl) (H.r 133 rfl)) ?_; clear H; intro T H
  refine At.v H rfl (wN rfl) rfl rfl rfl (x_move (H.r 134 rfl)) ?_; clear H; intro T H
  refine At.v H rfl (wS H rfl rfl rfl) rfl rfl rfl (x_move (H.r 18 rfl)) ?_; clear H; intro T H
  refine At.v (v := .bool true) H rfl (wS H rfl rfl rfl) rfl rfl rfl (x_eql (H.r 136 rfl) evC) ?_; clear H; intro T H
  refine At.v H rfl (wN rfl) rfl rfl rfl (x_pickT (H.r 135 rfl) (H.r 137 rfl)) ?_; clear H; intro T H
  refine At.v H rfl (wN rfl) rfl rfl rfl (x_move (H.r 138 rfl)) ?_; clear H; intro T H
  refine At.v H rfl (wS H rfl rfl rfl) rfl rfl rfl (x_move (H.r 19 rfl)) ?_; clear H; intro T H
  refine At.v (v := .bool true) H rfl (wS H rfl rfl rfl) rfl rfl rfl (x_eql (H.r 140 rfl) evC) ?_; clear H; intro T H
  refine At.v H rfl (wN rfl) rfl rfl rfl (x_pickT (H.r 139 rfl) (H.r 141 rfl)) ?_; clear H; intro T H
  refine At.v H rfl (wN rfl) rfl rfl rfl (x_move (H.r 142 rfl)) ?_; clear H; intro T H
  refine At.v H rfl (wS H rfl rfl rfl) rfl rfl rfl (x_move (H.r 20 rfl)) ?_; clear H; intro T H
  refine At.v (v := .bool true) H rfl (wS H rfl rfl rfl) rfl rfl rfl (x_eql (H.r 144 rfl) evC) ?_; clear H; intro T H
  refine At.v H rfl (wN rfl) rfl rfl rfl (x_pickT (H.r 143 rfl) (H.r 145 rfl)) ?_; clear H; intro T H
  refine At.v H rfl (wN rfl) rfl rfl rfl (x_assign (H.r 146 rfl)) ?_; clear H; intro T H
  refine At.regionEnd ?_
  refine At.ret rfl ?_
  exact lea Try.func11 (res1 Try.results11 (H.r 0 rfl)) (Ret.mk H.fr (rfl))
end Go.Proofs.Pz
end
section
namespace Go.Proofs.Pz
open Go.Sx Go.RowKit
set_option linter.unusedVariables false
namespace AN
theorem fa25_0 (a : Addr) (w : World) : (Instr.fieldAt 25 (.pointer (some a)) 0).run Try.prog w = .ok (.pointer (some (a.add 0))) w := by simp [go_sem]
theorem fa59_0 (a : Addr) (w : World) : (Instr.fieldAt 59 (.pointer (some a)) 0).run Try.prog w = .ok (.pointer (some (a.add 0))) w := by simp [go_sem]
end AN
open AN
def lessW (men : List Wi) (i k : Nat) : List Wi := ((men.take k).eraseIdx i).map (decP (placeAt men i))
theorem lessW_zero (men : List Wi) (i : Nat) : lessW men i 0 = [] := by simp [lessW]
theorem lessW_end (men : List Wi) (i : Nat) : lessW men i men.length = lessMen men i := by simp [lessW, lessMen]
theorem lessW_skip (men : List Wi) (i : Nat) : lessW men i (i + 1) = lessW men i i := by
  unfold lessW
  congr 1
  rw [List.eraseIdx_eq_take_drop_succ, List.eraseIdx_eq_take_drop_succ, List.take_take, List.take_take, List.drop_take, List.drop_take]
  simp
theorem lessW_succ {men : List Wi} {i k : Nat} {x : Wi} (h : men[k]? = some x) (hk : k ≠ i) : lessW men i (k + 1) = lessW men i k ++ [decP (placeAt men i) x] := by
  have hlt := (List.getElem?_eq_some_iff.1 h).1
  unfold lessW
  rw [List.take_add_one, h]
  by_cases hki : k < i
  · rw [List.eraseIdx_of_length_le (by simp only [List.length_append, List.length_take, Option.toList_some, List.length_singleton]; omega), List.eraseIdx_of_length_le (by simp only [List.length_take]; omega)]
    simp
  · rw [List.eraseIdx_append_of_lt_length (by simp only [List.length_take]; omega)]
    simp
theorem Without {AM AL : Option Addr} {cM bM oM cL bL oL : Nat} {men : List Wi} {list : List Zi} {w0 : World} (hM : SlP encW 4 w0 AM cM bM oM men) (hL : SlP encZ 2 w0 AL cL bL oL list) {i : Nat} (hi : i < men.length) (hb : ∀ m ∈ men, 0 ≤ m.place ∧ m.place ≤ 8) (h8 : men.length ≤ 8) : Calls Try.prog 21 #[(.agg #[(.slice AM men.length cM), (.slice AL list.length cL)]), .int .i64 (i : Int)] w0
    (RetG w0 fun v E _ => ∃ A c, v = .agg #[.slice A (lessMen men i).length c, (.slice AL list.length cL)] ∧ E = [.row (.slice A (lessMen men i).length c) 59 4 (lessMen men i).length ((lessMen men i).flatMap encW)]) := by
  obtain ⟨mi, hmi⟩ := get_ex hi
  have hpa : placeAt men i = mi.place := by simp [placeAt, hmi]
  refine enter (args := [(.agg #[(.slice AM men.length cM), (.slice AL list.length cL)]), .int .i64 (i : Int)]) (S := []) Try.func21 rfl Try.ntmps21 rfl fun cs T H => ?_
  refine At.seq ?_
  refine At.region' (l := [0, 1]) rfl ?_
  refine At.new H rfl (wN rfl) rfl rfl rfl (x_box (H.r 0 rfl) rfl) ?_; clear H; intro b2 T w _ _ H
  refine At.new H rfl (wN rfl) rfl rfl rfl (x_alloc Try.zeroValue25 rfl) ?_; clear H; intro b4 T w _ _ H
  refine At.regionEnd ?_
  refine At.seq ?_
  refine At.region' (l := [0, 1, 2]) rfl ?_
  refine At.v H rfl (wN rfl) rfl rfl rfl (x_loadA (H.r 2 rfl) Try.isAgg25 Try.sizeOf25 (H.cellsAt (n := 2) (by repeat (first | exact List.mem_cons_self | apply List.mem_cons_of_mem)) rfl) rfl) ?_; clear H; intro T H
  refine At.new H rfl (wN rfl) rfl rfl rfl (x_alloc Try.zeroValue25 rfl) ?_; clear H; intro b5 T w _ _ H
  refine At.storeA H rfl (wN rfl) rfl rfl (H.r 5 rfl) (H.r 8 rfl) Try.sizeOf25 (List.all_eq_true.1 rfl) (by repeat (first | exact Upd.here | apply Upd.there)) (by rfl) ?_; clear H; intro T w _ H
  refine At.regionEnd ?_
  refine At.seq ?_
  refine At.region' (l := [0, 1]) rfl ?_
  refine At.v H rfl (wN rfl) rfl rfl rfl (x_fieldAddr (H.r 5 rfl) fa25_0) ?_; clear H; intro T H
  refine At.store1 H rfl (wN rfl) rfl rfl (H.r 9 rfl) evC Try.sizeOf22 rfl rfl (by repeat (first | exact Upd.here | apply Upd.there)) (by repeat (first | exact SetAt.z | apply SetAt.s)) ?_; clear H; intro T w _ H
  replace H := H.addNil 59 4
  refine At.regionEnd ?_
  refine At.seq ?_
  refine At.seq ?_
  refine At.region' (l := [0]) rfl ?_
  refine At.v H rfl (wN rfl) rfl rfl rfl (x_assign evC) ?_; clear H; intro T H
  refine At.regionEnd ?_
  refine At.block ?_
  replace H := ((H.fore (PkS.cons (x := .row _ _ _ _ _) (by repeat (first | exact Take.here | apply Take.there)) (PkS.cons (x := .blk b5 _) (by repeat (first | exact Take.here | apply Take.there)) PkS.nil))).sub (R' := [(6, _)] ++ [(1, _), (2, _), (4, _), (5, _)]) (by repeat' (first | exact trivial | refine And.intro rfl ?_)))
  refine At.loopF H (fun μ R1 G1 => ∃ (k : Nat) (A : Option Addr) (c : Nat), μ = men.length - k ∧ (k ≤ men.length) ∧ R1 = [(6, .int .i64 (k : Int))] ∧ G1 = [.row (.slice A (lessW men i k).length c) 59 4 (lessW men i k).length ((lessW men i k).flatMap encW), .blk b5 (Eo (.cells [.slice A (lessW men i k).length c, (.slice AL list.length cL)].toArray 25 (0, 0)))]) (men.length) ⟨0, none, 0, by first | rfl | omega, by first | trivial | omega | exact ⟨by omega, by omega⟩, rfl, rfl⟩ ?_
  clear H; rintro _ _ _ T w ⟨k, A, c, rfl, hP0, rfl, rfl⟩ H hnext0
  simp only [List.cons_append, List.nil_append] at H
  refine At.seq ?_
  refine At.seq ?_
  refine At.region' (l := [0, 1, 2, 3, 4]) rfl ?_
  refine At.v H rfl (wN rfl) rfl rfl rfl (x_move (H.r 6 rfl)) ?_; clear H; intro T H
  refine At.v H rfl (wN rfl) rfl rfl rfl (x_fieldAddr (H.r 2 rfl) fa25_0) ?_; clear H; intro T H
  refine At.v H rfl (wN rfl) rfl rfl rfl (x_load (H.r 11 rfl) Try.isAgg22 (by first | exact H.cell (by repeat (first | exact List.mem_cons_self | apply List.mem_cons_of_mem)) _ rfl | exact H.cellR (by repeat (first | exact List.mem_cons_self | apply List.mem_cons_of_mem)) _ rfl)) ?_; clear H; intro T H
  refine At.v H rfl (wN rfl) rfl rfl rfl (x_len (H.r 12 rfl) Try.runUnderlying22) ?_; clear H; intro T H
  refine At.c H rfl (wN rfl) rfl rfl rfl (x_lss (H.r 10 rfl) (H.r 13 rfl)) ?_ ?_
  · clear H; intro h14 T H
    have hk1 : k < men.length := by omega
    obtain rfl := hM.addr (fun e => by simp [e] at hk1)
    obtain ⟨m, hm⟩ := get_ex hk1
    have hcl := hM.cell k m hm
    have hcl2 := hM.cell i mi hmi 0 _ rfl
    have hbm := hb m (List.mem_of_getElem? hm)
    have hLl : (lessW men i k).length ≤ k := by unfold lessW; rw [List.length_map]; exact Nat.le_trans (List.length_eraseIdx_le _ _) (by rw [List.length_take]; omega)
    refine At.regionEnd ?_
    refine At.condT (H.r 14 rfl) ?_
    refine At.skip ?_
    refine At.seq ?_
    refine At.block ?_
    refine At.seq ?_
    refine At.seq ?_
    refine At.region' (l := [0, 1, 2]) rfl ?_
    refine At.v H rfl (wN rfl) rfl rfl rfl (x_move (H.r 6 rfl)) ?_; clear H; intro T H
    refine At.v H rfl (wN rfl) rfl rfl rfl (x_move (H.r 1 rfl)) ?_; clear H; intro T H
    refine At.c H rfl (wN rfl) rfl rfl rfl (x_eql (H.r 17 rfl) (H.r 18 rfl)) ?_ ?_
    · clear H; intro h19 T H
      obtain rfl : k = i := by omega
      have hll : (lessW men k (k + 1)).length = (lessW men k k).length := by rw [lessW_skip]
      have hlk : (lessW men k (k + 1)).flatMap encW = (lessW men k k).flatMap encW := by rw [lessW_skip]
      refine At.regionEnd ?_
      refine At.condT (H.r 19 rfl) ?_
      refine At.exit rfl ?_
      refine At.region' (l := [0, 1, 2]) rfl ?_
      refine At.v H rfl (wN rfl) rfl rfl rfl (x_move (H.r 6 rfl)) ?_; clear H; intro T H
      refine At.v H rfl (wN rfl) rfl rfl rfl (x_add (H.r 15 rfl) evC (w64 (by omega) (by omega))) ?_; clear H; intro T H
      refine At.v H rfl (wN rfl) rfl rfl rfl (x_assign (H.r 16 rfl)) ?_; clear H; intro T H
      refine At.regionEnd ?_
      exact hnext0 _ _ _ _ _ (by omega) ⟨k + 1, _, _, rfl, by first | trivial | omega | exact ⟨by omega, by omega⟩, rfl, rfl⟩ (by simp only [List.cons_append, List.nil_append]; rw [hll, hlk]; exact (H.pk (by repeat (first | exact Pk.nil | exact Pk.all | refine Pk.cons (by repeat (first | exact Take.here | apply Take.there)) ?_ | apply Pk.skip))).sub (by repeat' (first | exact trivial | refine And.intro rfl ?_)))
    · clear H; intro h19 T H
      have hki : k ≠ i := by omega
      have hls := lessW_succ hm hki
      have hll : (lessW men i (k + 1)).length = (lessW men i k).length + 1 := by rw [hls]; simp
      refine At.regionEnd ?_
      refine At.condF (H.r 19 rfl) ?_
      refine At.skip ?_
      refine At.seq ?_
      refine At.region' (l := [0, 1, 2, 3, 4, 5, 6]) rfl ?_
      refine At.v H rfl (wN rfl) rfl rfl rfl (x_fieldAddr (H.r 2 rfl) fa25_0) ?_; clear H; intro T H
      refine At.v H rfl (wN rfl) rfl rfl rfl (x_load (H.r 20 rfl) Try.isAgg22 (by first | exact H.cell (by repeat (first | exact List.mem_cons_self | apply List.mem_cons_of_mem)) _ rfl | exact H.cellR (by repeat (first | exact List.mem_cons_self | apply List.mem_cons_of_mem)) _ rfl)) ?_; clear H; intro T H
      refine At.v H rfl (wN rfl) rfl rfl rfl (x_move (H.r 6 rfl)) ?_; clear H; intro T H
      refine At.v H rfl (wN rfl) rfl rfl rfl (x_ixSN (H.r 21 rfl) (H.r 22 rfl) Try.runUnderlying22 Try.sizeOf59 (by omega)) ?_; clear H; intro T H
      refine At.v H rfl (wN rfl) rfl rfl rfl (x_loadA (H.r 23 rfl) Try.isAgg59 Try.sizeOf59 (H.extA hcl (by simp)) rfl) ?_; clear H; intro T H
      refine At.new H rfl (wN rfl) rfl rfl rfl (x_alloc Try.zeroValue59 rfl) ?_; clear H; intro b7 T w _ _ H
      refine At.storeA H rfl (wN rfl) rfl rfl (H.r 7 rfl) (H.r 24 rfl) Try.sizeOf59 (List.all_eq_true.1 rfl) (by repeat (first | exact Upd.here | apply Upd.there)) (by rfl) ?_; clear H; intro T w _ H
      refine At.regionEnd ?_
      refine At.seq ?_
      refine At.seq ?_
      refine At.drawnC (m := 9) (L := #[false, false, false, false, false, false, false, false, false]) H mixed rfl rfl ?_; clear H; intro w H
      refine GA.v (i := 0) (L' := #[true, false, false, false, false, false, false, false, false]) H rfl (wN rfl) rfl rfl rfl (by kernel_rfl) rfl (fun w H => x_fieldAddr (H.r 7 rfl) fa59_0) ?_; clear H; intro T H
      refine GA.v (i := 1) (L' := #[true, true, false, false, false, false, false, false, false]) H rfl (wN rfl) rfl rfl rfl (by kernel_rfl) rfl (fun w H => x_load (H.r 25 rfl) Try.isAgg3 (by first | exact H.cell (by repeat (first | exact List.mem_cons_self | apply List.mem_cons_of_mem)) _ rfl | exact H.cellR (by repeat (first | exact List.mem_cons_self | apply List.mem_cons_of_mem)) _ rfl)) ?_; clear H; intro T H
      refine GA.v (i := 2) (L' := #[true, true, true, false, false, false, false, false, false]) H rfl (wN rfl) rfl rfl rfl (by kernel_rfl) rfl (fun w H => x_fieldAddr (H.r 2 rfl) fa25_0) ?_; clear H; intro T H
      refine GA.v (i := 3) (L' := #[true, true, true, true, false, false, false, false, false]) H rfl (wN rfl) rfl rfl rfl (by kernel_rfl) rfl (fun w H => x_load (H.r 27 rfl) Try.isAgg22 (by first | exact H.cell (by repeat (first | exact List.mem_cons_self | apply List.mem_cons_of_mem)) _ rfl | exact H.cellR (by repeat (first | exact List.mem_cons_self | apply List.mem_cons_of_mem)) _ rfl)) ?_; clear H; intro T H
      refine GA.v (i := 4) (L' := #[true, true, true, true, true, false, false, false, false]) H rfl (wN rfl) rfl rfl rfl (by kernel_rfl) rfl (fun w H => x_move (H.r 1 rfl)) ?_; clear H; intro T H
      refine GA.v (i := 5) (L' := #[true, true, true, true, true, true, false, false, false]) H rfl (wN rfl) rfl rfl rfl (by kernel_rfl) rfl (fun w H => x_ixSN (H.r 28 rfl) (H.r 29 rfl) Try.runUnderlying22 Try.sizeOf59 (by omega)) ?_; clear H; intro T H
      refine GA.v (i := 6) (L' := #[true, true, true, true, true, true, true, false, false]) H rfl (wN rfl) rfl rfl rfl (by kernel_rfl) rfl (fun w H => x_fieldAddr (H.r 30 rfl) fa59_0) ?_; clear H; intro T H
      refine GA.v (i := 7) (L' := #[true, true, true, true, true, true, true, true, false]) H rfl (wN rfl) rfl rfl rfl (by kernel_rfl) rfl (fun w H => x_load (H.r 31 rfl) Try.isAgg3 (H.ext hcl2 (by simp))) ?_; clear H; intro T H
      refine GA.c (i := 8) (L' := #[true, true, true, true, true, true, true, true, true]) H rfl (wN rfl) rfl rfl rfl (by kernel_rfl) rfl (fun w H => x_gtr (H.r 26 rfl) (H.r 32 rfl)) ?_ ?_
      · clear H; intro h33 T H
        have hlk : (lessW men i (k + 1)).flatMap encW = (lessW men i k).flatMap encW ++ encW { m with place := m.place - 1 } := by rw [hls, List.flatMap_append, decP, if_pos (by rw [hpa]; exact h33)]; simp
        refine GA.done (by kernel_rfl) ?_
        refine At.condT (H.r 33 rfl) ?_
        refine At.region' (l := [0, 1, 2, 3, 4]) rfl ?_
        refine At.v H rfl (wN rfl) rfl rfl rfl (x_fieldAddr (H.r 7 rfl) fa59_0) ?_; clear H; intro T H
        refine At.v H rfl (wN rfl) rfl rfl rfl (x_load (H.r 34 rfl) Try.isAgg3 (by first | exact H.cell (by repeat (first | exact List.mem_cons_self | apply List.mem_cons_of_mem)) _ rfl | exact H.cellR (by repeat (first | exact List.mem_cons_self | apply List.mem_cons_of_mem)) _ rfl)) ?_; clear H; intro T H
        refine At.v H rfl (wN rfl) rfl rfl rfl (x_sub (H.r 35 rfl) evC (w64 (by omega) (by omega))) ?_; clear H; intro T H
        refine At.v H rfl (wN rfl) rfl rfl rfl (x_fieldAddr (H.r 7 rfl) fa59_0) ?_; clear H; intro T H
        refine At.store1 H rfl (wN rfl) rfl rfl (H.r 37 rfl) (H.r 36 rfl) Try.sizeOf3 rfl rfl (by repeat (first | exact Upd.here | apply Upd.there)) (by repeat (first | exact SetAt.z | apply SetAt.s)) ?_; clear H; intro T w _ H
        refine At.regionEnd ?_
        refine At.region' (l := [0, 1, 2, 3, 4, 5, 6]) rfl ?_
        refine At.v H rfl (wN rfl) rfl rfl rfl (x_fieldAddr (H.r 5 rfl) fa25_0) ?_; clear H; intro T H
        refine At.v H rfl (wN rfl) rfl rfl rfl (x_load (H.r 38 rfl) Try.isAgg22 (by first | exact H.cell (by repeat (first | exact List.mem_cons_self | apply List.mem_cons_of_mem)) _ rfl | exact H.cellR (by repeat (first | exact List.mem_cons_self | apply List.mem_cons_of_mem)) _ rfl)) ?_; clear H; intro T H
        refine At.v H rfl (wN rfl) rfl rfl rfl (x_loadA (H.r 7 rfl) Try.isAgg59 Try.sizeOf59 (H.cellsAt (n := 4) (by repeat (first | exact List.mem_cons_self | apply List.mem_cons_of_mem)) rfl) rfl) ?_; clear H; intro T H
        refine At.bs (n := 1) (L := ?l41_1) (e := ?e41_1) H rfl (wN rfl) rfl rfl rfl (x_bs1 (H.r 40 rfl) ?r41_1) ?_
        case r41_1 => (simp [go_sem]; rfl)
        clear H; intro b41 T w H
        refine At.append H rfl (wN rfl) rfl rfl rfl (etW w0) (H.r 39 rfl) (H.r 41 rfl) (by repeat (first | exact Take.here | apply Take.there)) (H.cellsAt (n := 4) (by repeat (first | exact List.mem_cons_self | apply List.mem_cons_of_mem)) rfl) rfl (by simp [Value.oneCell']) (by omega) ?_; clear H; intro A42 c42 T w hc42 hA42 H
        refine At.v H rfl (wN rfl) rfl rfl rfl (x_fieldAddr (H.r 5 rfl) fa25_0) ?_; clear H; intro T H
        refine At.store1 H rfl (wN rfl) rfl rfl (H.r 43 rfl) (H.r 42 rfl) Try.sizeOf22 rfl rfl (by repeat (first | exact Upd.here | apply Upd.there)) (by repeat (first | exact SetAt.z | apply SetAt.s)) ?_; clear H; intro T w _ H
        refine At.regionEnd ?_
        refine At.inBlock ?_
        refine At.region' (l := [0, 1, 2]) rfl ?_
        refine At.v H rfl (wN rfl) rfl rfl rfl (x_move (H.r 6 rfl)) ?_; clear H; intro T H
        refine At.v H rfl (wN rfl) rfl rfl rfl (x_add (H.r 15 rfl) evC (w64 (by omega) (by omega))) ?_; clear H; intro T H
        refine At.v H rfl (wN rfl) rfl rfl rfl (x_assign (H.r 16 rfl)) ?_; clear H; intro T H
        refine At.regionEnd ?_
        exact hnext0 _ _ _ _ _ (by omega) ⟨k + 1, _, _, rfl, by first | trivial | omega | exact ⟨by omega, by omega⟩, rfl, rfl⟩ (by simp only [List.cons_append, List.nil_append]; rw [hll, hlk]; exact (H.pk (by repeat (first | exact Pk.nil | exact Pk.all | refine Pk.cons (by repeat (first | exact Take.here | apply Take.there)) ?_ | apply Pk.skip))).sub (by repeat' (first | exact trivial | refine And.intro rfl ?_)))
      · clear H; intro h33 T H
        have hlk : (lessW men i (k + 1)).flatMap encW = (lessW men i k).flatMap encW ++ encW m := by rw [hls, List.flatMap_append, decP, if_neg (by rw [hpa]; exact h33)]; simp
        refine GA.done (by kernel_rfl) ?_
        refine At.condF (H.r 33 rfl) ?_
        refine At.skip ?_
        refine At.region' (l := [0, 1, 2, 3, 4, 5, 6]) rfl ?_
        refine At.v H rfl (wN rfl) rfl rfl rfl (x_fieldAddr (H.r 5 rfl) fa25_0) ?_; clear H; intro T H
        refine At.v H rfl (wN rfl) rfl rfl rfl (x_load (H.r 38 rfl) Try.isAgg22 (by first | exact H.cell (by repeat (first | exact List.mem_cons_self | apply List.mem_cons_of_mem)) _ rfl | exact H.cellR (by repeat (first | exact List.mem_cons_self | apply List.mem_cons_of_mem)) _ rfl)) ?_; clear H; intro T H
        refine At.v H rfl (wN rfl) rfl rfl rfl (x_loadA (H.r 7 rfl) Try.isAgg59 Try.sizeOf59 (H.cellsAt (n := 4) (by repeat (first | exact List.mem_cons_self | apply List.mem_cons_of_mem)) rfl) rfl) ?_; clear H; intro T H
        refine At.bs (n := 1) (L := ?l41_2) (e := ?e41_2) H rfl (wN rfl) rfl rfl rfl (x_bs1 (H.r 40 rfl) ?r41_2) ?_
        case r41_2 => (simp [go_sem]; rfl)
        clear H; intro b41 T w H
        refine At.append H rfl (wN rfl) rfl rfl rfl (etW w0) (H.r 39 rfl) (H.r 41 rfl) (by repeat (first | exact Take.here | apply Take.there)) (H.cellsAt (n := 4) (by repeat (first | exact List.mem_cons_self | apply List.mem_cons_of_mem)) rfl) rfl (by simp [Value.oneCell']) (by omega) ?_; clear H; intro A42 c42 T w hc42 hA42 H
        refine At.v H rfl (wN rfl) rfl rfl rfl (x_fieldAddr (H.r 5 rfl) fa25_0) ?_; clear H; intro T H
        refine At.store1 H rfl (wN rfl) rfl rfl (H.r 43 rfl) (H.r 42 rfl) Try.sizeOf22 rfl rfl (by repeat (first | exact Upd.here | apply Upd.there)) (by repeat (first | exact SetAt.z | apply SetAt.s)) ?_; clear H; intro T w _ H
        refine At.regionEnd ?_
        refine At.inBlock ?_
        refine At.region' (l := [0, 1, 2]) rfl ?_
        refine At.v H rfl (wN rfl) rfl rfl rfl (x_move (H.r 6 rfl)) ?_; clear H; intro T H
        refine At.v H rfl (wN rfl) rfl rfl rfl (x_add (H.r 15 rfl) evC (w64 (by omega) (by omega))) ?_; clear H; intro T H
        refine At.v H rfl (wN rfl) rfl rfl rfl (x_assign (H.r 16 rfl)) ?_; clear H; intro T H
        refine At.regionEnd ?_
        exact hnext0 _ _ _ _ _ (by omega) ⟨k + 1, _, _, rfl, by first | trivial | omega | exact ⟨by omega, by omega⟩, rfl, rfl⟩ (by simp only [List.cons_append, List.nil_append]; rw [hll, hlk]; exact (H.pk (by repeat (first | exact Pk.nil | exact Pk.all | refine Pk.cons (by repeat (first | exact Take.here | apply Take.there)) ?_ | apply Pk.skip))).sub (by repeat' (first | exact trivial | refine And.intro rfl ?_)))
  · clear H; intro h14 T H
    obtain rfl : men.length = k := by omega
    rw [lessW_end] at H
    refine At.regionEnd ?_
    refine At.condF (H.r 14 rfl) ?_
    refine At.exit rfl ?_
    refine At.seq ?_
    refine At.region' (l := [0, 1]) rfl ?_
    refine At.v H rfl (wN rfl) rfl rfl rfl (x_loadA (H.r 5 rfl) Try.isAgg25 Try.sizeOf25 (H.cellsAt (n := 2) (by repeat (first | exact List.mem_cons_self | apply List.mem_cons_of_mem)) rfl) rfl) ?_; clear H; intro T H
    refine At.storeA H rfl (wN rfl) rfl rfl (H.r 4 rfl) (H.r 44 rfl) Try.sizeOf25 (List.all_eq_true.1 rfl) (by repeat (first | exact Upd.here | apply Upd.there)) (by rfl) ?_; clear H; intro T w _ H
    refine At.regionEnd ?_
    refine At.ret rfl ?_
    exact lea Try.func21 (resL1 Try.results21 (.cellA (H.r 4 rfl) Try.isAgg25 Try.sizeOf25 (H.cellsAt (n := 2) (by repeat (first | exact List.mem_cons_self | apply List.mem_cons_of_mem)) rfl) rfl .nil)) (RetG.of (H.pk (G' := [.row (.slice A (lessMen men i).length c) 59 4 (lessMen men i).length ((lessMen men i).flatMap encW)]) (by repeat (first | exact Pk.nil | exact Pk.all | refine Pk.cons (by repeat (first | exact Take.here | apply Take.there)) ?_ | apply Pk.skip))) [.row (.slice A (lessMen men i).length c) 59 4 (lessMen men i).length ((lessMen men i).flatMap encW)] (List.Sublist.refl _) (by simp [Ent.w, Ent.keys]) (⟨A, c, rfl, rfl⟩))
end Go.Proofs.Pz
end
section
namespace Go.Proofs.Pz
open Go.Sx Go.RowKit
set_option linter.unusedVariables false
namespace AO
theorem fa25_0 (a : Addr) (w : World) : (Instr.fieldAt 25 (.pointer (some a)) 0).run Try.prog w = .ok (.pointer (some (a.add 0))) w := by simp [go_sem]
theorem fa59_0 (a : Addr) (w : World) : (Instr.fieldAt 59 (.pointer (some a)) 0).run Try.prog w = .ok (.pointer (some (a.add 0))) w := by simp [go_sem]
end AO
open AO
def shiftP (old p : Int) (m : Wi) : Wi := if old < m.place ∧ m.place ≤ p then { m with place := m.place - 1 } else if m.place < old ∧ p ≤ m.place then { m with place := m.place + 1 } else m
def movK (men : List Wi) (old p : Int) (k : Nat) : List Wi := (men.take k).map (shiftP old p) ++ men.drop k
def movedM (men : List Wi) (i : Nat) (p : Int) : List Wi := match men[i]? with
  | some mi => (men.map (shiftP mi.place p)).set i { mi with place := p }
  | none => men
theorem movK_len (men : List Wi) (old p : Int) (k : Nat) : (movK men old p k).length = men.length := by
  simp only [movK, List.length_append, List.length_map, List.length_take, List.length_drop]; omega
theorem movK_at {men : List Wi} {old p : Int} {k : Nat} {x : Wi} (h : men[k]? = some x) : (movK men old p k)[k]? = some x := by
  have hlt := (List.getElem?_eq_some_iff.1 h).1
  rw [movK, List.getElem?_append_right (by rw [List.length_map, List.length_take]; omega), List.length_map, List.length_take, List.getElem?_drop, ← h]
  congr 1
  omega
theorem movK_succ {men : List Wi} {old p : Int} {k : Nat} {x : Wi} (h : men[k]? = some x) : movK men old p (k + 1) = (movK men old p k).set k (shiftP old p x) := by
  have hlt := (List.getElem?_eq_some_iff.1 h).1
  have hd : men.drop k = x :: men.drop (k + 1) := by
    have h2 := (List.getElem?_eq_some_iff.1 h).2
    rw [← h2, List.getElem_cons_drop]
  rw [movK, movK, List.take_add_one, h, hd, List.set_append_right _ _ (by rw [List.length_map, List.length_take]; omega), List.length_map, List.length_take, show k - min k men.length = 0 by omega]
  simp
theorem movK_zero (men : List Wi) (old p : Int) : movK men old p 0 = men := by simp [movK]
theorem movK_end (men : List Wi) (old p : Int) : movK men old p men.length = men.map (shiftP old p) := by simp [movK]
theorem movK_same {men : List Wi} {old p : Int} {k : Nat} {x : Wi} (h : men[k]? = some x) (hs : shiftP old p x = x) : movK men old p (k + 1) = movK men old p k := by
  rw [movK_succ h, hs]
  exact List.ext_getElem? (fun j => by rw [List.getElem?_set]; split; (rename_i e; subst e; rw [if_pos (List.getElem?_eq_some_iff.1 (movK_at h)).1, movK_at h]); rfl)
theorem Moved {AM AL : Option Addr} {cM bM oM cL bL oL : Nat} {men : List Wi} {list : List Zi} {w0 : World} (hM : SlP encW 4 w0 AM cM bM oM men) (hL : SlP encZ 2 w0 AL cL bL oL list) {i : Nat} {p : Int} (hi : i < men.length) (hb : ∀ m ∈ men, 0 ≤ m.place ∧ m.place ≤ 8) (h8 : men.length ≤ 8) : Calls Try.prog 24 #[(.agg #[(.slice AM men.length cM), (.slice AL list.length cL)]), .int .i64 (i : Int), .int .i64 p] w0
    (RetG w0 fun v E _ => ∃ A c, v = .agg #[.slice A men.length c, (.slice AL list.length cL)] ∧ E = [.row (.slice A men.length c) 59 4 men.length ((movedM men i p).flatMap encW)]) := by
  obtain ⟨mi, hmi⟩ := get_ex hi
  have hMM : (movedM men i p) = (men.map (shiftP mi.place p)).set i { mi with place := p } := by rw [movedM, hmi]
  have hci := hM.cell i mi hmi 0 _ rfl
  refine enter (args := [(.agg #[(.slice AM men.length cM), (.slice AL list.length cL)]), .int .i64 (i : Int), .int .i64 p]) (S := []) Try.func24 rfl Try.ntmps24 rfl fun cs T H => ?_
  obtain rfl := hM.addr (fun e => by simp [e] at hi)
  refine At.seq ?_
  refine At.region' (l := [0, 1]) rfl ?_
  refine At.new H rfl (wN rfl) rfl rfl rfl (x_box (H.r 0 rfl) rfl) ?_; clear H; intro b3 T w _ _ H
  refine At.new H rfl (wN rfl) rfl rfl rfl (x_alloc Try.zeroValue25 rfl) ?_; clear H; intro b6 T w _ _ H
  refine At.regionEnd ?_
  refine At.seq ?_
  refine At.region' (l := [0, 1, 2]) rfl ?_
  refine At.v H rfl (wN rfl) rfl rfl rfl (x_loadA (H.r 3 rfl) Try.isAgg25 Try.sizeOf25 (H.cellsAt (n := 2) (by repeat (first | exact List.mem_cons_self | apply List.mem_cons_of_mem)) rfl) rfl) ?_; clear H; intro T H
  refine At.new H rfl (wN rfl) rfl rfl rfl (x_alloc Try.zeroValue25 rfl) ?_; clear H; intro b7 T w _ _ H
  refine At.storeA H rfl (wN rfl) rfl rfl (H.r 7 rfl) (H.r 11 rfl) Try.sizeOf25 (List.all_eq_true.1 rfl) (by repeat (first | exact Upd.here | apply Upd.there)) (by rfl) ?_; clear H; intro T w _ H
  refine At.regionEnd ?_
  refine At.seq ?_
  refine At.region' (l := [0, 1, 2, 3, 4, 5]) rfl ?_
  refine At.bs (n := 0) (L := ?l12_1) (e := ?e12_1) H rfl (wN rfl) rfl rfl rfl (x_bs0  ?r12_1) ?_
  case r12_1 => (simp [go_sem]; rfl)
  clear H; intro b12 T w H
  replace H := H.toRow (n := 0) (sz := 4) (e := 59) (by repeat (first | exact Take.here | apply Take.there)) rfl (by decide)
  refine At.v H rfl (wN rfl) rfl rfl rfl (x_fieldAddr (H.r 3 rfl) fa25_0) ?_; clear H; intro T H
  refine At.v H rfl (wN rfl) rfl rfl rfl (x_load (H.r 13 rfl) Try.isAgg22 (by first | exact H.cell (by repeat (first | exact List.mem_cons_self | apply List.mem_cons_of_mem)) _ rfl | exact H.cellR (by repeat (first | exact List.mem_cons_self | apply List.mem_cons_of_mem)) _ rfl)) ?_; clear H; intro T H
  refine At.append H rfl (wN rfl) rfl rfl rfl (etW w0) (H.r 12 rfl) (H.r 14 rfl) (by repeat (first | exact Take.here | apply Take.there)) (H.extA (hM.flat lenW) (by simp)) (flatW_len _) (flat_one oneW men) (by omega) ?_; clear H; intro A15 c15 T w hc15 hA15 H
  refine At.v H rfl (wN rfl) rfl rfl rfl (x_fieldAddr (H.r 7 rfl) fa25_0) ?_; clear H; intro T H
  refine At.store1 H rfl (wN rfl) rfl rfl (H.r 16 rfl) (H.r 15 rfl) Try.sizeOf22 rfl rfl (by repeat (first | exact Upd.here | apply Upd.there)) (by repeat (first | exact SetAt.z | apply SetAt.s)) ?_; clear H; intro T w _ H
  simp only [Nat.zero_add, List.nil_append] at H
  refine At.regionEnd ?_
  refine At.seq ?_
  refine At.region' (l := [0, 1, 2, 3, 4, 5, 6]) rfl ?_
  refine At.v H rfl (wN rfl) rfl rfl rfl (x_fieldAddr (H.r 3 rfl) fa25_0) ?_; clear H; intro T H
  refine At.v H rfl (wN rfl) rfl rfl rfl (x_load (H.r 17 rfl) Try.isAgg22 (by first | exact H.cell (by repeat (first | exact List.mem_cons_self | apply List.mem_cons_of_mem)) _ rfl | exact H.cellR (by repeat (first | exact List.mem_cons_self | apply List.mem_cons_of_mem)) _ rfl)) ?_; clear H; intro T H
  refine At.v H rfl (wN rfl) rfl rfl rfl (x_move (H.r 1 rfl)) ?_; clear H; intro T H
  refine At.v H rfl (wN rfl) rfl rfl rfl (x_ixSN (H.r 18 rfl) (H.r 19 rfl) Try.runUnderlying22 Try.sizeOf59 (by omega)) ?_; clear H; intro T H
  refine At.v H rfl (wN rfl) rfl rfl rfl (x_fieldAddr (H.r 20 rfl) fa59_0) ?_; clear H; intro T H
  refine At.v H rfl (wN rfl) rfl rfl rfl (x_load (H.r 21 rfl) Try.isAgg3 (H.ext hci (by simp))) ?_; clear H; intro T H
  refine At.v H rfl (wN rfl) rfl rfl rfl (x_assign (H.r 22 rfl)) ?_; clear H; intro T H
  refine At.regionEnd ?_
  refine At.seq ?_
  refine At.seq ?_
  refine At.region' (l := [0]) rfl ?_
  refine At.v H rfl (wN rfl) rfl rfl rfl (x_assign evC) ?_; clear H; intro T H
  refine At.regionEnd ?_
  refine At.block ?_
  replace H := ((H.fore (PkS.cons (x := .row _ _ _ _ _) (by repeat (first | exact Take.here | apply Take.there)) (PkS.cons (x := .blk b7 _) (by repeat (first | exact Take.here | apply Take.there)) PkS.nil))).sub (R' := [(9, _)] ++ [(1, _), (2, _), (6, _), (7, _), (8, _)]) (by repeat' (first | exact trivial | refine And.intro rfl ?_)))
  refine At.loopF H (fun μ R1 G1 => ∃ (k : Nat) (A : Option Addr) (c : Nat), μ = men.length - k ∧ (k ≤ men.length) ∧ R1 = [(9, .int .i64 (k : Int))] ∧ G1 = [.row (.slice A men.length c) 59 4 men.length ((movK men mi.place p k).flatMap encW), .blk b7 (Eo (.cells [.slice A men.length c, (.slice AL list.length cL)].toArray 25 (0, 0)))]) (men.length) ⟨0, A15, c15, by first | rfl | omega, by first | trivial | omega | exact ⟨by omega, by omega⟩, rfl, by rw [movK_zero]; rfl⟩ ?_
  clear H; rintro _ _ _ T w ⟨k, A, c, rfl, hP0, rfl, rfl⟩ H hnext0
  simp only [List.cons_append, List.nil_append] at H
  refine At.seq ?_
  refine At.seq ?_
  refine At.region' (l := [0, 1, 2, 3, 4]) rfl ?_
  refine At.v H rfl (wN rfl) rfl rfl rfl (x_move (H.r 9 rfl)) ?_; clear H; intro T H
  refine At.v H rfl (wN rfl) rfl rfl rfl (x_fieldAddr (H.r 7 rfl) fa25_0) ?_; clear H; intro T H
  refine At.v H rfl (wN rfl) rfl rfl rfl (x_load (H.r 24 rfl) Try.isAgg22 (by first | exact H.cell (by repeat (first | exact List.mem_cons_self | apply List.mem_cons_of_mem)) _ rfl | exact H.cellR (by repeat (first | exact List.mem_cons_self | apply List.mem_cons_of_mem)) _ rfl)) ?_; clear H; intro T H
  refine At.v H rfl (wN rfl) rfl rfl rfl (x_len (H.r 25 rfl) Try.runUnderlying22) ?_; clear H; intro T H
  refine At.c H rfl (wN rfl) rfl rfl rfl (x_lss (H.r 23 rfl) (H.r 26 rfl)) ?_ ?_
  · clear H; intro h27 T H
    have hk1 : k < men.length := by omega
    obtain ⟨m, hm⟩ := get_ex hk1
    have hbm := hb m (List.mem_of_getElem? hm)
    obtain ⟨g, rfl⟩ := H.rowAddr (A := A) (by repeat (first | exact List.mem_cons_self | apply List.mem_cons_of_mem)) (by omega)
    have hat := movK_at (old := mi.place) (p := p) hm
    have hcl := H.rowCell (g := g) (by repeat (first | exact List.mem_cons_self | apply List.mem_cons_of_mem)) (0 + k * 4 + 0) (by rw [show 0 + k * 4 + 0 = k * 4 + 0 by omega]; exact flatW_at hat 0 _ rfl)
    have hlen := movK_len men mi.place p k
    have hms := movK_succ (old := mi.place) (p := p) hm
    refine At.regionEnd ?_
    refine At.condT (H.r 27 rfl) ?_
    refine At.skip ?_
    refine At.seq ?_
    refine At.block ?_
    refine At.seq ?_
    refine At.region' (l := [0, 1, 2, 3, 4, 5, 6]) rfl ?_
    refine At.v H rfl (wN rfl) rfl rfl rfl (x_fieldAddr (H.r 7 rfl) fa25_0) ?_; clear H; intro T H
    refine At.v H rfl (wN rfl) rfl rfl rfl (x_load (H.r 30 rfl) Try.isAgg22 (by first | exact H.cell (by repeat (first | exact List.mem_cons_self | apply List.mem_cons_of_mem)) _ rfl | exact H.cellR (by repeat (first | exact List.mem_cons_self | apply List.mem_cons_of_mem)) _ rfl)) ?_; clear H; intro T H
    refine At.v H rfl (wN rfl) rfl rfl rfl (x_move (H.r 9 rfl)) ?_; clear H; intro T H
    refine At.v H rfl (wN rfl) rfl rfl rfl (x_ixSN (H.r 31 rfl) (H.r 32 rfl) Try.runUnderlying22 Try.sizeOf59 (by omega)) ?_; clear H; intro T H
    refine At.v H rfl (wN rfl) rfl rfl rfl (x_fieldAddr (H.r 33 rfl) fa59_0) ?_; clear H; intro T H
    refine At.v H rfl (wN rfl) rfl rfl rfl (x_load (H.r 34 rfl) Try.isAgg3 hcl) ?_; clear H; intro T H
    refine At.v H rfl (wN rfl) rfl rfl rfl (x_assign (H.r 35 rfl)) ?_; clear H; intro T H
    refine At.regionEnd ?_
    refine At.seq ?_
    refine At.seq ?_
    refine At.region' (l := [0, 1, 2, 3, 4, 5, 6, 7]) rfl ?_
    refine At.v H rfl (wN rfl) rfl rfl rfl (x_move (H.r 10 rfl)) ?_; clear H; intro T H
    refine At.v H rfl (wN rfl) rfl rfl rfl (x_move (H.r 8 rfl)) ?_; clear H; intro T H
    refine At.c H rfl (wN rfl) rfl rfl rfl (x_gtr (H.r 36 rfl) (H.r 37 rfl)) ?_ ?_
    · clear H; intro h38 T H
      refine At.v H rfl (wN rfl) rfl rfl rfl (x_move (H.r 38 rfl)) ?_; clear H; intro T H
      refine At.v H rfl (wS H rfl rfl rfl) rfl rfl rfl (x_move (H.r 10 rfl)) ?_; clear H; intro T H
      refine At.v H rfl (wS H rfl rfl rfl) rfl rfl rfl (x_move (H.r 2 rfl)) ?_; clear H; intro T H
      refine At.c H rfl (wS H rfl rfl rfl) rfl rfl rfl (x_leq (H.r 40 rfl) (H.r 41 rfl)) ?_ ?_
      · clear H; intro h42 T H
        refine At.v H rfl (wN rfl) rfl rfl rfl (x_pickT (H.r 39 rfl) (H.r 42 rfl)) ?_; clear H; intro T H
        refine At.regionEnd ?_
        refine At.condT (H.r 43 rfl) ?_
        refine At.region' (l := [0, 1, 2, 3, 4, 5, 6, 7, 8, 9]) rfl ?_
        refine At.v H rfl (wN rfl) rfl rfl rfl (x_fieldAddr (H.r 7 rfl) fa25_0) ?_; clear H; intro T H
        refine At.v H rfl (wN rfl) rfl rfl rfl (x_load (H.r 44 rfl) Try.isAgg22 (by first | exact H.cell (by repeat (first | exact List.mem_cons_self | apply List.mem_cons_of_mem)) _ rfl | exact H.cellR (by repeat (first | exact List.mem_cons_self | apply List.mem_cons_of_mem)) _ rfl)) ?_; clear H; intro T H
        refine At.v H rfl (wN rfl) rfl rfl rfl (x_move (H.r 9 rfl)) ?_; clear H; intro T H
        refine At.v H rfl (wN rfl) rfl rfl rfl (x_ixSN (H.r 45 rfl) (H.r 46 rfl) Try.runUnderlying22 Try.sizeOf59 (by omega)) ?_; clear H; intro T H
        refine At.v H rfl (wN rfl) rfl rfl rfl (x_fieldAddr (H.r 47 rfl) fa59_0) ?_; clear H; intro T H
        refine At.v H rfl (wN rfl) rfl rfl rfl (x_load (H.r 48 rfl) Try.isAgg3 hcl) ?_; clear H; intro T H
        refine At.v H rfl (wN rfl) rfl rfl rfl (x_sub (H.r 49 rfl) evC (w64 (by omega) (by omega))) ?_; clear H; intro T H
        refine At.v H rfl (wN rfl) rfl rfl rfl (x_ixSN (H.r 45 rfl) (H.r 46 rfl) Try.runUnderlying22 Try.sizeOf59 (by omega)) ?_; clear H; intro T H
        refine At.v H rfl (wN rfl) rfl rfl rfl (x_fieldAddr (H.r 51 rfl) fa59_0) ?_; clear H; intro T H
        refine At.storeR (l' := (((movK men mi.place p k)).set k { m with place := m.place - 1 }).flatMap encW) H rfl (wN rfl) rfl rfl (H.r 52 rfl) (H.r 50 rfl) Try.sizeOf3 rfl rfl (by repeat (first | exact Take.here | apply Take.there)) (by rw [flatW_len, hlen]; omega) (by rw [show 0 + k * 4 + 0 = k * 4 by omega, flatW_set hat]) ?_; clear H; intro T w _ H
        have hmv : movK men mi.place p (k + 1) = ((movK men mi.place p k)).set k { m with place := m.place - 1 } := by rw [hms, shiftP, if_pos ⟨by omega, by omega⟩]
        refine At.regionEnd ?_
        refine At.seq ?_
        refine At.region' (l := [0, 1, 2, 3, 4, 5, 6, 7]) rfl ?_
        refine At.v H rfl (wN rfl) rfl rfl rfl (x_move (H.r 10 rfl)) ?_; clear H; intro T H
        refine At.v H rfl (wN rfl) rfl rfl rfl (x_move (H.r 8 rfl)) ?_; clear H; intro T H
        refine At.c H rfl (wN rfl) rfl rfl rfl (x_lss (H.r 53 rfl) (H.r 54 rfl)) ?_ ?_
        · clear H; intro h55 T H
          exfalso; omega
        · clear H; intro h55 T H
          refine At.v H rfl (wN rfl) rfl rfl rfl (x_move (H.r 55 rfl)) ?_; clear H; intro T H
          refine At.u H rfl (wU H rfl rfl rfl rfl) rfl rfl ?_; clear H; intro T H
          refine At.u H rfl (wU H rfl rfl rfl rfl) rfl rfl ?_; clear H; intro T H
          refine At.u H rfl (wU H rfl rfl rfl rfl) rfl rfl ?_; clear H; intro T H
          refine At.v H rfl (wN rfl) rfl rfl rfl (x_pickF (H.r 56 rfl) evC) ?_; clear H; intro T H
          refine At.regionEnd ?_
          refine At.condF (H.r 60 rfl) ?_
          refine At.skip ?_
          refine At.inBlock ?_
          refine At.region' (l := [0, 1, 2]) rfl ?_
          refine At.v H rfl (wN rfl) rfl rfl rfl (x_move (H.r 9 rfl)) ?_; clear H; intro T H
          refine At.v H rfl (wN rfl) rfl rfl rfl (x_add (H.r 28 rfl) evC (w64 (by omega) (by omega))) ?_; clear H; intro T H
          refine At.v H rfl (wN rfl) rfl rfl rfl (x_assign (H.r 29 rfl)) ?_; clear H; intro T H
          refine At.regionEnd ?_
          exact hnext0 _ _ _ _ _ (by omega) ⟨k + 1, _, _, rfl, by first | trivial | omega | exact ⟨by omega, by omega⟩, rfl, rfl⟩ (by simp only [List.cons_append, List.nil_append]; rw [hmv]; exact (H.pk (by repeat (first | exact Pk.nil | exact Pk.all | refine Pk.cons (by repeat (first | exact Take.here | apply Take.there)) ?_ | apply Pk.skip))).sub (by repeat' (first | exact trivial | refine And.intro rfl ?_)))
      · clear H; intro h42 T H
        refine At.v H rfl (wN rfl) rfl rfl rfl (x_pickT (H.r 39 rfl) (H.r 42 rfl)) ?_; clear H; intro T H
        refine At.regionEnd ?_
        refine At.condF (H.r 43 rfl) ?_
        refine At.skip ?_
        refine At.seq ?_
        refine At.region' (l := [0, 1, 2, 3, 4, 5, 6, 7]) rfl ?_
        refine At.v H rfl (wN rfl) rfl rfl rfl (x_move (H.r 10 rfl)) ?_; clear H; intro T H
        refine At.v H rfl (wN rfl) rfl rfl rfl (x_move (H.r 8 rfl)) ?_; clear H; intro T H
        refine At.c H rfl (wN rfl) rfl rfl rfl (x_lss (H.r 53 rfl) (H.r 54 rfl)) ?_ ?_
        · clear H; intro h55 T H
          refine At.v H rfl (wN rfl) rfl rfl rfl (x_move (H.r 55 rfl)) ?_; clear H; intro T H
          refine At.v H rfl (wS H rfl rfl rfl) rfl rfl rfl (x_move (H.r 10 rfl)) ?_; clear H; intro T H
          refine At.v H rfl (wS H rfl rfl rfl) rfl rfl rfl (x_move (H.r 2 rfl)) ?_; clear H; intro T H
          refine At.c H rfl (wS H rfl rfl rfl) rfl rfl rfl (x_geq (H.r 57 rfl) (H.r 58 rfl)) ?_ ?_
          · clear H; intro h59 T H
            refine At.v H rfl (wN rfl) rfl rfl rfl (x_pickT (H.r 56 rfl) (H.r 59 rfl)) ?_; clear H; intro T H
            refine At.regionEnd ?_
            refine At.condT (H.r 60 rfl) ?_
            refine At.region' (l := [0, 1, 2, 3, 4, 5, 6, 7, 8, 9]) rfl ?_
            refine At.v H rfl (wN rfl) rfl rfl rfl (x_fieldAddr (H.r 7 rfl) fa25_0) ?_; clear H; intro T H
            refine At.v H rfl (wN rfl) rfl rfl rfl (x_load (H.r 61 rfl) Try.isAgg22 (by first | exact H.cell (by repeat (first | exact List.mem_cons_self | apply List.mem_cons_of_mem)) _ rfl | exact H.cellR (by repeat (first | exact List.mem_cons_self | apply List.mem_cons_of_mem)) _ rfl)) ?_; clear H; intro T H
            refine At.v H rfl (wN rfl) rfl rfl rfl (x_move (H.r 9 rfl)) ?_; clear H; intro T H
            refine At.v H rfl (wN rfl) rfl rfl rfl (x_ixSN (H.r 62 rfl) (H.r 63 rfl) Try.runUnderlying22 Try.sizeOf59 (by omega)) ?_; clear H; intro T H
            refine At.v H rfl (wN rfl) rfl rfl rfl (x_fieldAddr (H.r 64 rfl) fa59_0) ?_; clear H; intro T H
            refine At.v H rfl (wN rfl) rfl rfl rfl (x_load (H.r 65 rfl) Try.isAgg3 hcl) ?_; clear H; intro T H
            refine At.v H rfl (wN rfl) rfl rfl rfl (x_add (H.r 66 rfl) evC (w64 (by omega) (by omega))) ?_; clear H; intro T H
            refine At.v H rfl (wN rfl) rfl rfl rfl (x_ixSN (H.r 62 rfl) (H.r 63 rfl) Try.runUnderlying22 Try.sizeOf59 (by omega)) ?_; clear H; intro T H
            refine At.v H rfl (wN rfl) rfl rfl rfl (x_fieldAddr (H.r 68 rfl) fa59_0) ?_; clear H; intro T H
            refine At.storeR (l' := (((movK men mi.place p k)).set k { m with place := m.place + 1 }).flatMap encW) H rfl (wN rfl) rfl rfl (H.r 69 rfl) (H.r 67 rfl) Try.sizeOf3 rfl rfl (by repeat (first | exact Take.here | apply Take.there)) (by rw [flatW_len, hlen]; omega) (by rw [show 0 + k * 4 + 0 = k * 4 by omega, flatW_set hat]) ?_; clear H; intro T w _ H
            have hmv : movK men mi.place p (k + 1) = ((movK men mi.place p k)).set k { m with place := m.place + 1 } := by rw [hms, shiftP, if_neg (by omega), if_pos ⟨by omega, by omega⟩]
            refine At.regionEnd ?_
            refine At.inBlock ?_
            refine At.region' (l := [0, 1, 2]) rfl ?_
            refine At.v H rfl (wN rfl) rfl rfl rfl (x_move (H.r 9 rfl)) ?_; clear H; intro T H
            refine At.v H rfl (wN rfl) rfl rfl rfl (x_add (H.r 28 rfl) evC (w64 (by omega) (by omega))) ?_; clear H; intro T H
            refine At.v H rfl (wN rfl) rfl rfl rfl (x_assign (H.r 29 rfl)) ?_; clear H; intro T H
            refine At.regionEnd ?_
            exact hnext0 _ _ _ _ _ (by omega) ⟨k + 1, _, _, rfl, by first | trivial | omega | exact ⟨by omega, by omega⟩, rfl, rfl⟩ (by simp only [List.cons_append, List.nil_append]; rw [hmv]; exact (H.pk (by repeat (first | exact Pk.nil | exact Pk.all | refine Pk.cons (by repeat (first | exact Take.here | apply Take.there)) ?_ | apply Pk.skip))).sub (by repeat' (first | exact trivial | refine And.intro rfl ?_)))
          · clear H; intro h59 T H
            have hmv : movK men mi.place p (k + 1) = (movK men mi.place p k) := movK_same hm (by rw [shiftP, if_neg (by omega), if_neg (by omega)])
            refine At.v H rfl (wN rfl) rfl rfl rfl (x_pickT (H.r 56 rfl) (H.r 59 rfl)) ?_; clear H; intro T H
            refine At.regionEnd ?_
            refine At.condF (H.r 60 rfl) ?_
            refine At.skip ?_
            refine At.inBlock ?_
            refine At.region' (l := [0, 1, 2]) rfl ?_
            refine At.v H rfl (wN rfl) rfl rfl rfl (x_move (H.r 9 rfl)) ?_; clear H; intro T H
            refine At.v H rfl (wN rfl) rfl rfl rfl (x_add (H.r 28 rfl) evC (w64 (by omega) (by omega))) ?_; clear H; intro T H
            refine At.v H rfl (wN rfl) rfl rfl rfl (x_assign (H.r 29 rfl)) ?_; clear H; intro T H
            refine At.regionEnd ?_
            exact hnext0 _ _ _ _ _ (by omega) ⟨k + 1, _, _, rfl, by first | trivial | omega | exact ⟨by omega, by omega⟩, rfl, rfl⟩ (by simp only [List.cons_append, List.nil_append]; rw [hmv]; exact (H.pk (by repeat (first | exact Pk.nil | exact Pk.all | refine Pk.cons (by repeat (first | exact Take.here | apply Take.there)) ?_ | apply Pk.skip))).sub (by repeat' (first | exact trivial | refine And.intro rfl ?_)))
        · clear H; intro h55 T H
          have hmv : movK men mi.place p (k + 1) = (movK men mi.place p k) := movK_same hm (by rw [shiftP, if_neg (by omega), if_neg (by omega)])
          refine At.v H rfl (wN rfl) rfl rfl rfl (x_move (H.r 55 rfl)) ?_; clear H; intro T H
          refine At.u H rfl (wU H rfl rfl rfl rfl) rfl rfl ?_; clear H; intro T H
          refine At.u H rfl (wU H rfl rfl rfl rfl) rfl rfl ?_; clear H; intro T H
          refine At.u H rfl (wU H rfl rfl rfl rfl) rfl rfl ?_; clear H; intro T H
          refine At.v H rfl (wN rfl) rfl rfl rfl (x_pickF (H.r 56 rfl) evC) ?_; clear H; intro T H
          refine At.regionEnd ?_
          refine At.condF (H.r 60 rfl) ?_
          refine At.skip ?_
          refine At.inBlock ?_
          refine At.region' (l := [0, 1, 2]) rfl ?_
          refine At.v H rfl (wN rfl) rfl rfl rfl (x_move (H.r 9 rfl)) ?_; clear H; intro T H
          refine At.v H rfl (wN rfl) rfl rfl rfl (x_add (H.r 28 rfl) evC (w64 (by omega) (by omega))) ?_; clear H; intro T H
          refine At.v H rfl (wN rfl) rfl rfl rfl (x_assign (H.r 29 rfl)) ?_; clear H; intro T H
          refine At.regionEnd ?_
          exact hnext0 _ _ _ _ _ (by omega) ⟨k + 1, _, _, rfl, by first | trivial | omega | exact ⟨by omega, by omega⟩, rfl, rfl⟩ (by simp only [List.cons_append, List.nil_append]; rw [hmv]; exact (H.pk (by repeat (first | exact Pk.nil | exact Pk.all | refine Pk.cons (by repeat (first | exact Take.here | apply Take.there)) ?_ | apply Pk.skip))).sub (by repeat' (first | exact trivial | refine And.intro rfl ?_)))
    · clear H; intro h38 T H
      refine At.v H rfl (wN rfl) rfl rfl rfl (x_move (H.r 38 rfl)) ?_; clear H; intro T H
      refine At.u H rfl (wU H rfl rfl rfl rfl) rfl rfl ?_; clear H; intro T H
      refine At.u H rfl (wU H rfl rfl rfl rfl) rfl rfl ?_; clear H; intro T H
      refine At.u H rfl (wU H rfl rfl rfl rfl) rfl rfl ?_; clear H; intro T H
      refine At.v H rfl (wN rfl) rfl rfl rfl (x_pickF (H.r 39 rfl) evC) ?_; clear H; intro T H
      refine At.regionEnd ?_
      refine At.condF (H.r 43 rfl) ?_
      refine At.skip ?_
      refine At.seq ?_
      refine At.region' (l := [0, 1, 2, 3, 4, 5, 6, 7]) rfl ?_
      refine At.v H rfl (wN rfl) rfl rfl rfl (x_move (H.r 10 rfl)) ?_; clear H; intro T H
      refine At.v H rfl (wN rfl) rfl rfl rfl (x_move (H.r 8 rfl)) ?_; clear H; intro T H
      refine At.c H rfl (wN rfl) rfl rfl rfl (x_lss (H.r 53 rfl) (H.r 54 rfl)) ?_ ?_
      · clear H; intro h55 T H
        refine At.v H rfl (wN rfl) rfl rfl rfl (x_move (H.r 55 rfl)) ?_; clear H; intro T H
        refine At.v H rfl (wS H rfl rfl rfl) rfl rfl rfl (x_move (H.r 10 rfl)) ?_; clear H; intro T H
        refine At.v H rfl (wS H rfl rfl rfl) rfl rfl rfl (x_move (H.r 2 rfl)) ?_; clear H; intro T H
        refine At.c H rfl (wS H rfl rfl rfl) rfl rfl rfl (x_geq (H.r 57 rfl) (H.r 58 rfl)) ?_ ?_
        · clear H; intro h59 T H
          refine At.v H rfl (wN rfl) rfl rfl rfl (x_pickT (H.r 56 rfl) (H.r 59 rfl)) ?_; clear H; intro T H
          refine At.regionEnd ?_
          refine At.condT (H.r 60 rfl) ?_
          refine At.region' (l := [0, 1, 2, 3, 4, 5, 6, 7, 8, 9]) rfl ?_
          refine At.v H rfl (wN rfl) rfl rfl rfl (x_fieldAddr (H.r 7 rfl) fa25_0) ?_; clear H; intro T H
          refine At.v H rfl (wN rfl) rfl rfl rfl (x_load (H.r 61 rfl) Try.isAgg22 (by first | exact H.cell (by repeat (first | exact List.mem_cons_self | apply List.mem_cons_of_mem)) _ rfl | exact H.cellR (by repeat (first | exact List.mem_cons_self | apply List.mem_cons_of_mem)) _ rfl)) ?_; clear H; intro T H
          refine At.v H rfl (wN rfl) rfl rfl rfl (x_move (H.r 9 rfl)) ?_; clear H; intro T H
          refine At.v H rfl (wN rfl) rfl rfl rfl (x_ixSN (H.r 62 rfl) (H.r 63 rfl) Try.runUnderlying22 Try.sizeOf59 (by omega)) ?_; clear H; intro T H
          refine At.v H rfl (wN rfl) rfl rfl rfl (x_fieldAddr (H.r 64 rfl) fa59_0) ?_; clear H; intro T H
          refine At.v H rfl (wN rfl) rfl rfl rfl (x_load (H.r 65 rfl) Try.isAgg3 hcl) ?_; clear H; intro T H
          refine At.v H rfl (wN rfl) rfl rfl rfl (x_add (H.r 66 rfl) evC (w64 (by omega) (by omega))) ?_; clear H; intro T H
          refine At.v H rfl (wN rfl) rfl rfl rfl (x_ixSN (H.r 62 rfl) (H.r 63 rfl) Try.runUnderlying22 Try.sizeOf59 (by omega)) ?_; clear H; intro T H
          refine At.v H rfl (wN rfl) rfl rfl rfl (x_fieldAddr (H.r 68 rfl) fa59_0) ?_; clear H; intro T H
          refine At.storeR (l' := (((movK men mi.place p k)).set k { m with place := m.place + 1 }).flatMap encW) H rfl (wN rfl) rfl rfl (H.r 69 rfl) (H.r 67 rfl) Try.sizeOf3 rfl rfl (by repeat (first | exact Take.here | apply Take.there)) (by rw [flatW_len, hlen]; omega) (by rw [show 0 + k * 4 + 0 = k * 4 by omega, flatW_set hat]) ?_; clear H; intro T w _ H
          have hmv : movK men mi.place p (k + 1) = ((movK men mi.place p k)).set k { m with place := m.place + 1 } := by rw [hms, shiftP, if_neg (by omega), if_pos ⟨by omega, by omega⟩]
          refine At.regionEnd ?_
          refine At.inBlock ?_
          refine At.region' (l := [0, 1, 2]) rfl ?_
          refine At.v H rfl (wN rfl) rfl rfl rfl (x_move (H.r 9 rfl)) ?_; clear H; intro T H
          refine At.v H rfl (wN rfl) rfl rfl rfl (x_add (H.r 28 rfl) evC (w64 (by omega) (by omega))) ?_; clear H; intro T H
          refine At.v H rfl (wN rfl) rfl rfl rfl (x_assign (H.r 29 rfl)) ?_; clear H; intro T H
          refine At.regionEnd ?_
          exact hnext0 _ _ _ _ _ (by omega) ⟨k + 1, _, _, rfl, by first | trivial | omega | exact ⟨by omega, by omega⟩, rfl, rfl⟩ (by simp only [List.cons_append, List.nil_append]; rw [hmv]; exact (H.pk (by repeat (first | exact Pk.nil | exact Pk.all | refine Pk.cons (by repeat (first | exact Take.here | apply Take.there)) ?_ | apply Pk.skip))).sub (by repeat' (first | exact trivial | refine And.intro rfl ?_)))
        · clear H; intro h59 T H
          have hmv : movK men mi.place p (k + 1) = (movK men mi.place p k) := movK_same hm (by rw [shiftP, if_neg (by omega), if_neg (by omega)])
          refine At.v H rfl (wN rfl) rfl rfl rfl (x_pickT (H.r 56 rfl) (H.r 59 rfl)) ?_; clear H; intro T H
          refine At.regionEnd ?_
          refine At.condF (H.r 60 rfl) ?_
          refine At.skip ?_
          refine At.inBlock ?_
          refine At.region' (l := [0, 1, 2]) rfl ?_
          refine At.v H rfl (wN rfl) rfl rfl rfl (x_move (H.r 9 rfl)) ?_; clear H; intro T H
          refine At.v H rfl (wN rfl) rfl rfl rfl (x_add (H.r 28 rfl) evC (w64 (by omega) (by omega))) ?_; clear H; intro T H
          refine At.v H rfl (wN rfl) rfl rfl rfl (x_assign (H.r 29 rfl)) ?_; clear H; intro T H
          refine At.regionEnd ?_
          exact hnext0 _ _ _ _ _ (by omega) ⟨k + 1, _, _, rfl, by first | trivial | omega | exact ⟨by omega, by omega⟩, rfl, rfl⟩ (by simp only [List.cons_append, List.nil_append]; rw [hmv]; exact (H.pk (by repeat (first | exact Pk.nil | exact Pk.all | refine Pk.cons (by repeat (first | exact Take.here | apply Take.there)) ?_ | apply Pk.skip))).sub (by repeat' (first | exact trivial | refine And.intro rfl ?_)))
      · clear H; intro h55 T H
        have hmv : movK men mi.place p (k + 1) = (movK men mi.place p k) := movK_same hm (by rw [shiftP, if_neg (by omega), if_neg (by omega)])
        refine At.v H rfl (wN rfl) rfl rfl rfl (x_move (H.r 55 rfl)) ?_; clear H; intro T H
        refine At.u H rfl (wU H rfl rfl rfl rfl) rfl rfl ?_; clear H; intro T H
        refine At.u H rfl (wU H rfl rfl rfl rfl) rfl rfl ?_; clear H; intro T H
        refine At.u H rfl (wU H rfl rfl rfl rfl) rfl rfl ?_; clear H; intro T H
        refine At.v H rfl (wN rfl) rfl rfl rfl (x_pickF (H.r 56 rfl) evC) ?_; clear H; intro T H
        refine At.regionEnd ?_
        refine At.condF (H.r 60 rfl) ?_
        refine At.skip ?_
        refine At.inBlock ?_
        refine At.region' (l := [0, 1, 2]) rfl ?_
        refine At.v H rfl (wN rfl) rfl rfl rfl (x_move (H.r 9 rfl)) ?_; clear H; intro T H
        refine At.v H rfl (wN rfl) rfl rfl rfl (x_add (H.r 28 rfl) evC (w64 (by omega) (by omega))) ?_; clear H; intro T H
        refine At.v H rfl (wN rfl) rfl rfl rfl (x_assign (H.r 29 rfl)) ?_; clear H; intro T H
        refine At.regionEnd ?_
        exact hnext0 _ _ _ _ _ (by omega) ⟨k + 1, _, _, rfl, by first | trivial | omega | exact ⟨by omega, by omega⟩, rfl, rfl⟩ (by simp only [List.cons_append, List.nil_append]; rw [hmv]; exact (H.pk (by repeat (first | exact Pk.nil | exact Pk.all | refine Pk.cons (by repeat (first | exact Take.here | apply Take.there)) ?_ | apply Pk.skip))).sub (by repeat' (first | exact trivial | refine And.intro rfl ?_)))
  · clear H; intro h27 T H
    obtain rfl : men.length = k := by omega
    rw [movK_end] at H
    obtain ⟨g, rfl⟩ := H.rowAddr (A := A) (by repeat (first | exact List.mem_cons_self | apply List.mem_cons_of_mem)) (by omega)
    refine At.regionEnd ?_
    refine At.condF (H.r 27 rfl) ?_
    refine At.exit rfl ?_
    refine At.seq ?_
    refine At.region' (l := [0, 1, 2, 3, 4, 5, 6]) rfl ?_
    refine At.v H rfl (wN rfl) rfl rfl rfl (x_fieldAddr (H.r 7 rfl) fa25_0) ?_; clear H; intro T H
    refine At.v H rfl (wN rfl) rfl rfl rfl (x_load (H.r 70 rfl) Try.isAgg22 (by first | exact H.cell (by repeat (first | exact List.mem_cons_self | apply List.mem_cons_of_mem)) _ rfl | exact H.cellR (by repeat (first | exact List.mem_cons_self | apply List.mem_cons_of_mem)) _ rfl)) ?_; clear H; intro T H
    refine At.v H rfl (wN rfl) rfl rfl rfl (x_move (H.r 1 rfl)) ?_; clear H; intro T H
    refine At.v H rfl (wN rfl) rfl rfl rfl (x_move (H.r 2 rfl)) ?_; clear H; intro T H
    refine At.v H rfl (wN rfl) rfl rfl rfl (x_ixSN (H.r 71 rfl) (H.r 72 rfl) Try.runUnderlying22 Try.sizeOf59 (by omega)) ?_; clear H; intro T H
    refine At.v H rfl (wN rfl) rfl rfl rfl (x_fieldAddr (H.r 74 rfl) fa59_0) ?_; clear H; intro T H
    have hat : (men.map (shiftP mi.place p))[i]? = some mi := by rw [List.getElem?_map, hmi, Option.map_some, shiftP, if_neg (by omega), if_neg (by omega)]
    refine At.storeR (l' := (movedM men i p).flatMap encW) H rfl (wN rfl) rfl rfl (H.r 75 rfl) (H.r 73 rfl) Try.sizeOf3 rfl rfl (by repeat (first | exact Take.here | apply Take.there)) (by rw [flatW_len, List.length_map]; omega) (by rw [show 0 + i * 4 + 0 = i * 4 by omega, flatW_set hat, hMM]) ?_; clear H; intro T w _ H
    refine At.regionEnd ?_
    refine At.seq ?_
    refine At.region' (l := [0, 1]) rfl ?_
    refine At.v H rfl (wN rfl) rfl rfl rfl (x_loadA (H.r 7 rfl) Try.isAgg25 Try.sizeOf25 (H.cellsAt (n := 2) (by repeat (first | exact List.mem_cons_self | apply List.mem_cons_of_mem)) rfl) rfl) ?_; clear H; intro T H
    refine At.storeA H rfl (wN rfl) rfl rfl (H.r 6 rfl) (H.r 76 rfl) Try.sizeOf25 (List.all_eq_true.1 rfl) (by repeat (first | exact Upd.here | apply Upd.there)) (by rfl) ?_; clear H; intro T w _ H
    refine At.regionEnd ?_
    refine At.ret rfl ?_
    exact lea Try.func24 (resL1 Try.results24 (.cellA (H.r 6 rfl) Try.isAgg25 Try.sizeOf25 (H.cellsAt (n := 2) (by repeat (first | exact List.mem_cons_self | apply List.mem_cons_of_mem)) rfl) rfl .nil)) (RetG.of (H.pk (G' := [.row (.slice (some ⟨g, 0, none⟩) men.length c) 59 4 men.length ((movedM men i p).flatMap encW)]) (by repeat (first | exact Pk.nil | exact Pk.all | refine Pk.cons (by repeat (first | exact Take.here | apply Take.there)) ?_ | apply Pk.skip))) [.row (.slice (some ⟨g, 0, none⟩) men.length c) 59 4 men.length ((movedM men i p).flatMap encW)] (List.Sublist.refl _) (by simp [Ent.w, Ent.keys]) (⟨_, c, rfl, rfl⟩))
end Go.Proofs.Pz
end
section
namespace Go.Proofs.Pz
open Go.Sx Go.RowKit
set_option linter.unusedVariables false
namespace AP
theorem fa25_0 (a : Addr) (w : World) : (Instr.fieldAt 25 (.pointer (some a)) 0).run Try.prog w = .ok (.pointer (some (a.add 0))) w := by simp [go_sem]
theorem fa25_1 (a : Addr) (w : World) : (Instr.fieldAt 25 (.pointer (some a)) 1).run Try.prog w = .ok (.pointer (some (a.add 1))) w := by simp [go_sem]
end AP
open AP
def encB (x : Nat) : List Value := [.int .u8 (x : Int)]
structure MadeI (men : List Wi) (list : List Zi) (fair : Bool) (l : List (Option Nat)) (seen : Nat) : Prop where
  lt : ∀ m, some m ∈ l → m < men.length
  nd : ∀ (k : Nat) (m : Nat), l[k]? = some (some m) → hasI (l.take k) (m : Int) = false
  fair : fair = true → fairL men list l
  sn : ∀ m, (seen / 2 ^ m &&& 1 = 1) ↔ some m ∈ l
  sb : seen < 2 ^ 8
theorem MadeI.nil (men : List Wi) (list : List Zi) (fair : Bool) : MadeI men list fair [] 0 := ⟨by simp, by simp, fun _ i m z h => by simp at h, by simp, by decide⟩
theorem hasI_mem {l : List (Option Nat)} {m : Nat} : hasI l (m : Int) = true ↔ some m ∈ l := by
  unfold hasI
  rw [List.any_eq_true]
  constructor
  · rintro ⟨o, h1, h2⟩
    cases o with
    | none => simp at h2
    | some x => simp only [decide_eq_true_eq] at h2; obtain rfl : x = m := by omega
                exact h1
  · intro h
    exact ⟨_, h, by simp⟩
theorem hasI_not {l : List (Option Nat)} {m : Nat} (h : some m ∉ l) : hasI l (m : Int) = false := by
  cases hh : hasI l (m : Int) with
  | false => rfl
  | true => exact absurd (hasI_mem.1 hh) h
theorem MadeI.snocN {men : List Wi} {list : List Zi} {fair : Bool} {l : List (Option Nat)} {seen : Nat} (h : MadeI men list fair l seen) : MadeI men list fair (l ++ [none]) seen := by
  refine ⟨fun m hm => h.lt m (by simpa using hm), fun k m hk => ?_, fun hf i m z hi hz => ?_, fun m => by rw [h.sn]; simp, h.sb⟩
  · by_cases hkl : k < l.length
    · rw [List.getElem?_append_left hkl] at hk
      rw [List.take_append_of_le_length (by omega)]
      exact h.nd k m hk
    · rw [List.getElem?_append_right (by omega)] at hk
      rcases hd : k - l.length with _ | j
      · simp [hd] at hk
      · simp [hd] at hk
  · by_cases hil : i < l.length
    · rw [List.getElem?_append_left hil] at hi
      exact h.fair hf i m z hi hz
    · rw [List.getElem?_append_right (by omega)] at hi
      rcases hd : i - l.length with _ | j <;> simp [hd] at hi
theorem MadeI.snocS {men : List Wi} {list : List Zi} {fair : Bool} {l : List (Option Nat)} {seen m0 : Nat} {z0 : Zi} (h : MadeI men list fair l seen) (hlt : m0 < men.length) (h8 : men.length ≤ 8) (hno : ¬ (seen / 2 ^ m0 &&& 1 = 1)) (hz0 : list[l.length]? = some z0) (hcan : fair = true → canAt men z0.for_ m0 = true) :
    MadeI men list fair (l ++ [some m0]) (seen ||| 2 ^ m0) := by
  have hni : some m0 ∉ l := fun e => hno ((h.sn m0).2 e)
  refine ⟨fun m hm => ?_, fun k m hk => ?_, fun hf i m z hi hz => ?_, fun m => ?_, ?_⟩
  · rcases List.mem_append.1 hm with hm | hm
    · exact h.lt m hm
    · obtain rfl : m = m0 := by simpa using hm
      exact hlt
  · by_cases hkl : k < l.length
    · rw [List.getElem?_append_left hkl] at hk
      rw [List.take_append_of_le_length (by omega)]
      exact h.nd k m hk
    · rw [List.getElem?_append_right (by omega)] at hk
      rcases hd : k - l.length with _ | j
      · simp [hd] at hk
        subst hk
        rw [show k = l.length by omega, List.take_left']
        · exact hasI_not hni
        · rfl
      · simp [hd] at hk
  · by_cases hil : i < l.length
    · rw [List.getElem?_append_left hil] at hi
      exact h.fair hf i m z hi hz
    · rw [List.getElem?_append_right (by omega)] at hi
      rcases hd : i - l.length with _ | j
      · simp [hd] at hi
        subst hi
        rw [show i = l.length by omega, hz0] at hz
        obtain rfl : z0 = z := by simpa using hz
        exact hcan hf
      · simp [hd] at hi
  · have e : ∀ a : Nat, (a / 2 ^ m &&& 1 = 1) ↔ a.testBit m = true := fun a => by
      rw [Nat.and_one_is_mod, Nat.testBit_eq_decide_div_mod_eq]; simp
    rw [e, Nat.testBit_or, Bool.or_eq_true, ← e, h.sn, Nat.testBit_two_pow]
    simp
    constructor
    · rintro (h | h)
      · exact .inl h
      · exact .inr h.symm
    · rintro (h | h)
      · exact .inl h
      · exact .inr h.symm
  · exact Nat.or_lt_two_pow h.sb (Nat.pow_lt_pow_right (by omega) (by omega))
theorem bit_eq (seen m : Nat) : (((seen / 2 ^ m &&& 1 : Nat) : Int) = 1) ↔ (seen / 2 ^ m &&& 1 = 1) := by omega
theorem made {AM AL : Option Addr} {cM bM oM cL bL oL : Nat} {men : List Wi} {list : List Zi} {w0 : World} (hM : SlP encW 4 w0 AM cM bM oM men) (hL : SlP encZ 2 w0 AL cL bL oL list) (hv : Valid men list) {AB : Option Addr} {cB bB oB : Nat} {by_ : List Nat} (hB : SlP encB 1 w0 AB cB bB oB by_) (hbb : ∀ y ∈ by_, y < 256) (fair : Bool) : Calls Try.prog 12 #[(.agg #[(.slice AM men.length cM), (.slice AL list.length cL)]), .slice AB by_.length cB, .bool fair] w0
    (RetG w0 fun v E _ => ∃ g c l seen, v = .slice (some ⟨g, 0, none⟩) list.length c ∧ E = [.row (.slice (some ⟨g, 0, none⟩) list.length c) 3 1 list.length (l.flatMap encO)] ∧ l.length = list.length ∧ MadeI men list fair l seen) := by
  have hl6 := hv.l6
  have hn8 := hv.n8
  rcases Bool.eq_false_or_eq_true fair with hfa | hfa
  · subst hfa
    obtain ⟨fair, hfa⟩ : ∃ f, f = true := ⟨_, rfl⟩
    rw [← hfa]
    refine enter (args := [(.agg #[(.slice AM men.length cM), (.slice AL list.length cL)]), .slice AB by_.length cB, .bool fair]) (S := []) Try.func12 rfl Try.ntmps12 rfl fun cs T H => ?_
    rw [show (Value.bool fair) = .bool true by rw [hfa]] at H
    refine At.seq ?_
    refine At.region' (l := [0, 1]) rfl ?_
    refine At.new H rfl (wN rfl) rfl rfl rfl (x_box (H.r 0 rfl) rfl) ?_; clear H; intro b3 T w _ _ H
    refine At.v H rfl (wN rfl) rfl rfl rfl (x_assign evC) ?_; clear H; intro T H
    refine At.regionEnd ?_
    refine At.seq ?_
    refine At.region' (l := [0, 1]) rfl ?_
    refine At.bs (n := 0) (L := ?l13_1) (e := ?e13_1) H rfl (wN rfl) rfl rfl rfl (x_bs0  ?r13_1) ?_
    case r13_1 => (simp [go_sem] <;> rfl)
    clear H; intro b13 T w H
    replace H := H.toRow (n := 0) (sz := 1) (e := 3) (by repeat (first | exact Take.here | apply Take.there)) rfl (by decide)
    refine At.v H rfl (wN rfl) rfl rfl rfl (x_assign (H.r 13 rfl)) ?_; clear H; intro T H
    refine At.regionEnd ?_
    refine At.seq ?_
    refine At.region' (l := [0]) rfl ?_
    refine At.v H rfl (wN rfl) rfl rfl rfl (x_assign evC) ?_; clear H; intro T H
    refine At.regionEnd ?_
    refine At.seq ?_
    refine At.seq ?_
    refine At.region' (l := [0, 1, 2, 3]) rfl ?_
    refine At.v H rfl (wN rfl) rfl rfl rfl (x_fieldAddr (H.r 3 rfl) fa25_1) ?_; clear H; intro T H
    refine At.v H rfl (wN rfl) rfl rfl rfl (x_load (H.r 14 rfl) Try.isAgg23 (by first | exact H.cell (by repeat (first | exact List.mem_cons_self | apply List.mem_cons_of_mem)) _ rfl | exact H.cellR (by repeat (first | exact List.mem_cons_self | apply List.mem_cons_of_mem)) _ rfl)) ?_; clear H; intro T H
    refine At.v H rfl (wN rfl) rfl rfl rfl (x_len (H.r 15 rfl) Try.runUnderlying23) ?_; clear H; intro T H
    refine At.v H rfl (wN rfl) rfl rfl rfl (x_move evC) ?_; clear H; intro T H
    refine At.regionEnd ?_
    refine At.block ?_
    replace H := ((H.fore (PkS.cons (x := .row _ _ _ _ _) (by repeat (first | exact Take.here | apply Take.there)) PkS.nil)).sub (R' := [(7, _), (8, _), (17, _)] ++ [(1, _), (2, _), (3, _), (6, _), (16, _)]) (by repeat' (first | exact trivial | refine And.intro rfl ?_)))
    refine At.loopF H (fun μ R1 G1 => ∃ (k : Nat) (g : Nat) (c : Nat) (l : List (Option Nat)) (seen : Nat), μ = list.length - k ∧ (k ≤ list.length ∧ l.length = k ∧ MadeI men list fair l seen) ∧ R1 = [(7, .slice (some ⟨g, 0, none⟩) k c), (8, .int .i64 (seen : Int)), (17, .int .i64 (k : Int))] ∧ G1 = [.row (.slice (some ⟨g, 0, none⟩) k c) 3 1 k (l.flatMap encO)]) (list.length) ⟨0, _, _, [], 0, by first | rfl | omega, ⟨by omega, rfl, MadeI.nil _ _ _⟩, rfl, rfl⟩ ?_
    clear H; rintro _ _ _ T w ⟨k, g, c, l, seen, rfl, ⟨hk, hl, hI⟩, rfl, rfl⟩ H hnext0
    simp only [List.cons_append, List.nil_append] at H
    refine At.seq ?_
    refine At.region' (l := [0]) rfl ?_
    refine At.c H rfl (wN rfl) rfl rfl rfl (x_lss (H.r 17 rfl) (H.r 16 rfl)) ?_ ?_
    · clear H; intro h18 T H
      have hk1 : k < list.length := by omega
      obtain ⟨z, hz⟩ := get_ex hk1
      have hsb := hI.sb
      refine At.regionEnd ?_
      refine At.seq ?_
      refine At.condT (H.r 18 rfl) ?_
      refine At.skip ?_
      refine At.seq ?_
      refine At.block ?_
      refine At.seq ?_
      refine At.region' (l := [0, 1]) rfl ?_
      refine At.v H rfl (wN rfl) rfl rfl rfl (x_move (H.r 17 rfl)) ?_; clear H; intro T H
      refine At.v H rfl (wN rfl) rfl rfl rfl (x_assign (H.r 19 rfl)) ?_; clear H; intro T H
      refine At.regionEnd ?_
      refine At.seq ?_
      refine At.region' (l := [0]) rfl ?_
      refine At.v H rfl (wN rfl) rfl rfl rfl (x_assign evC) ?_; clear H; intro T H
      refine At.regionEnd ?_
      refine At.seq ?_
      refine At.seq ?_
      refine At.region' (l := [0, 1, 2]) rfl ?_
      refine At.v H rfl (wN rfl) rfl rfl rfl (x_move (H.r 1 rfl)) ?_; clear H; intro T H
      refine At.v H rfl (wN rfl) rfl rfl rfl (x_len (H.r 20 rfl) Try.runUnderlying26) ?_; clear H; intro T H
      refine At.c H rfl (wN rfl) rfl rfl rfl (x_gtr (H.r 21 rfl) evC) ?_ ?_
      · clear H; intro h22 T H
        have hy0 : 0 < by_.length := by omega
        obtain ⟨y, hy⟩ := get_ex (Nat.mod_lt k hy0)
        have hyb := hbb y (List.mem_of_getElem? hy)
        obtain rfl := hB.addr (fun e => by simp [e] at hy0)
        have hclB := hB.cell _ y hy 0 _ rfl
        have hq : (y + 5 * k) % (men.length + 1) < men.length + 1 := Nat.mod_lt _ (by omega)
        refine At.regionEnd ?_
        refine At.condT (H.r 22 rfl) ?_
        refine At.drawnC (m := 18) (L := #[false, false, false, false, false, false, false, false, false, false, false, false, false, false, false, false, false, false]) H mixed rfl rfl ?_; clear H; intro w H
        refine GA.v (i := 0) (L' := #[true, false, false, false, false, false, false, false, false, false, false, false, false, false, false, false, false, false]) H rfl (wN rfl) rfl rfl rfl (by kernel_rfl) rfl (fun w H => x_move (H.r 1 rfl)) ?_; clear H; intro T H
        refine GA.v (i := 1) (L' := #[true, true, false, false, false, false, false, false, false, false, false, false, false, false, false, false, false, false]) H rfl (wN rfl) rfl rfl rfl (by kernel_rfl) rfl (fun w H => x_move (H.r 9 rfl)) ?_; clear H; intro T H
        refine GA.v (i := 2) (L' := #[true, true, true, false, false, false, false, false, false, false, false, false, false, false, false, false, false, false]) H rfl (wN rfl) rfl rfl rfl (by kernel_rfl) rfl (fun w H => x_move (H.r 1 rfl)) ?_; clear H; intro T H
        refine GA.v (i := 3) (L' := #[true, true, true, true, false, false, false, false, false, false, false, false, false, false, false, false, false, false]) H rfl (wN rfl) rfl rfl rfl (by kernel_rfl) rfl (fun w H => x_len (H.r 25 rfl) Try.runUnderlying26) ?_; clear H; intro T H
        refine GA.v (i := 4) (L' := #[true, true, true, true, true, false, false, false, false, false, false, false, false, false, false, false, false, false]) H rfl (wN rfl) rfl rfl rfl (by kernel_rfl) rfl (fun w H => x_remN (a := k) (b := by_.length) (H.r 24 rfl) (H.r 26 rfl) hy0) ?_; clear H; intro T H
        refine GA.v (i := 5) (L' := #[true, true, true, true, true, true, false, false, false, false, false, false, false, false, false, false, false, false]) H rfl (wN rfl) rfl rfl rfl (by kernel_rfl) rfl (fun w H => x_ixSN (n := k % by_.length) (H.r 23 rfl) (H.r 27 rfl) Try.runUnderlying26 Try.sizeOf5 (Nat.mod_lt k hy0)) ?_; clear H; intro T H
        refine GA.v (i := 6) (L' := #[true, true, true, true, true, true, true, false, false, false, false, false, false, false, false, false, false, false]) H rfl (wN rfl) rfl rfl rfl (by kernel_rfl) rfl (fun w H => x_load (H.r 28 rfl) Try.isAgg5 (H.ext hclB (by simp))) ?_; clear H; intro T H
        refine GA.v (i := 8) (L' := #[true, true, true, true, true, true, true, false, true, false, false, false, false, false, false, false, false, false]) H rfl (wN rfl) rfl rfl rfl (by kernel_rfl) rfl (fun w H => x_move (H.r 9 rfl)) ?_; clear H; intro T H
        refine GA.v (i := 9) (L' := #[true, true, true, true, true, true, true, false, true, true, false, false, false, false, false, false, false, false]) H rfl (wN rfl) rfl rfl rfl (by kernel_rfl) rfl (fun w H => x_mulN (a := 5) (b := k) evC (H.r 31 rfl) (by omega)) ?_; clear H; intro T H
        refine GA.v (i := 11) (L' := #[true, true, true, true, true, true, true, false, true, true, false, true, false, false, false, false, false, false]) H rfl (wN rfl) rfl rfl rfl (by kernel_rfl) rfl (fun w H => x_fieldAddr (H.r 3 rfl) fa25_0) ?_; clear H; intro T H
        refine GA.v (i := 12) (L' := #[true, true, true, true, true, true, true, false, true, true, false, true, true, false, false, false, false, false]) H rfl (wN rfl) rfl rfl rfl (by kernel_rfl) rfl (fun w H => x_load (H.r 34 rfl) Try.isAgg22 (by first | exact H.cell (by repeat (first | exact List.mem_cons_self | apply List.mem_cons_of_mem)) _ rfl | exact H.cellR (by repeat (first | exact List.mem_cons_self | apply List.mem_cons_of_mem)) _ rfl)) ?_; clear H; intro T H
        refine GA.v (i := 13) (L' := #[true, true, true, true, true, true, true, false, true, true, false, true, true, true, false, false, false, false]) H rfl (wN rfl) rfl rfl rfl (by kernel_rfl) rfl (fun w H => x_len (H.r 35 rfl) Try.runUnderlying22) ?_; clear H; intro T H
        refine GA.v (i := 14) (L' := #[true, true, true, true, true, true, true, false, true, true, false, true, true, true, true, false, false, false]) H rfl (wN rfl) rfl rfl rfl (by kernel_rfl) rfl (fun w H => x_addN (a := men.length) (b := 1) (H.r 36 rfl) evC (by omega)) ?_; clear H; intro T H
        refine GA.v (i := 7) (L' := #[true, true, true, true, true, true, true, true, true, true, false, true, true, true, true, false, false, false]) H rfl (wN rfl) rfl rfl rfl (by kernel_rfl) rfl (fun w H => x_conv (z := (y : Int)) (H.r 29 rfl) Try.runUnderlying5 Try.runUnderlying3 (wrapN (by omega))) ?_; clear H; intro T H
        refine GA.v (i := 10) (L' := #[true, true, true, true, true, true, true, true, true, true, true, true, true, true, true, false, false, false]) H rfl (wN rfl) rfl rfl rfl (by kernel_rfl) rfl (fun w H => x_addN (a := y) (b := 5 * k) (H.r 30 rfl) (H.r 32 rfl) (by omega)) ?_; clear H; intro T H
        refine GA.v (i := 15) (L' := #[true, true, true, true, true, true, true, true, true, true, true, true, true, true, true, true, false, false]) H rfl (wN rfl) rfl rfl rfl (by kernel_rfl) rfl (fun w H => x_remN (a := y + 5 * k) (b := men.length + 1) (H.r 33 rfl) (H.r 37 rfl) (by omega)) ?_; clear H; intro T H
        refine GA.v (i := 16) (L' := #[true, true, true, true, true, true, true, true, true, true, true, true, true, true, true, true, true, false]) H rfl (wN rfl) rfl rfl rfl (by kernel_rfl) rfl (fun w H => x_sub (H.r 38 rfl) evC (w64 (by omega) (by omega))) ?_; clear H; intro T H
        refine GA.v (i := 17) (L' := #[true, true, true, true, true, true, true, true, true, true, true, true, true, true, true, true, true, true]) H rfl (wN rfl) rfl rfl rfl (by kernel_rfl) rfl (fun w H => x_assign (H.r 39 rfl)) ?_; clear H; intro T H
        generalize (y + 5 * k) % (men.length + 1) = q at *
        refine GA.done (by kernel_rfl) ?_
        refine At.seq ?_
        refine At.seq ?_
        refine At.region' (l := [0, 1]) rfl ?_
        refine At.v H rfl (wN rfl) rfl rfl rfl (x_move (H.r 10 rfl)) ?_; clear H; intro T H
        refine At.c H rfl (wN rfl) rfl rfl rfl (x_geq (H.r 40 rfl) evC) ?_ ?_
        · clear H; intro h41 T H
          obtain ⟨m, rfl⟩ : ∃ m, q = m + 1 := ⟨q - 1, by omega⟩
          rw [show ((m + 1 : Nat) : Int) - 1 = (m : Int) by omega] at H
          have hm1 : m < men.length := by omega
          obtain ⟨mi, hmi⟩ := get_ex hm1
          refine At.regionEnd ?_
          refine At.condT (H.r 41 rfl) ?_
          refine At.seq ?_
          refine At.region' (l := [0, 1, 2, 3, 4, 5, 6, 7, 8]) rfl ?_
          refine At.v H rfl (wN rfl) rfl rfl rfl (x_loadA (H.r 3 rfl) Try.isAgg25 Try.sizeOf25 (H.cellsAt (n := 2) (by repeat (first | exact List.mem_cons_self | apply List.mem_cons_of_mem)) rfl) rfl) ?_; clear H; intro T H
          refine At.v H rfl (wN rfl) rfl rfl rfl (x_move (H.r 10 rfl)) ?_; clear H; intro T H
          refine At.v H rfl (wN rfl) rfl rfl rfl (x_move (H.r 9 rfl)) ?_; clear H; intro T H
          refine At.f0 H rfl (wN rfl) rfl rfl rfl (args3 (H.r 43 rfl) (H.r 44 rfl) (H.r 45 rfl)) Try.call16 (Can (hM.fr0 H.fr) (hL.fr0 H.fr) hv hmi hz) ?_; clear H; rintro v46 T w rfl _ H
          rcases Bool.eq_false_or_eq_true (canW z.for_ mi) with hcan | hcan
          · rw [hcan] at H
            refine At.v H rfl (wN rfl) rfl rfl rfl (x_move (H.r 46 rfl)) ?_; clear H; intro T H
            refine At.v H rfl (wN rfl) rfl rfl rfl (x_extract (H.r 42 rfl) rfl) ?_; clear H; intro T H
            refine At.v H rfl (wN rfl) rfl rfl rfl (x_extract (H.r 42 rfl) rfl) ?_; clear H; intro T H
            refine At.v H rfl (wN rfl) rfl rfl rfl (x_assign (H.r 47 rfl)) ?_; clear H; intro T H
            refine At.v H rfl (wN rfl) rfl rfl rfl (x_assign (H.r 48 rfl)) ?_; clear H; intro T H
            refine At.regionEnd ?_
            refine At.seq ?_
            refine At.region' (l := [0, 1, 2, 3, 4, 5, 6, 7, 8, 9, 10, 11]) rfl ?_
            refine At.v H rfl (wN rfl) rfl rfl rfl (x_move (H.r 8 rfl)) ?_; clear H; intro T H
            refine At.v H rfl (wN rfl) rfl rfl rfl (x_move (H.r 10 rfl)) ?_; clear H; intro T H
            refine At.v H rfl (wN rfl) rfl rfl rfl (x_shrN (a := seen) (n := m) (H.r 49 rfl) (H.r 50 rfl) (by omega)) ?_; clear H; intro T H
            refine At.v H rfl (wN rfl) rfl rfl rfl (x_andN (a := seen / 2 ^ m) (b := 1) (H.r 51 rfl) evC (Nat.lt_of_le_of_lt (Nat.div_le_self _ _) (by omega)) (by omega)) ?_; clear H; intro T H
            refine At.c H rfl (wN rfl) rfl rfl rfl (x_eql (H.r 52 rfl) evC) ?_ ?_
            · clear H; intro h53 T H
              refine At.v H rfl (wN rfl) rfl rfl rfl (x_move (H.r 53 rfl)) ?_; clear H; intro T H
              refine At.u H rfl (wU H rfl rfl rfl rfl) rfl rfl ?_; clear H; intro T H
              refine At.u H rfl (wU H rfl rfl rfl rfl) rfl rfl ?_; clear H; intro T H
              refine At.u H rfl (wUu H rfl rfl rfl) rfl rfl ?_; clear H; intro T H
              refine At.u H rfl (wUu H rfl rfl rfl) rfl rfl ?_; clear H; intro T H
              refine At.u H rfl (wU H rfl rfl rfl rfl) rfl rfl ?_; clear H; intro T H
              refine At.v H rfl (wN rfl) rfl rfl rfl (x_pickT (H.r 54 rfl) evC) ?_; clear H; intro T H
              refine At.regionEnd ?_
              refine At.condT (H.r 60 rfl) ?_
              refine At.region' (l := [0]) rfl ?_
              refine At.v H rfl (wN rfl) rfl rfl rfl (x_assign evC) ?_; clear H; intro T H
              refine At.regionEnd ?_
              refine At.seq ?_
              refine At.seq ?_
              refine At.region' (l := [0, 1]) rfl ?_
              refine At.v H rfl (wN rfl) rfl rfl rfl (x_move (H.r 10 rfl)) ?_; clear H; intro T H
              refine At.v (v := .bool false) H rfl (wN rfl) rfl rfl rfl (x_geq (H.r 61 rfl) evC) ?_; clear H; intro T H
              refine At.regionEnd ?_
              refine At.condF (H.r 62 rfl) ?_
              refine At.skip ?_
              refine At.region' (l := [0, 1, 2, 3, 4]) rfl ?_
              refine At.v H rfl (wN rfl) rfl rfl rfl (x_move (H.r 7 rfl)) ?_; clear H; intro T H
              refine At.v H rfl (wN rfl) rfl rfl rfl (x_move (H.r 10 rfl)) ?_; clear H; intro T H
              refine At.bs (n := 1) (L := ?l69_2) (e := ?e69_2) H rfl (wN rfl) rfl rfl rfl (x_bs1 (H.r 68 rfl) ?r69_2) ?_
              case r69_2 => (simp [go_sem] <;> rfl)
              clear H; intro b69 T w H
              refine At.append H rfl (wN rfl) rfl rfl rfl (etI w0) (H.r 67 rfl) (H.r 69 rfl) (by repeat (first | exact Take.here | apply Take.there)) (H.cellsAt (n := 1) (by repeat (first | exact List.mem_cons_self | apply List.mem_cons_of_mem)) rfl) rfl (by simp [Value.oneCell']) (by omega) ?_; clear H; intro A70 c70 T w hc70 hA70 H
              refine At.v H rfl (wN rfl) rfl rfl rfl (x_assign (H.r 70 rfl)) ?_; clear H; intro T H
              obtain ⟨g70, rfl⟩ := hA70 (by omega)
              obtain ⟨l2, hl2⟩ : ∃ l2, l2 = l ++ [none] := ⟨_, rfl⟩
              obtain ⟨seen2, hs2⟩ : ∃ s, s = seen := ⟨_, rfl⟩
              have hI2 : MadeI men list fair l2 seen2 := by rw [hl2, hs2]; exact hI.snocN
              have hr2 : l2.flatMap encO = l.flatMap encO ++ [.int .i64 (-1)] := by rw [hl2, List.flatMap_append]; rfl
              rw [← hs2] at H
              refine At.regionEnd ?_
              refine At.inBlock ?_
              refine At.region' (l := [0, 1]) rfl ?_
              refine At.v H rfl (wN rfl) rfl rfl rfl (x_add (H.r 17 rfl) evC (w64 (by omega) (by omega))) ?_; clear H; intro T H
              refine At.v H rfl (wN rfl) rfl rfl rfl (x_move (H.r 71 rfl)) ?_; clear H; intro T H
              refine At.regionEnd ?_
              exact hnext0 _ _ _ _ _ (by omega) ⟨k + 1, _, _, l2, seen2, rfl, ⟨by omega, by rw [hl2]; simp [hl], hI2⟩, rfl, rfl⟩ (by simp only [List.cons_append, List.nil_append]; rw [hr2]; exact (H.pk (by repeat (first | exact Pk.nil | exact Pk.all | refine Pk.cons (by repeat (first | exact Take.here | apply Take.there)) ?_ | apply Pk.skip))).sub (by repeat' (first | exact trivial | refine And.intro rfl ?_)))
            · clear H; intro h53 T H
              refine At.v H rfl (wN rfl) rfl rfl rfl (x_move (H.r 53 rfl)) ?_; clear H; intro T H
              refine At.v H rfl (wS H rfl rfl rfl) rfl rfl rfl (x_move (H.r 2 rfl)) ?_; clear H; intro T H
              refine At.v H rfl (wS H rfl rfl rfl) rfl rfl rfl (x_move (H.r 55 rfl)) ?_; clear H; intro T H
              refine At.v H rfl (wS H rfl rfl rfl) rfl rfl rfl (x_move (H.r 11 rfl)) ?_; clear H; intro T H
              refine At.v H rfl (wS H rfl rfl rfl) rfl rfl rfl (x_notT (H.r 57 rfl)) ?_; clear H; intro T H
              refine At.v H rfl (wS H rfl rfl rfl) rfl rfl rfl (x_pickT (H.r 56 rfl) (H.r 58 rfl)) ?_; clear H; intro T H
              refine At.v H rfl (wN rfl) rfl rfl rfl (x_pickF (H.r 54 rfl) (H.r 59 rfl)) ?_; clear H; intro T H
              refine At.regionEnd ?_
              refine At.condF (H.r 60 rfl) ?_
              refine At.skip ?_
              refine At.seq ?_
              refine At.seq ?_
              refine At.region' (l := [0, 1]) rfl ?_
              refine At.v H rfl (wN rfl) rfl rfl rfl (x_move (H.r 10 rfl)) ?_; clear H; intro T H
              refine At.v (v := .bool true) H rfl (wN rfl) rfl rfl rfl ((x_geq (H.r 61 rfl) evC).trans (by rw [decide_eq_true (show (0 : Int) ≤ (m : Int) by omega)])) ?_; clear H; intro T H
              refine At.regionEnd ?_
              refine At.condT (H.r 62 rfl) ?_
              refine At.region' (l := [0, 1, 2, 3, 4]) rfl ?_
              refine At.v H rfl (wN rfl) rfl rfl rfl (x_move (H.r 8 rfl)) ?_; clear H; intro T H
              refine At.v H rfl (wN rfl) rfl rfl rfl (x_move (H.r 10 rfl)) ?_; clear H; intro T H
              refine At.v H rfl (wN rfl) rfl rfl rfl (x_shlN (a := 1) (n := m) evC (H.r 64 rfl) (by omega) (by have := Nat.pow_lt_pow_right (a := 2) (by omega) (show m < 8 by omega); omega)) ?_; clear H; intro T H
              refine At.v H rfl (wN rfl) rfl rfl rfl (x_orN (a := seen) (b := 1 * 2 ^ m) (H.r 63 rfl) (H.r 65 rfl) (by omega) (by have := Nat.pow_lt_pow_right (a := 2) (by omega) (show m < 8 by omega); omega)) ?_; clear H; intro T H
              refine At.v H rfl (wN rfl) rfl rfl rfl (x_assign (H.r 66 rfl)) ?_; clear H; intro T H
              rw [Nat.one_mul] at H
              refine At.regionEnd ?_
              refine At.region' (l := [0, 1, 2, 3, 4]) rfl ?_
              refine At.v H rfl (wN rfl) rfl rfl rfl (x_move (H.r 7 rfl)) ?_; clear H; intro T H
              refine At.v H rfl (wN rfl) rfl rfl rfl (x_move (H.r 10 rfl)) ?_; clear H; intro T H
              refine At.bs (n := 1) (L := ?l69_3) (e := ?e69_3) H rfl (wN rfl) rfl rfl rfl (x_bs1 (H.r 68 rfl) ?r69_3) ?_
              case r69_3 => (simp [go_sem] <;> rfl)
              clear H; intro b69 T w H
              refine At.append H rfl (wN rfl) rfl rfl rfl (etI w0) (H.r 67 rfl) (H.r 69 rfl) (by repeat (first | exact Take.here | apply Take.there)) (H.cellsAt (n := 1) (by repeat (first | exact List.mem_cons_self | apply List.mem_cons_of_mem)) rfl) rfl (by simp [Value.oneCell']) (by omega) ?_; clear H; intro A70 c70 T w hc70 hA70 H
              refine At.v H rfl (wN rfl) rfl rfl rfl (x_assign (H.r 70 rfl)) ?_; clear H; intro T H
              obtain ⟨g70, rfl⟩ := hA70 (by omega)
              obtain ⟨l2, hl2⟩ : ∃ l2, l2 = l ++ [some m] := ⟨_, rfl⟩
              obtain ⟨seen2, hs2⟩ : ∃ s, s = seen ||| 2 ^ m := ⟨_, rfl⟩
              have hI2 : MadeI men list fair l2 seen2 := by rw [hl2, hs2]; exact hI.snocS hm1 hv.n8 (fun e => h53 ((bit_eq _ _).2 e)) (by rw [hl]; exact hz) (by first | (intro hf; rw [canAt_eq hmi]; exact hcan) | (intro hf; subst hf; cases hfa))
              have hr2 : l2.flatMap encO = l.flatMap encO ++ [.int .i64 (m : Int)] := by rw [hl2, List.flatMap_append]; rfl
              rw [← hs2] at H
              refine At.regionEnd ?_
              refine At.inBlock ?_
              refine At.region' (l := [0, 1]) rfl ?_
              refine At.v H rfl (wN rfl) rfl rfl rfl (x_add (H.r 17 rfl) evC (w64 (by omega) (by omega))) ?_; clear H; intro T H
              refine At.v H rfl (wN rfl) rfl rfl rfl (x_move (H.r 71 rfl)) ?_; clear H; intro T H
              refine At.regionEnd ?_
              exact hnext0 _ _ _ _ _ (by omega) ⟨k + 1, _, _, l2, seen2, rfl, ⟨by omega, by rw [hl2]; simp [hl], hI2⟩, rfl, rfl⟩ (by simp only [List.cons_append, List.nil_append]; rw [hr2]; exact (H.pk (by repeat (first | exact Pk.nil | exact Pk.all | refine Pk.cons (by repeat (first | exact Take.here | apply Take.there)) ?_ | apply Pk.skip))).sub (by repeat' (first | exact trivial | refine And.intro rfl ?_)))
          · rw [hcan] at H
            refine At.v H rfl (wN rfl) rfl rfl rfl (x_move (H.r 46 rfl)) ?_; clear H; intro T H
            refine At.v H rfl (wN rfl) rfl rfl rfl (x_extract (H.r 42 rfl) rfl) ?_; clear H; intro T H
            refine At.v H rfl (wN rfl) rfl rfl rfl (x_extract (H.r 42 rfl) rfl) ?_; clear H; intro T H
            refine At.v H rfl (wN rfl) rfl rfl rfl (x_assign (H.r 47 rfl)) ?_; clear H; intro T H
            refine At.v H rfl (wN rfl) rfl rfl rfl (x_assign (H.r 48 rfl)) ?_; clear H; intro T H
            refine At.regionEnd ?_
            refine At.seq ?_
            refine At.region' (l := [0, 1, 2, 3, 4, 5, 6, 7, 8, 9, 10, 11]) rfl ?_
            refine At.v H rfl (wN rfl) rfl rfl rfl (x_move (H.r 8 rfl)) ?_; clear H; intro T H
            refine At.v H rfl (wN rfl) rfl rfl rfl (x_move (H.r 10 rfl)) ?_; clear H; intro T H
            refine At.v H rfl (wN rfl) rfl rfl rfl (x_shrN (a := seen) (n := m) (H.r 49 rfl) (H.r 50 rfl) (by omega)) ?_; clear H; intro T H
            refine At.v H rfl (wN rfl) rfl rfl rfl (x_andN (a := seen / 2 ^ m) (b := 1) (H.r 51 rfl) evC (Nat.lt_of_le_of_lt (Nat.div_le_self _ _) (by omega)) (by omega)) ?_; clear H; intro T H
            refine At.c H rfl (wN rfl) rfl rfl rfl (x_eql (H.r 52 rfl) evC) ?_ ?_
            · clear H; intro h53 T H
              refine At.v H rfl (wN rfl) rfl rfl rfl (x_move (H.r 53 rfl)) ?_; clear H; intro T H
              refine At.u H rfl (wU H rfl rfl rfl rfl) rfl rfl ?_; clear H; intro T H
              refine At.u H rfl (wU H rfl rfl rfl rfl) rfl rfl ?_; clear H; intro T H
              refine At.u H rfl (wUu H rfl rfl rfl) rfl rfl ?_; clear H; intro T H
              refine At.u H rfl (wUu H rfl rfl rfl) rfl rfl ?_; clear H; intro T H
              refine At.u H rfl (wU H rfl rfl rfl rfl) rfl rfl ?_; clear H; intro T H
              refine At.v H rfl (wN rfl) rfl rfl rfl (x_pickT (H.r 54 rfl) evC) ?_; clear H; intro T H
              refine At.regionEnd ?_
              refine At.condT (H.r 60 rfl) ?_
              refine At.region' (l := [0]) rfl ?_
              refine At.v H rfl (wN rfl) rfl rfl rfl (x_assign evC) ?_; clear H; intro T H
              refine At.regionEnd ?_
              refine At.seq ?_
              refine At.seq ?_
              refine At.region' (l := [0, 1]) rfl ?_
              refine At.v H rfl (wN rfl) rfl rfl rfl (x_move (H.r 10 rfl)) ?_; clear H; intro T H
              refine At.v (v := .bool false) H rfl (wN rfl) rfl rfl rfl (x_geq (H.r 61 rfl) evC) ?_; clear H; intro T H
              refine At.regionEnd ?_
              refine At.condF (H.r 62 rfl) ?_
              refine At.skip ?_
              refine At.region' (l := [0, 1, 2, 3, 4]) rfl ?_
              refine At.v H rfl (wN rfl) rfl rfl rfl (x_move (H.r 7 rfl)) ?_; clear H; intro T H
              refine At.v H rfl (wN rfl) rfl rfl rfl (x_move (H.r 10 rfl)) ?_; clear H; intro T H
              refine At.bs (n := 1) (L := ?l69_4) (e := ?e69_4) H rfl (wN rfl) rfl rfl rfl (x_bs1 (H.r 68 rfl) ?r69_4) ?_
              case r69_4 => (simp [go_sem] <;> rfl)
              clear H; intro b69 T w H
              refine At.append H rfl (wN rfl) rfl rfl rfl (etI w0) (H.r 67 rfl) (H.r 69 rfl) (by repeat (first | exact Take.here | apply Take.there)) (H.cellsAt (n := 1) (by repeat (first | exact List.mem_cons_self | apply List.mem_cons_of_mem)) rfl) rfl (by simp [Value.oneCell']) (by omega) ?_; clear H; intro A70 c70 T w hc70 hA70 H
              refine At.v H rfl (wN rfl) rfl rfl rfl (x_assign (H.r 70 rfl)) ?_; clear H; intro T H
              obtain ⟨g70, rfl⟩ := hA70 (by omega)
              obtain ⟨l2, hl2⟩ : ∃ l2, l2 = l ++ [none] := ⟨_, rfl⟩
              obtain ⟨seen2, hs2⟩ : ∃ s, s = seen := ⟨_, rfl⟩
              have hI2 : MadeI men list fair l2 seen2 := by rw [hl2, hs2]; exact hI.snocN
              have hr2 : l2.flatMap encO = l.flatMap encO ++ [.int .i64 (-1)] := by rw [hl2, List.flatMap_append]; rfl
              rw [← hs2] at H
              refine At.regionEnd ?_
              refine At.inBlock ?_
              refine At.region' (l := [0, 1]) rfl ?_
              refine At.v H rfl (wN rfl) rfl rfl rfl (x_add (H.r 17 rfl) evC (w64 (by omega) (by omega))) ?_; clear H; intro T H
              refine At.v H rfl (wN rfl) rfl rfl rfl (x_move (H.r 71 rfl)) ?_; clear H; intro T H
              refine At.regionEnd ?_
              exact hnext0 _ _ _ _ _ (by omega) ⟨k + 1, _, _, l2, seen2, rfl, ⟨by omega, by rw [hl2]; simp [hl], hI2⟩, rfl, rfl⟩ (by simp only [List.cons_append, List.nil_append]; rw [hr2]; exact (H.pk (by repeat (first | exact Pk.nil | exact Pk.all | refine Pk.cons (by repeat (first | exact Take.here | apply Take.there)) ?_ | apply Pk.skip))).sub (by repeat' (first | exact trivial | refine And.intro rfl ?_)))
            · clear H; intro h53 T H
              refine At.v H rfl (wN rfl) rfl rfl rfl (x_move (H.r 53 rfl)) ?_; clear H; intro T H
              refine At.v H rfl (wS H rfl rfl rfl) rfl rfl rfl (x_move (H.r 2 rfl)) ?_; clear H; intro T H
              refine At.v H rfl (wS H rfl rfl rfl) rfl rfl rfl (x_move (H.r 55 rfl)) ?_; clear H; intro T H
              refine At.v H rfl (wS H rfl rfl rfl) rfl rfl rfl (x_move (H.r 11 rfl)) ?_; clear H; intro T H
              refine At.v H rfl (wS H rfl rfl rfl) rfl rfl rfl (x_notF (H.r 57 rfl)) ?_; clear H; intro T H
              refine At.v H rfl (wS H rfl rfl rfl) rfl rfl rfl (x_pickT (H.r 56 rfl) (H.r 58 rfl)) ?_; clear H; intro T H
              refine At.v H rfl (wN rfl) rfl rfl rfl (x_pickF (H.r 54 rfl) (H.r 59 rfl)) ?_; clear H; intro T H
              refine At.regionEnd ?_
              refine At.condT (H.r 60 rfl) ?_
              refine At.region' (l := [0]) rfl ?_
              refine At.v H rfl (wN rfl) rfl rfl rfl (x_assign evC) ?_; clear H; intro T H
              refine At.regionEnd ?_
              refine At.seq ?_
              refine At.seq ?_
              refine At.region' (l := [0, 1]) rfl ?_
              refine At.v H rfl (wN rfl) rfl rfl rfl (x_move (H.r 10 rfl)) ?_; clear H; intro T H
              refine At.v (v := .bool false) H rfl (wN rfl) rfl rfl rfl (x_geq (H.r 61 rfl) evC) ?_; clear H; intro T H
              refine At.regionEnd ?_
              refine At.condF (H.r 62 rfl) ?_
              refine At.skip ?_
              refine At.region' (l := [0, 1, 2, 3, 4]) rfl ?_
              refine At.v H rfl (wN rfl) rfl rfl rfl (x_move (H.r 7 rfl)) ?_; clear H; intro T H
              refine At.v H rfl (wN rfl) rfl rfl rfl (x_move (H.r 10 rfl)) ?_; clear H; intro T H
              refine At.bs (n := 1) (L := ?l69_5) (e := ?e69_5) H rfl (wN rfl) rfl rfl rfl (x_bs1 (H.r 68 rfl) ?r69_5) ?_
              case r69_5 => (simp [go_sem] <;> rfl)
              clear H; intro b69 T w H
              refine At.append H rfl (wN rfl) rfl rfl rfl (etI w0) (H.r 67 rfl) (H.r 69 rfl) (by repeat (first | exact Take.here | apply Take.there)) (H.cellsAt (n := 1) (by repeat (first | exact List.mem_cons_self | apply List.mem_cons_of_mem)) rfl) rfl (by simp [Value.oneCell']) (by omega) ?_; clear H; intro A70 c70 T w hc70 hA70 H
              refine At.v H rfl (wN rfl) rfl rfl rfl (x_assign (H.r 70 rfl)) ?_; clear H; intro T H
              obtain ⟨g70, rfl⟩ := hA70 (by omega)
              obtain ⟨l2, hl2⟩ : ∃ l2, l2 = l ++ [none] := ⟨_, rfl⟩
              obtain ⟨seen2, hs2⟩ : ∃ s, s = seen := ⟨_, rfl⟩
              have hI2 : MadeI men list fair l2 seen2 := by rw [hl2, hs2]; exact hI.snocN
              have hr2 : l2.flatMap encO = l.flatMap encO ++ [.int .i64 (-1)] := by rw [hl2, List.flatMap_append]; rfl
              rw [← hs2] at H
              refine At.regionEnd ?_
              refine At.inBlock ?_
              refine At.region' (l := [0, 1]) rfl ?_
              refine At.v H rfl (wN rfl) rfl rfl rfl (x_add (H.r 17 rfl) evC (w64 (by omega) (by omega))) ?_; clear H; intro T H
              refine At.v H rfl (wN rfl) rfl rfl rfl (x_move (H.r 71 rfl)) ?_; clear H; intro T H
              refine At.regionEnd ?_
              exact hnext0 _ _ _ _ _ (by omega) ⟨k + 1, _, _, l2, seen2, rfl, ⟨by omega, by rw [hl2]; simp [hl], hI2⟩, rfl, rfl⟩ (by simp only [List.cons_append, List.nil_append]; rw [hr2]; exact (H.pk (by repeat (first | exact Pk.nil | exact Pk.all | refine Pk.cons (by repeat (first | exact Take.here | apply Take.there)) ?_ | apply Pk.skip))).sub (by repeat' (first | exact trivial | refine And.intro rfl ?_)))
        · clear H; intro h41 T H
          obtain rfl : q = 0 := by omega
          rw [show ((0 : Nat) : Int) - 1 = -1 by omega] at H
          refine At.regionEnd ?_
          refine At.condF (H.r 41 rfl) ?_
          refine At.skip ?_
          refine At.seq ?_
          refine At.seq ?_
          refine At.region' (l := [0, 1]) rfl ?_
          refine At.v H rfl (wN rfl) rfl rfl rfl (x_move (H.r 10 rfl)) ?_; clear H; intro T H
          refine At.v (v := .bool false) H rfl (wN rfl) rfl rfl rfl (x_geq (H.r 61 rfl) evC) ?_; clear H; intro T H
          refine At.regionEnd ?_
          refine At.condF (H.r 62 rfl) ?_
          refine At.skip ?_
          refine At.region' (l := [0, 1, 2, 3, 4]) rfl ?_
          refine At.v H rfl (wN rfl) rfl rfl rfl (x_move (H.r 7 rfl)) ?_; clear H; intro T H
          refine At.v H rfl (wN rfl) rfl rfl rfl (x_move (H.r 10 rfl)) ?_; clear H; intro T H
          refine At.bs (n := 1) (L := ?l69_6) (e := ?e69_6) H rfl (wN rfl) rfl rfl rfl (x_bs1 (H.r 68 rfl) ?r69_6) ?_
          case r69_6 => (simp [go_sem] <;> rfl)
          clear H; intro b69 T w H
          refine At.append H rfl (wN rfl) rfl rfl rfl (etI w0) (H.r 67 rfl) (H.r 69 rfl) (by repeat (first | exact Take.here | apply Take.there)) (H.cellsAt (n := 1) (by repeat (first | exact List.mem_cons_self | apply List.mem_cons_of_mem)) rfl) rfl (by simp [Value.oneCell']) (by omega) ?_; clear H; intro A70 c70 T w hc70 hA70 H
          refine At.v H rfl (wN rfl) rfl rfl rfl (x_assign (H.r 70 rfl)) ?_; clear H; intro T H
          obtain ⟨g70, rfl⟩ := hA70 (by omega)
          obtain ⟨l2, hl2⟩ : ∃ l2, l2 = l ++ [none] := ⟨_, rfl⟩
          obtain ⟨seen2, hs2⟩ : ∃ s, s = seen := ⟨_, rfl⟩
          have hI2 : MadeI men list fair l2 seen2 := by rw [hl2, hs2]; exact hI.snocN
          have hr2 : l2.flatMap encO = l.flatMap encO ++ [.int .i64 (-1)] := by rw [hl2, List.flatMap_append]; rfl
          rw [← hs2] at H
          refine At.regionEnd ?_
          refine At.inBlock ?_
          refine At.region' (l := [0, 1]) rfl ?_
          refine At.v H rfl (wN rfl) rfl rfl rfl (x_add (H.r 17 rfl) evC (w64 (by omega) (by omega))) ?_; clear H; intro T H
          refine At.v H rfl (wN rfl) rfl rfl rfl (x_move (H.r 71 rfl)) ?_; clear H; intro T H
          refine At.regionEnd ?_
          exact hnext0 _ _ _ _ _ (by omega) ⟨k + 1, _, _, l2, seen2, rfl, ⟨by omega, by rw [hl2]; simp [hl], hI2⟩, rfl, rfl⟩ (by simp only [List.cons_append, List.nil_append]; rw [hr2]; exact (H.pk (by repeat (first | exact Pk.nil | exact Pk.all | refine Pk.cons (by repeat (first | exact Take.here | apply Take.there)) ?_ | apply Pk.skip))).sub (by repeat' (first | exact trivial | refine And.intro rfl ?_)))
      · clear H; intro h22 T H
        refine At.regionEnd ?_
        refine At.condF (H.r 22 rfl) ?_
        refine At.skip ?_
        refine At.seq ?_
        refine At.seq ?_
        refine At.region' (l := [0, 1]) rfl ?_
        refine At.v H rfl (wN rfl) rfl rfl rfl (x_move (H.r 10 rfl)) ?_; clear H; intro T H
        refine At.v (v := .bool false) H rfl (wN rfl) rfl rfl rfl (x_geq (H.r 40 rfl) evC) ?_; clear H; intro T H
        refine At.regionEnd ?_
        refine At.condF (H.r 41 rfl) ?_
        refine At.skip ?_
        refine At.seq ?_
        refine At.seq ?_
        refine At.region' (l := [0, 1]) rfl ?_
        refine At.v H rfl (wN rfl) rfl rfl rfl (x_move (H.r 10 rfl)) ?_; clear H; intro T H
        refine At.v (v := .bool false) H rfl (wN rfl) rfl rfl rfl (x_geq (H.r 61 rfl) evC) ?_; clear H; intro T H
        refine At.regionEnd ?_
        refine At.condF (H.r 62 rfl) ?_
        refine At.skip ?_
        refine At.region' (l := [0, 1, 2, 3, 4]) rfl ?_
        refine At.v H rfl (wN rfl) rfl rfl rfl (x_move (H.r 7 rfl)) ?_; clear H; intro T H
        refine At.v H rfl (wN rfl) rfl rfl rfl (x_move (H.r 10 rfl)) ?_; clear H; intro T H
        refine At.bs (n := 1) (L := ?l69_7) (e := ?e69_7) H rfl (wN rfl) rfl rfl rfl (x_bs1 (H.r 68 rfl) ?r69_7) ?_
        case r69_7 => (simp [go_sem] <;> rfl)
        clear H; intro b69 T w H
        refine At.append H rfl (wN rfl) rfl rfl rfl (etI w0) (H.r 67 rfl) (H.r 69 rfl) (by repeat (first | exact Take.here | apply Take.there)) (H.cellsAt (n := 1) (by repeat (first | exact List.mem_cons_self | apply List.mem_cons_of_mem)) rfl) rfl (by simp [Value.oneCell']) (by omega) ?_; clear H; intro A70 c70 T w hc70 hA70 H
        refine At.v H rfl (wN rfl) rfl rfl rfl (x_assign (H.r 70 rfl)) ?_; clear H; intro T H
        obtain ⟨g70, rfl⟩ := hA70 (by omega)
        obtain ⟨l2, hl2⟩ : ∃ l2, l2 = l ++ [none] := ⟨_, rfl⟩
        obtain ⟨seen2, hs2⟩ : ∃ s, s = seen := ⟨_, rfl⟩
        have hI2 : MadeI men list fair l2 seen2 := by rw [hl2, hs2]; exact hI.snocN
        have hr2 : l2.flatMap encO = l.flatMap encO ++ [.int .i64 (-1)] := by rw [hl2, List.flatMap_append]; rfl
        rw [← hs2] at H
        refine At.regionEnd ?_
        refine At.inBlock ?_
        refine At.region' (l := [0, 1]) rfl ?_
        refine At.v H rfl (wN rfl) rfl rfl rfl (x_add (H.r 17 rfl) evC (w64 (by omega) (by omega))) ?_; clear H; intro T H
        refine At.v H rfl (wN rfl) rfl rfl rfl (x_move (H.r 71 rfl)) ?_; clear H; intro T H
        refine At.regionEnd ?_
        exact hnext0 _ _ _ _ _ (by omega) ⟨k + 1, _, _, l2, seen2, rfl, ⟨by omega, by rw [hl2]; simp [hl], hI2⟩, rfl, rfl⟩ (by simp only [List.cons_append, List.nil_append]; rw [hr2]; exact (H.pk (by repeat (first | exact Pk.nil | exact Pk.all | refine Pk.cons (by repeat (first | exact Take.here | apply Take.there)) ?_ | apply Pk.skip))).sub (by repeat' (first | exact trivial | refine And.intro rfl ?_)))
    · clear H; intro h18 T H
      obtain rfl : list.length = k := by omega
      refine At.regionEnd ?_
      refine At.seq ?_
      refine At.condF (H.r 18 rfl) ?_
      refine At.exit rfl ?_
      refine At.seq ?_
      refine At.region' (l := [0, 1]) rfl ?_
      refine At.v H rfl (wN rfl) rfl rfl rfl (x_move (H.r 7 rfl)) ?_; clear H; intro T H
      refine At.v H rfl (wN rfl) rfl rfl rfl (x_assign (H.r 72 rfl)) ?_; clear H; intro T H
      refine At.regionEnd ?_
      refine At.ret rfl ?_
      exact lea Try.func12 (res1 Try.results12 (H.r 6 rfl)) (RetG.of (H.pk (G' := [.row (.slice (some ⟨g, 0, none⟩) list.length c) 3 1 list.length (l.flatMap encO)]) (by repeat (first | exact Pk.nil | exact Pk.all | refine Pk.cons (by repeat (first | exact Take.here | apply Take.there)) ?_ | apply Pk.skip))) [.row (.slice (some ⟨g, 0, none⟩) list.length c) 3 1 list.length (l.flatMap encO)] (List.Sublist.refl _) (by simp [Ent.w, Ent.keys]) (⟨g, c, l, seen, rfl, rfl, hl, hI⟩))
  · subst hfa
    obtain ⟨fair, hfa⟩ : ∃ f, f = false := ⟨_, rfl⟩
    rw [← hfa]
    refine enter (args := [(.agg #[(.slice AM men.length cM), (.slice AL list.length cL)]), .slice AB by_.length cB, .bool fair]) (S := []) Try.func12 rfl Try.ntmps12 rfl fun cs T H => ?_
    rw [show (Value.bool fair) = .bool false by rw [hfa]] at H
    refine At.seq ?_
    refine At.region' (l := [0, 1]) rfl ?_
    refine At.new H rfl (wN rfl) rfl rfl rfl (x_box (H.r 0 rfl) rfl) ?_; clear H; intro b3 T w _ _ H
    refine At.v H rfl (wN rfl) rfl rfl rfl (x_assign evC) ?_; clear H; intro T H
    refine At.regionEnd ?_
    refine At.seq ?_
    refine At.region' (l := [0, 1]) rfl ?_
    refine At.bs (n := 0) (L := ?l13_8) (e := ?e13_8) H rfl (wN rfl) rfl rfl rfl (x_bs0  ?r13_8) ?_
    case r13_8 => (simp [go_sem] <;> rfl)
    clear H; intro b13 T w H
    replace H := H.toRow (n := 0) (sz := 1) (e := 3) (by repeat (first | exact Take.here | apply Take.there)) rfl (by decide)
    refine At.v H rfl (wN rfl) rfl rfl rfl (x_assign (H.r 13 rfl)) ?_; clear H; intro T H
    refine At.regionEnd ?_
    refine At.seq ?_
    refine At.region' (l := [0]) rfl ?_
    refine At.v H rfl (wN rfl) rfl rfl rfl (x_assign evC) ?_; clear H; intro T H
    refine At.regionEnd ?_
    refine At.seq ?_
    refine At.seq ?_
    refine At.region' (l := [0, 1, 2, 3]) rfl ?_
    refine At.v H rfl (wN rfl) rfl rfl rfl (x_fieldAddr (H.r 3 rfl) fa25_1) ?_; clear H; intro T H
    refine At.v H rfl (wN rfl) rfl rfl rfl (x_load (H.r 14 rfl) Try.isAgg23 (by first | exact H.cell (by repeat (first | exact List.mem_cons_self | apply List.mem_cons_of_mem)) _ rfl | exact H.cellR (by repeat (first | exact List.mem_cons_self | apply List.mem_cons_of_mem)) _ rfl)) ?_; clear H; intro T H
    refine At.v H rfl (wN rfl) rfl rfl rfl (x_len (H.r 15 rfl) Try.runUnderlying23) ?_; clear H; intro T H
    refine At.v H rfl (wN rfl) rfl rfl rfl (x_move evC) ?_; clear H; intro T H
    refine At.regionEnd ?_
    refine At.block ?_
    replace H := ((H.fore (PkS.cons (x := .row _ _ _ _ _) (by repeat (first | exact Take.here | apply Take.there)) PkS.nil)).sub (R' := [(7, _), (8, _), (17, _)] ++ [(1, _), (2, _), (3, _), (6, _), (16, _)]) (by repeat' (first | exact trivial | refine And.intro rfl ?_)))
    refine At.loopF H (fun μ R1 G1 => ∃ (k : Nat) (g : Nat) (c : Nat) (l : List (Option Nat)) (seen : Nat), μ = list.length - k ∧ (k ≤ list.length ∧ l.length = k ∧ MadeI men list fair l seen) ∧ R1 = [(7, .slice (some ⟨g, 0, none⟩) k c), (8, .int .i64 (seen : Int)), (17, .int .i64 (k : Int))] ∧ G1 = [.row (.slice (some ⟨g, 0, none⟩) k c) 3 1 k (l.flatMap encO)]) (list.length) ⟨0, _, _, [], 0, by first | rfl | omega, ⟨by omega, rfl, MadeI.nil _ _ _⟩, rfl, rfl⟩ ?_
    clear H; rintro _ _ _ T w ⟨k, g, c, l, seen, rfl, ⟨hk, hl, hI⟩, rfl, rfl⟩ H hnext0
    simp only [List.cons_append, List.nil_append] at H
    refine At.seq ?_
    refine At.region' (l := [0]) rfl ?_
    refine At.c H rfl (wN rfl) rfl rfl rfl (x_lss (H.r 17 rfl) (H.r 16 rfl)) ?_ ?_
    · clear H; intro h18 T H
      have hk1 : k < list.length := by omega
      obtain ⟨z, hz⟩ := get_ex hk1
      have hsb := hI.sb
      refine At.regionEnd ?_
      refine At.seq ?_
      refine At.condT (H.r 18 rfl) ?_
      refine At.skip ?_
      refine At.seq ?_
      refine At.block ?_
      refine At.seq ?_
      refine At.region' (l := [0, 1]) rfl ?_
      refine At.v H rfl (wN rfl) rfl rfl rfl (x_move (H.r 17 rfl)) ?_; clear H; intro T H
      refine At.v H rfl (wN rfl) rfl rfl rfl (x_assign (H.r 19 rfl)) ?_; clear H; intro T H
      refine At.regionEnd ?_
      refine At.seq ?_
      refine At.region' (l := [0]) rfl ?_
      refine At.v H rfl (wN rfl) rfl rfl rfl (x_assign evC) ?_; clear H; intro T H
      refine At.regionEnd ?_
      refine At.seq ?_
      refine At.seq ?_
      refine At.region' (l := [0, 1, 2]) rfl ?_
      refine At.v H rfl (wN rfl) rfl rfl rfl (x_move (H.r 1 rfl)) ?_; clear H; intro T H
      refine At.v H rfl (wN rfl) rfl rfl rfl (x_len (H.r 20 rfl) Try.runUnderlying26) ?_; clear H; intro T H
      refine At.c H rfl (wN rfl) rfl rfl rfl (x_gtr (H.r 21 rfl) evC) ?_ ?_
      · clear H; intro h22 T H
        have hy0 : 0 < by_.length := by omega
        obtain ⟨y, hy⟩ := get_ex (Nat.mod_lt k hy0)
        have hyb := hbb y (List.mem_of_getElem? hy)
        obtain rfl := hB.addr (fun e => by simp [e] at hy0)
        have hclB := hB.cell _ y hy 0 _ rfl
        have hq : (y + 5 * k) % (men.length + 1) < men.length + 1 := Nat.mod_lt _ (by omega)
        refine At.regionEnd ?_
        refine At.condT (H.r 22 rfl) ?_
        refine At.drawnC (m := 18) (L := #[false, false, false, false, false, false, false, false, false, false, false, false, false, false, false, false, false, false]) H mixed rfl rfl ?_; clear H; intro w H
        refine GA.v (i := 0) (L' := #[true, false, false, false, false, false, false, false, false, false, false, false, false, false, false, false, false, false]) H rfl (wN rfl) rfl rfl rfl (by kernel_rfl) rfl (fun w H => x_move (H.r 1 rfl)) ?_; clear H; intro T H
        refine GA.v (i := 1) (L' := #[true, true, false, false, false, false, false, false, false, false, false, false, false, false, false, false, false, false]) H rfl (wN rfl) rfl rfl rfl (by kernel_rfl) rfl (fun w H => x_move (H.r 9 rfl)) ?_; clear H; intro T H
        refine GA.v (i := 2) (L' := #[true, true, true, false, false, false, false, false, false, false, false, false, false, false, false, false, false, false]) H rfl (wN rfl) rfl rfl rfl (by kernel_rfl) rfl (fun w H => x_move (H.r 1 rfl)) ?_; clear H; intro T H
        refine GA.v (i := 3) (L' := #[true, true, true, true, false, false, false, false, false, false, false, false, false, false, false, false, false, false]) H rfl (wN rfl) rfl rfl rfl (by kernel_rfl) rfl (fun w H => x_len (H.r 25 rfl) Try.runUnderlying26) ?_; clear H; intro T H
        refine GA.v (i := 4) (L' := #[true, true, true, true, true, false, false, false, false, false, false, false, false, false, false, false, false, false]) H rfl (wN rfl) rfl rfl rfl (by kernel_rfl) rfl (fun w H => x_remN (a := k) (b := by_.length) (H.r 24 rfl) (H.r 26 rfl) hy0) ?_; clear H; intro T H
        refine GA.v (i := 5) (L' := #[true, true, true, true, true, true, false, false, false, false, false, false, false, false, false, false, false, false]) H rfl (wN rfl) rfl rfl rfl (by kernel_rfl) rfl (fun w H => x_ixSN (n := k % by_.length) (H.r 23 rfl) (H.r 27 rfl) Try.runUnderlying26 Try.sizeOf5 (Nat.mod_lt k hy0)) ?_; clear H; intro T H
        refine GA.v (i := 6) (L' := #[true, true, true, true, true, true, true, false, false, false, false, false, false, false, false, false, false, false]) H rfl (wN rfl) rfl rfl rfl (by kernel_rfl) rfl (fun w H => x_load (H.r 28 rfl) Try.isAgg5 (H.ext hclB (by simp))) ?_; clear H; intro T H
        refine GA.v (i := 8) (L' := #[true, true, true, true, true, true, true, false, true, false, false, false, false, false, false, false, false, false]) H rfl (wN rfl) rfl rfl rfl (by kernel_rfl) rfl (fun w H => x_move (H.r 9 rfl)) ?_; clear H; intro T H
        refine GA.v (i := 9) (L' := #[true, true, true, true, true, true, true, false, true, true, false, false, false, false, false, false, false, false]) H rfl (wN rfl) rfl rfl rfl (by kernel_rfl) rfl (fun w H => x_mulN (a := 5) (b := k) evC (H.r 31 rfl) (by omega)) ?_; clear H; intro T H
        refine GA.v (i := 11) (L' := #[true, true, true, true, true, true, true, false, true, true, false, true, false, false, false, false, false, false]) H rfl (wN rfl) rfl rfl rfl (by kernel_rfl) rfl (fun w H => x_fieldAddr (H.r 3 rfl) fa25_0) ?_; clear H; intro T H
        refine GA.v (i := 12) (L' := #[true, true, true, true, true, true, true, false, true, true, false, true, true, false, false, false, false, false]) H rfl (wN rfl) rfl rfl rfl (by kernel_rfl) rfl (fun w H => x_load (H.r 34 rfl) Try.isAgg22 (by first | exact H.cell (by repeat (first | exact List.mem_cons_self | apply List.mem_cons_of_mem)) _ rfl | exact H.cellR (by repeat (first | exact List.mem_cons_self | apply List.mem_cons_of_mem)) _ rfl)) ?_; clear H; intro T H
        refine GA.v (i := 13) (L' := #[true, true, true, true, true, true, true, false, true, true, false, true, true, true, false, false, false, false]) H rfl (wN rfl) rfl rfl rfl (by kernel_rfl) rfl (fun w H => x_len (H.r 35 rfl) Try.runUnderlying22) ?_; clear H; intro T H
        refine GA.v (i := 14) (L' := #[true, true, true, true, true, true, true, false, true, true, false, true, true, true, true, false, false, false]) H rfl (wN rfl) rfl rfl rfl (by kernel_rfl) rfl (fun w H => x_addN (a := men.length) (b := 1) (H.r 36 rfl) evC (by omega)) ?_; clear H; intro T H
        refine GA.v (i := 7) (L' := #[true, true, true, true, true, true, true, true, true, true, false, true, true, true, true, false, false, false]) H rfl (wN rfl) rfl rfl rfl (by kernel_rfl) rfl (fun w H => x_conv (z := (y : Int)) (H.r 29 rfl) Try.runUnderlying5 Try.runUnderlying3 (wrapN (by omega))) ?_; clear H; intro T H
        refine GA.v (i := 10) (L' := #[true, true, true, true, true, true, true, true, true, true, true, true, true, true, true, false, false, false]) H rfl (wN rfl) rfl rfl rfl (by kernel_rfl) rfl (fun w H => x_addN (a := y) (b := 5 * k) (H.r 30 rfl) (H.r 32 rfl) (by omega)) ?_; clear H; intro T H
        refine GA.v (i := 15) (L' := #[true, true, true, true, true, true, true, true, true, true, true, true, true, true, true, true, false, false]) H rfl (wN rfl) rfl rfl rfl (by kernel_rfl) rfl (fun w H => x_remN (a := y + 5 * k) (b := men.length + 1) (H.r 33 rfl) (H.r 37 rfl) (by omega)) ?_; clear H; intro T H
        refine GA.v (i := 16) (L' := #[true, true, true, true, true, true, true, true, true, true, true, true, true, true, true, true, true, false]) H rfl (wN rfl) rfl rfl rfl (by kernel_rfl) rfl (fun w H => x_sub (H.r 38 rfl) evC (w64 (by omega) (by omega))) ?_; clear H; intro T H
        refine GA.v (i := 17) (L' := #[true, true, true, true, true, true, true, true, true, true, true, true, true, true, true, true, true, true]) H rfl (wN rfl) rfl rfl rfl (by kernel_rfl) rfl (fun w H => x_assign (H.r 39 rfl)) ?_; clear H; intro T H
        generalize (y + 5 * k) % (men.length + 1) = q at *
        refine GA.done (by kernel_rfl) ?_
        refine At.seq ?_
        refine At.seq ?_
        refine At.region' (l := [0, 1]) rfl ?_
        refine At.v H rfl (wN rfl) rfl rfl rfl (x_move (H.r 10 rfl)) ?_; clear H; intro T H
        refine At.c H rfl (wN rfl) rfl rfl rfl (x_geq (H.r 40 rfl) evC) ?_ ?_
        · clear H; intro h41 T H
          obtain ⟨m, rfl⟩ : ∃ m, q = m + 1 := ⟨q - 1, by omega⟩
          rw [show ((m + 1 : Nat) : Int) - 1 = (m : Int) by omega] at H
          have hm1 : m < men.length := by omega
          obtain ⟨mi, hmi⟩ := get_ex hm1
          refine At.regionEnd ?_
          refine At.condT (H.r 41 rfl) ?_
          refine At.seq ?_
          refine At.region' (l := [0, 1, 2, 3, 4, 5, 6, 7, 8]) rfl ?_
          refine At.v H rfl (wN rfl) rfl rfl rfl (x_loadA (H.r 3 rfl) Try.isAgg25 Try.sizeOf25 (H.cellsAt (n := 2) (by repeat (first | exact List.mem_cons_self | apply List.mem_cons_of_mem)) rfl) rfl) ?_; clear H; intro T H
          refine At.v H rfl (wN rfl) rfl rfl rfl (x_move (H.r 10 rfl)) ?_; clear H; intro T H
          refine At.v H rfl (wN rfl) rfl rfl rfl (x_move (H.r 9 rfl)) ?_; clear H; intro T H
          refine At.f0 H rfl (wN rfl) rfl rfl rfl (args3 (H.r 43 rfl) (H.r 44 rfl) (H.r 45 rfl)) Try.call16 (Can (hM.fr0 H.fr) (hL.fr0 H.fr) hv hmi hz) ?_; clear H; rintro v46 T w rfl _ H
          rcases Bool.eq_false_or_eq_true (canW z.for_ mi) with hcan | hcan
          · rw [hcan] at H
            refine At.v H rfl (wN rfl) rfl rfl rfl (x_move (H.r 46 rfl)) ?_; clear H; intro T H
            refine At.v H rfl (wN rfl) rfl rfl rfl (x_extract (H.r 42 rfl) rfl) ?_; clear H; intro T H
            refine At.v H rfl (wN rfl) rfl rfl rfl (x_extract (H.r 42 rfl) rfl) ?_; clear H; intro T H
            refine At.v H rfl (wN rfl) rfl rfl rfl (x_assign (H.r 47 rfl)) ?_; clear H; intro T H
            refine At.v H rfl (wN rfl) rfl rfl rfl (x_assign (H.r 48 rfl)) ?_; clear H; intro T H
            refine At.regionEnd ?_
            refine At.seq ?_
            refine At.region' (l := [0, 1, 2, 3, 4, 5, 6, 7, 8, 9, 10, 11]) rfl ?_
            refine At.v H rfl (wN rfl) rfl rfl rfl (x_move (H.r 8 rfl)) ?_; clear H; intro T H
            refine At.v H rfl (wN rfl) rfl rfl rfl (x_move (H.r 10 rfl)) ?_; clear H; intro T H
            refine At.v H rfl (wN rfl) rfl rfl rfl (x_shrN (a := seen) (n := m) (H.r 49 rfl) (H.r 50 rfl) (by omega)) ?_; clear H; intro T H
            refine At.v H rfl (wN rfl) rfl rfl rfl (x_andN (a := seen / 2 ^ m) (b := 1) (H.r 51 rfl) evC (Nat.lt_of_le_of_lt (Nat.div_le_self _ _) (by omega)) (by omega)) ?_; clear H; intro T H
            refine At.c H rfl (wN rfl) rfl rfl rfl (x_eql (H.r 52 rfl) evC) ?_ ?_
            · clear H; intro h53 T H
              refine At.v H rfl (wN rfl) rfl rfl rfl (x_move (H.r 53 rfl)) ?_; clear H; intro T H
              refine At.u H rfl (wU H rfl rfl rfl rfl) rfl rfl ?_; clear H; intro T H
              refine At.u H rfl (wU H rfl rfl rfl rfl) rfl rfl ?_; clear H; intro T H
              refine At.u H rfl (wUu H rfl rfl rfl) rfl rfl ?_; clear H; intro T H
              refine At.u H rfl (wUu H rfl rfl rfl) rfl rfl ?_; clear H; intro T H
              refine At.u H rfl (wU H rfl rfl rfl rfl) rfl rfl ?_; clear H; intro T H
              refine At.v H rfl (wN rfl) rfl rfl rfl (x_pickT (H.r 54 rfl) evC) ?_; clear H; intro T H
              refine At.regionEnd ?_
              refine At.condT (H.r 60 rfl) ?_
              refine At.region' (l := [0]) rfl ?_
              refine At.v H rfl (wN rfl) rfl rfl rfl (x_assign evC) ?_; clear H; intro T H
              refine At.regionEnd ?_
              refine At.seq ?_
              refine At.seq ?_
              refine At.region' (l := [0, 1]) rfl ?_
              refine At.v H rfl (wN rfl) rfl rfl rfl (x_move (H.r 10 rfl)) ?_; clear H; intro T H
              refine At.v (v := .bool false) H rfl (wN rfl) rfl rfl rfl (x_geq (H.r 61 rfl) evC) ?_; clear H; intro T H
              refine At.regionEnd ?_
              refine At.condF (H.r 62 rfl) ?_
              refine At.skip ?_
              refine At.region' (l := [0, 1, 2, 3, 4]) rfl ?_
              refine At.v H rfl (wN rfl) rfl rfl rfl (x_move (H.r 7 rfl)) ?_; clear H; intro T H
              refine At.v H rfl (wN rfl) rfl rfl rfl (x_move (H.r 10 rfl)) ?_; clear H; intro T H
              refine At.bs (n := 1) (L := ?l69_9) (e := ?e69_9) H rfl (wN rfl) rfl rfl rfl (x_bs1 (H.r 68 rfl) ?r69_9) ?_
              case r69_9 => (simp [go_sem] <;> rfl)
              clear H; intro b69 T w H
              refine At.append H rfl (wN rfl) rfl rfl rfl (etI w0) (H.r 67 rfl) (H.r 69 rfl) (by repeat (first | exact Take.here | apply Take.there)) (H.cellsAt (n := 1) (by repeat (first | exact List.mem_cons_self | apply List.mem_cons_of_mem)) rfl) rfl (by simp [Value.oneCell']) (by omega) ?_; clear H; intro A70 c70 T w hc70 hA70 H
              refine At.v H rfl (wN rfl) rfl rfl rfl (x_assign (H.r 70 rfl)) ?_; clear H; intro T H
              obtain ⟨g70, rfl⟩ := hA70 (by omega)
              obtain ⟨l2, hl2⟩ : ∃ l2, l2 = l ++ [none] := ⟨_, rfl⟩
              obtain ⟨seen2, hs2⟩ : ∃ s, s = seen := ⟨_, rfl⟩
              have hI2 : MadeI men list fair l2 seen2 := by rw [hl2, hs2]; exact hI.snocN
              have hr2 : l2.flatMap encO = l.flatMap encO ++ [.int .i64 (-1)] := by rw [hl2, List.flatMap_append]; rfl
              rw [← hs2] at H
              refine At.regionEnd ?_
              refine At.inBlock ?_
              refine At.region' (l := [0, 1]) rfl ?_
              refine At.v H rfl (wN rfl) rfl rfl rfl (x_add (H.r 17 rfl) evC (w64 (by omega) (by omega))) ?_; clear H; intro T H
              refine At.v H rfl (wN rfl) rfl rfl rfl (x_move (H.r 71 rfl)) ?_; clear H; intro T H
              refine At.regionEnd ?_
              exact hnext0 _ _ _ _ _ (by omega) ⟨k + 1, _, _, l2, seen2, rfl, ⟨by omega, by rw [hl2]; simp [hl], hI2⟩, rfl, rfl⟩ (by simp only [List.cons_append, List.nil_append]; rw [hr2]; exact (H.pk (by repeat (first | exact Pk.nil | exact Pk.all | refine Pk.cons (by repeat (first | exact Take.here | apply Take.there)) ?_ | apply Pk.skip))).sub (by repeat' (first | exact trivial | refine And.intro rfl ?_)))
            · clear H; intro h53 T H
              refine At.v H rfl (wN rfl) rfl rfl rfl (x_move (H.r 53 rfl)) ?_; clear H; intro T H
              refine At.v H rfl (wS H rfl rfl rfl) rfl rfl rfl (x_move (H.r 2 rfl)) ?_; clear H; intro T H
              refine At.v H rfl (wS H rfl rfl rfl) rfl rfl rfl (x_move (H.r 55 rfl)) ?_; clear H; intro T H
              refine At.u H rfl (wU H rfl rfl rfl rfl) rfl rfl ?_; clear H; intro T H
              refine At.u H rfl (wU H rfl rfl rfl rfl) rfl rfl ?_; clear H; intro T H
              refine At.v H rfl (wS H rfl rfl rfl) rfl rfl rfl (x_pickF (H.r 56 rfl) evC) ?_; clear H; intro T H
              refine At.v H rfl (wN rfl) rfl rfl rfl (x_pickF (H.r 54 rfl) (H.r 59 rfl)) ?_; clear H; intro T H
              refine At.regionEnd ?_
              refine At.condF (H.r 60 rfl) ?_
              refine At.skip ?_
              refine At.seq ?_
              refine At.seq ?_
              refine At.region' (l := [0, 1]) rfl ?_
              refine At.v H rfl (wN rfl) rfl rfl rfl (x_move (H.r 10 rfl)) ?_; clear H; intro T H
              refine At.v (v := .bool true) H rfl (wN rfl) rfl rfl rfl ((x_geq (H.r 61 rfl) evC).trans (by rw [decide_eq_true (show (0 : Int) ≤ (m : Int) by omega)])) ?_; clear H; intro T H
              refine At.regionEnd ?_
              refine At.condT (H.r 62 rfl) ?_
              refine At.region' (l := [0, 1, 2, 3, 4]) rfl ?_
              refine At.v H rfl (wN rfl) rfl rfl rfl (x_move (H.r 8 rfl)) ?_; clear H; intro T H
              refine At.v H rfl (wN rfl) rfl rfl rfl (x_move (H.r 10 rfl)) ?_; clear H; intro T H
              refine At.v H rfl (wN rfl) rfl rfl rfl (x_shlN (a := 1) (n := m) evC (H.r 64 rfl) (by omega) (by have := Nat.pow_lt_pow_right (a := 2) (by omega) (show m < 8 by omega); omega)) ?_; clear H; intro T H
              refine At.v H rfl (wN rfl) rfl rfl rfl (x_orN (a := seen) (b := 1 * 2 ^ m) (H.r 63 rfl) (H.r 65 rfl) (by omega) (by have := Nat.pow_lt_pow_right (a := 2) (by omega) (show m < 8 by omega); omega)) ?_; clear H; intro T H
              refine At.v H rfl (wN rfl) rfl rfl rfl (x_assign (H.r 66 rfl)) ?_; clear H; intro T H
              rw [Nat.one_mul] at H
              refine At.regionEnd ?_
              refine At.region' (l := [0, 1, 2, 3, 4]) rfl ?_
              refine At.v H rfl (wN rfl) rfl rfl rfl (x_move (H.r 7 rfl)) ?_; clear H; intro T H
              refine At.v H rfl (wN rfl) rfl rfl rfl (x_move (H.r 10 rfl)) ?_; clear H; intro T H
              refine At.bs (n := 1) (L := ?l69_10) (e := ?e69_10) H rfl (wN rfl) rfl rfl rfl (x_bs1 (H.r 68 rfl) ?r69_10) ?_
              case r69_10 => (simp [go_sem] <;> rfl)
              clear H; intro b69 T w H
              refine At.append H rfl (wN rfl) rfl rfl rfl (etI w0) (H.r 67 rfl) (H.r 69 rfl) (by repeat (first | exact Take.here | apply Take.there)) (H.cellsAt (n := 1) (by repeat (first | exact List.mem_cons_self | apply List.mem_cons_of_mem)) rfl) rfl (by simp [Value.oneCell']) (by omega) ?_; clear H; intro A70 c70 T w hc70 hA70 H
              refine At.v H rfl (wN rfl) rfl rfl rfl (x_assign (H.r 70 rfl)) ?_; clear H; intro T H
              obtain ⟨g70, rfl⟩ := hA70 (by omega)
              obtain ⟨l2, hl2⟩ : ∃ l2, l2 = l ++ [some m] := ⟨_, rfl⟩
              obtain ⟨seen2, hs2⟩ : ∃ s, s = seen ||| 2 ^ m := ⟨_, rfl⟩
              have hI2 : MadeI men list fair l2 seen2 := by rw [hl2, hs2]; exact hI.snocS hm1 hv.n8 (fun e => h53 ((bit_eq _ _).2 e)) (by rw [hl]; exact hz) (by first | (intro hf; rw [canAt_eq hmi]; exact hcan) | (intro hf; subst hf; cases hfa))
              have hr2 : l2.flatMap encO = l.flatMap encO ++ [.int .i64 (m : Int)] := by rw [hl2, List.flatMap_append]; rfl
              rw [← hs2] at H
              refine At.regionEnd ?_
              refine At.inBlock ?_
              refine At.region' (l := [0, 1]) rfl ?_
              refine At.v H rfl (wN rfl) rfl rfl rfl (x_add (H.r 17 rfl) evC (w64 (by omega) (by omega))) ?_; clear H; intro T H
              refine At.v H rfl (wN rfl) rfl rfl rfl (x_move (H.r 71 rfl)) ?_; clear H; intro T H
              refine At.regionEnd ?_
              exact hnext0 _ _ _ _ _ (by omega) ⟨k + 1, _, _, l2, seen2, rfl, ⟨by omega, by rw [hl2]; simp [hl], hI2⟩, rfl, rfl⟩ (by simp only [List.cons_append, List.nil_append]; rw [hr2]; exact (H.pk (by repeat (first | exact Pk.nil | exact Pk.all | refine Pk.cons (by repeat (first | exact Take.here | apply Take.there)) ?_ | apply Pk.skip))).sub (by repeat' (first | exact trivial | refine And.intro rfl ?_)))
          · rw [hcan] at H
            refine At.v H rfl (wN rfl) rfl rfl rfl (x_move (H.r 46 rfl)) ?_; clear H; intro T H
            refine At.v H rfl (wN rfl) rfl rfl rfl (x_extract (H.r 42 rfl) rfl) ?_; clear H; intro T H
            refine At.v H rfl (wN rfl) rfl rfl rfl (x_extract (H.r 42 rfl) rfl) ?_; clear H; intro T H
            refine At.v H rfl (wN rfl) rfl rfl rfl (x_assign (H.r 47 rfl)) ?_; clear H; intro T H
            refine At.v H rfl (wN rfl) rfl rfl rfl (x_assign (H.r 48 rfl)) ?_; clear H; intro T H
            refine At.regionEnd ?_
            refine At.seq ?_
            refine At.region' (l := [0, 1, 2, 3, 4, 5, 6, 7, 8, 9, 10, 11]) rfl ?_
            refine At.v H rfl (wN rfl) rfl rfl rfl (x_move (H.r 8 rfl)) ?_; clear H; intro T H
            refine At.v H rfl (wN rfl) rfl rfl rfl (x_move (H.r 10 rfl)) ?_; clear H; intro T H
            refine At.v H rfl (wN rfl) rfl rfl rfl (x_shrN (a := seen) (n := m) (H.r 49 rfl) (H.r 50 rfl) (by omega)) ?_; clear H; intro T H
            refine At.v H rfl (wN rfl) rfl rfl rfl (x_andN (a := seen / 2 ^ m) (b := 1) (H.r 51 rfl) evC (Nat.lt_of_le_of_lt (Nat.div_le_self _ _) (by omega)) (by omega)) ?_; clear H; intro T H
            refine At.c H rfl (wN rfl) rfl rfl rfl (x_eql (H.r 52 rfl) evC) ?_ ?_
            · clear H; intro h53 T H
              refine At.v H rfl (wN rfl) rfl rfl rfl (x_move (H.r 53 rfl)) ?_; clear H; intro T H
              refine At.u H rfl (wU H rfl rfl rfl rfl) rfl rfl ?_; clear H; intro T H
              refine At.u H rfl (wU H rfl rfl rfl rfl) rfl rfl ?_; clear H; intro T H
              refine At.u H rfl (wUu H rfl rfl rfl) rfl rfl ?_; clear H; intro T H
              refine At.u H rfl (wUu H rfl rfl rfl) rfl rfl ?_; clear H; intro T H
              refine At.u H rfl (wU H rfl rfl rfl rfl) rfl rfl ?_; clear H; intro T H
              refine At.v H rfl (wN rfl) rfl rfl rfl (x_pickT (H.r 54 rfl) evC) ?_; clear H; intro T H
              refine At.regionEnd ?_
              refine At.condT (H.r 60 rfl) ?_
              refine At.region' (l := [0]) rfl ?_
              refine At.v H rfl (wN rfl) rfl rfl rfl (x_assign evC) ?_; clear H; intro T H
              refine At.regionEnd ?_
              refine At.seq ?_
              refine At.seq ?_
              refine At.region' (l := [0, 1]) rfl ?_
              refine At.v H rfl (wN rfl) rfl rfl rfl (x_move (H.r 10 rfl)) ?_; clear H; intro T H
              refine At.v (v := .bool false) H rfl (wN rfl) rfl rfl rfl (x_geq (H.r 61 rfl) evC) ?_; clear H; intro T H
              refine At.regionEnd ?_
              refine At.condF (H.r 62 rfl) ?_
              refine At.skip ?_
              refine At.region' (l := [0, 1, 2, 3, 4]) rfl ?_
              refine At.v H rfl (wN rfl) rfl rfl rfl (x_move (H.r 7 rfl)) ?_; clear H; intro T H
              refine At.v H rfl (wN rfl) rfl rfl rfl (x_move (H.r 10 rfl)) ?_; clear H; intro T H
              refine At.bs (n := 1) (L := ?l69_11) (e := ?e69_11) H rfl (wN rfl) rfl rfl rfl (x_bs1 (H.r 68 rfl) ?r69_11) ?_
              case r69_11 => (simp [go_sem] <;> rfl)
              clear H; intro b69 T w H
              refine At.append H rfl (wN rfl) rfl rfl rfl (etI w0) (H.r 67 rfl) (H.r 69 rfl) (by repeat (first | exact Take.here | apply Take.there)) (H.cellsAt (n := 1) (by repeat (first | exact List.mem_cons_self | apply List.mem_cons_of_mem)) rfl) rfl (by simp [Value.oneCell']) (by omega) ?_; clear H; intro A70 c70 T w hc70 hA70 H
              refine At.v H rfl (wN rfl) rfl rfl rfl (x_assign (H.r 70 rfl)) ?_; clear H; intro T H
              obtain ⟨g70, rfl⟩ := hA70 (by omega)
              obtain ⟨l2, hl2⟩ : ∃ l2, l2 = l ++ [none] := ⟨_, rfl⟩
              obtain ⟨seen2, hs2⟩ : ∃ s, s = seen := ⟨_, rfl⟩
              have hI2 : MadeI men list fair l2 seen2 := by rw [hl2, hs2]; exact hI.snocN
              have hr2 : l2.flatMap encO = l.flatMap encO ++ [.int .i64 (-1)] := by rw [hl2, List.flatMap_append]; rfl
              rw [← hs2] at H
              refine At.regionEnd ?_
              refine At.inBlock ?_
              refine At.region' (l := [0, 1]) rfl ?_
              refine At.v H rfl (wN rfl) rfl rfl rfl (x_add (H.r 17 rfl) evC (w64 (by omega) (by omega))) ?_; clear H; intro T H
              refine At.v H rfl (wN rfl) rfl rfl rfl (x_move (H.r 71 rfl)) ?_; clear H; intro T H
              refine At.regionEnd ?_
              exact hnext0 _ _ _ _ _ (by omega) ⟨k + 1, _, _, l2, seen2, rfl, ⟨by omega, by rw [hl2]; simp [hl], hI2⟩, rfl, rfl⟩ (by simp only [List.cons_append, List.nil_append]; rw [hr2]; exact (H.pk (by repeat (first | exact Pk.nil | exact Pk.all | refine Pk.cons (by repeat (first | exact Take.here | apply Take.there)) ?_ | apply Pk.skip))).sub (by repeat' (first | exact trivial | refine And.intro rfl ?_)))
            · clear H; intro h53 T H
              refine At.v H rfl (wN rfl) rfl rfl rfl (x_move (H.r 53 rfl)) ?_; clear H; intro T H
              refine At.v H rfl (wS H rfl rfl rfl) rfl rfl rfl (x_move (H.r 2 rfl)) ?_; clear H; intro T H
              refine At.v H rfl (wS H rfl rfl rfl) rfl rfl rfl (x_move (H.r 55 rfl)) ?_; clear H; intro T H
              refine At.u H rfl (wU H rfl rfl rfl rfl) rfl rfl ?_; clear H; intro T H
              refine At.u H rfl (wU H rfl rfl rfl rfl) rfl rfl ?_; clear H; intro T H
              refine At.v H rfl (wS H rfl rfl rfl) rfl rfl rfl (x_pickF (H.r 56 rfl) evC) ?_; clear H; intro T H
              refine At.v H rfl (wN rfl) rfl rfl rfl (x_pickF (H.r 54 rfl) (H.r 59 rfl)) ?_; clear H; intro T H
              refine At.regionEnd ?_
              refine At.condF (H.r 60 rfl) ?_
              refine At.skip ?_
              refine At.seq ?_
              refine At.seq ?_
              refine At.region' (l := [0, 1]) rfl ?_
              refine At.v H rfl (wN rfl) rfl rfl rfl (x_move (H.r 10 rfl)) ?_; clear H; intro T H
              refine At.v (v := .bool true) H rfl (wN rfl) rfl rfl rfl ((x_geq (H.r 61 rfl) evC).trans (by rw [decide_eq_true (show (0 : Int) ≤ (m : Int) by omega)])) ?_; clear H; intro T H
              refine At.regionEnd ?_
              refine At.condT (H.r 62 rfl) ?_
              refine At.region' (l := [0, 1, 2, 3, 4]) rfl ?_
              refine At.v H rfl (wN rfl) rfl rfl rfl (x_move (H.r 8 rfl)) ?_; clear H; intro T H
              refine At.v H rfl (wN rfl) rfl rfl rfl (x_move (H.r 10 rfl)) ?_; clear H; intro T H
              refine At.v H rfl (wN rfl) rfl rfl rfl (x_shlN (a := 1) (n := m) evC (H.r 64 rfl) (by omega) (by have := Nat.pow_lt_pow_right (a := 2) (by omega) (show m < 8 by omega); omega)) ?_; clear H; intro T H
              refine At.v H rfl (wN rfl) rfl rfl rfl (x_orN (a := seen) (b := 1 * 2 ^ m) (H.r 63 rfl) (H.r 65 rfl) (by omega) (by have := Nat.pow_lt_pow_right (a := 2) (by omega) (show m < 8 by omega); omega)) ?_; clear H; intro T H
              refine At.v H rfl (wN rfl) rfl rfl rfl (x_assign (H.r 66 rfl)) ?_; clear H; intro T H
              rw [Nat.one_mul] at H
              refine At.regionEnd ?_
              refine At.region' (l := [0, 1, 2, 3, 4]) rfl ?_
              refine At.v H rfl (wN rfl) rfl rfl rfl (x_move (H.r 7 rfl)) ?_; clear H; intro T H
              refine At.v H rfl (wN rfl) rfl rfl rfl (x_move (H.r 10 rfl)) ?_; clear H; intro T H
              refine At.bs (n := 1) (L := ?l69_12) (e := ?e69_12) H rfl (wN rfl) rfl rfl rfl (x_bs1 (H.r 68 rfl) ?r69_12) ?_
              case r69_12 => (simp [go_sem] <;> rfl)
              clear H; intro b69 T w H
              refine At.append H rfl (wN rfl) rfl rfl rfl (etI w0) (H.r 67 rfl) (H.r 69 rfl) (by repeat (first | exact Take.here | apply Take.there)) (H.cellsAt (n := 1) (by repeat (first | exact List.mem_cons_self | apply List.mem_cons_of_mem)) rfl) rfl (by simp [Value.oneCell']) (by omega) ?_; clear H; intro A70 c70 T w hc70 hA70 H
              refine At.v H rfl (wN rfl) rfl rfl rfl (x_assign (H.r 70 rfl)) ?_; clear H; intro T H
              obtain ⟨g70, rfl⟩ := hA70 (by omega)
              obtain ⟨l2, hl2⟩ : ∃ l2, l2 = l ++ [some m] := ⟨_, rfl⟩
              obtain ⟨seen2, hs2⟩ : ∃ s, s = seen ||| 2 ^ m := ⟨_, rfl⟩
              have hI2 : MadeI men list fair l2 seen2 := by rw [hl2, hs2]; exact hI.snocS hm1 hv.n8 (fun e => h53 ((bit_eq _ _).2 e)) (by rw [hl]; exact hz) (by first | (intro hf; rw [canAt_eq hmi]; exact hcan) | (intro hf; subst hf; cases hfa))
              have hr2 : l2.flatMap encO = l.flatMap encO ++ [.int .i64 (m : Int)] := by rw [hl2, List.flatMap_append]; rfl
              rw [← hs2] at H
              refine At.regionEnd ?_
              refine At.inBlock ?_
              refine At.region' (l := [0, 1]) rfl ?_
              refine At.v H rfl (wN rfl) rfl rfl rfl (x_add (H.r 17 rfl) evC (w64 (by omega) (by omega))) ?_; clear H; intro T H
              refine At.v H rfl (wN rfl) rfl rfl rfl (x_move (H.r 71 rfl)) ?_; clear H; intro T H
              refine At.regionEnd ?_
              exact hnext0 _ _ _ _ _ (by omega) ⟨k + 1, _, _, l2, seen2, rfl, ⟨by omega, by rw [hl2]; simp [hl], hI2⟩, rfl, rfl⟩ (by simp only [List.cons_append, List.nil_append]; rw [hr2]; exact (H.pk (by repeat (first | exact Pk.nil | exact Pk.all | refine Pk.cons (by repeat (first | exact Take.here | apply Take.there)) ?_ | apply Pk.skip))).sub (by repeat' (first | exact trivial | refine And.intro rfl ?_)))
        · clear H; intro h41 T H
          obtain rfl : q = 0 := by omega
          rw [show ((0 : Nat) : Int) - 1 = -1 by omega] at H
          refine At.regionEnd ?_
          refine At.condF (H.r 41 rfl) ?_
          refine At.skip ?_
          refine At.seq ?_
          refine At.seq ?_
          refine At.region' (l := [0, 1]) rfl ?_
          refine At.v H rfl (wN rfl) rfl rfl rfl (x_move (H.r 10 rfl)) ?_; clear H; intro T H
          refine At.v (v := .bool false) H rfl (wN rfl) rfl rfl rfl (x_geq (H.r 61 rfl) evC) ?_; clear H; intro T H
          refine At.regionEnd ?_
          refine At.condF (H.r 62 rfl) ?_
          refine At.skip ?_
          refine At.region' (l := [0, 1, 2, 3, 4]) rfl ?_
          refine At.v H rfl (wN rfl) rfl rfl rfl (x_move (H.r 7 rfl)) ?_; clear H; intro T H
          refine At.v H rfl (wN rfl) rfl rfl rfl (x_move (H.r 10 rfl)) ?_; clear H; intro T H
          refine At.bs (n := 1) (L := ?l69_13) (e := ?e69_13) H rfl (wN rfl) rfl rfl rfl (x_bs1 (H.r 68 rfl) ?r69_13) ?_
          case r69_13 => (simp [go_sem] <;> rfl)
          clear H; intro b69 T w H
          refine At.append H rfl (wN rfl) rfl rfl rfl (etI w0) (H.r 67 rfl) (H.r 69 rfl) (by repeat (first | exact Take.here | apply Take.there)) (H.cellsAt (n := 1) (by repeat (first | exact List.mem_cons_self | apply List.mem_cons_of_mem)) rfl) rfl (by simp [Value.oneCell']) (by omega) ?_; clear H; intro A70 c70 T w hc70 hA70 H
          refine At.v H rfl (wN rfl) rfl rfl rfl (x_assign (H.r 70 rfl)) ?_; clear H; intro T H
          obtain ⟨g70, rfl⟩ := hA70 (by omega)
          obtain ⟨l2, hl2⟩ : ∃ l2, l2 = l ++ [none] := ⟨_, rfl⟩
          obtain ⟨seen2, hs2⟩ : ∃ s, s = seen := ⟨_, rfl⟩
          have hI2 : MadeI men list fair l2 seen2 := by rw [hl2, hs2]; exact hI.snocN
          have hr2 : l2.flatMap encO = l.flatMap encO ++ [.int .i64 (-1)] := by rw [hl2, List.flatMap_append]; rfl
          rw [← hs2] at H
          refine At.regionEnd ?_
          refine At.inBlock ?_
          refine At.region' (l := [0, 1]) rfl ?_
          refine At.v H rfl (wN rfl) rfl rfl rfl (x_add (H.r 17 rfl) evC (w64 (by omega) (by omega))) ?_; clear H; intro T H
          refine At.v H rfl (wN rfl) rfl rfl rfl (x_move (H.r 71 rfl)) ?_; clear H; intro T H
          refine At.regionEnd ?_
          exact hnext0 _ _ _ _ _ (by omega) ⟨k + 1, _, _, l2, seen2, rfl, ⟨by omega, by rw [hl2]; simp [hl], hI2⟩, rfl, rfl⟩ (by simp only [List.cons_append, List.nil_append]; rw [hr2]; exact (H.pk (by repeat (first | exact Pk.nil | exact Pk.all | refine Pk.cons (by repeat (first | exact Take.here | apply Take.there)) ?_ | apply Pk.skip))).sub (by repeat' (first | exact trivial | refine And.intro rfl ?_)))
      · clear H; intro h22 T H
        refine At.regionEnd ?_
        refine At.condF (H.r 22 rfl) ?_
        refine At.skip ?_
        refine At.seq ?_
        refine At.seq ?_
        refine At.region' (l := [0, 1]) rfl ?_
        refine At.v H rfl (wN rfl) rfl rfl rfl (x_move (H.r 10 rfl)) ?_; clear H; intro T H
        refine At.v (v := .bool false) H rfl (wN rfl) rfl rfl rfl (x_geq (H.r 40 rfl) evC) ?_; clear H; intro T H
        refine At.regionEnd ?_
        refine At.condF (H.r 41 rfl) ?_
        refine At.skip ?_
        refine At.seq ?_
        refine At.seq ?_
        refine At.region' (l := [0, 1]) rfl ?_
        refine At.v H rfl (wN rfl) rfl rfl rfl (x_move (H.r 10 rfl)) ?_; clear H; intro T H
        refine At.v (v := .bool false) H rfl (wN rfl) rfl rfl rfl (x_geq (H.r 61 rfl) evC) ?_; clear H; intro T H
        refine At.regionEnd ?_
        refine At.condF (H.r 62 rfl) ?_
        refine At.skip ?_
        refine At.region' (l := [0, 1, 2, 3, 4]) rfl ?_
        refine At.v H rfl (wN rfl) rfl rfl rfl (x_move (H.r 7 rfl)) ?_; clear H; intro T H
        refine At.v H rfl (wN rfl) rfl rfl rfl (x_move (H.r 10 rfl)) ?_; clear H; intro T H
        refine At.bs (n := 1) (L := ?l69_14) (e := ?e69_14) H rfl (wN rfl) rfl rfl rfl (x_bs1 (H.r 68 rfl) ?r69_14) ?_
        case r69_14 => (simp [go_sem] <;> rfl)
        clear H; intro b69 T w H
        refine At.append H rfl (wN rfl) rfl rfl rfl (etI w0) (H.r 67 rfl) (H.r 69 rfl) (by repeat (first | exact Take.here | apply Take.there)) (H.cellsAt (n := 1) (by repeat (first | exact List.mem_cons_self | apply List.mem_cons_of_mem)) rfl) rfl (by simp [Value.oneCell']) (by omega) ?_; clear H; intro A70 c70 T w hc70 hA70 H
        refine At.v H rfl (wN rfl) rfl rfl rfl (x_assign (H.r 70 rfl)) ?_; clear H; intro T H
        obtain ⟨g70, rfl⟩ := hA70 (by omega)
        obtain ⟨l2, hl2⟩ : ∃ l2, l2 = l ++ [none] := ⟨_, rfl⟩
        obtain ⟨seen2, hs2⟩ : ∃ s, s = seen := ⟨_, rfl⟩
        have hI2 : MadeI men list fair l2 seen2 := by rw [hl2, hs2]; exact hI.snocN
        have hr2 : l2.flatMap encO = l.flatMap encO ++ [.int .i64 (-1)] := by rw [hl2, List.flatMap_append]; rfl
        rw [← hs2] at H
        refine At.regionEnd ?_
        refine At.inBlock ?_
        refine At.region' (l := [0, 1]) rfl ?_
        refine At.v H rfl (wN rfl) rfl rfl rfl (x_add (H.r 17 rfl) evC (w64 (by omega) (by omega))) ?_; clear H; intro T H
        refine At.v H rfl (wN rfl) rfl rfl rfl (x_move (H.r 71 rfl)) ?_; clear H; intro T H
        refine At.regionEnd ?_
        exact hnext0 _ _ _ _ _ (by omega) ⟨k + 1, _, _, l2, seen2, rfl, ⟨by omega, by rw [hl2]; simp [hl], hI2⟩, rfl, rfl⟩ (by simp only [List.cons_append, List.nil_append]; rw [hr2]; exact (H.pk (by repeat (first | exact Pk.nil | exact Pk.all | refine Pk.cons (by repeat (first | exact Take.here | apply Take.there)) ?_ | apply Pk.skip))).sub (by repeat' (first | exact trivial | refine And.intro rfl ?_)))
    · clear H; intro h18 T H
      obtain rfl : list.length = k := by omega
      refine At.regionEnd ?_
      refine At.seq ?_
      refine At.condF (H.r 18 rfl) ?_
      refine At.exit rfl ?_
      refine At.seq ?_
      refine At.region' (l := [0, 1]) rfl ?_
      refine At.v H rfl (wN rfl) rfl rfl rfl (x_move (H.r 7 rfl)) ?_; clear H; intro T H
      refine At.v H rfl (wN rfl) rfl rfl rfl (x_assign (H.r 72 rfl)) ?_; clear H; intro T H
      refine At.regionEnd ?_
      refine At.ret rfl ?_
      exact lea Try.func12 (res1 Try.results12 (H.r 6 rfl)) (RetG.of (H.pk (G' := [.row (.slice (some ⟨g, 0, none⟩) list.length c) 3 1 list.length (l.flatMap encO)]) (by repeat (first | exact Pk.nil | exact Pk.all | refine Pk.cons (by repeat (first | exact Take.here | apply Take.there)) ?_ | apply Pk.skip))) [.row (.slice (some ⟨g, 0, none⟩) list.length c) 3 1 list.length (l.flatMap encO)] (List.Sublist.refl _) (by simp [Ent.w, Ent.keys]) (⟨g, c, l, seen, rfl, rfl, hl, hI⟩))
end Go.Proofs.Pz
end
section
set_option linter.unusedVariables false
namespace Go.Sx
open Go.ChangeShapes Go.WideShapes Go.ChangeAt Go.RowKit
section
variable {H : Type} {enc : TypeId × Value → H} {P : Program}

theorem trodAll_stays (hl : laidOutB P = true) {W W' : World} (hb : Below W.heap.size W W') (sp : Nat → Bool) : ∀ {ts : List TypeId} {vs : List Value} {ds : List (DataW H)} {ps : List MemPlace},
    (∀ t ∈ ts, P.readableRec t = true ∧ t < P.types.size) → DataW.TrodAll enc P W 0 (fun _ => true) true ts vs ds ps → (∀ x ∈ ps, x.block < W.heap.size) → (∀ x ∈ ps, sp x.block = true) → DataW.TrodAll enc P W' 0 sp true ts vs ds ps
  | [], [], [], _, _, h, _, _ => h
  | t :: ts, _ :: _, _ :: _, _, hr, ⟨a, b, h1, h2, e⟩, hlt, hs => by
    subst e
    refine ⟨a, b, ?_, ?_, rfl⟩
    · exact Go.WideElems.Trod_stays hl (hr t (by simp)).1 (hr t (by simp)).2 h1 (fun x hx => hb.same (hlt x (by simp [hx]))) (fun x hx => hs x (by simp [hx]))
    · exact trodAll_stays hl hb sp (fun t ht => hr t (by simp [ht])) h2 (fun x hx => hlt x (by simp [hx])) (fun x hx => hs x (by simp [hx]))

/-- what a law's row asks behind a call that returned true and turned no old memory -/
theorem law_post {f : Func} {s : ChangeSpec} {fresh handsOn again : Bool} {W W' : World} {args : Array Value} {ds gs : List (DataW H)} {before : List MemPlace} {tb : TypeId}
    (hl : laidOutB P = true) (hrow : f.params.toList.all (fun t => P.readableRec t && decide (t < P.types.size)) = true)
    (hW : DataW.Whole enc P f.params.toList s.vars false W args.toList ds gs before) (hv : s.vars = []) (hf : Fr [] W W')
    (hfn : (s.fn H ds).results = [.lit (.bool true)] ∧ (s.fn H ds).args = ds ∧ (s.fn H ds).vars = [])
    (hrt : f.resultTypes = #[tb]) (hB : P.underlying tb = some .bool) : s.post enc P f false fresh handsOn again W args (.bool true) W' := by
  have hlt := hW.lt
  have hb := hf.below
  obtain ⟨p, q, hA, hV, rfl, hz, hn⟩ := id hW
  rw [hv] at hV
  cases gs with
  | cons g gs => exact absurd hV (by simp [DataW.TrodVars])
  | nil =>
    obtain rfl : q = [] := hV
    simp only [List.append_nil] at *
    have hr : ∀ t ∈ f.params.toList, P.readableRec t = true ∧ t < P.types.size := fun t ht => by
      have := List.all_eq_true.1 hrow t ht
      simpa using this
    have hargs : ∀ sp : Nat → Bool, (∀ x ∈ p, sp x.block = true) → DataW.TrodAll enc P W' 0 sp true f.params.toList args.toList ds p := fun sp hs => trodAll_stays hl hb sp hr hA hlt hs
    have hres : ∀ (b : Nat) (sp : Nat → Bool) (hd : Bool), DataW.TrodAll enc P W' b sp hd f.resultTypes.toList ((Value.bool true).resultList f.resultTypes.size) [.lit (.bool true)] [] := fun b sp hd => by
      rw [hrt]
      exact trodAll_mk1 (shut_bool hB true)
    refine ⟨ds, [], p, [], p, [], by simpa using hW, ?_, ?_, ?_, ?_, fun _ => ⟨?_, ?_⟩⟩
    · rw [List.append_nil, hfn.1]; exact hres _ _ _
    · rw [List.append_nil, hfn.2.1]; exact hargs _ (fun x hx => by simpa using hlt x hx)
    · rw [hv, List.append_nil, hfn.2.2]; rfl
    · exact hb.frame _
    · exact ok_one hrt rfl (okWide_bool_mk hB true)
    · refine ⟨[.lit (.bool true)] ++ ds, [], p, ⟨p, [], ?_, by rw [hv]; rfl, by simp, ?_, fun h => by cases h⟩, fun x hx _ => hx⟩
      · exact trodAll_append (hargs (fun _ => true) (fun _ _ => rfl)) (hres _ _ _)
      · intro b off hm
        rw [hb.frozen (hlt _ hm)]
        exact hz b off hm

theorem trodAll_five {w : World} {base : Nat} {spare : Nat → Bool} {held : Bool} {t t' t'' t3 t4 : TypeId} {args : Array Value} {ds : List (DataW H)} {ps : List MemPlace} (h : DataW.TrodAll enc P w base spare held [t, t', t'', t3, t4] args.toList ds ps) :
    ∃ v v' v'' v3 v4 d d' d'' d3 d4 p p' p'' p3 p4, args = #[v, v', v'', v3, v4] ∧ ds = [d, d', d'', d3, d4] ∧ ps = p ++ p' ++ p'' ++ p3 ++ p4 ∧ DataW.Trod enc P w base spare held t v d p ∧ DataW.Trod enc P w base spare held t' v' d' p' ∧ DataW.Trod enc P w base spare held t'' v'' d'' p'' ∧ DataW.Trod enc P w base spare held t3 v3 d3 p3 ∧ DataW.Trod enc P w base spare held t4 v4 d4 p4 := by
  obtain ⟨v, vs, d, ds', p, q, hargs, rfl, rfl, hd, hrest⟩ := trodAll_cons h
  obtain ⟨v', vs', d', ds'', p', q', rfl, rfl, rfl, hd', hrest'⟩ := trodAll_cons hrest
  obtain ⟨v'', vs'', d'', ds''', p'', q'', rfl, rfl, rfl, hd'', hrest''⟩ := trodAll_cons hrest'
  obtain ⟨v3, vs3, d3, ds3, p3, q3, rfl, rfl, rfl, hd3, hrest3⟩ := trodAll_cons hrest''
  obtain ⟨v4, vs4, d4, ds4, p4, q4, rfl, rfl, rfl, hd4, hrest4⟩ := trodAll_cons hrest3
  obtain ⟨rfl, rfl, rfl⟩ := trodAll_nil hrest4
  exact ⟨v, v', v'', v3, v4, d, d', d'', d3, d4, p, p', p'', p3, p4, by cases args; simp_all, rfl, by simp, hd, hd', hd'', hd3, hd4⟩

theorem mapM_get {α β : Type} {g : α → Option β} : ∀ {xs : List α} {l : List β}, xs.mapM g = some l → ∀ (j : Nat) (x : α), xs[j]? = some x → g x = l[j]?
  | [], l, h, j, x, hx => by simp at hx
  | y :: r, l, h, j, x, hx => by
    simp only [List.mapM_cons, Option.bind_eq_bind, Option.bind_eq_some_iff, Option.pure_def, Option.some.injEq] at h
    obtain ⟨b, hb, l', hl', rfl⟩ := h
    cases j with
    | zero =>
      simp only [List.getElem?_cons_zero, Option.some.injEq] at hx
      subst hx
      simpa using hb
    | succ j => simpa using mapM_get hl' j x (by simpa using hx)

theorem cellsAt_of {w : World} {b off : Nat} {l : List Value} (h : w.cells? 0 ⟨b, off, none⟩ l.length = some l) : CellsAt w b off l := by
  intro j u hj
  simp only [World.cells?, Nat.zero_le, if_true] at h
  have := mapM_get h j j (by simp [(List.getElem?_eq_some_iff.1 hj).1])
  rw [add_plain'] at this
  rw [this, hj]

theorem pick_list {α : Type} {n : Nat} {p : Nat → α → Prop} (h : ∀ i, i < n → ∃ x, p i x) : ∃ xs : List α, xs.length = n ∧ ∀ i x, xs[i]? = some x → p i x := by
  induction n with
  | zero => exact ⟨[], rfl, by simp⟩
  | succ n ih =>
    obtain ⟨xs, hl, hx⟩ := ih (fun i hi => h i (by omega))
    obtain ⟨y, hy⟩ := h n (by omega)
    refine ⟨xs ++ [y], by simp [hl], fun i x hi => ?_⟩
    by_cases hin : i < n
    · rw [List.getElem?_append_left (by omega)] at hi
      exact hx i x hi
    · rw [List.getElem?_append_right (by omega)] at hi
      rcases hd : i - xs.length with _ | j
      · rw [hd] at hi
        obtain rfl : y = x := by simpa using hi
        rw [show i = n by omega]
        exact hy
      · rw [hd] at hi; simp at hi

/-- a slice that is read: its elements -/
theorem slice_open {α : Type} {enc' : α → List Value} {Q : α → Prop} {sz : Nat} {sp : Nat → Bool} {held : Bool} {t e : TypeId} {fuel : Nat} {c : Value} {w : World} {y : DataW H × List MemPlace} (ht : P.underlying t = some (.slice e)) (hsz : P.cellsOf e = sz) (h0 : 0 < sz) (hlen : ∀ x, (enc' x).length = sz)
    (helem : ∀ (n : Nat) (cs : List Value) (x : DataW H × List MemPlace), DataW.trod enc P w 0 sp held n e cs = some x → ∃ a, cs = enc' a ∧ Q a) (h : DataW.trod enc P w 0 sp held fuel t [c] = some y) :
    ∃ (A : Option Addr) (cap bk off : Nat) (xs : List α), c = .slice A xs.length cap ∧ SlP enc' sz w A cap bk off xs ∧ ∀ x ∈ xs, Q x := by
  rcases Go.Deep.open_slice ht h with ⟨hc, _⟩ | ⟨a, len, cap, m, n, D, Pl, hc, _, hle, _, hm, _, hel⟩
  · obtain rfl : c = .slice none 0 0 := by simpa using hc
    exact ⟨none, 0, 0, 0, [], rfl, ⟨Nat.le_refl _, by simp, by simp⟩, by simp⟩
  · obtain rfl : c = .slice (some a) len cap := by simpa using hc
    have hlm : len ≤ m := by rw [hm]; split <;> omega
    subst hsz
    obtain ⟨xs, hl, hx⟩ := pick_list (n := len) (p := fun i (x : α) => w.cells? 0 (a.add (i * P.cellsOf e)) (P.cellsOf e) = some (enc' x) ∧ Q x) (fun i hi => by
      obtain ⟨cs', h1, h2⟩ := hel i (by omega)
      obtain ⟨x, rfl, hq⟩ := helem _ _ _ h2
      exact ⟨x, h1, hq⟩)
    subst hl
    cases xs with
    | nil => exact ⟨some a, cap, 0, 0, [], rfl, ⟨Nat.zero_le _, by simp, by simp⟩, by simp⟩
    | cons x0 r =>
      have hspot : ∃ b off, a = ⟨b, off, none⟩ := by
        obtain ⟨b, off, spot⟩ := a
        have h1 := (hx 0 x0 rfl).1
        simp only [Nat.zero_mul, World.cells?, Nat.zero_le, if_true] at h1
        have h2 := mapM_get h1 0 0 (by simp [h0])
        have h3 : (enc' x0)[0]? ≠ none := by
          rw [List.getElem?_eq_getElem (by rw [hlen]; exact h0)]; simp
        cases hu : (enc' x0)[0]? with
        | none => exact absurd hu h3
        | some u =>
          rw [hu] at h2
          have := World.cell?_spot h2
          simp only [Addr.add, if_true] at this
          exact ⟨b, off, by rw [this]⟩
      obtain ⟨b, off, rfl⟩ := hspot
      refine ⟨_, cap, b, off, x0 :: r, rfl, ⟨hle, fun _ => rfl, fun i x hi => ?_⟩, fun x hx' => ?_⟩
      · have h1 := (hx i x hi).1
        rw [add_plain'] at h1
        exact cellsAt_of (by rw [hlen]; exact h1)
      · obtain ⟨i, hi⟩ := List.mem_iff_getElem?.1 hx'
        exact (hx i x hi).2
end
end Go.Sx
end
section
set_option linter.unusedVariables false
set_option maxRecDepth 100000
namespace Go.Proofs.Ytaogmipkcdhkjaa
open Go.ChangeShapes Go.WideShapes Go.ChangeAt Go.RowKit Go.Sx
open Go.Proofs.Pz (encW encZ encB Wi Zi)
theorem Try.own : ownKnob Try.prog.godebug = none := by kernel_rfl
theorem Try.laidOut : laidOutB Try.prog = true := by kernel_rfl
section
variable {H : Type} {enc : TypeId × Value → H} {w : World} {sp : Nat → Bool} {held : Bool}
theorem list4 {α : Type} {l : List α} (h : l.length = 4) : ∃ a b c d, l = [a, b, c, d] := by
  match l, h with
  | [a, b, c, d], _ => exact ⟨a, b, c, d, rfl⟩
theorem list2 {α : Type} {l : List α} (h : l.length = 2) : ∃ a b, l = [a, b] := by
  match l, h with
  | [a, b], _ => exact ⟨a, b, rfl⟩
theorem c3 : Try.prog.cellsOf 3 = 1 := by kernel_rfl
theorem c4 : Try.prog.cellsOf 4 = 1 := by kernel_rfl
theorem c5 : Try.prog.cellsOf 5 = 1 := by kernel_rfl
theorem c59 : Try.prog.cellsOf 59 = 4 := by kernel_rfl
theorem c42 : Try.prog.cellsOf 42 = 2 := by kernel_rfl
theorem c25 : Try.prog.cellsOf 25 = 2 := by kernel_rfl
theorem openW (n : Nat) (cs : List Value) (x : DataW H × List MemPlace) (h : DataW.trod enc Try.prog w 0 sp held n 59 cs = some x) : ∃ a, cs = encW a ∧ True := by
  obtain ⟨y0, y1, y2, y3, m, hx, hl, h0, h1, h2, h3⟩ := Go.Joins.trod_struct4 Try.underlying59 h
  rw [c59] at hl
  obtain ⟨a, b, c, d, rfl⟩ := list4 hl
  simp only [c3, c4, List.drop, List.take] at h0 h1 h2 h3
  obtain ⟨p, e0, _, _⟩ := DataW.trod_int Try.underlying3 h0
  obtain ⟨c', e1, _, _⟩ := DataW.trod_int Try.underlying3 h1
  obtain ⟨nv, e2, _⟩ := DataW.trod_bool Try.underlying4 h2
  obtain ⟨hs, e3, _⟩ := DataW.trod_bool Try.underlying4 h3
  simp only [List.cons.injEq, and_true] at e0 e1 e2 e3
  subst e0 e1 e2 e3
  exact ⟨⟨p, c', nv, hs⟩, rfl, trivial⟩
theorem openZ (n : Nat) (cs : List Value) (x : DataW H × List MemPlace) (h : DataW.trod enc Try.prog w 0 sp held n 42 cs = some x) : ∃ a, cs = encZ a ∧ True := by
  obtain ⟨y0, y1, m, hx, hl, h0, h1⟩ := trod_struct2 Try.underlying42 h
  rw [c42] at hl
  obtain ⟨a, b, rfl⟩ := list2 hl
  simp only [c3, List.drop, List.take] at h0 h1
  obtain ⟨p, e0, _, _⟩ := DataW.trod_int Try.underlying3 h0
  obtain ⟨c', e1, _, _⟩ := DataW.trod_int Try.underlying3 h1
  simp only [List.cons.injEq, and_true] at e0 e1
  subst e0 e1
  exact ⟨⟨p, c'⟩, rfl, trivial⟩
theorem openB (n : Nat) (cs : List Value) (x : DataW H × List MemPlace) (h : DataW.trod enc Try.prog w 0 sp held n 5 cs = some x) : ∃ a, cs = encB a ∧ a < 256 := by
  obtain ⟨p, rfl, _, hw⟩ := DataW.trod_int Try.underlying5 h
  have hb := bounds_u8 hw
  obtain ⟨m, rfl⟩ := Int.eq_ofNat_of_zero_le (show 0 ≤ p by omega)
  exact ⟨m, rfl, by omega⟩
/-- prizes, as they come in -/
theorem openP {r : Reach} {b0 : Nat} {v : Value} {d : DataW H} {p : List MemPlace} (hv : Value.okWide Try.prog w r b0 25 v) (h : DataW.Trod enc Try.prog w 0 sp held 25 v d p) :
    ∃ (AM AL : Option Addr) (cM bM oM cL bL oL : Nat) (men : List Wi) (list : List Zi), v = .agg #[.slice AM men.length cM, .slice AL list.length cL] ∧ SlP encW 4 w AM cM bM oM men ∧ SlP encZ 2 w AL cL bL oL list := by
  obtain ⟨c0, c1, y0, y1, m, rfl, _, _, h0, h1⟩ := Go.Joins.open_agg2 Try.underlying25 (by kernel_rfl) c25 hv h
  obtain ⟨AM, cM, bM, oM, men, rfl, hM, _⟩ := slice_open (enc' := encW) (Q := fun _ => True) Try.underlying22 c59 (by decide) (fun _ => rfl) openW h0
  obtain ⟨AL, cL, bL, oL, list, rfl, hL, _⟩ := slice_open (enc' := encZ) (Q := fun _ => True) Try.underlying23 c42 (by decide) (fun _ => rfl) openZ h1
  exact ⟨AM, AL, cM, bM, oM, cL, bL, oL, men, list, rfl, hM, hL⟩
theorem openBs {r : Reach} {b0 : Nat} {v : Value} {d : DataW H} {p : List MemPlace} (hv : Value.okWide Try.prog w r b0 26 v) (h : DataW.Trod enc Try.prog w 0 sp held 26 v d p) :
    ∃ (A : Option Addr) (c b o : Nat) (l : List Nat), v = .slice A l.length c ∧ SlP encB 1 w A c b o l ∧ ∀ x ∈ l, x < 256 := by
  obtain ⟨a0, len, cap, rfl⟩ := okWide_slice Try.underlying26 hv
  obtain ⟨fuel, hf⟩ := h
  obtain ⟨A, c, b, o, l, e, hP, hb⟩ := slice_open (enc' := encB) (Q := fun x => x < 256) Try.underlying26 c5 (by decide) (fun _ => rfl) openB (by simpa [Value.cells] using hf)
  exact ⟨A, c, b, o, l, e, hP, hb⟩
end
end Go.Proofs.Ytaogmipkcdhkjaa
end
section
set_option linter.unusedVariables false
namespace Go.Proofs.Pz
open Go.Sx
/-! ### the due giving, prizes from the front -/
theorem dueL_app (men : List Wi) (list : List Zi) (k j : Nat) : ∃ s, dueL men (list.take (k + j)) = dueL men (list.take k) ++ s := by
  induction j with
  | zero => exact ⟨[], by simp⟩
  | succ j ih =>
    obtain ⟨s, hs⟩ := ih
    by_cases h : k + j < list.length
    · rw [← Nat.add_assoc, dueL_succ (List.getElem?_eq_getElem h), hs, List.append_assoc]
      exact ⟨_, rfl⟩
    · rw [List.take_of_length_le (show list.length ≤ k + (j + 1) by omega)]
      rw [List.take_of_length_le (show list.length ≤ k + j by omega)] at hs
      exact ⟨s, hs⟩
theorem dueL_take (men : List Wi) (list : List Zi) (k : Nat) : (dueL men list).take k = dueL men (list.take k) := by
  obtain ⟨s, hs⟩ := dueL_app men list k list.length
  rw [List.take_of_length_le (show list.length ≤ k + list.length by omega)] at hs
  by_cases h : k ≤ list.length
  · rw [hs, List.take_append_of_le_length (by rw [dueL_len, List.length_take]; omega), List.take_of_length_le (by rw [dueL_len, List.length_take]; omega)]
  · rw [List.take_of_length_le (show list.length ≤ k by omega), List.take_of_length_le (by rw [dueL_len]; omega)]
theorem dueL_at {men : List Wi} {list : List Zi} {k : Nat} {z : Zi} (h : list[k]? = some z) : (dueL men list)[k]? = some (givesC men (bestP men) (fun m => !hasI ((dueL men list).take k) (m : Int)) z.for_) := by
  have hlt := (List.getElem?_eq_some_iff.1 h).1
  have h1 : (dueL men list)[k]? = ((dueL men list).take (k + 1))[k]? := by rw [List.getElem?_take, if_pos (by omega)]
  rw [h1, dueL_take, dueL_succ h, List.getElem?_append_right (by rw [dueL_len, List.length_take]; omega), dueL_len, List.length_take, show k - min k list.length = 0 by omega, dueL_take]
  rfl
theorem dueGiv {men : List Wi} {list : List Zi} (hv : Valid men list) : GivOK men list (dueL men list) := by
  refine ⟨dueL_len _ _, dueL_lt hv, fun k m h => ?_⟩
  have hlt := (List.getElem?_eq_some_iff.1 h).1
  rw [dueL_len] at hlt
  rw [dueL_at (List.getElem?_eq_getElem hlt)] at h
  have := (givesC_mem (Option.some.inj h)).2.1
  simpa using this
theorem dueFair (men : List Wi) (list : List Zi) : fairL men list (dueL men list) := by
  intro i m z h1 h2
  rw [dueL_at h2] at h1
  exact (givesC_mem (Option.some.inj h1)).2.2
/-! ### worths -/
def sumTo (list : List Zi) (gv : List (Option Nat)) (k : Nat) : Int := (List.range k).foldl (fun acc i => match gv[i]?, list[i]? with | some (some _), some z => acc + z.worth | _, _ => acc) 0
theorem sumTo_succ (list : List Zi) (gv : List (Option Nat)) (k : Nat) : sumTo list gv (k + 1) = match gv[k]?, list[k]? with | some (some _), some z => sumTo list gv k + z.worth | _, _ => sumTo list gv k := by
  simp [sumTo, List.range_succ, List.foldl_append]
theorem sum_set {l : List Int} {m : Nat} {a : Int} (h : l[m]? = some a) (x : Int) : (l.set m x).sum = l.sum - a + x := by
  induction l generalizing m with
  | nil => simp at h
  | cons y r ih =>
    cases m with
    | zero =>
      simp only [List.getElem?_cons_zero, Option.some.injEq] at h
      subst h
      simp only [List.set_cons_zero, List.sum_cons]; omega
    | succ m =>
      simp only [List.set_cons_succ, List.sum_cons, ih (m := m) (by simpa using h)]; omega
theorem worthsTo_not {n : Nat} {list : List Zi} {gv : List (Option Nat)} {m : Nat} (hm : m < n) (k : Nat) (h : hasI (gv.take k) (m : Int) = false) : (worthsTo n list gv k)[m]? = some 0 := by
  induction k with
  | zero => simp [worthsTo, hm]
  | succ k ih =>
    have hk : hasI (gv.take k) (m : Int) = false := by
      cases hh : hasI (gv.take k) (m : Int) with
      | false => rfl
      | true =>
        rw [List.take_add_one, hasI, List.any_append] at h
        rw [hasI] at hh
        rw [hh] at h
        simp at h
    rw [worthsTo_succ]
    split
    · rename_i m2 z hg hz
      rw [List.getElem?_set]
      have hne : m2 ≠ m := by
        rintro rfl
        rw [List.take_add_one, hg, hasI, List.any_append] at h
        simp at h
      rw [if_neg hne]
      exact ih hk
    · exact ih hk
theorem sumTo_eq {men : List Wi} {list : List Zi} {gv : List (Option Nat)} (hg : GivOK men list gv) (k : Nat) : sumTo list gv k = (worthsTo men.length list gv k).sum := by
  induction k with
  | zero => simp [sumTo, worthsTo]
  | succ k ih =>
    rw [sumTo_succ, worthsTo_succ]
    rcases h1 : gv[k]? with _ | _ | m
    · exact ih
    · exact ih
    · rcases h2 : list[k]? with _ | z
      · exact ih
      · have h0 := worthsTo_not (list := list) (hg.lt m (List.mem_of_getElem? h1)) k (hg.nd k m h1)
        show sumTo list gv k + z.worth = ((worthsTo men.length list gv k).set m z.worth).sum
        rw [sum_set h0, ih]; omega
theorem sumTo_b {men : List Wi} {list : List Zi} (hv : Valid men list) (gv : List (Option Nat)) (k : Nat) : 0 ≤ sumTo list gv k ∧ sumTo list gv k ≤ 1000 * k := by
  induction k with
  | zero => simp [sumTo]
  | succ k ih =>
    rw [sumTo_succ]
    rcases h1 : gv[k]? with _ | _ | m
    · show 0 ≤ sumTo list gv k ∧ sumTo list gv k ≤ _; omega
    · show 0 ≤ sumTo list gv k ∧ sumTo list gv k ≤ _; omega
    · rcases h2 : list[k]? with _ | z
      · show 0 ≤ sumTo list gv k ∧ sumTo list gv k ≤ _; omega
      · have := hv.prize z (List.mem_of_getElem? h2)
        show 0 ≤ sumTo list gv k + z.worth ∧ sumTo list gv k + z.worth ≤ _; omega
/-! ### the first that differ -/
def firstT (l due : List (Option Nat)) (k : Nat) : Int := match (List.range k).find? fun i => decide (l[i]? ≠ due[i]?) with | some i => (i : Int) | none => -1
theorem firstT_succ (l due : List (Option Nat)) (k : Nat) : firstT l due (k + 1) = if firstT l due k < 0 ∧ l[k]? ≠ due[k]? then (k : Int) else firstT l due k := by
  unfold firstT
  rw [List.range_succ, List.find?_append]
  cases h : (List.range k).find? fun i => decide (l[i]? ≠ due[i]?) with
  | some i => simp only [Option.some_or]; rw [if_neg (by omega)]
  | none =>
    simp only [Option.none_or, List.find?_cons, List.find?_nil]
    by_cases he : l[k]? = due[k]?
    · simp [he]
    · simp [he]
theorem firstT_end (l due : List (Option Nat)) (h : due.length = l.length) : firstT l due l.length = match firstD due l with | some i => (i : Int) | none => -1 := by
  unfold firstT firstD
  rw [h]
def wz : Option Nat → Int
  | some i => (i : Int)
  | none => 0
def wm (due : List (Option Nat)) : Option Nat → Int
  | some i => orNone (due[i]?.getD none)
  | none => 0
def wh : Option Nat → Int
  | some _ => 0
  | none => 4
theorem firstD_lt {due l : List (Option Nat)} {i : Nat} (h : firstD due l = some i) : i < due.length := List.mem_range.1 (List.mem_of_find?_eq_some h)
end Go.Proofs.Pz
end
section
namespace Go.Proofs.Pz
open Go.Sx Go.RowKit
set_option linter.unusedVariables false
theorem oneO (x : Option Nat) : ∀ u ∈ encO x, u.oneCell' = true := List.all_eq_true.1 rfl
theorem Worth2 {AM AL : Option Addr} {cM bM oM cL bL oL : Nat} {men : List Wi} {list : List Zi} {w0 : World} (hM : SlP encW 4 w0 AM cM bM oM men) (hL : SlP encZ 2 w0 AL cL bL oL list) (hv : Valid men list) {v : Value} {gv : List (Option Nat)} (hS : Sl encO 1 w0 v gv) (hg : GivOK men list gv) : Calls Try.prog 14 #[(.agg #[(.slice AM men.length cM), (.slice AL list.length cL)]), v] w0 (RetG w0 fun v E _ => ∃ A n c xs s e, v = .tuple #[.slice A n c, .int .i64 s, .int .i64 e] ∧ E = [.row (.slice A n c) 3 1 n (xs.flatMap encI)] ∧ n = xs.length ∧ ((fairL men list gv ∧ xs = worthsL men list gv ∧ s = (worthsL men list gv).sum ∧ e = 0) ∨ (¬ fairL men list gv ∧ xs = [] ∧ s = 0 ∧ e = 4))) := by
  refine (Worth hM hL hv hS hg).mono ?_
  rintro e w' ⟨v', E, rfl, hf, h1, h2, h3, hQ⟩
  rcases hQ with ⟨hfl, g, rfl, rfl⟩ | ⟨hfl, rfl, rfl⟩
  · exact ⟨_, _, rfl, hf, h1, h2, h3, _, _, _, _, _, _, rfl, rfl, by rw [worthsL, worthsTo_len], .inl ⟨hfl, rfl, rfl, rfl⟩⟩
  · exact ⟨_, [.row (.slice none 0 0) 3 1 0 (([] : List Int).flatMap encI)], rfl, hf, by simp [Ent.holds, World.ownsRow], by simp [Ent.keys, Value.ownBlock], by simp [Ent.keys, Value.ownBlock], none, 0, 0, [], 0, 4, rfl, rfl, rfl, .inr ⟨hfl, rfl, rfl, rfl⟩⟩
theorem Wrong2 {AM AL : Option Addr} {cM bM oM cL bL oL : Nat} {men : List Wi} {list : List Zi} {w0 : World} (hM : SlP encW 4 w0 AM cM bM oM men) (hL : SlP encZ 2 w0 AL cL bL oL list) (hv : Valid men list) {v : Value} {gv : List (Option Nat)} (hS : Sl encO 1 w0 v gv) (hg : GivOK men list gv) : Calls Try.prog 15 #[(.agg #[(.slice AM men.length cM), (.slice AL list.length cL)]), v] w0
    (Ret w0 fun v _ => v = .tuple #[.int .i64 (wz (firstD (dueL men list) gv)), .int .i64 (wm (dueL men list) (firstD (dueL men list) gv)), .int .i64 (wh (firstD (dueL men list) gv))]) := by
  refine (Wrong hM hL hv hS hg).mono ?_
  rintro e w' ⟨v', rfl, hf, hQ⟩
  refine ⟨v', rfl, hf, ?_⟩
  rw [hQ]
  cases firstD (dueL men list) gv <;> rfl
end Go.Proofs.Pz
end
section
set_option linter.unusedVariables false
namespace Go.Proofs.Pz
open Go.Sx
/-! ### who is at which place -/
theorem ord_iff {men : List Wi} {list : List Zi} (hv : Valid men list) {k m : Nat} : (ord men)[k]? = some m ↔ ∃ x, men[m]? = some x ∧ x.place = (k : Int) + 1 := by
  constructor
  · intro h
    have hk := (List.getElem?_eq_some_iff.1 h).1
    rw [ord_length] at hk
    obtain ⟨m', mi, h1, _, _, h4, h5⟩ := hv.ord_at hk
    rw [h] at h1
    obtain rfl : m = m' := by simpa using h1
    exact ⟨mi, h4, h5⟩
  · rintro ⟨x, hx, hp⟩
    have hpl := hv.place x (List.mem_of_getElem? hx)
    obtain ⟨m', mi, h1, _, h3, h4, h5⟩ := hv.ord_at (k := k) (by omega)
    have a := List.getElem?_map (f := (·.place)) (l := men) (i := m')
    have b := List.getElem?_map (f := (·.place)) (l := men) (i := m)
    rw [h4] at a
    rw [hx] at b
    simp only [Option.map_some] at a b
    rw [h5] at a
    rw [hp] at b
    have := (List.getElem?_inj (by rw [List.length_map]; exact h3) hv.nd).1 (a.trans b.symm)
    rw [h1, this]
theorem list_eq_of {α : Type} {l l' : List α} (hl : l.length = l'.length) (h : ∀ (k : Nat) (m : α), l[k]? = some m → l'[k]? = some m) : l = l' := by
  apply List.ext_getElem?
  intro k
  cases hk : l[k]? with
  | some m => exact (h k m hk).symm
  | none =>
    rw [List.getElem?_eq_none_iff] at hk
    exact (List.getElem?_eq_none_iff.2 (by omega)).symm
theorem ord_lt {men : List Wi} {list : List Zi} (hv : Valid men list) {m : Nat} (h : m ∈ ord men) : m < men.length := (hv.ord_mem h).choose_spec.1

/-! ### givings, told by an order and who may have what -/
theorem find_congr {α : Type} {p q : α → Bool} : ∀ {l : List α}, (∀ x ∈ l, p x = q x) → l.find? p = l.find? q
  | [], _ => rfl
  | x :: r, h => by
    rw [List.find?_cons, List.find?_cons, h x (by simp), find_congr (l := r) (fun y hy => h y (by simp [hy]))]
theorem find_filter {α : Type} (p q : α → Bool) : ∀ (l : List α), (l.filter p).find? q = l.find? fun x => p x && q x
  | [] => rfl
  | x :: r => by
    rw [List.filter_cons, List.find?_cons]
    cases hp : p x
    · simp only [Bool.false_and, Bool.false_eq_true, if_false]; exact find_filter p q r
    · simp only [Bool.true_and, if_true, List.find?_cons]; rw [find_filter p q r]
theorem find_map {α β : Type} (f : α → β) (q : β → Bool) : ∀ (l : List α), (l.map f).find? q = (l.find? fun x => q (f x)).map f
  | [] => rfl
  | x :: r => by
    rw [List.map_cons, List.find?_cons, List.find?_cons]
    cases q (f x)
    · exact find_map f q r
    · rfl
def elig (men : List Wi) (z : Zi) (m : Nat) : Bool := canAt men z.for_ m && (decide (z.for_ ≠ 4) || (decide (bestP men ≠ (0, 0)) && inClub men (bestP men).1 m))
theorem givesC_find (men : List Wi) (p : Nat → Bool) (z : Zi) : givesC men (bestP men) p z.for_ = (ord men).find? fun m => p m && elig men z m := by
  unfold givesC
  split
  · rename_i h
    rw [givesP, find_filter]
    exact find_congr fun m _ => by simp [elig, h]
  · rename_i h
    have h4 : z.for_ = 4 := Classical.not_not.1 h
    split
    · rename_i hb
      symm
      rw [List.find?_eq_none]
      intro m _
      simp [elig, h4, hb]
    · rename_i hb
      rw [givesP, find_filter]
      exact find_congr fun m _ => by
        simp only [elig, h4, hb, ne_eq, not_true_eq_false, decide_false, not_false_eq_true, decide_true, Bool.true_and, Bool.false_or]
        rw [Bool.and_assoc, Bool.and_comm (inClub men (bestP men).1 m)]
def stepE (L : List Nat) (E : Zi → Nat → Bool) (acc : List (Option Nat)) (z : Zi) : List (Option Nat) := acc ++ [L.find? fun (m : Nat) => !hasI acc (m : Int) && E z m]
def runE (L : List Nat) (E : Zi → Nat → Bool) (acc : List (Option Nat)) (zs : List Zi) : List (Option Nat) := zs.foldl (stepE L E) acc
theorem dueL_run (men : List Wi) (list : List Zi) : dueL men list = runE (ord men) (elig men) [] list := by
  unfold dueL runE
  congr 1
  funext acc z
  rw [stepE, givesC_find]
theorem mem_runE {L : List Nat} {E : Zi → Nat → Bool} : ∀ (zs : List Zi) {acc : List (Option Nat)} {o : Option Nat}, o ∈ acc → o ∈ runE L E acc zs
  | [], _, _, h => h
  | z :: r, acc, o, h => mem_runE r (acc := stepE L E acc z) (by simp [stepE, h])
theorem runE_congr {L : List Nat} {E E' : Zi → Nat → Bool} : ∀ (zs : List Zi) (acc : List (Option Nat)), (∀ z ∈ zs, ∀ m ∈ L, E z m = E' z m) → runE L E acc zs = runE L E' acc zs
  | [], _, _ => rfl
  | z :: r, acc, h => by
    have hs : stepE L E acc z = stepE L E' acc z := by
      unfold stepE
      rw [find_congr (q := fun (m : Nat) => !hasI acc (m : Int) && E' z m) (fun m hm => by rw [h z (by simp) m hm])]
    show runE L E (stepE L E acc z) r = runE L E' (stepE L E' acc z) r
    rw [hs]
    exact runE_congr r _ (fun z hz => h z (by simp [hz]))
theorem hasI_map {π : Nat → Nat} (hi : ∀ a b, π a = π b → a = b) (acc : List (Option Nat)) (m : Nat) : hasI (acc.map (Option.map π)) (π m : Int) = hasI acc (m : Int) := by
  unfold hasI
  rw [List.any_map]
  congr 1
  funext o
  cases o with
  | none => rfl
  | some x =>
    simp only [Function.comp, Option.map_some]
    by_cases h : x = m
    · subst h; simp
    · have h1 : ¬ (x : Int) = (m : Int) := by omega
      have h2 : ¬ (π x : Int) = (π m : Int) := fun e => h (hi _ _ (by omega))
      simp [h1, h2]
theorem runE_map {π : Nat → Nat} (hi : ∀ a b, π a = π b → a = b) {L : List Nat} {E E' : Zi → Nat → Bool} : ∀ (zs : List Zi) (acc : List (Option Nat)), (∀ z ∈ zs, ∀ m ∈ L, E' z (π m) = E z m) →
    runE (L.map π) E' (acc.map (Option.map π)) zs = (runE L E acc zs).map (Option.map π)
  | [], _, _ => rfl
  | z :: r, acc, h => by
    have hs : stepE (L.map π) E' (acc.map (Option.map π)) z = (stepE L E acc z).map (Option.map π) := by
      unfold stepE
      rw [List.map_append, find_map, find_congr (q := fun (m : Nat) => !hasI acc (m : Int) && E z m) (fun m hm => by rw [hasI_map hi, h z (by simp) m hm])]
      rfl
    show runE (L.map π) E' (stepE (L.map π) E' (acc.map (Option.map π)) z) r = (runE L E (stepE L E acc z) r).map (Option.map π)
    rw [hs]
    exact runE_map hi r _ (fun z hz => h z (by simp [hz]))
theorem find_rm {a b : List Nat} {i : Nat} {q : Nat → Bool} (h : (a ++ i :: b).find? q ≠ some i) : (a ++ b).find? q = (a ++ i :: b).find? q := by
  rw [List.find?_append] at h ⊢
  rw [List.find?_append, List.find?_cons]
  rw [List.find?_cons] at h
  cases ha : a.find? q with
  | some m => simp
  | none =>
    rw [ha] at h
    cases hq : q i
    · simp
    · rw [hq] at h; simp at h
theorem runE_rm {a b : List Nat} {i : Nat} {E : Zi → Nat → Bool} : ∀ (zs : List Zi) (acc : List (Option Nat)), some i ∉ runE (a ++ i :: b) E acc zs → runE (a ++ b) E acc zs = runE (a ++ i :: b) E acc zs
  | [], _, _ => rfl
  | z :: r, acc, h => by
    have h1 : (a ++ i :: b).find? (fun (m : Nat) => !hasI acc (m : Int) && E z m) ≠ some i := fun e => h (mem_runE r (acc := stepE (a ++ i :: b) E acc z) (by simp [stepE, e]))
    have hs : stepE (a ++ b) E acc z = stepE (a ++ i :: b) E acc z := by unfold stepE; rw [find_rm h1]
    show runE (a ++ b) E (stepE (a ++ b) E acc z) r = runE (a ++ i :: b) E (stepE (a ++ i :: b) E acc z) r
    rw [hs]
    exact runE_rm r _ h
theorem runE_mono {o1 o2 o3 : List Nat} {i : Nat} {E : Zi → Nat → Bool} : ∀ (zs : List Zi) (acc : List (Option Nat)), some i ∉ acc → some i ∈ runE (o1 ++ o2 ++ i :: o3) E acc zs → some i ∈ runE (o1 ++ i :: (o2 ++ o3)) E acc zs
  | [], _, h, h2 => absurd h2 h
  | z :: r, acc, h, h2 => by
    generalize hq : (fun (m : Nat) => !hasI acc (m : Int) && E z m) = q
    have s1 : stepE (o1 ++ o2 ++ i :: o3) E acc z = acc ++ [(o1 ++ o2 ++ i :: o3).find? q] := by rw [stepE, hq]
    have s2 : stepE (o1 ++ i :: (o2 ++ o3)) E acc z = acc ++ [(o1 ++ i :: (o2 ++ o3)).find? q] := by rw [stepE, hq]
    have h2' : some i ∈ runE (o1 ++ o2 ++ i :: o3) E (stepE (o1 ++ o2 ++ i :: o3) E acc z) r := h2
    show some i ∈ runE (o1 ++ i :: (o2 ++ o3)) E (stepE (o1 ++ i :: (o2 ++ o3)) E acc z) r
    rw [s1] at h2'
    rw [s2]
    by_cases hr : (o1 ++ i :: (o2 ++ o3)).find? q = some i
    · exact mem_runE r (by simp [hr])
    · have hr1 : (o1 ++ o2 ++ i :: o3).find? q ≠ some i := by
        intro e
        apply hr
        rw [List.find?_append, List.find?_append, List.find?_cons] at e
        rw [List.find?_append, List.find?_cons]
        cases h1 : o1.find? q with
        | some m => rw [h1] at e; simpa using e
        | none =>
          rw [h1] at e
          cases h2 : o2.find? q with
          | some m =>
            rw [h2] at e
            have hm : m = i := by simpa using e
            have := List.find?_some h2
            rw [hm] at this
            simp [this]
          | none =>
            rw [h2] at e
            cases hqi : q i
            · rw [hqi] at e
              simp only [Option.none_or] at e
              have := List.find?_some e
              rw [hqi] at this; cases this
            · simp
      have hR : (o1 ++ o2 ++ i :: o3).find? q = (o1 ++ i :: (o2 ++ o3)).find? q := (find_rm hr1).symm.trans ((congrArg (fun l => List.find? q l) (List.append_assoc o1 o2 o3)).trans (find_rm hr))
      rw [← hR]
      refine runE_mono r _ ?_ h2'
      intro hm
      rcases List.mem_append.1 hm with hm | hm
      · exact h hm
      · simp only [List.mem_singleton] at hm
        exact hr1 hm.symm
def noG (g : Nat) (o : Option Nat) : Option Nat := if o = some g then none else o
theorem runE_guest {L : List Nat} {g : Nat} {E E' : Zi → Nat → Bool} (hg : g ∉ L) : ∀ (zs : List Zi) (acc : List (Option Nat)), (∀ z ∈ zs, ∀ m ∈ L, E' z m = E z m) →
    runE L E (acc.map (noG g)) zs = (runE (L ++ [g]) E' acc zs).map (noG g)
  | [], _, _ => rfl
  | z :: r, acc, h => by
    have hh : ∀ m ∈ L, hasI (acc.map (noG g)) (m : Int) = hasI acc (m : Int) := by
      intro m hm
      have hmg : m ≠ g := fun e => hg (e ▸ hm)
      unfold hasI
      rw [List.any_map]
      congr 1
      funext o
      cases o with
      | none => rfl
      | some x =>
        simp only [Function.comp, noG]
        by_cases hx : x = g
        · subst hx
          have : ¬ (x : Int) = (m : Int) := by omega
          simp [this]
        · simp [hx]
    have hs : stepE L E (acc.map (noG g)) z = (stepE (L ++ [g]) E' acc z).map (noG g) := by
      unfold stepE
      rw [List.map_append, find_congr (q := fun (m : Nat) => !hasI acc (m : Int) && E' z m) (fun m hm => by rw [hh m hm, h z (by simp) m hm]), List.find?_append]
      cases hf : L.find? (fun (m : Nat) => !hasI acc (m : Int) && E' z m) with
      | some m =>
        have hmg : m ≠ g := fun e => hg (e ▸ List.mem_of_find?_eq_some hf)
        simp [noG, hmg]
      | none =>
        simp only [Option.none_or, List.find?_cons, List.find?_nil]
        cases (!hasI acc (g : Int) && E' z g) <;> simp [noG]
    show runE L E (stepE L E (acc.map (noG g)) z) r = (runE (L ++ [g]) E' (stepE (L ++ [g]) E' acc z) r).map (noG g)
    rw [hs]
    exact runE_guest hg r _ (fun z hz => h z (by simp [hz]))
end Go.Proofs.Pz
end
section
set_option linter.unusedVariables false
namespace Go.Proofs.Pz
open Go.Sx
theorem bit_iff (a m : Nat) : (a / 2 ^ m &&& 1 = 1) ↔ a.testBit m = true := by
  rw [Nat.and_one_is_mod, Nat.testBit_eq_decide_div_mod_eq]; simp
def noClub (list : List Zi) : Prop := ∀ z ∈ list, z.for_ ≠ 4
theorem elig_no {men : List Wi} {list : List Zi} (h : noClub list) {z : Zi} (hz : z ∈ list) (m : Nat) : elig men z m = canAt men z.for_ m := by simp [elig, h z hz]
theorem nd_split {l : List Nat} {i k : Nat} (hnd : l.Nodup) (h : l[k]? = some i) : ∃ a b, l = a ++ i :: b ∧ a.length = k ∧ i ∉ a ∧ i ∉ b := by
  have hlt := (List.getElem?_eq_some_iff.1 h).1
  have h2 := (List.getElem?_eq_some_iff.1 h).2
  have e : l = l.take k ++ i :: l.drop (k + 1) := by rw [← h2, List.getElem_cons_drop, List.take_append_drop]
  rw [e, List.nodup_append, List.nodup_cons] at hnd
  exact ⟨_, _, e, by rw [List.length_take]; omega, fun hm => hnd.2.2 i hm i (by simp) rfl, hnd.2.1.1⟩
theorem ord_split {men : List Wi} {list : List Zi} (hv : Valid men list) {i : Nat} {mi : Wi} (hmi : men[i]? = some mi) : ∃ a b, ord men = a ++ i :: b ∧ (a.length : Int) + 1 = mi.place ∧ othersL men i = a ++ b := by
  have hpl := hv.place mi (List.mem_of_getElem? hmi)
  have h1 : (ord men)[mi.place.toNat - 1]? = some i := (ord_iff hv).2 ⟨mi, hmi, by omega⟩
  obtain ⟨a, b, e, hl, ha, hb⟩ := nd_split (ord_nodup hv) h1
  refine ⟨a, b, e, by omega, ?_⟩
  have ff : ∀ l : List Nat, i ∉ l → l.filter (fun (m : Nat) => decide ((m : Int) ≠ (i : Int))) = l := fun l h => List.filter_eq_self.2 fun m hm => by
    have : m ≠ i := fun e => h (e ▸ hm)
    have : ¬ (m : Int) = (i : Int) := by omega
    simp [this]
  rw [othersL, e, List.filter_append, List.filter_cons, ff a ha, ff b hb]
  simp
theorem app_rm {a b : List Nat} {i : Nat} (k : Nat) : (a ++ b)[k]? = if k < a.length then (a ++ i :: b)[k]? else (a ++ i :: b)[k + 1]? := by
  split
  · rw [List.getElem?_append_left (by omega), List.getElem?_append_left (by omega)]
  · rw [List.getElem?_append_right (by omega), List.getElem?_append_right (by omega), show k + 1 - a.length = (k - a.length) + 1 by omega]
    rfl
/-! ### without somebody -/
theorem atOf_inj (i a b : Nat) (h : atOf i a = atOf i b) : a = b := by
  unfold atOf at h; split at h <;> split at h <;> omega
theorem less_at {men : List Wi} {i t : Nat} {x : Wi} (h : (lessMen men i)[t]? = some x) : ∃ y, men[atOf i t]? = some y ∧ x = decP (placeAt men i) y := by
  rw [lessMen, List.getElem?_map, Option.map_eq_some_iff] at h
  obtain ⟨y, h1, rfl⟩ := h
  rw [List.getElem?_eraseIdx] at h1
  refine ⟨y, ?_, rfl⟩
  unfold atOf
  split at h1
  · rw [if_neg (by omega)]; exact h1
  · rw [if_pos (by omega)]; exact h1
theorem ord_less {men : List Wi} {list : List Zi} (hv : Valid men list) {i : Nat} {mi : Wi} (hmi : men[i]? = some mi) (h2 : 2 ≤ men.length) : ∃ a b, ord men = a ++ i :: b ∧ (ord (lessMen men i)).map (atOf i) = a ++ b := by
  have hi := (List.getElem?_eq_some_iff.1 hmi).1
  have hv2 := hv.less hi h2
  obtain ⟨a, b, e, hl, _⟩ := ord_split hv hmi
  have hpa : placeAt men i = mi.place := by simp [placeAt, hmi]
  have hln : (a ++ b).length + 1 = men.length := by rw [← ord_length men, e]; simp; omega
  refine ⟨a, b, e, list_eq_of (by rw [List.length_map, ord_length, lessMen_len hi]; omega) ?_⟩
  intro k m hk
  rw [List.getElem?_map, Option.map_eq_some_iff] at hk
  obtain ⟨t, ht, rfl⟩ := hk
  obtain ⟨x, hx, hp⟩ := (ord_iff hv2).1 ht
  obtain ⟨y, hy, rfl⟩ := less_at hx
  have hne : y.place ≠ mi.place := by
    intro e2
    have a := List.getElem?_map (f := (·.place)) (l := men) (i := atOf i t)
    have b := List.getElem?_map (f := (·.place)) (l := men) (i := i)
    rw [hy] at a
    rw [hmi] at b
    simp only [Option.map_some] at a b
    rw [e2] at a
    have := (List.getElem?_inj (by rw [List.length_map]; exact (List.getElem?_eq_some_iff.1 hy).1) hv.nd).1 (a.trans b.symm)
    unfold atOf at this; split at this <;> omega
  rw [app_rm (i := i), ← e]
  rw [hpa, decP] at hp
  split at hp
  · simp only at hp
    rw [if_neg (by omega)]
    exact (ord_iff hv).2 ⟨y, hy, by push_cast; omega⟩
  · rw [if_pos (by omega)]
    exact (ord_iff hv).2 ⟨y, hy, by omega⟩
theorem canW_dec (p f : Int) (m : Wi) : canW f (decP p m) = canW f m := by
  unfold decP; split <;> rfl
theorem canAt_less {men : List Wi} {i t : Nat} (ht : t < (lessMen men i).length) (f : Int) : canAt men f (atOf i t) = canAt (lessMen men i) f t := by
  obtain ⟨x, hx⟩ := get_ex ht
  obtain ⟨y, hy, rfl⟩ := less_at hx
  rw [canAt_eq hx, canAt_eq hy, canW_dec]
theorem due_less {men : List Wi} {list : List Zi} (hv : Valid men list) {i : Nat} (hi : i < men.length) (h2 : 2 ≤ men.length) (hc : noClub list) (hno : some i ∉ dueL men list) :
    dueL men list = (dueL (lessMen men i) list).map (Option.map (atOf i)) := by
  obtain ⟨mi, hmi⟩ := get_ex hi
  have hv2 := hv.less hi h2
  obtain ⟨a, b, e, e2⟩ := ord_less hv hmi h2
  rw [dueL_run, e] at hno
  have h1 := runE_rm list [] hno
  rw [dueL_run, e, ← h1, ← e2, dueL_run]
  exact runE_map (atOf_inj i) list [] (fun z hz m hm => by
    rw [elig_no hc hz, elig_no hc hz]
    exact canAt_less (ord_lt hv2 hm) _)
theorem worthsTo_map {π : Nat → Nat} (hi : ∀ a b, π a = π b → a = b) {n n' : Nat} (hr : ∀ t, t < n' → π t < n) (list : List Zi) (gv : List (Option Nat)) (hg : ∀ m, some m ∈ gv → m < n') (k t : Nat) (ht : t < n') :
    (worthsTo n list (gv.map (Option.map π)) k)[π t]? = (worthsTo n' list gv k)[t]? := by
  induction k with
  | zero => simp [worthsTo, ht, hr t ht]
  | succ k ih =>
    rw [worthsTo_succ, worthsTo_succ, List.getElem?_map]
    rcases h1 : gv[k]? with _ | _ | m
    · exact ih
    · exact ih
    · rcases h2 : list[k]? with _ | z
      · exact ih
      · have hm := hg m (List.mem_of_getElem? h1)
        show ((worthsTo n list (gv.map (Option.map π)) k).set (π m) z.worth)[π t]? = ((worthsTo n' list gv k).set m z.worth)[t]?
        rw [List.getElem?_set, List.getElem?_set, worthsTo_len, worthsTo_len]
        by_cases hmt : m = t
        · subst hmt; simp [hm, hr m hm]
        · have : ¬ π m = π t := fun e => hmt (hi _ _ e)
          simp only [hmt, this, if_false]
          exact ih
theorem worths_less {men : List Wi} {list : List Zi} (hv : Valid men list) {i : Nat} (hi : i < men.length) (h2 : 2 ≤ men.length) (hc : noClub list) (hno : some i ∉ dueL men list) {t : Nat} (ht : t < men.length - 1) :
    (worthsL men list (dueL men list))[atOf i t]? = (worthsL (lessMen men i) list (dueL (lessMen men i) list))[t]? := by
  have hl := lessMen_len hi
  unfold worthsL
  rw [due_less hv hi h2 hc hno, List.length_map]
  exact worthsTo_map (atOf_inj i) (fun t ht => by unfold atOf; split <;> omega) list _ (dueL_lt (hv.less hi h2)) _ t (by omega)
/-! ### who gains -/
theorem stayTo_bit (now then_ : List Int) (i k j : Nat) : (stayTo now then_ i k).testBit j = true ↔ ∃ t, t < k ∧ atOf i t = j ∧ now[atOf i t]?.getD 0 < then_[t]?.getD 0 := by
  induction k with
  | zero => simp [stayTo]
  | succ k ih =>
    rw [stayTo_succ]
    split
    · rename_i h
      rw [Nat.testBit_or, Bool.or_eq_true, ih, Nat.testBit_two_pow]
      constructor
      · rintro (⟨t, h1, h2, h3⟩ | h1)
        · exact ⟨t, by omega, h2, h3⟩
        · exact ⟨k, by omega, by simpa using h1, h⟩
      · rintro ⟨t, h1, h2, h3⟩
        by_cases e : t = k
        · subst e; exact .inr (by simpa using h2)
        · exact .inl ⟨t, by omega, h2, h3⟩
    · rename_i h
      rw [ih]
      constructor
      · rintro ⟨t, h1, h2, h3⟩; exact ⟨t, by omega, h2, h3⟩
      · rintro ⟨t, h1, h2, h3⟩
        by_cases e : t = k
        · subst e; exact absurd h3 h
        · exact ⟨t, by omega, h2, h3⟩
theorem stayTo_lt2 (now then_ : List Int) (i k n : Nat) (h : k < n) : stayTo now then_ i k < 2 ^ n := by
  induction k with
  | zero => simp [stayTo, Nat.two_pow_pos]
  | succ k ih =>
    have ih := ih (by omega)
    rw [stayTo_succ]
    split
    · refine Nat.or_lt_two_pow ih ?_
      have : atOf i k < n := by unfold atOf; split <;> omega
      exact Nat.pow_lt_pow_right (by omega) this
    · exact ih
theorem stayL_lt {men : List Wi} {list : List Zi} {i : Nat} (hn : 1 ≤ men.length) : stayL men list i < 2 ^ men.length := by
  unfold stayL
  split
  · exact Nat.two_pow_pos _
  · exact stayTo_lt2 _ _ _ _ _ (by omega)
theorem stayL_self {men : List Wi} {list : List Zi} {i : Nat} : (stayL men list i).testBit i = false := by
  unfold stayL
  split
  · simp
  · cases h : (stayTo (worthsL men list (dueL men list)) (worthsL (lessMen men i) list (dueL (lessMen men i) list)) i (men.length - 1)).testBit i with
    | false => rfl
    | true =>
      obtain ⟨t, _, h2, _⟩ := (stayTo_bit _ _ _ _ _).1 h
      unfold atOf at h2; split at h2 <;> omega
theorem stayL_bit {men : List Wi} {list : List Zi} {i t : Nat} (h2 : 2 ≤ men.length) (ht : t < men.length - 1) {a b : Int} (ha : (worthsL men list (dueL men list))[atOf i t]? = some a) (hb : (worthsL (lessMen men i) list (dueL (lessMen men i) list))[t]? = some b) :
    (stayL men list i).testBit (atOf i t) = decide (a < b) := by
  rw [stayL, if_neg (by omega), Bool.eq_iff_iff, stayTo_bit, decide_eq_true_iff]
  constructor
  · rintro ⟨s, h1, e, h3⟩
    obtain rfl := atOf_inj _ _ _ e
    rw [ha, hb] at h3
    exact h3
  · intro h
    exact ⟨t, ht, rfl, by rw [ha, hb]; exact h⟩
theorem stayL_zero {men : List Wi} {list : List Zi} (hv : Valid men list) {i : Nat} (hi : i < men.length) (hc : noClub list) (hno : some i ∉ dueL men list) : stayL men list i = 0 := by
  unfold stayL
  split
  · rfl
  · rename_i h1
    have := hv.n1
    apply Nat.eq_of_testBit_eq
    intro j
    rw [Nat.zero_testBit]
    cases h : (stayTo (worthsL men list (dueL men list)) (worthsL (lessMen men i) list (dueL (lessMen men i) list)) i (men.length - 1)).testBit j with
    | false => rfl
    | true =>
      obtain ⟨t, ht, _, h3⟩ := (stayTo_bit _ _ _ _ _).1 h
      rw [worths_less hv hi (by omega) hc hno ht] at h3
      omega
end Go.Proofs.Pz
end
section
namespace Go.Proofs.Pz
open Go.Sx Go.RowKit
set_option linter.unusedVariables false
namespace AWS
theorem fa25_0 (a : Addr) (w : World) : (Instr.fieldAt 25 (.pointer (some a)) 0).run Try.prog w = .ok (.pointer (some (a.add 0))) w := by simp [go_sem]
theorem fa25_1 (a : Addr) (w : World) : (Instr.fieldAt 25 (.pointer (some a)) 1).run Try.prog w = .ok (.pointer (some (a.add 1))) w := by simp [go_sem]
theorem fa42_0 (a : Addr) (w : World) : (Instr.fieldAt 42 (.pointer (some a)) 0).run Try.prog w = .ok (.pointer (some (a.add 0))) w := by simp [go_sem]
end AWS
open AWS
theorem any_take {α : Type} {l : List α} {k : Nat} {x : α} (h : l[k]? = some x) (p : α → Bool) : (l.take (k + 1)).any p = ((l.take k).any p || p x) := by
  rw [List.take_add_one, h, List.any_append]; simp
theorem noClub_of {list : List Zi} (h : (list.any fun z => decide (z.for_ = 4)) = false) : noClub list := fun z hz e => by
  have := List.any_eq_false.1 h z hz
  simp [e] at this
theorem not_due {l : List (Option Nat)} {i : Nat} (h : (l.any fun o => decide (o = some i)) = false) : some i ∉ l := fun hm => by
  have := List.any_eq_false.1 h _ hm
  simp at this
theorem orNone_eq (o : Option Nat) (i : Nat) : (orNone o = (i : Int)) ↔ o = some i := by
  cases o <;> simp [orNone] <;> omega
theorem PrizeStay {AM AL : Option Addr} {cM bM oM cL bL oL : Nat} {men : List Wi} {list : List Zi} {w0 : World} (hM : SlP encW 4 w0 AM cM bM oM men) (hL : SlP encZ 2 w0 AL cL bL oL list) (who : Nat) (hw : who < 256) : Calls Try.prog 5 #[(.agg #[(.slice AM men.length cM), (.slice AL list.length cL)]), .int .u8 (who : Int)] w0 (Ret w0 fun v _ => v = .bool true) := by
  refine enter (args := [(.agg #[(.slice AM men.length cM), (.slice AL list.length cL)]), .int .u8 (who : Int)]) (S := []) Try.func5 rfl Try.ntmps5 rfl fun cs T H => ?_
  refine At.seq ?_
  refine At.region' (l := [0, 1]) rfl ?_
  refine At.new H rfl (wN rfl) rfl rfl rfl (x_box (H.r 0 rfl) rfl) ?_; clear H; intro b2 T w _ _ H
  refine At.v H rfl (wN rfl) rfl rfl rfl (x_assign evC) ?_; clear H; intro T H
  refine At.regionEnd ?_
  refine At.seq ?_
  refine At.seq ?_
  refine At.region' (l := [0, 1, 2, 3, 4, 5, 6]) rfl ?_
  refine At.v H rfl (wN rfl) rfl rfl rfl (x_loadA (H.r 2 rfl) Try.isAgg25 Try.sizeOf25 (H.cellsAt (n := 2) (by repeat (first | exact List.mem_cons_self | apply List.mem_cons_of_mem)) rfl) rfl) ?_; clear H; intro T H
  refine At.f0 H rfl (wN rfl) rfl rfl rfl (args2 (H.r 26 rfl) evC) Try.call9 (far) ?_; clear H; rintro v27 T w rfl _ H
  by_cases hfar : 40 < men.length ∨ 40 < list.length ∨ 40 < 0
  · first | rw [decide_eq_true hfar] at H | rw [decide_eq_false hfar] at H
    refine At.v H rfl (wN rfl) rfl rfl rfl (x_move (H.r 27 rfl)) ?_; clear H; intro T H
    refine At.u H rfl (wU H rfl rfl rfl rfl) rfl rfl ?_; clear H; intro T H
    refine At.u H rfl (wU H rfl rfl rfl rfl) rfl rfl ?_; clear H; intro T H
    refine At.u H rfl (wU H rfl rfl rfl rfl) rfl rfl ?_; clear H; intro T H
    refine At.v H rfl (wN rfl) rfl rfl rfl (x_pickT (H.r 28 rfl) evC) ?_; clear H; intro T H
    refine At.regionEnd ?_
    refine At.condT (H.r 32 rfl) ?_
    refine At.seq ?_
    refine At.region' (l := [0, 1]) rfl ?_
    refine At.f0 H rfl (wN rfl) rfl rfl rfl args0 Try.call11 (awake _) ?_; clear H; rintro v33 T w rfl _ H
    refine At.v H rfl (wN rfl) rfl rfl rfl (x_assign (H.r 33 rfl)) ?_; clear H; intro T H
    refine At.regionEnd ?_
    refine At.ret rfl ?_
    exact lea Try.func5 (res1 Try.results5 (H.r 4 rfl)) (Ret.mk H.fr (rfl))
  · first | rw [decide_eq_true hfar] at H | rw [decide_eq_false hfar] at H
    refine At.v H rfl (wN rfl) rfl rfl rfl (x_move (H.r 27 rfl)) ?_; clear H; intro T H
    refine At.v H rfl (wS H rfl rfl rfl) rfl rfl rfl (x_loadA (H.r 2 rfl) Try.isAgg25 Try.sizeOf25 (H.cellsAt (n := 2) (by repeat (first | exact List.mem_cons_self | apply List.mem_cons_of_mem)) rfl) rfl) ?_; clear H; intro T H
    refine At.f0 H rfl (wS H rfl rfl rfl) rfl rfl rfl (args1 (H.r 29 rfl)) Try.call10 (Prizes (hM.fr0 H.fr) (hL.fr0 H.fr) (by omega) (by omega)) ?_; clear H; rintro v30 T w hQ36 _ H
    rcases hQ36 with ⟨rfl, hv⟩ | ⟨rfl, hv⟩
    · skip
      have hl6 := hv.l6
      have hn8 := hv.n8
      have hn1 := hv.n1
      refine At.v H rfl (wS H rfl rfl rfl) rfl rfl rfl (x_notT (H.r 30 rfl)) ?_; clear H; intro T H
      refine At.v H rfl (wN rfl) rfl rfl rfl (x_pickF (H.r 28 rfl) (H.r 31 rfl)) ?_; clear H; intro T H
      refine At.regionEnd ?_
      refine At.condF (H.r 32 rfl) ?_
      refine At.skip ?_
      refine At.seq ?_
      refine At.region' (l := [0, 1, 2, 3, 4, 5, 6]) rfl ?_
      refine At.v H rfl (wN rfl) rfl rfl rfl (x_move (H.r 1 rfl)) ?_; clear H; intro T H
      refine At.v H rfl (wN rfl) rfl rfl rfl (x_conv (z := (who : Int)) (H.r 34 rfl) Try.runUnderlying5 Try.runUnderlying3 (wrapN (by omega))) ?_; clear H; intro T H
      refine At.v H rfl (wN rfl) rfl rfl rfl (x_fieldAddr (H.r 2 rfl) fa25_0) ?_; clear H; intro T H
      refine At.v H rfl (wN rfl) rfl rfl rfl (x_load (H.r 36 rfl) Try.isAgg22 (by first | exact H.cell (by repeat (first | exact List.mem_cons_self | apply List.mem_cons_of_mem)) _ rfl | exact H.cellR (by repeat (first | exact List.mem_cons_self | apply List.mem_cons_of_mem)) _ rfl)) ?_; clear H; intro T H
      refine At.v H rfl (wN rfl) rfl rfl rfl (x_len (H.r 37 rfl) Try.runUnderlying22) ?_; clear H; intro T H
      refine At.v H rfl (wN rfl) rfl rfl rfl (x_remN (a := who) (b := men.length) (H.r 35 rfl) (H.r 38 rfl) (by omega)) ?_; clear H; intro T H
      obtain ⟨i, hid⟩ : ∃ i, i = who % men.length := ⟨_, rfl⟩
      have hi : i < men.length := by rw [hid]; exact Nat.mod_lt _ (by omega)
      rw [← hid] at H
      refine At.v H rfl (wN rfl) rfl rfl rfl (x_assign (H.r 39 rfl)) ?_; clear H; intro T H
      refine At.regionEnd ?_
      refine At.seq ?_
      refine At.region' (l := [0, 1, 2, 3, 4, 5, 6, 7]) rfl ?_
      refine At.v H rfl (wN rfl) rfl rfl rfl (x_loadA (H.r 2 rfl) Try.isAgg25 Try.sizeOf25 (H.cellsAt (n := 2) (by repeat (first | exact List.mem_cons_self | apply List.mem_cons_of_mem)) rfl) rfl) ?_; clear H; intro T H
      refine At.v H rfl (wN rfl) rfl rfl rfl (x_move (H.r 5 rfl)) ?_; clear H; intro T H
      refine At.f0 H rfl (wN rfl) rfl rfl rfl (args2 (H.r 41 rfl) (H.r 42 rfl)) Try.call20 (Stay (hM.fr0 H.fr) (hL.fr0 H.fr) hv hi) ?_; clear H; rintro v43 T w rfl _ H
      have hSl := stayL_lt (men := men) (list := list) (i := i) hv.n1
      have hSs := stayL_self (men := men) (list := list) (i := i)
      have hS62 : stayL men list i < 2 ^ 62 := Nat.lt_of_lt_of_le hSl (Nat.pow_le_pow_right (by omega) (by omega))
      refine At.v H rfl (wN rfl) rfl rfl rfl (x_move (H.r 43 rfl)) ?_; clear H; intro T H
      refine At.v H rfl (wN rfl) rfl rfl rfl (x_extract (H.r 40 rfl) rfl) ?_; clear H; intro T H
      refine At.v H rfl (wN rfl) rfl rfl rfl (x_extract (H.r 40 rfl) rfl) ?_; clear H; intro T H
      refine At.v H rfl (wN rfl) rfl rfl rfl (x_assign (H.r 44 rfl)) ?_; clear H; intro T H
      refine At.v H rfl (wN rfl) rfl rfl rfl (x_assign (H.r 45 rfl)) ?_; clear H; intro T H
      refine At.regionEnd ?_
      refine At.seq ?_
      refine At.region' (l := [0, 1, 2, 3, 4, 5, 6]) rfl ?_
      refine At.v H rfl (wN rfl) rfl rfl rfl (x_loadA (H.r 2 rfl) Try.isAgg25 Try.sizeOf25 (H.cellsAt (n := 2) (by repeat (first | exact List.mem_cons_self | apply List.mem_cons_of_mem)) rfl) rfl) ?_; clear H; intro T H
      refine At.fG H rfl (wN rfl) rfl rfl rfl (args1 (H.r 47 rfl)) Try.call13 (Due (hM.fr0 H.fr) (hL.fr0 H.fr) hv) ?_; clear H; rintro v48 E48 T w ⟨A47, c47, rfl, rfl⟩ _ H
      refine At.v H rfl (wN rfl) rfl rfl rfl (x_move (H.r 48 rfl)) ?_; clear H; intro T H
      refine At.v H rfl (wN rfl) rfl rfl rfl (x_extract (H.r 46 rfl) rfl) ?_; clear H; intro T H
      refine At.v H rfl (wN rfl) rfl rfl rfl (x_extract (H.r 46 rfl) rfl) ?_; clear H; intro T H
      refine At.v H rfl (wN rfl) rfl rfl rfl (x_assign (H.r 49 rfl)) ?_; clear H; intro T H
      refine At.v H rfl (wN rfl) rfl rfl rfl (x_assign (H.r 50 rfl)) ?_; clear H; intro T H
      refine At.regionEnd ?_
      refine At.seq ?_
      refine At.region' (l := [0, 1, 2, 3, 4, 5, 6, 7, 8, 9]) rfl ?_
      refine At.v H rfl (wN rfl) rfl rfl rfl (x_loadA (H.r 2 rfl) Try.isAgg25 Try.sizeOf25 (H.cellsAt (n := 2) (by repeat (first | exact List.mem_cons_self | apply List.mem_cons_of_mem)) rfl) rfl) ?_; clear H; intro T H
      refine At.v H rfl (wN rfl) rfl rfl rfl (x_move (H.r 8 rfl)) ?_; clear H; intro T H
      refine At.fG H rfl (wN rfl) rfl rfl rfl (args2 (H.r 52 rfl) (H.r 53 rfl)) Try.call14 (Worth2 (hM.fr0 H.fr) (hL.fr0 H.fr) hv (H.rowSl (enc := encO) (by repeat (first | exact List.mem_cons_self | apply List.mem_cons_of_mem)) (fun _ => rfl) (dueL_len _ _).symm rfl) (dueGiv hv)) ?_; clear H; rintro v54 E54 T w ⟨A54, n54, c54, xs54, s54, e54, rfl, rfl, hn54, hw54⟩ _ H
      rcases hw54 with ⟨_, hx54, _, he54⟩ | ⟨hno, _⟩
      rotate_left
      · exact absurd (dueFair men list) hno
      subst he54
      have hl54 : n54 = men.length := by rw [hn54, hx54, worthsL, worthsTo_len]
      subst hx54
      refine At.v H rfl (wN rfl) rfl rfl rfl (x_move (H.r 54 rfl)) ?_; clear H; intro T H
      refine At.v H rfl (wN rfl) rfl rfl rfl (x_extract (H.r 51 rfl) rfl) ?_; clear H; intro T H
      refine At.v H rfl (wN rfl) rfl rfl rfl (x_extract (H.r 51 rfl) rfl) ?_; clear H; intro T H
      refine At.v H rfl (wN rfl) rfl rfl rfl (x_extract (H.r 51 rfl) rfl) ?_; clear H; intro T H
      refine At.v H rfl (wN rfl) rfl rfl rfl (x_assign (H.r 55 rfl)) ?_; clear H; intro T H
      refine At.v H rfl (wN rfl) rfl rfl rfl (x_assign (H.r 56 rfl)) ?_; clear H; intro T H
      refine At.v H rfl (wN rfl) rfl rfl rfl (x_assign (H.r 57 rfl)) ?_; clear H; intro T H
      refine At.regionEnd ?_
      refine At.seq ?_
      refine At.seq ?_
      refine At.region' (l := [0, 1, 2, 3, 4, 5, 6, 7, 8, 9, 10, 11, 12, 13, 14, 15, 16, 17, 18, 19, 20, 21, 22, 23, 24, 25, 26, 27, 28]) rfl ?_
      refine At.v H rfl (wN rfl) rfl rfl rfl (x_move (H.r 7 rfl)) ?_; clear H; intro T H
      refine At.v (v := .bool false) H rfl (wN rfl) rfl rfl rfl (x_neq (H.r 58 rfl) evC) ?_; clear H; intro T H
      refine At.v H rfl (wN rfl) rfl rfl rfl (x_move (H.r 59 rfl)) ?_; clear H; intro T H
      refine At.v H rfl (wS H rfl rfl rfl) rfl rfl rfl (x_move (H.r 9 rfl)) ?_; clear H; intro T H
      refine At.v (v := .bool false) H rfl (wS H rfl rfl rfl) rfl rfl rfl (x_neq (H.r 61 rfl) evC) ?_; clear H; intro T H
      refine At.v H rfl (wN rfl) rfl rfl rfl (x_pickF (H.r 60 rfl) (H.r 62 rfl)) ?_; clear H; intro T H
      refine At.v H rfl (wN rfl) rfl rfl rfl (x_move (H.r 63 rfl)) ?_; clear H; intro T H
      refine At.v H rfl (wS H rfl rfl rfl) rfl rfl rfl (x_move (H.r 12 rfl)) ?_; clear H; intro T H
      refine At.v (v := .bool false) H rfl (wS H rfl rfl rfl) rfl rfl rfl (x_neq (H.r 65 rfl) evC) ?_; clear H; intro T H
      refine At.v H rfl (wN rfl) rfl rfl rfl (x_pickF (H.r 64 rfl) (H.r 66 rfl)) ?_; clear H; intro T H
      refine At.v H rfl (wN rfl) rfl rfl rfl (x_move (H.r 67 rfl)) ?_; clear H; intro T H
      refine At.v H rfl (wS H rfl rfl rfl) rfl rfl rfl (x_move (H.r 6 rfl)) ?_; clear H; intro T H
      refine At.v (v := .bool false) H rfl (wS H rfl rfl rfl) rfl rfl rfl ((x_lss (H.r 69 rfl) evC).trans (by rw [decide_eq_false (show ¬ ((stayL men list i : Int) < 0) by omega)])) ?_; clear H; intro T H
      refine At.v H rfl (wN rfl) rfl rfl rfl (x_pickF (H.r 68 rfl) (H.r 70 rfl)) ?_; clear H; intro T H
      refine At.v H rfl (wN rfl) rfl rfl rfl (x_move (H.r 71 rfl)) ?_; clear H; intro T H
      refine At.v H rfl (wS H rfl rfl rfl) rfl rfl rfl (x_move (H.r 6 rfl)) ?_; clear H; intro T H
      refine At.v H rfl (wS H rfl rfl rfl) rfl rfl rfl (x_fieldAddr (H.r 2 rfl) fa25_0) ?_; clear H; intro T H
      refine At.v H rfl (wS H rfl rfl rfl) rfl rfl rfl (x_load (H.r 74 rfl) Try.isAgg22 (by first | exact H.cell (by repeat (first | exact List.mem_cons_self | apply List.mem_cons_of_mem)) _ rfl | exact H.cellR (by repeat (first | exact List.mem_cons_self | apply List.mem_cons_of_mem)) _ rfl)) ?_; clear H; intro T H
      refine At.v H rfl (wS H rfl rfl rfl) rfl rfl rfl (x_len (H.r 75 rfl) Try.runUnderlying22) ?_; clear H; intro T H
      refine At.v H rfl (wS H rfl rfl rfl) rfl rfl rfl (x_shrN (H.r 73 rfl) (H.r 76 rfl) (by omega)) ?_; clear H; intro T H
      refine At.v (v := .bool false) H rfl (wS H rfl rfl rfl) rfl rfl rfl ((x_neq (H.r 77 rfl) evC).trans (by rw [decide_eq_false (fun h => h (by rw [Nat.div_eq_of_lt hSl]; rfl))])) ?_; clear H; intro T H
      refine At.v H rfl (wN rfl) rfl rfl rfl (x_pickF (H.r 72 rfl) (H.r 78 rfl)) ?_; clear H; intro T H
      refine At.v H rfl (wN rfl) rfl rfl rfl (x_move (H.r 79 rfl)) ?_; clear H; intro T H
      refine At.v H rfl (wS H rfl rfl rfl) rfl rfl rfl (x_move (H.r 6 rfl)) ?_; clear H; intro T H
      refine At.v H rfl (wS H rfl rfl rfl) rfl rfl rfl (x_move (H.r 5 rfl)) ?_; clear H; intro T H
      refine At.v H rfl (wS H rfl rfl rfl) rfl rfl rfl (x_shrN (H.r 81 rfl) (H.r 82 rfl) (by omega)) ?_; clear H; intro T H
      refine At.v H rfl (wS H rfl rfl rfl) rfl rfl rfl (x_andN (a := stayL men list i / 2 ^ i) (b := 1) (H.r 83 rfl) evC (Nat.lt_of_le_of_lt (Nat.div_le_self _ _) hS62) (by omega)) ?_; clear H; intro T H
      refine At.v (v := .bool false) H rfl (wS H rfl rfl rfl) rfl rfl rfl ((x_eql (H.r 84 rfl) evC).trans (by rw [decide_eq_false (fun h => by have h2 := (bit_iff _ _).1 ((bit_eq _ _).1 h); rw [hSs] at h2; cases h2)])) ?_; clear H; intro T H
      refine At.v H rfl (wN rfl) rfl rfl rfl (x_pickF (H.r 80 rfl) (H.r 85 rfl)) ?_; clear H; intro T H
      refine At.regionEnd ?_
      refine At.condF (H.r 86 rfl) ?_
      refine At.skip ?_
      refine At.seq ?_
      refine At.seq ?_
      refine At.region' (l := [0, 1, 2, 3]) rfl ?_
      refine At.v H rfl (wN rfl) rfl rfl rfl (x_fieldAddr (H.r 2 rfl) fa25_0) ?_; clear H; intro T H
      refine At.v H rfl (wN rfl) rfl rfl rfl (x_load (H.r 87 rfl) Try.isAgg22 (by first | exact H.cell (by repeat (first | exact List.mem_cons_self | apply List.mem_cons_of_mem)) _ rfl | exact H.cellR (by repeat (first | exact List.mem_cons_self | apply List.mem_cons_of_mem)) _ rfl)) ?_; clear H; intro T H
      refine At.v H rfl (wN rfl) rfl rfl rfl (x_len (H.r 88 rfl) Try.runUnderlying22) ?_; clear H; intro T H
      refine At.c H rfl (wN rfl) rfl rfl rfl (x_eql (H.r 89 rfl) evC) ?_ ?_
      · clear H; intro h90 T H
        refine At.regionEnd ?_
        refine At.condT (H.r 90 rfl) ?_
        refine At.seq ?_
        refine At.region' (l := [0, 1, 2, 3, 4, 5]) rfl ?_
        refine At.v H rfl (wN rfl) rfl rfl rfl (x_move (H.r 6 rfl)) ?_; clear H; intro T H
        refine At.v (v := .bool true) H rfl (wN rfl) rfl rfl rfl ((x_eql (H.r 91 rfl) evC).trans (by rw [decide_eq_true (by rw [show stayL men list i = 0 from by rw [stayL, if_pos (by omega)]]; rfl)])) ?_; clear H; intro T H
        refine At.v H rfl (wN rfl) rfl rfl rfl (x_move (H.r 92 rfl)) ?_; clear H; intro T H
        refine At.f0 H rfl (wS H rfl rfl rfl) rfl rfl rfl args0 Try.call11 (awake _) ?_; clear H; rintro v94 T w rfl _ H
        refine At.v H rfl (wN rfl) rfl rfl rfl (x_pickT (H.r 93 rfl) (H.r 94 rfl)) ?_; clear H; intro T H
        refine At.v H rfl (wN rfl) rfl rfl rfl (x_assign (H.r 95 rfl)) ?_; clear H; intro T H
        refine At.regionEnd ?_
        refine At.ret rfl ?_
        exact lea Try.func5 (res1 Try.results5 (H.r 4 rfl)) (Ret.mk H.fr (rfl))
      · clear H; intro h90 T H
        have h2 : 2 ≤ men.length := by omega
        have hv2 := hv.less hi h2
        have hl2 := lessMen_len hi
        refine At.regionEnd ?_
        refine At.condF (H.r 90 rfl) ?_
        refine At.skip ?_
        refine At.seq ?_
        refine At.region' (l := [0, 1, 2, 3, 4]) rfl ?_
        refine At.v H rfl (wN rfl) rfl rfl rfl (x_loadA (H.r 2 rfl) Try.isAgg25 Try.sizeOf25 (H.cellsAt (n := 2) (by repeat (first | exact List.mem_cons_self | apply List.mem_cons_of_mem)) rfl) rfl) ?_; clear H; intro T H
        refine At.v H rfl (wN rfl) rfl rfl rfl (x_move (H.r 5 rfl)) ?_; clear H; intro T H
        refine At.fG H rfl (wN rfl) rfl rfl rfl (args2 (H.r 96 rfl) (H.r 97 rfl)) Try.call21 (Without (hM.fr0 H.fr) (hL.fr0 H.fr) hi (fun m hm => by have := hv.place m hm; omega) hn8) ?_; clear H; rintro v98 E98 T w ⟨A98, c98, rfl, rfl⟩ _ H
        obtain ⟨g98, rfl⟩ := H.rowAddr (A := A98) (by repeat (first | exact List.mem_cons_self | apply List.mem_cons_of_mem)) (by omega)
        refine At.new H rfl (wN rfl) rfl rfl rfl (x_alloc Try.zeroValue25 rfl) ?_; clear H; intro b13 T w _ _ H
        refine At.storeA H rfl (wN rfl) rfl rfl (H.r 13 rfl) (H.r 98 rfl) Try.sizeOf25 (List.all_eq_true.1 rfl) (by repeat (first | exact Upd.here | apply Upd.there)) (by rfl) ?_; clear H; intro T w _ H
        refine At.regionEnd ?_
        refine At.seq ?_
        refine At.region' (l := [0, 1, 2, 3, 4, 5, 6]) rfl ?_
        refine At.v H rfl (wN rfl) rfl rfl rfl (x_loadA (H.r 13 rfl) Try.isAgg25 Try.sizeOf25 (H.cellsAt (n := 2) (by repeat (first | exact List.mem_cons_self | apply List.mem_cons_of_mem)) rfl) rfl) ?_; clear H; intro T H
        refine At.fG H rfl (wN rfl) rfl rfl rfl (args1 (H.r 100 rfl)) Try.call13 (Due (H.rowP (enc := encW) (g := g98) (by repeat (first | exact List.mem_cons_self | apply List.mem_cons_of_mem)) (fun _ => rfl) rfl rfl) (hL.fr0 H.fr) hv2) ?_; clear H; rintro v101 E101 T w ⟨A101, c101, rfl, rfl⟩ _ H
        refine At.v H rfl (wN rfl) rfl rfl rfl (x_move (H.r 101 rfl)) ?_; clear H; intro T H
        refine At.v H rfl (wN rfl) rfl rfl rfl (x_extract (H.r 99 rfl) rfl) ?_; clear H; intro T H
        refine At.v H rfl (wN rfl) rfl rfl rfl (x_extract (H.r 99 rfl) rfl) ?_; clear H; intro T H
        refine At.v H rfl (wN rfl) rfl rfl rfl (x_assign (H.r 102 rfl)) ?_; clear H; intro T H
        refine At.v H rfl (wN rfl) rfl rfl rfl (x_assign (H.r 103 rfl)) ?_; clear H; intro T H
        refine At.regionEnd ?_
        refine At.seq ?_
        refine At.region' (l := [0, 1, 2, 3, 4, 5, 6, 7, 8, 9]) rfl ?_
        refine At.v H rfl (wN rfl) rfl rfl rfl (x_loadA (H.r 13 rfl) Try.isAgg25 Try.sizeOf25 (H.cellsAt (n := 2) (by repeat (first | exact List.mem_cons_self | apply List.mem_cons_of_mem)) rfl) rfl) ?_; clear H; intro T H
        refine At.v H rfl (wN rfl) rfl rfl rfl (x_move (H.r 14 rfl)) ?_; clear H; intro T H
        refine At.fG H rfl (wN rfl) rfl rfl rfl (args2 (H.r 105 rfl) (H.r 106 rfl)) Try.call14 (Worth2 (H.rowP (enc := encW) (g := g98) (by repeat (first | exact List.mem_cons_self | apply List.mem_cons_of_mem)) (fun _ => rfl) rfl rfl) (hL.fr0 H.fr) hv2 (H.rowSl (enc := encO) (by repeat (first | exact List.mem_cons_self | apply List.mem_cons_of_mem)) (fun _ => rfl) (dueL_len _ _).symm rfl) (dueGiv hv2)) ?_; clear H; rintro v107 E107 T w ⟨A107, n107, c107, xs107, s107, e107, rfl, rfl, hn107, hw107⟩ _ H
        rcases hw107 with ⟨_, hx107, _, he107⟩ | ⟨hno, _⟩
        rotate_left
        · exact absurd (dueFair _ list) hno
        subst he107
        have hl107 : n107 = men.length - 1 := by rw [hn107, hx107, worthsL, worthsTo_len, hl2]
        subst hx107
        refine At.v H rfl (wN rfl) rfl rfl rfl (x_move (H.r 107 rfl)) ?_; clear H; intro T H
        refine At.v H rfl (wN rfl) rfl rfl rfl (x_extract (H.r 104 rfl) rfl) ?_; clear H; intro T H
        refine At.v H rfl (wN rfl) rfl rfl rfl (x_extract (H.r 104 rfl) rfl) ?_; clear H; intro T H
        refine At.v H rfl (wN rfl) rfl rfl rfl (x_extract (H.r 104 rfl) rfl) ?_; clear H; intro T H
        refine At.v H rfl (wN rfl) rfl rfl rfl (x_assign (H.r 108 rfl)) ?_; clear H; intro T H
        refine At.v H rfl (wN rfl) rfl rfl rfl (x_assign (H.r 109 rfl)) ?_; clear H; intro T H
        refine At.v H rfl (wN rfl) rfl rfl rfl (x_assign (H.r 110 rfl)) ?_; clear H; intro T H
        refine At.regionEnd ?_
        refine At.seq ?_
        refine At.seq ?_
        refine At.region' (l := [0, 1, 2, 3, 4, 5, 6, 7, 8, 9, 10, 11, 12, 13, 14, 15, 16, 17, 18, 19, 20, 21, 22]) rfl ?_
        refine At.v H rfl (wN rfl) rfl rfl rfl (x_move (H.r 15 rfl)) ?_; clear H; intro T H
        refine At.v (v := .bool false) H rfl (wN rfl) rfl rfl rfl (x_neq (H.r 111 rfl) evC) ?_; clear H; intro T H
        refine At.v H rfl (wN rfl) rfl rfl rfl (x_move (H.r 112 rfl)) ?_; clear H; intro T H
        refine At.v H rfl (wS H rfl rfl rfl) rfl rfl rfl (x_move (H.r 18 rfl)) ?_; clear H; intro T H
        refine At.v (v := .bool false) H rfl (wS H rfl rfl rfl) rfl rfl rfl (x_neq (H.r 114 rfl) evC) ?_; clear H; intro T H
        refine At.v H rfl (wN rfl) rfl rfl rfl (x_pickF (H.r 113 rfl) (H.r 115 rfl)) ?_; clear H; intro T H
        refine At.v H rfl (wN rfl) rfl rfl rfl (x_move (H.r 116 rfl)) ?_; clear H; intro T H
        refine At.v H rfl (wS H rfl rfl rfl) rfl rfl rfl (x_move (H.r 16 rfl)) ?_; clear H; intro T H
        refine At.v H rfl (wS H rfl rfl rfl) rfl rfl rfl (x_len (H.r 118 rfl) Try.runUnderlying30) ?_; clear H; intro T H
        refine At.v H rfl (wS H rfl rfl rfl) rfl rfl rfl (x_fieldAddr (H.r 2 rfl) fa25_0) ?_; clear H; intro T H
        refine At.v H rfl (wS H rfl rfl rfl) rfl rfl rfl (x_load (H.r 120 rfl) Try.isAgg22 (by first | exact H.cell (by repeat (first | exact List.mem_cons_self | apply List.mem_cons_of_mem)) _ rfl | exact H.cellR (by repeat (first | exact List.mem_cons_self | apply List.mem_cons_of_mem)) _ rfl)) ?_; clear H; intro T H
        refine At.v H rfl (wS H rfl rfl rfl) rfl rfl rfl (x_len (H.r 121 rfl) Try.runUnderlying22) ?_; clear H; intro T H
        refine At.v H rfl (wS H rfl rfl rfl) rfl rfl rfl (x_sub (H.r 122 rfl) evC (w64 (by omega) (by omega))) ?_; clear H; intro T H
        refine At.v (v := .bool false) H rfl (wS H rfl rfl rfl) rfl rfl rfl ((x_neq (H.r 119 rfl) (H.r 123 rfl)).trans (by rw [decide_eq_false (show ¬ ((n107 : Int) ≠ (men.length : Int) - 1) by omega)])) ?_; clear H; intro T H
        refine At.v H rfl (wN rfl) rfl rfl rfl (x_pickF (H.r 117 rfl) (H.r 124 rfl)) ?_; clear H; intro T H
        refine At.v H rfl (wN rfl) rfl rfl rfl (x_move (H.r 125 rfl)) ?_; clear H; intro T H
        refine At.v H rfl (wS H rfl rfl rfl) rfl rfl rfl (x_move (H.r 10 rfl)) ?_; clear H; intro T H
        refine At.v H rfl (wS H rfl rfl rfl) rfl rfl rfl (x_len (H.r 127 rfl) Try.runUnderlying30) ?_; clear H; intro T H
        refine At.v H rfl (wS H rfl rfl rfl) rfl rfl rfl (x_fieldAddr (H.r 2 rfl) fa25_0) ?_; clear H; intro T H
        refine At.v H rfl (wS H rfl rfl rfl) rfl rfl rfl (x_load (H.r 129 rfl) Try.isAgg22 (by first | exact H.cell (by repeat (first | exact List.mem_cons_self | apply List.mem_cons_of_mem)) _ rfl | exact H.cellR (by repeat (first | exact List.mem_cons_self | apply List.mem_cons_of_mem)) _ rfl)) ?_; clear H; intro T H
        refine At.v H rfl (wS H rfl rfl rfl) rfl rfl rfl (x_len (H.r 130 rfl) Try.runUnderlying22) ?_; clear H; intro T H
        refine At.v (v := .bool false) H rfl (wS H rfl rfl rfl) rfl rfl rfl ((x_neq (H.r 128 rfl) (H.r 131 rfl)).trans (by rw [decide_eq_false (show ¬ ((n54 : Int) ≠ (men.length : Int)) by omega)])) ?_; clear H; intro T H
        refine At.v H rfl (wN rfl) rfl rfl rfl (x_pickF (H.r 126 rfl) (H.r 132 rfl)) ?_; clear H; intro T H
        refine At.regionEnd ?_
        refine At.condF (H.r 133 rfl) ?_
        refine At.skip ?_
        refine At.seq ?_
        refine At.seq ?_
        refine At.region' (l := [0, 1, 2, 3]) rfl ?_
        refine At.v H rfl (wN rfl) rfl rfl rfl (x_fieldAddr (H.r 2 rfl) fa25_0) ?_; clear H; intro T H
        refine At.v H rfl (wN rfl) rfl rfl rfl (x_load (H.r 134 rfl) Try.isAgg22 (by first | exact H.cell (by repeat (first | exact List.mem_cons_self | apply List.mem_cons_of_mem)) _ rfl | exact H.cellR (by repeat (first | exact List.mem_cons_self | apply List.mem_cons_of_mem)) _ rfl)) ?_; clear H; intro T H
        refine At.v H rfl (wN rfl) rfl rfl rfl (x_len (H.r 135 rfl) Try.runUnderlying22) ?_; clear H; intro T H
        refine At.v H rfl (wN rfl) rfl rfl rfl (x_move evC) ?_; clear H; intro T H
        refine At.regionEnd ?_
        refine At.block ?_
        replace H := ((H.fore PkS.nil).sub (R' := [(137, _)] ++ [(2, _), (5, _), (6, _), (8, _), (10, _), (16, _), (136, _)]) (by repeat' (first | exact trivial | refine And.intro rfl ?_)))
        refine At.loopF H (fun μ R1 G1 => ∃ k : Nat, μ = men.length - k ∧ (k ≤ men.length) ∧ R1 = [(137, .int .i64 (k : Int))] ∧ G1 = []) (men.length) ⟨0, by first | rfl | omega, by first | trivial | omega | exact ⟨by omega, by omega⟩, rfl, rfl⟩ ?_
        clear H; rintro _ _ _ T w ⟨k, rfl, hP0, rfl, rfl⟩ H hnext0
        simp only [List.cons_append, List.nil_append] at H
        refine At.seq ?_
        refine At.region' (l := [0]) rfl ?_
        refine At.c H rfl (wN rfl) rfl rfl rfl (x_lss (H.r 137 rfl) (H.r 136 rfl)) ?_ ?_
        · clear H; intro h138 T H
          have hk1 : k < men.length := by omega
          obtain ⟨g54, rfl⟩ := H.rowAddr (A := A54) (by repeat (first | exact List.mem_cons_self | apply List.mem_cons_of_mem)) (by omega)
          obtain ⟨g107, rfl⟩ := H.rowAddr (A := A107) (by repeat (first | exact List.mem_cons_self | apply List.mem_cons_of_mem)) (by omega)
          obtain ⟨a, ha⟩ := get_ex (l := worthsL men list (dueL men list)) (k := k) (by rw [worthsL, worthsTo_len]; omega)
          refine At.regionEnd ?_
          refine At.seq ?_
          refine At.condT (H.r 138 rfl) ?_
          refine At.skip ?_
          refine At.seq ?_
          refine At.block ?_
          refine At.seq ?_
          refine At.region' (l := [0, 1]) rfl ?_
          refine At.v H rfl (wN rfl) rfl rfl rfl (x_move (H.r 137 rfl)) ?_; clear H; intro T H
          refine At.v H rfl (wN rfl) rfl rfl rfl (x_assign (H.r 139 rfl)) ?_; clear H; intro T H
          refine At.regionEnd ?_
          refine At.seq ?_
          refine At.seq ?_
          refine At.region' (l := [0, 1, 2]) rfl ?_
          refine At.v H rfl (wN rfl) rfl rfl rfl (x_move (H.r 19 rfl)) ?_; clear H; intro T H
          refine At.v H rfl (wN rfl) rfl rfl rfl (x_move (H.r 5 rfl)) ?_; clear H; intro T H
          refine At.c H rfl (wN rfl) rfl rfl rfl (x_eql (H.r 140 rfl) (H.r 141 rfl)) ?_ ?_
          · clear H; intro h142 T H
            refine At.regionEnd ?_
            refine At.condT (H.r 142 rfl) ?_
            refine At.exit rfl ?_
            refine At.region' (l := [0, 1]) rfl ?_
            refine At.v H rfl (wN rfl) rfl rfl rfl (x_add (H.r 137 rfl) evC (w64 (by omega) (by omega))) ?_; clear H; intro T H
            refine At.v H rfl (wN rfl) rfl rfl rfl (x_move (H.r 164 rfl)) ?_; clear H; intro T H
            refine At.regionEnd ?_
            exact hnext0 _ _ _ _ _ (by omega) ⟨k + 1, rfl, by first | trivial | omega | exact ⟨by omega, by omega⟩, rfl, rfl⟩ (by simp only [List.cons_append, List.nil_append]; exact (H.pk (by repeat (first | exact Pk.nil | exact Pk.all | refine Pk.cons (by repeat (first | exact Take.here | apply Take.there)) ?_ | apply Pk.skip))).sub (by repeat' (first | exact trivial | refine And.intro rfl ?_)))
          · clear H; intro h142 T H
            refine At.regionEnd ?_
            refine At.condF (H.r 142 rfl) ?_
            refine At.skip ?_
            refine At.seq ?_
            refine At.region' (l := [0, 1]) rfl ?_
            refine At.v H rfl (wN rfl) rfl rfl rfl (x_move (H.r 19 rfl)) ?_; clear H; intro T H
            refine At.v H rfl (wN rfl) rfl rfl rfl (x_assign (H.r 143 rfl)) ?_; clear H; intro T H
            refine At.regionEnd ?_
            refine At.seq ?_
            refine At.seq ?_
            refine At.region' (l := [0, 1, 2]) rfl ?_
            refine At.v H rfl (wN rfl) rfl rfl rfl (x_move (H.r 19 rfl)) ?_; clear H; intro T H
            refine At.v H rfl (wN rfl) rfl rfl rfl (x_move (H.r 5 rfl)) ?_; clear H; intro T H
            refine At.c H rfl (wN rfl) rfl rfl rfl (x_gtr (H.r 144 rfl) (H.r 145 rfl)) ?_ ?_
            · clear H; intro h146 T H
              obtain ⟨t, htk⟩ : ∃ t, t = k - 1 := ⟨_, rfl⟩
              have hat : atOf i t = k := by unfold atOf; split <;> omega
              have htn : t < men.length - 1 := by omega
              obtain ⟨b, hb⟩ := get_ex (l := worthsL (lessMen men i) list (dueL (lessMen men i) list)) (k := t) (by rw [worthsL, worthsTo_len]; omega)
              have hbit := stayL_bit h2 htn (by rw [hat]; exact ha) hb
              rw [hat] at hbit
              refine At.regionEnd ?_
              refine At.condT (H.r 146 rfl) ?_
              refine At.region' (l := [0, 1, 2]) rfl ?_
              refine At.v H rfl (wN rfl) rfl rfl rfl (x_move (H.r 20 rfl)) ?_; clear H; intro T H
              refine At.v H rfl (wN rfl) rfl rfl rfl (x_subN (a := k) (b := 1) (H.r 147 rfl) evC (by omega) (by omega)) ?_; clear H; intro T H
              rw [← htk] at H
              refine At.v H rfl (wN rfl) rfl rfl rfl (x_assign (H.r 148 rfl)) ?_; clear H; intro T H
              refine At.regionEnd ?_
              refine At.seq ?_
              refine At.drawnC (m := 15) (L := #[false, false, false, false, false, false, false, false, false, false, false, false, false, false, false]) H mixed rfl rfl ?_; clear H; intro w H
              refine GA.v (i := 0) (L' := #[true, false, false, false, false, false, false, false, false, false, false, false, false, false, false]) H rfl (wN rfl) rfl rfl rfl (by kernel_rfl) rfl (fun w H => x_move (H.r 6 rfl)) ?_; clear H; intro T H
              refine GA.v (i := 1) (L' := #[true, true, false, false, false, false, false, false, false, false, false, false, false, false, false]) H rfl (wN rfl) rfl rfl rfl (by kernel_rfl) rfl (fun w H => x_move (H.r 19 rfl)) ?_; clear H; intro T H
              refine GA.v (i := 2) (L' := #[true, true, true, false, false, false, false, false, false, false, false, false, false, false, false]) H rfl (wN rfl) rfl rfl rfl (by kernel_rfl) rfl (fun w H => x_shrN (a := stayL men list i) (n := k) (H.r 149 rfl) (H.r 150 rfl) (by omega)) ?_; clear H; intro T H
              refine GA.v (i := 3) (L' := #[true, true, true, true, false, false, false, false, false, false, false, false, false, false, false]) H rfl (wN rfl) rfl rfl rfl (by kernel_rfl) rfl (fun w H => x_andN (a := stayL men list i / 2 ^ k) (b := 1) (H.r 151 rfl) evC (Nat.lt_of_le_of_lt (Nat.div_le_self _ _) hS62) (by omega)) ?_; clear H; intro T H
              refine GA.v (i := 4) (L' := #[true, true, true, true, true, false, false, false, false, false, false, false, false, false, false]) H rfl (wN rfl) rfl rfl rfl (by kernel_rfl) rfl (fun w H => x_eql (H.r 152 rfl) evC) ?_; clear H; intro T H
              refine GA.v (i := 5) (L' := #[true, true, true, true, true, true, false, false, false, false, false, false, false, false, false]) H rfl (wN rfl) rfl rfl rfl (by kernel_rfl) rfl (fun w H => x_move (H.r 16 rfl)) ?_; clear H; intro T H
              refine GA.v (i := 6) (L' := #[true, true, true, true, true, true, true, false, false, false, false, false, false, false, false]) H rfl (wN rfl) rfl rfl rfl (by kernel_rfl) rfl (fun w H => x_move (H.r 20 rfl)) ?_; clear H; intro T H
              refine GA.v (i := 7) (L' := #[true, true, true, true, true, true, true, true, false, false, false, false, false, false, false]) H rfl (wN rfl) rfl rfl rfl (by kernel_rfl) rfl (fun w H => x_ixSN (n := t) (H.r 154 rfl) (H.r 155 rfl) Try.runUnderlying30 Try.sizeOf3 (by omega)) ?_; clear H; intro T H
              refine GA.v (i := 8) (L' := #[true, true, true, true, true, true, true, true, true, false, false, false, false, false, false]) H rfl (wN rfl) rfl rfl rfl (by kernel_rfl) rfl (fun w H => x_load (H.r 156 rfl) Try.isAgg3 (by rw [show 0 + t * 1 = t by omega]; exact H.rowCell (g := g107) (by repeat (first | exact List.mem_cons_self | apply List.mem_cons_of_mem)) t (flatI_at hb))) ?_; clear H; intro T H
              refine GA.v (i := 9) (L' := #[true, true, true, true, true, true, true, true, true, true, false, false, false, false, false]) H rfl (wN rfl) rfl rfl rfl (by kernel_rfl) rfl (fun w H => x_move (H.r 10 rfl)) ?_; clear H; intro T H
              refine GA.v (i := 10) (L' := #[true, true, true, true, true, true, true, true, true, true, true, false, false, false, false]) H rfl (wN rfl) rfl rfl rfl (by kernel_rfl) rfl (fun w H => x_move (H.r 19 rfl)) ?_; clear H; intro T H
              refine GA.v (i := 11) (L' := #[true, true, true, true, true, true, true, true, true, true, true, true, false, false, false]) H rfl (wN rfl) rfl rfl rfl (by kernel_rfl) rfl (fun w H => x_ixSN (H.r 158 rfl) (H.r 159 rfl) Try.runUnderlying30 Try.sizeOf3 (by omega)) ?_; clear H; intro T H
              refine GA.v (i := 12) (L' := #[true, true, true, true, true, true, true, true, true, true, true, true, true, false, false]) H rfl (wN rfl) rfl rfl rfl (by kernel_rfl) rfl (fun w H => x_load (H.r 160 rfl) Try.isAgg3 (by rw [show 0 + k * 1 = k by omega]; exact H.rowCell (g := g54) (by repeat (first | exact List.mem_cons_self | apply List.mem_cons_of_mem)) k (flatI_at ha))) ?_; clear H; intro T H
              refine GA.v (i := 13) (L' := #[true, true, true, true, true, true, true, true, true, true, true, true, true, true, false]) H rfl (wN rfl) rfl rfl rfl (by kernel_rfl) rfl (fun w H => x_gtr (H.r 157 rfl) (H.r 161 rfl)) ?_; clear H; intro T H
              refine GA.v (v := .bool false) (i := 14) (L' := #[true, true, true, true, true, true, true, true, true, true, true, true, true, true, true]) H rfl (wN rfl) rfl rfl rfl (by kernel_rfl) rfl (fun w H => (x_neqB (H.r 153 rfl) (H.r 162 rfl) Try.runUnderlying4).trans (by rw [decide_eq_false (fun h => h (by rw [← hbit, Bool.eq_iff_iff, decide_eq_true_iff, bit_eq, bit_iff]))])) ?_; clear H; intro T H
              refine GA.done (by kernel_rfl) ?_
              refine At.condF (H.r 163 rfl) ?_
              refine At.skip ?_
              refine At.inBlock ?_
              refine At.region' (l := [0, 1]) rfl ?_
              refine At.v H rfl (wN rfl) rfl rfl rfl (x_add (H.r 137 rfl) evC (w64 (by omega) (by omega))) ?_; clear H; intro T H
              refine At.v H rfl (wN rfl) rfl rfl rfl (x_move (H.r 164 rfl)) ?_; clear H; intro T H
              refine At.regionEnd ?_
              exact hnext0 _ _ _ _ _ (by omega) ⟨k + 1, rfl, by first | trivial | omega | exact ⟨by omega, by omega⟩, rfl, rfl⟩ (by simp only [List.cons_append, List.nil_append]; exact (H.pk (by repeat (first | exact Pk.nil | exact Pk.all | refine Pk.cons (by repeat (first | exact Take.here | apply Take.there)) ?_ | apply Pk.skip))).sub (by repeat' (first | exact trivial | refine And.intro rfl ?_)))
            · clear H; intro h146 T H
              have hat : atOf i k = k := by unfold atOf; split <;> omega
              have htn : k < men.length - 1 := by omega
              obtain ⟨b, hb⟩ := get_ex (l := worthsL (lessMen men i) list (dueL (lessMen men i) list)) (k := k) (by rw [worthsL, worthsTo_len]; omega)
              have hbit := stayL_bit h2 htn (by rw [hat]; exact ha) hb
              rw [hat] at hbit
              refine At.regionEnd ?_
              refine At.condF (H.r 146 rfl) ?_
              refine At.skip ?_
              refine At.seq ?_
              refine At.drawnC (m := 15) (L := #[false, false, false, false, false, false, false, false, false, false, false, false, false, false, false]) H mixed rfl rfl ?_; clear H; intro w H
              refine GA.v (i := 0) (L' := #[true, false, false, false, false, false, false, false, false, false, false, false, false, false, false]) H rfl (wN rfl) rfl rfl rfl (by kernel_rfl) rfl (fun w H => x_move (H.r 6 rfl)) ?_; clear H; intro T H
              refine GA.v (i := 1) (L' := #[true, true, false, false, false, false, false, false, false, false, false, false, false, false, false]) H rfl (wN rfl) rfl rfl rfl (by kernel_rfl) rfl (fun w H => x_move (H.r 19 rfl)) ?_; clear H; intro T H
              refine GA.v (i := 2) (L' := #[true, true, true, false, false, false, false, false, false, false, false, false, false, false, false]) H rfl (wN rfl) rfl rfl rfl (by kernel_rfl) rfl (fun w H => x_shrN (a := stayL men list i) (n := k) (H.r 149 rfl) (H.r 150 rfl) (by omega)) ?_; clear H; intro T H
              refine GA.v (i := 3) (L' := #[true, true, true, true, false, false, false, false, false, false, false, false, false, false, false]) H rfl (wN rfl) rfl rfl rfl (by kernel_rfl) rfl (fun w H => x_andN (a := stayL men list i / 2 ^ k) (b := 1) (H.r 151 rfl) evC (Nat.lt_of_le_of_lt (Nat.div_le_self _ _) hS62) (by omega)) ?_; clear H; intro T H
              refine GA.v (i := 4) (L' := #[true, true, true, true, true, false, false, false, false, false, false, false, false, false, false]) H rfl (wN rfl) rfl rfl rfl (by kernel_rfl) rfl (fun w H => x_eql (H.r 152 rfl) evC) ?_; clear H; intro T H
              refine GA.v (i := 5) (L' := #[true, true, true, true, true, true, false, false, false, false, false, false, false, false, false]) H rfl (wN rfl) rfl rfl rfl (by kernel_rfl) rfl (fun w H => x_move (H.r 16 rfl)) ?_; clear H; intro T H
              refine GA.v (i := 6) (L' := #[true, true, true, true, true, true, true, false, false, false, false, false, false, false, false]) H rfl (wN rfl) rfl rfl rfl (by kernel_rfl) rfl (fun w H => x_move (H.r 20 rfl)) ?_; clear H; intro T H
              refine GA.v (i := 7) (L' := #[true, true, true, true, true, true, true, true, false, false, false, false, false, false, false]) H rfl (wN rfl) rfl rfl rfl (by kernel_rfl) rfl (fun w H => x_ixSN (n := k) (H.r 154 rfl) (H.r 155 rfl) Try.runUnderlying30 Try.sizeOf3 (by omega)) ?_; clear H; intro T H
              refine GA.v (i := 8) (L' := #[true, true, true, true, true, true, true, true, true, false, false, false, false, false, false]) H rfl (wN rfl) rfl rfl rfl (by kernel_rfl) rfl (fun w H => x_load (H.r 156 rfl) Try.isAgg3 (by rw [show 0 + k * 1 = k by omega]; exact H.rowCell (g := g107) (by repeat (first | exact List.mem_cons_self | apply List.mem_cons_of_mem)) k (flatI_at hb))) ?_; clear H; intro T H
              refine GA.v (i := 9) (L' := #[true, true, true, true, true, true, true, true, true, true, false, false, false, false, false]) H rfl (wN rfl) rfl rfl rfl (by kernel_rfl) rfl (fun w H => x_move (H.r 10 rfl)) ?_; clear H; intro T H
              refine GA.v (i := 10) (L' := #[true, true, true, true, true, true, true, true, true, true, true, false, false, false, false]) H rfl (wN rfl) rfl rfl rfl (by kernel_rfl) rfl (fun w H => x_move (H.r 19 rfl)) ?_; clear H; intro T H
              refine GA.v (i := 11) (L' := #[true, true, true, true, true, true, true, true, true, true, true, true, false, false, false]) H rfl (wN rfl) rfl rfl rfl (by kernel_rfl) rfl (fun w H => x_ixSN (H.r 158 rfl) (H.r 159 rfl) Try.runUnderlying30 Try.sizeOf3 (by omega)) ?_; clear H; intro T H
              refine GA.v (i := 12) (L' := #[true, true, true, true, true, true, true, true, true, true, true, true, true, false, false]) H rfl (wN rfl) rfl rfl rfl (by kernel_rfl) rfl (fun w H => x_load (H.r 160 rfl) Try.isAgg3 (by rw [show 0 + k * 1 = k by omega]; exact H.rowCell (g := g54) (by repeat (first | exact List.mem_cons_self | apply List.mem_cons_of_mem)) k (flatI_at ha))) ?_; clear H; intro T H
              refine GA.v (i := 13) (L' := #[true, true, true, true, true, true, true, true, true, true, true, true, true, true, false]) H rfl (wN rfl) rfl rfl rfl (by kernel_rfl) rfl (fun w H => x_gtr (H.r 157 rfl) (H.r 161 rfl)) ?_; clear H; intro T H
              refine GA.v (v := .bool false) (i := 14) (L' := #[true, true, true, true, true, true, true, true, true, true, true, true, true, true, true]) H rfl (wN rfl) rfl rfl rfl (by kernel_rfl) rfl (fun w H => (x_neqB (H.r 153 rfl) (H.r 162 rfl) Try.runUnderlying4).trans (by rw [decide_eq_false (fun h => h (by rw [← hbit, Bool.eq_iff_iff, decide_eq_true_iff, bit_eq, bit_iff]))])) ?_; clear H; intro T H
              refine GA.done (by kernel_rfl) ?_
              refine At.condF (H.r 163 rfl) ?_
              refine At.skip ?_
              refine At.inBlock ?_
              refine At.region' (l := [0, 1]) rfl ?_
              refine At.v H rfl (wN rfl) rfl rfl rfl (x_add (H.r 137 rfl) evC (w64 (by omega) (by omega))) ?_; clear H; intro T H
              refine At.v H rfl (wN rfl) rfl rfl rfl (x_move (H.r 164 rfl)) ?_; clear H; intro T H
              refine At.regionEnd ?_
              exact hnext0 _ _ _ _ _ (by omega) ⟨k + 1, rfl, by first | trivial | omega | exact ⟨by omega, by omega⟩, rfl, rfl⟩ (by simp only [List.cons_append, List.nil_append]; exact (H.pk (by repeat (first | exact Pk.nil | exact Pk.all | refine Pk.cons (by repeat (first | exact Take.here | apply Take.there)) ?_ | apply Pk.skip))).sub (by repeat' (first | exact trivial | refine And.intro rfl ?_)))
        · clear H; intro h138 T H
          obtain rfl : men.length = k := by omega
          refine At.regionEnd ?_
          refine At.seq ?_
          refine At.condF (H.r 138 rfl) ?_
          refine At.exit rfl ?_
          refine At.seq ?_
          refine At.region' (l := [0]) rfl ?_
          refine At.v H rfl (wN rfl) rfl rfl rfl (x_assign evC) ?_; clear H; intro T H
          refine At.regionEnd ?_
          refine At.seq ?_
          refine At.seq ?_
          refine At.region' (l := [0, 1, 2, 3]) rfl ?_
          refine At.v H rfl (wN rfl) rfl rfl rfl (x_fieldAddr (H.r 2 rfl) fa25_1) ?_; clear H; intro T H
          refine At.v H rfl (wN rfl) rfl rfl rfl (x_load (H.r 165 rfl) Try.isAgg23 (by first | exact H.cell (by repeat (first | exact List.mem_cons_self | apply List.mem_cons_of_mem)) _ rfl | exact H.cellR (by repeat (first | exact List.mem_cons_self | apply List.mem_cons_of_mem)) _ rfl)) ?_; clear H; intro T H
          refine At.v H rfl (wN rfl) rfl rfl rfl (x_len (H.r 166 rfl) Try.runUnderlying23) ?_; clear H; intro T H
          refine At.v H rfl (wN rfl) rfl rfl rfl (x_move evC) ?_; clear H; intro T H
          refine At.regionEnd ?_
          refine At.block ?_
          replace H := ((H.fore PkS.nil).sub (R' := [(21, _), (168, _)] ++ [(5, _), (6, _), (8, _), (166, _), (167, _)]) (by repeat' (first | exact trivial | refine And.intro rfl ?_)))
          refine At.loopF H (fun μ R1 G1 => ∃ (k : Nat) (cb : Bool), μ = list.length - k ∧ (k ≤ list.length ∧ cb = (list.take k).any fun z => decide (z.for_ = 4)) ∧ R1 = [(21, .bool cb), (168, .int .i64 (k : Int))] ∧ G1 = []) (list.length) ⟨0, false, by first | rfl | omega, ⟨by omega, by simp⟩, rfl, rfl⟩ ?_
          clear H; rintro _ _ _ T w ⟨k, cb, rfl, ⟨hk, hcb⟩, rfl, rfl⟩ H hnext1
          simp only [List.cons_append, List.nil_append] at H
          refine At.seq ?_
          refine At.region' (l := [0]) rfl ?_
          refine At.c H rfl (wN rfl) rfl rfl rfl (x_lss (H.r 168 rfl) (H.r 167 rfl)) ?_ ?_
          · clear H; intro h169 T H
            have hk1 : k < list.length := by omega
            obtain ⟨z, hz⟩ := get_ex hk1
            obtain rfl := hL.addr (fun e => by simp [e] at hk1)
            have hzc := hL.cell k z hz
            refine At.regionEnd ?_
            refine At.seq ?_
            refine At.condT (H.r 169 rfl) ?_
            refine At.skip ?_
            refine At.seq ?_
            refine At.block ?_
            refine At.seq ?_
            refine At.region' (l := [0, 1, 2, 3]) rfl ?_
            refine At.v H rfl (wN rfl) rfl rfl rfl (x_ixSN (H.r 166 rfl) (H.r 168 rfl) Try.runUnderlying23 Try.sizeOf42 (by omega)) ?_; clear H; intro T H
            refine At.v H rfl (wN rfl) rfl rfl rfl (x_loadA (H.r 170 rfl) Try.isAgg42 Try.sizeOf42 (H.extA hzc (by simp)) rfl) ?_; clear H; intro T H
            refine At.new H rfl (wN rfl) rfl rfl rfl (x_alloc Try.zeroValue42 rfl) ?_; clear H; intro b23 T w _ _ H
            refine At.storeA H rfl (wN rfl) rfl rfl (H.r 23 rfl) (H.r 171 rfl) Try.sizeOf42 (List.all_eq_true.1 rfl) (by repeat (first | exact Upd.here | apply Upd.there)) (by rfl) ?_; clear H; intro T w _ H
            refine At.regionEnd ?_
            refine At.region' (l := [0, 1, 2, 3, 4, 5, 6]) rfl ?_
            refine At.v H rfl (wN rfl) rfl rfl rfl (x_move (H.r 21 rfl)) ?_; clear H; intro T H
            rcases Bool.eq_false_or_eq_true (cb) with hcv | hcv
            · rw [hcv] at H
              obtain ⟨cb2, hcb2⟩ : ∃ c, c = true := ⟨_, rfl⟩
              have hcb3 : cb2 = (list.take (k + 1)).any fun z => decide (z.for_ = 4) := by rw [any_take hz, ← hcb, hcv, hcb2]; rfl
              refine At.v H rfl (wN rfl) rfl rfl rfl (x_move (H.r 172 rfl)) ?_; clear H; intro T H
              refine At.u H rfl (wU H rfl rfl rfl rfl) rfl rfl ?_; clear H; intro T H
              refine At.u H rfl (wU H rfl rfl rfl rfl) rfl rfl ?_; clear H; intro T H
              refine At.u H rfl (wU H rfl rfl rfl rfl) rfl rfl ?_; clear H; intro T H
              refine At.v H rfl (wN rfl) rfl rfl rfl (x_pickT (H.r 173 rfl) evC) ?_; clear H; intro T H
              refine At.v H rfl (wN rfl) rfl rfl rfl (x_assign (H.r 177 rfl)) ?_; clear H; intro T H
              refine At.regionEnd ?_
              refine At.inBlock ?_
              refine At.region' (l := [0, 1]) rfl ?_
              refine At.v H rfl (wN rfl) rfl rfl rfl (x_add (H.r 168 rfl) evC (w64 (by omega) (by omega))) ?_; clear H; intro T H
              refine At.v H rfl (wN rfl) rfl rfl rfl (x_move (H.r 178 rfl)) ?_; clear H; intro T H
              refine At.regionEnd ?_
              exact hnext1 _ _ _ _ _ (by omega) ⟨k + 1, cb2, rfl, ⟨by omega, hcb3⟩, rfl, rfl⟩ (by simp only [List.cons_append, List.nil_append]; rw [hcb2]; exact (H.pk (by repeat (first | exact Pk.nil | exact Pk.all | refine Pk.cons (by repeat (first | exact Take.here | apply Take.there)) ?_ | apply Pk.skip))).sub (by repeat' (first | exact trivial | refine And.intro rfl ?_)))
            · rw [hcv] at H
              refine At.v H rfl (wN rfl) rfl rfl rfl (x_move (H.r 172 rfl)) ?_; clear H; intro T H
              refine At.v H rfl (wS H rfl rfl rfl) rfl rfl rfl (x_fieldAddr (H.r 23 rfl) fa42_0) ?_; clear H; intro T H
              refine At.v H rfl (wS H rfl rfl rfl) rfl rfl rfl (x_load (H.r 174 rfl) Try.isAgg3 (by first | exact H.cell (by repeat (first | exact List.mem_cons_self | apply List.mem_cons_of_mem)) _ rfl | exact H.cellR (by repeat (first | exact List.mem_cons_self | apply List.mem_cons_of_mem)) _ rfl)) ?_; clear H; intro T H
              refine At.c H rfl (wS H rfl rfl rfl) rfl rfl rfl (x_eql (H.r 175 rfl) evC) ?_ ?_
              · clear H; intro h176 T H
                obtain ⟨cb2, hcb2⟩ : ∃ c, c = true := ⟨_, rfl⟩
                have hcb3 : cb2 = (list.take (k + 1)).any fun z => decide (z.for_ = 4) := by rw [any_take hz, ← hcb, hcv, hcb2, decide_eq_true h176]; rfl
                refine At.v H rfl (wN rfl) rfl rfl rfl (x_pickF (H.r 173 rfl) (H.r 176 rfl)) ?_; clear H; intro T H
                refine At.v H rfl (wN rfl) rfl rfl rfl (x_assign (H.r 177 rfl)) ?_; clear H; intro T H
                refine At.regionEnd ?_
                refine At.inBlock ?_
                refine At.region' (l := [0, 1]) rfl ?_
                refine At.v H rfl (wN rfl) rfl rfl rfl (x_add (H.r 168 rfl) evC (w64 (by omega) (by omega))) ?_; clear H; intro T H
                refine At.v H rfl (wN rfl) rfl rfl rfl (x_move (H.r 178 rfl)) ?_; clear H; intro T H
                refine At.regionEnd ?_
                exact hnext1 _ _ _ _ _ (by omega) ⟨k + 1, cb2, rfl, ⟨by omega, hcb3⟩, rfl, rfl⟩ (by simp only [List.cons_append, List.nil_append]; rw [hcb2]; exact (H.pk (by repeat (first | exact Pk.nil | exact Pk.all | refine Pk.cons (by repeat (first | exact Take.here | apply Take.there)) ?_ | apply Pk.skip))).sub (by repeat' (first | exact trivial | refine And.intro rfl ?_)))
              · clear H; intro h176 T H
                obtain ⟨cb2, hcb2⟩ : ∃ c, c = false := ⟨_, rfl⟩
                have hcb3 : cb2 = (list.take (k + 1)).any fun z => decide (z.for_ = 4) := by rw [any_take hz, ← hcb, hcv, hcb2, decide_eq_false h176]; rfl
                refine At.v H rfl (wN rfl) rfl rfl rfl (x_pickF (H.r 173 rfl) (H.r 176 rfl)) ?_; clear H; intro T H
                refine At.v H rfl (wN rfl) rfl rfl rfl (x_assign (H.r 177 rfl)) ?_; clear H; intro T H
                refine At.regionEnd ?_
                refine At.inBlock ?_
                refine At.region' (l := [0, 1]) rfl ?_
                refine At.v H rfl (wN rfl) rfl rfl rfl (x_add (H.r 168 rfl) evC (w64 (by omega) (by omega))) ?_; clear H; intro T H
                refine At.v H rfl (wN rfl) rfl rfl rfl (x_move (H.r 178 rfl)) ?_; clear H; intro T H
                refine At.regionEnd ?_
                exact hnext1 _ _ _ _ _ (by omega) ⟨k + 1, cb2, rfl, ⟨by omega, hcb3⟩, rfl, rfl⟩ (by simp only [List.cons_append, List.nil_append]; rw [hcb2]; exact (H.pk (by repeat (first | exact Pk.nil | exact Pk.all | refine Pk.cons (by repeat (first | exact Take.here | apply Take.there)) ?_ | apply Pk.skip))).sub (by repeat' (first | exact trivial | refine And.intro rfl ?_)))
          · clear H; intro h169 T H
            obtain rfl : list.length = k := by omega
            rw [List.take_length] at hcb
            refine At.regionEnd ?_
            refine At.seq ?_
            refine At.condF (H.r 169 rfl) ?_
            refine At.exit rfl ?_
            refine At.seq ?_
            refine At.seq ?_
            refine At.region' (l := [0, 1, 2]) rfl ?_
            refine At.v H rfl (wN rfl) rfl rfl rfl (x_move (H.r 8 rfl)) ?_; clear H; intro T H
            refine At.v H rfl (wN rfl) rfl rfl rfl (x_len (H.r 179 rfl) Try.runUnderlying30) ?_; clear H; intro T H
            refine At.v H rfl (wN rfl) rfl rfl rfl (x_move evC) ?_; clear H; intro T H
            refine At.regionEnd ?_
            refine At.block ?_
            replace H := ((H.fore PkS.nil).sub (R' := [(21, _), (181, _)] ++ [(5, _), (6, _), (179, _), (180, _)]) (by repeat' (first | exact trivial | refine And.intro rfl ?_)))
            refine At.loopF H (fun μ R1 G1 => ∃ (k : Nat) (cd : Bool), μ = list.length - k ∧ (k ≤ list.length ∧ cd = (cb || ((dueL men list).take k).any fun o => decide (o = some i))) ∧ R1 = [(21, .bool cd), (181, .int .i64 (k : Int))] ∧ G1 = []) (list.length) ⟨0, cb, by first | rfl | omega, ⟨by omega, by simp⟩, rfl, rfl⟩ ?_
            clear H; rintro _ _ _ T w ⟨k, cd, rfl, ⟨hk, hcd⟩, rfl, rfl⟩ H hnext2
            simp only [List.cons_append, List.nil_append] at H
            refine At.seq ?_
            refine At.region' (l := [0]) rfl ?_
            refine At.c H rfl (wN rfl) rfl rfl rfl (x_lss (H.r 181 rfl) (H.r 180 rfl)) ?_ ?_
            · clear H; intro h182 T H
              have hk1 : k < list.length := by omega
              obtain ⟨o, ho⟩ := get_ex (l := (dueL men list)) (k := k) (by rw [dueL_len]; exact hk1)
              obtain ⟨g47, rfl⟩ := H.rowAddr (A := A47) (by repeat (first | exact List.mem_cons_self | apply List.mem_cons_of_mem)) (by omega)
              refine At.regionEnd ?_
              refine At.seq ?_
              refine At.condT (H.r 182 rfl) ?_
              refine At.skip ?_
              refine At.seq ?_
              refine At.block ?_
              refine At.seq ?_
              refine At.region' (l := [0, 1, 2]) rfl ?_
              refine At.v H rfl (wN rfl) rfl rfl rfl (x_ixSN (H.r 179 rfl) (H.r 181 rfl) Try.runUnderlying30 Try.sizeOf3 (by omega)) ?_; clear H; intro T H
              refine At.v H rfl (wN rfl) rfl rfl rfl (x_load (H.r 183 rfl) Try.isAgg3 (by rw [show 0 + k * 1 = k by omega]; exact H.rowCell (g := g47) (by repeat (first | exact List.mem_cons_self | apply List.mem_cons_of_mem)) k (flatO_at ho))) ?_; clear H; intro T H
              refine At.v H rfl (wN rfl) rfl rfl rfl (x_assign (H.r 184 rfl)) ?_; clear H; intro T H
              refine At.regionEnd ?_
              refine At.region' (l := [0, 1, 2, 3, 4, 5, 6]) rfl ?_
              refine At.v H rfl (wN rfl) rfl rfl rfl (x_move (H.r 21 rfl)) ?_; clear H; intro T H
              rcases Bool.eq_false_or_eq_true (cd) with hcv | hcv
              · rw [hcv] at H
                obtain ⟨cd2, hcd2⟩ : ∃ c, c = true := ⟨_, rfl⟩
                have hcd3 : cd2 = (cb || ((dueL men list).take (k + 1)).any fun o => decide (o = some i)) := by rw [any_take ho, ← Bool.or_assoc, ← hcd, hcv, hcd2]; rfl
                refine At.v H rfl (wN rfl) rfl rfl rfl (x_move (H.r 185 rfl)) ?_; clear H; intro T H
                refine At.u H rfl (wU H rfl rfl rfl rfl) rfl rfl ?_; clear H; intro T H
                refine At.u H rfl (wU H rfl rfl rfl rfl) rfl rfl ?_; clear H; intro T H
                refine At.u H rfl (wU H rfl rfl rfl rfl) rfl rfl ?_; clear H; intro T H
                refine At.v H rfl (wN rfl) rfl rfl rfl (x_pickT (H.r 186 rfl) evC) ?_; clear H; intro T H
                refine At.v H rfl (wN rfl) rfl rfl rfl (x_assign (H.r 190 rfl)) ?_; clear H; intro T H
                refine At.regionEnd ?_
                refine At.inBlock ?_
                refine At.region' (l := [0, 1]) rfl ?_
                refine At.v H rfl (wN rfl) rfl rfl rfl (x_add (H.r 181 rfl) evC (w64 (by omega) (by omega))) ?_; clear H; intro T H
                refine At.v H rfl (wN rfl) rfl rfl rfl (x_move (H.r 191 rfl)) ?_; clear H; intro T H
                refine At.regionEnd ?_
                exact hnext2 _ _ _ _ _ (by omega) ⟨k + 1, cd2, rfl, ⟨by omega, hcd3⟩, rfl, rfl⟩ (by simp only [List.cons_append, List.nil_append]; rw [hcd2]; exact (H.pk (by repeat (first | exact Pk.nil | exact Pk.all | refine Pk.cons (by repeat (first | exact Take.here | apply Take.there)) ?_ | apply Pk.skip))).sub (by repeat' (first | exact trivial | refine And.intro rfl ?_)))
              · rw [hcv] at H
                refine At.v H rfl (wN rfl) rfl rfl rfl (x_move (H.r 185 rfl)) ?_; clear H; intro T H
                refine At.v H rfl (wS H rfl rfl rfl) rfl rfl rfl (x_move (H.r 25 rfl)) ?_; clear H; intro T H
                refine At.v H rfl (wS H rfl rfl rfl) rfl rfl rfl (x_move (H.r 5 rfl)) ?_; clear H; intro T H
                refine At.c H rfl (wS H rfl rfl rfl) rfl rfl rfl (x_eql (H.r 187 rfl) (H.r 188 rfl)) ?_ ?_
                · clear H; intro h189 T H
                  obtain ⟨cd2, hcd2⟩ : ∃ c, c = true := ⟨_, rfl⟩
                  have hcd3 : cd2 = (cb || ((dueL men list).take (k + 1)).any fun o => decide (o = some i)) := by rw [any_take ho, ← Bool.or_assoc, ← hcd, hcv, hcd2, decide_eq_true ((orNone_eq _ _).1 h189)]; rfl
                  refine At.v H rfl (wN rfl) rfl rfl rfl (x_pickF (H.r 186 rfl) (H.r 189 rfl)) ?_; clear H; intro T H
                  refine At.v H rfl (wN rfl) rfl rfl rfl (x_assign (H.r 190 rfl)) ?_; clear H; intro T H
                  refine At.regionEnd ?_
                  refine At.inBlock ?_
                  refine At.region' (l := [0, 1]) rfl ?_
                  refine At.v H rfl (wN rfl) rfl rfl rfl (x_add (H.r 181 rfl) evC (w64 (by omega) (by omega))) ?_; clear H; intro T H
                  refine At.v H rfl (wN rfl) rfl rfl rfl (x_move (H.r 191 rfl)) ?_; clear H; intro T H
                  refine At.regionEnd ?_
                  exact hnext2 _ _ _ _ _ (by omega) ⟨k + 1, cd2, rfl, ⟨by omega, hcd3⟩, rfl, rfl⟩ (by simp only [List.cons_append, List.nil_append]; rw [hcd2]; exact (H.pk (by repeat (first | exact Pk.nil | exact Pk.all | refine Pk.cons (by repeat (first | exact Take.here | apply Take.there)) ?_ | apply Pk.skip))).sub (by repeat' (first | exact trivial | refine And.intro rfl ?_)))
                · clear H; intro h189 T H
                  obtain ⟨cd2, hcd2⟩ : ∃ c, c = false := ⟨_, rfl⟩
                  have hcd3 : cd2 = (cb || ((dueL men list).take (k + 1)).any fun o => decide (o = some i)) := by rw [any_take ho, ← Bool.or_assoc, ← hcd, hcv, hcd2, decide_eq_false (fun e => h189 ((orNone_eq _ _).2 e))]; rfl
                  refine At.v H rfl (wN rfl) rfl rfl rfl (x_pickF (H.r 186 rfl) (H.r 189 rfl)) ?_; clear H; intro T H
                  refine At.v H rfl (wN rfl) rfl rfl rfl (x_assign (H.r 190 rfl)) ?_; clear H; intro T H
                  refine At.regionEnd ?_
                  refine At.inBlock ?_
                  refine At.region' (l := [0, 1]) rfl ?_
                  refine At.v H rfl (wN rfl) rfl rfl rfl (x_add (H.r 181 rfl) evC (w64 (by omega) (by omega))) ?_; clear H; intro T H
                  refine At.v H rfl (wN rfl) rfl rfl rfl (x_move (H.r 191 rfl)) ?_; clear H; intro T H
                  refine At.regionEnd ?_
                  exact hnext2 _ _ _ _ _ (by omega) ⟨k + 1, cd2, rfl, ⟨by omega, hcd3⟩, rfl, rfl⟩ (by simp only [List.cons_append, List.nil_append]; rw [hcd2]; exact (H.pk (by repeat (first | exact Pk.nil | exact Pk.all | refine Pk.cons (by repeat (first | exact Take.here | apply Take.there)) ?_ | apply Pk.skip))).sub (by repeat' (first | exact trivial | refine And.intro rfl ?_)))
            · clear H; intro h182 T H
              obtain rfl : list.length = k := by omega
              rw [← dueL_len men list, List.take_length] at hcd
              refine At.regionEnd ?_
              refine At.seq ?_
              refine At.condF (H.r 182 rfl) ?_
              refine At.exit rfl ?_
              refine At.seq ?_
              refine At.region' (l := [0, 1, 2, 3, 4, 5, 6, 7, 8]) rfl ?_
              refine At.v H rfl (wN rfl) rfl rfl rfl (x_move (H.r 21 rfl)) ?_; clear H; intro T H
              rcases Bool.eq_false_or_eq_true (cd) with hcv | hcv
              · rw [hcv] at H
                refine At.v H rfl (wN rfl) rfl rfl rfl (x_move (H.r 192 rfl)) ?_; clear H; intro T H
                refine At.u H rfl (wU H rfl rfl rfl rfl) rfl rfl ?_; clear H; intro T H
                refine At.u H rfl (wU H rfl rfl rfl rfl) rfl rfl ?_; clear H; intro T H
                refine At.v H rfl (wN rfl) rfl rfl rfl (x_pickT (H.r 193 rfl) evC) ?_; clear H; intro T H
                refine At.v H rfl (wN rfl) rfl rfl rfl (x_move (H.r 196 rfl)) ?_; clear H; intro T H
                refine At.f0 H rfl (wS H rfl rfl rfl) rfl rfl rfl args0 Try.call11 (awake _) ?_; clear H; rintro v198 T w rfl _ H
                refine At.v H rfl (wN rfl) rfl rfl rfl (x_pickT (H.r 197 rfl) (H.r 198 rfl)) ?_; clear H; intro T H
                refine At.v H rfl (wN rfl) rfl rfl rfl (x_assign (H.r 199 rfl)) ?_; clear H; intro T H
                refine At.regionEnd ?_
                refine At.ret rfl ?_
                exact lea Try.func5 (res1 Try.results5 (H.r 4 rfl)) (Ret.mk H.fr (rfl))
              · rw [hcv] at H
                rw [hcv] at hcd
                have hcd2 := Bool.or_eq_false_iff.1 hcd.symm
                rw [hcd2.1] at hcb
                have hz0 := stayL_zero hv hi (noClub_of hcb.symm) (not_due hcd2.2)
                refine At.v H rfl (wN rfl) rfl rfl rfl (x_move (H.r 192 rfl)) ?_; clear H; intro T H
                refine At.v H rfl (wS H rfl rfl rfl) rfl rfl rfl (x_move (H.r 6 rfl)) ?_; clear H; intro T H
                refine At.v (v := .bool true) H rfl (wS H rfl rfl rfl) rfl rfl rfl ((x_eql (H.r 194 rfl) evC).trans (by rw [decide_eq_true (by rw [hz0]; rfl)])) ?_; clear H; intro T H
                refine At.v H rfl (wN rfl) rfl rfl rfl (x_pickF (H.r 193 rfl) (H.r 195 rfl)) ?_; clear H; intro T H
                refine At.v H rfl (wN rfl) rfl rfl rfl (x_move (H.r 196 rfl)) ?_; clear H; intro T H
                refine At.f0 H rfl (wS H rfl rfl rfl) rfl rfl rfl args0 Try.call11 (awake _) ?_; clear H; rintro v198 T w rfl _ H
                refine At.v H rfl (wN rfl) rfl rfl rfl (x_pickT (H.r 197 rfl) (H.r 198 rfl)) ?_; clear H; intro T H
                refine At.v H rfl (wN rfl) rfl rfl rfl (x_assign (H.r 199 rfl)) ?_; clear H; intro T H
                refine At.regionEnd ?_
                refine At.ret rfl ?_
                exact lea Try.func5 (res1 Try.results5 (H.r 4 rfl)) (Ret.mk H.fr (rfl))
    · skip
      refine At.v H rfl (wS H rfl rfl rfl) rfl rfl rfl (x_notF (H.r 30 rfl)) ?_; clear H; intro T H
      refine At.v H rfl (wN rfl) rfl rfl rfl (x_pickF (H.r 28 rfl) (H.r 31 rfl)) ?_; clear H; intro T H
      refine At.regionEnd ?_
      refine At.condT (H.r 32 rfl) ?_
      refine At.seq ?_
      refine At.region' (l := [0, 1]) rfl ?_
      refine At.f0 H rfl (wN rfl) rfl rfl rfl args0 Try.call11 (awake _) ?_; clear H; rintro v33 T w rfl _ H
      refine At.v H rfl (wN rfl) rfl rfl rfl (x_assign (H.r 33 rfl)) ?_; clear H; intro T H
      refine At.regionEnd ?_
      refine At.ret rfl ?_
      exact lea Try.func5 (res1 Try.results5 (H.r 4 rfl)) (Ret.mk H.fr (rfl))
end Go.Proofs.Pz
end
