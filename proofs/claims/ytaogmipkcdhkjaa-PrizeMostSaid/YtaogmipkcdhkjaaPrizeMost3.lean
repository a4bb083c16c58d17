/- A part of the proof that proves PrizeMost: for every input the statement returns true and its arguments read as before. No conditions. -/
import Derived.Test.YtaogmipkcdhkjaaPrizeMost1
import Derived.Test.YtaogmipkcdhkjaaPrizeMost2
import Derived.Laws.Cover3
import Derived.Test.YtaogmipkcdhkjaaProg
import Derived.Shelf.Spec.SlicesInsert
import Derived.Shelf.Spec.SlicesInsertGrow
import Derived.Ground.Names2Prog
section
namespace Go.Proofs.Pz
open Go.Sx Go.RowKit
set_option linter.unusedVariables false
namespace AD
theorem fa25_0 (a : Addr) (w : World) : (Instr.fieldAt 25 (.pointer (some a)) 0).run Try.prog w = .ok (.pointer (some (a.add 0))) w := by simp [go_sem]
theorem fa25_1 (a : Addr) (w : World) : (Instr.fieldAt 25 (.pointer (some a)) 1).run Try.prog w = .ok (.pointer (some (a.add 1))) w := by simp [go_sem]
theorem fa80_0 (a : Addr) (w : World) : (Instr.fieldAt 80 (.pointer (some a)) 0).run Try.prog w = .ok (.pointer (some (a.add 0))) w := by simp [go_sem]
end AD
open AD
attribute [local irreducible] placeS mostS
theorem Most {AM AL : Option Addr} {cM bM oM cL bL oL : Nat} {men : List Wi} {list : List Zi} {w0 : World} (hM : SlP encW 4 w0 AM cM bM oM men) (hL : SlP encZ 2 w0 AL cL bL oL list) (hv : Valid men list) : Calls Try.prog 18 #[(.agg #[(.slice AM men.length cM), (.slice AL list.length cL)])] w0 (RetG w0 fun v E _ => ∃ A cap, v = .tuple #[.int .i64 (manyM men list 0 (fun _ => false) : Int), .slice A list.length cap, .int .i64 0] ∧ E = [.row (.slice A list.length cap) 3 1 list.length ((mostL men list).flatMap encO)]) := by
  have hl6 := hv.l6
  have hn8 := hv.n8
  refine enter (args := [(.agg #[(.slice AM men.length cM), (.slice AL list.length cL)])]) (S := []) Try.func18 rfl Try.ntmps18 rfl fun cs T H => ?_
  refine At.seq ?_
  refine At.region' (l := [0, 1, 2, 3]) rfl ?_
  refine At.new H rfl (wN rfl) rfl rfl rfl (x_box (H.r 0 rfl) rfl) ?_; clear H; intro b1 T w _ _ H
  refine At.v H rfl (wN rfl) rfl rfl rfl (x_assign evC) ?_; clear H; intro T H
  refine At.v H rfl (wN rfl) rfl rfl rfl (x_assign evC) ?_; clear H; intro T H
  refine At.new H rfl (wN rfl) rfl rfl rfl (x_alloc Try.zeroValue32 rfl) ?_; clear H; intro b4 T w _ _ H
  refine At.regionEnd ?_
  refine At.seq ?_
  refine At.region' (l := [0]) rfl ?_
  refine At.defer rfl rfl (wN rfl) rfl (x_defer evF (args1 (H.r 4 rfl))) ?_
  refine At.regionEnd ?_
  refine At.seq ?_
  refine At.region' (l := [0, 1, 2]) rfl ?_
  refine At.v H rfl (wN rfl) rfl rfl rfl (x_loadA (H.r 1 rfl) Try.isAgg25 Try.sizeOf25 (H.cellsAt (n := 2) (by repeat (first | exact List.mem_cons_self | apply List.mem_cons_of_mem)) rfl) rfl) ?_; clear H; intro T H
  refine At.fG H rfl (wN rfl) rfl rfl rfl (args1 (H.r 11 rfl)) Try.call31 (openV (hM.fr0 H.fr) (hL.fr0 H.fr) hv) ?_; clear H; rintro v12 E12 T w ⟨bp, mw, rfl, rfl⟩ _ H
  refine At.v H rfl (wN rfl) rfl rfl rfl (x_assign (H.r 12 rfl)) ?_; clear H; intro T H
  refine At.regionEnd ?_
  refine At.seq ?_
  refine At.region' (l := [0, 1]) rfl ?_
  refine At.newObj (f := fun n => .map (some n)) H rfl (wN rfl) rfl rfl rfl x_makeMap ?_; clear H; intro b13 T w _ _ H
  replace H := H.weaken (g := b13) (by repeat (first | exact Take.here | apply Take.there)) Mp.ofNil
  refine At.v H rfl (wN rfl) rfl rfl rfl (x_assign (H.r 13 rfl)) ?_; clear H; intro T H
  refine At.regionEnd ?_
  refine At.seq ?_
  refine At.region' (l := [0, 1, 2, 3, 4]) rfl ?_
  refine At.v H rfl (wN rfl) rfl rfl rfl (x_move (H.r 5 rfl)) ?_; clear H; intro T H
  refine At.v H rfl (wN rfl) rfl rfl rfl (x_move (H.r 6 rfl)) ?_; clear H; intro T H
  refine At.v H rfl (wN rfl) rfl rfl rfl (x_makeFunc (args1 (H.r 15 rfl)) args0) ?_; clear H; intro T H
  refine At.f0 H rfl (wN rfl) rfl rfl rfl (args3 (H.r 14 rfl) evC (H.r 16 rfl)) Try.call40 (most (Op.ofH H (bp := bp) (by repeat (first | exact List.mem_cons_self | apply List.mem_cons_of_mem)) (by repeat (first | exact List.mem_cons_self | apply List.mem_cons_of_mem)) hM hL) hv (leftN_isP (H.mpAt (by repeat (first | exact List.mem_cons_self | apply List.mem_cons_of_mem))) RepS.nil) rfl 0 (Nat.zero_le _)) ?_; clear H; rintro v17 T w rfl _ H
  replace H : Sx w0 [] 81 ((17, .int .i64 (manyM men list 0 (fun _ => false) : Int)) :: _) _ T w := H
  refine At.v H rfl (wN rfl) rfl rfl rfl (x_assign (H.r 17 rfl)) ?_; clear H; intro T H
  refine At.regionEnd ?_
  refine At.seq ?_
  refine At.region' (l := [0, 1]) rfl ?_
  refine At.v H rfl (wN rfl) rfl rfl rfl (x_move (H.r 2 rfl)) ?_; clear H; intro T H
  refine At.v H rfl (wN rfl) rfl rfl rfl (x_assign (H.r 18 rfl)) ?_; clear H; intro T H
  refine At.regionEnd ?_
  refine At.seq ?_
  refine At.region' (l := [0, 1]) rfl ?_
  refine At.bs (n := 0) (L := ?l19_1) (e := ?e19_1) H rfl (wN rfl) rfl rfl rfl (x_bs0  ?r19_1) ?_
  case r19_1 => (simp [go_sem]; rfl)
  clear H; intro b19 T w H
  replace H := H.toRow (n := 0) (sz := 1) (by repeat (first | exact Take.here | apply Take.there)) rfl (by decide)
  refine At.v H rfl (wN rfl) rfl rfl rfl (x_assign (H.r 19 rfl)) ?_; clear H; intro T H
  refine At.regionEnd ?_
  refine At.seq ?_
  refine At.seq ?_
  refine At.region' (l := [0, 1, 2, 3, 4, 5, 6]) rfl ?_
  refine At.v H rfl (wN rfl) rfl rfl rfl (x_move (H.r 5 rfl)) ?_; clear H; intro T H
  refine At.v H rfl (wN rfl) rfl rfl rfl (x_nil (H.r 20 rfl)) ?_; clear H; intro T H
  refine At.v H rfl (wN rfl) rfl rfl rfl (x_fieldAddr (H.r 21 rfl) fa80_0) ?_; clear H; intro T H
  refine At.v H rfl (wN rfl) rfl rfl rfl (x_fieldAddr (H.r 22 rfl) fa25_1) ?_; clear H; intro T H
  refine At.v H rfl (wN rfl) rfl rfl rfl (x_load (H.r 23 rfl) Try.isAgg23 (by first | exact H.cell (by repeat (first | exact List.mem_cons_self | apply List.mem_cons_of_mem)) _ rfl | exact H.cellR (by repeat (first | exact List.mem_cons_self | apply List.mem_cons_of_mem)) _ rfl)) ?_; clear H; intro T H
  refine At.v H rfl (wN rfl) rfl rfl rfl (x_len (H.r 24 rfl) Try.runUnderlying23) ?_; clear H; intro T H
  refine At.v H rfl (wN rfl) rfl rfl rfl (x_move evC) ?_; clear H; intro T H
  refine At.regionEnd ?_
  refine At.block ?_
  refine At.loopN (fun m T w => ∃ (k : Nat) (A3 : Option Addr) (c3 : Nat) (f : Int → Option Value) (st : MoSt), m = list.length - k ∧ k ≤ list.length ∧ mostTo men list k = st ∧ RepS f st.has ∧ Sx w0 [] 81 [(26, .int .i64 (k : Int)), (25, .int .i64 (list.length : Int)), (7, .int .i64 (st.rest : Int)), (6, .map (some b13)), (5, (.pointer (some ⟨bp, 0, none⟩))), (4, .pointer (some ⟨b4, 0, none⟩)), (3, .slice A3 k c3), (2, .int .i64 (manyM men list 0 (fun _ => false) : Int))] [.row (.slice A3 k c3) 3 1 k (st.acc.flatMap encO), .blk b13 (Mp f), .blk bp (Eo (.cells (pzCells AM men.length cM AL list.length cL mw (atL men)).toArray 80 (0, 0))), .blk mw (Eo whoObj), .blk b4 (Eo (.cells [.int .i64 0].toArray 32 (0, 0)))] T w) (list.length) ?_ ?_
  · exact ⟨0, _, _, fun _ => none, mostTo men list 0, rfl, Nat.zero_le _, rfl, RepS.nil, (H.pk (by repeat (first | exact Pk.nil | exact Pk.all | refine Pk.cons (by repeat (first | exact Take.here | apply Take.there)) ?_ | apply Pk.skip))).sub ⟨rfl, rfl, rfl, rfl, rfl, rfl, rfl, rfl, trivial⟩⟩
  · clear H
    rintro n T w ⟨k, A3, c3, f, st, rfl, hk, hst, hrf, H⟩ hnext
    have hrb := mostTo_rest men list k
    have hst1 := mostTo_succ men list k
    rw [hst] at hrb hst1
    refine At.seq ?_
    refine At.region' (l := [0]) rfl ?_
    refine At.c H rfl (wN rfl) rfl rfl rfl (x_lss (H.r 26 rfl) (H.r 25 rfl)) ?_ ?_
    · clear H; intro h27 T H
      have hk1 : k < list.length := by omega
      have hzz := List.getElem?_eq_getElem hk1
      generalize list[k] = zz at hzz
      refine At.regionEnd ?_
      refine At.seq ?_
      refine At.condT (H.r 27 rfl) ?_
      refine At.skip ?_
      refine At.seq ?_
      refine At.block ?_
      refine At.seq ?_
      refine At.region' (l := [0, 1]) rfl ?_
      refine At.v H rfl (wN rfl) rfl rfl rfl (x_move (H.r 26 rfl)) ?_; clear H; intro T H
      refine At.v H rfl (wN rfl) rfl rfl rfl (x_assign (H.r 28 rfl)) ?_; clear H; intro T H
      refine At.regionEnd ?_
      refine At.seq ?_
      refine At.region' (l := [0]) rfl ?_
      refine At.v H rfl (wN rfl) rfl rfl rfl (x_assign evC) ?_; clear H; intro T H
      refine At.regionEnd ?_
      refine At.seq ?_
      refine At.seq ?_
      refine At.region' (l := [0, 1, 2, 3, 4, 5, 6, 7]) rfl ?_
      refine At.v H rfl (wN rfl) rfl rfl rfl (x_move (H.r 5 rfl)) ?_; clear H; intro T H
      refine At.v H rfl (wN rfl) rfl rfl rfl (x_move (H.r 8 rfl)) ?_; clear H; intro T H
      refine At.v H rfl (wN rfl) rfl rfl rfl (x_add (H.r 30 rfl) evC (w64 (by omega) (by omega))) ?_; clear H; intro T H
      refine At.v H rfl (wN rfl) rfl rfl rfl (x_move (H.r 6 rfl)) ?_; clear H; intro T H
      refine At.v H rfl (wN rfl) rfl rfl rfl (x_makeFunc (args1 (H.r 32 rfl)) args0) ?_; clear H; intro T H
      refine At.f0 H rfl (wN rfl) rfl rfl rfl (args3 (H.r 29 rfl) (H.r 31 rfl) (H.r 33 rfl)) Try.call40 (most (Op.ofH H (bp := bp) (by repeat (first | exact List.mem_cons_self | apply List.mem_cons_of_mem)) (by repeat (first | exact List.mem_cons_self | apply List.mem_cons_of_mem)) hM hL) hv (leftN_isP (H.mpAt (by repeat (first | exact List.mem_cons_self | apply List.mem_cons_of_mem))) hrf) rfl (k + 1) hk1) ?_; clear H; rintro v34 T w rfl _ H
      replace H : Sx w0 [] 81 ((34, .int .i64 (manyM men list (k + 1) st.has : Int)) :: _) _ T w := H
      refine At.v H rfl (wN rfl) rfl rfl rfl (x_move (H.r 7 rfl)) ?_; clear H; intro T H
      refine At.c H rfl (wN rfl) rfl rfl rfl (x_lss (H.r 34 rfl) (H.r 35 rfl)) ?_ ?_
      · clear H; intro h36 T H
        have h36n := Int.ofNat_lt.1 h36
        refine At.regionEnd ?_
        refine At.condT (H.r 36 rfl) ?_
        refine At.seq ?_
        refine At.seq ?_
        refine At.region' (l := [0, 1, 2, 3, 4, 5, 6]) rfl ?_
        refine At.v H rfl (wN rfl) rfl rfl rfl (x_move (H.r 5 rfl)) ?_; clear H; intro T H
        refine At.v H rfl (wN rfl) rfl rfl rfl (x_nil (H.r 37 rfl)) ?_; clear H; intro T H
        refine At.v H rfl (wN rfl) rfl rfl rfl (x_fieldAddr (H.r 38 rfl) fa80_0) ?_; clear H; intro T H
        refine At.v H rfl (wN rfl) rfl rfl rfl (x_fieldAddr (H.r 39 rfl) fa25_0) ?_; clear H; intro T H
        refine At.v H rfl (wN rfl) rfl rfl rfl (x_load (H.r 40 rfl) Try.isAgg22 (by first | exact H.cell (by repeat (first | exact List.mem_cons_self | apply List.mem_cons_of_mem)) _ rfl | exact H.cellR (by repeat (first | exact List.mem_cons_self | apply List.mem_cons_of_mem)) _ rfl)) ?_; clear H; intro T H
        refine At.v H rfl (wN rfl) rfl rfl rfl (x_len (H.r 41 rfl) Try.runUnderlying22) ?_; clear H; intro T H
        refine At.v H rfl (wN rfl) rfl rfl rfl (x_move evC) ?_; clear H; intro T H
        refine At.regionEnd ?_
        refine At.block ?_
        refine At.loopN (fun m T w => ∃ (j : Nat) (f1 : Int → Option Value), m = men.length - j ∧ j ≤ men.length ∧ RepS f1 st.has ∧ ((List.range men.length).take j).find? (pickM men list st.has st.rest k) = none ∧ Sx w0 [] 81 [(43, .int .i64 (j : Int)), (42, .int .i64 (men.length : Int)), (9, .int .i64 (-1)), (8, .int .i64 (k : Int)), (26, .int .i64 (k : Int)), (25, .int .i64 (list.length : Int)), (7, .int .i64 (st.rest : Int)), (6, .map (some b13)), (5, (.pointer (some ⟨bp, 0, none⟩))), (4, .pointer (some ⟨b4, 0, none⟩)), (3, .slice A3 k c3), (2, .int .i64 (manyM men list 0 (fun _ => false) : Int))] [.row (.slice A3 k c3) 3 1 k (st.acc.flatMap encO), .blk b13 (Mp f1), .blk bp (Eo (.cells (pzCells AM men.length cM AL list.length cL mw (atL men)).toArray 80 (0, 0))), .blk mw (Eo whoObj), .blk b4 (Eo (.cells [.int .i64 0].toArray 32 (0, 0)))] T w) (men.length) ?_ ?_
        · exact ⟨0, f, rfl, Nat.zero_le _, hrf, by simp, (H.pk (by repeat (first | exact Pk.nil | exact Pk.all | refine Pk.cons (by repeat (first | exact Take.here | apply Take.there)) ?_ | apply Pk.skip))).sub ⟨rfl, rfl, rfl, rfl, rfl, rfl, rfl, rfl, rfl, rfl, rfl, rfl, trivial⟩⟩
        · clear H
          rintro n T w ⟨j, f1, rfl, hj, hrf1, hN, H⟩ hnext1
          refine At.seq ?_
          refine At.region' (l := [0]) rfl ?_
          refine At.c H rfl (wN rfl) rfl rfl rfl (x_lss (H.r 43 rfl) (H.r 42 rfl)) ?_ ?_
          · clear H; intro h44 T H
            have hj1 : j < men.length := by omega
            have hmj := List.getElem?_eq_getElem hj1
            generalize men[j] = mj at hmj
            have hcz : canZ men list j k = canW zz.for_ mj := by simp [canZ, hzz, canAt_eq hmj]
            refine At.regionEnd ?_
            refine At.seq ?_
            refine At.condT (H.r 44 rfl) ?_
            refine At.skip ?_
            refine At.seq ?_
            refine At.block ?_
            refine At.seq ?_
            refine At.region' (l := [0, 1]) rfl ?_
            refine At.v H rfl (wN rfl) rfl rfl rfl (x_move (H.r 43 rfl)) ?_; clear H; intro T H
            refine At.v H rfl (wN rfl) rfl rfl rfl (x_assign (H.r 45 rfl)) ?_; clear H; intro T H
            refine At.regionEnd ?_
            refine At.seq ?_
            refine At.seq ?_
            refine At.region' (l := [0, 1, 2, 3, 4, 5, 6, 7, 8, 9, 10]) rfl ?_
            refine At.v H rfl (wN rfl) rfl rfl rfl (x_move (H.r 6 rfl)) ?_; clear H; intro T H
            refine At.v H rfl (wN rfl) rfl rfl rfl (x_move (H.r 10 rfl)) ?_; clear H; intro T H
            refine At.f0 H rfl (wN rfl) rfl rfl rfl (args2 (H.r 46 rfl) (H.r 47 rfl)) Try.call41 (leftN (H.mpAt (by repeat (first | exact List.mem_cons_self | apply List.mem_cons_of_mem))) (hrf1 j)) ?_; clear H; rintro v48 T w rfl _ H
            refine At.v H rfl (wN rfl) rfl rfl rfl (x_not (H.r 48 rfl)) ?_; clear H; intro T H
            rcases Bool.eq_false_or_eq_true (st.has j) with hkj | hkj
            · rw [hkj] at H; refine At.v H rfl (wN rfl) rfl rfl rfl (x_move (H.r 49 rfl)) ?_; clear H; intro T H
              have hpk : pickM men list st.has st.rest k j = false := by simp [pickM, hkj]
              have hrf3 := hrf1
              refine At.u H rfl (wU H rfl rfl rfl rfl) rfl rfl ?_; clear H; intro T H
              refine At.u H rfl (wU H rfl rfl rfl rfl) rfl rfl ?_; clear H; intro T H
              refine At.u H rfl (wU H rfl rfl rfl rfl) rfl rfl ?_; clear H; intro T H
              refine At.u H rfl (wU H rfl rfl rfl rfl) rfl rfl ?_; clear H; intro T H
              refine At.u H rfl (wU H rfl rfl rfl rfl) rfl rfl ?_; clear H; intro T H
              refine At.v H rfl (wN rfl) rfl rfl rfl (x_pickT (H.r 50 rfl) evC) ?_; clear H; intro T H
              refine At.regionEnd ?_
              refine At.condT (H.r 56 rfl) ?_
              refine At.exit rfl ?_
              refine At.region' (l := [0, 1]) rfl ?_
              refine At.v H rfl (wN rfl) rfl rfl rfl (x_add (H.r 43 rfl) evC (w64 (by omega) (by omega))) ?_; clear H; intro T H
              refine At.v H rfl (wN rfl) rfl rfl rfl (x_move (H.r 71 rfl)) ?_; clear H; intro T H
              refine At.regionEnd ?_
              exact hnext1 (men.length - (j + 1)) _ _ (by omega) ⟨j + 1, _, rfl, by omega, hrf3, find_none_succ hN (range_at hj1) hpk, (H.pk (by repeat (first | exact Pk.nil | exact Pk.all | refine Pk.cons (by repeat (first | exact Take.here | apply Take.there)) ?_ | apply Pk.skip))).sub ⟨rfl, rfl, rfl, rfl, rfl, rfl, rfl, rfl, rfl, rfl, rfl, rfl, trivial⟩⟩
            · rw [hkj] at H; refine At.v H rfl (wN rfl) rfl rfl rfl (x_move (H.r 49 rfl)) ?_; clear H; intro T H
              refine At.v H rfl (wS H rfl rfl rfl) rfl rfl rfl (x_move (H.r 5 rfl)) ?_; clear H; intro T H
              refine At.v H rfl (wS H rfl rfl rfl) rfl rfl rfl (x_move (H.r 10 rfl)) ?_; clear H; intro T H
              refine At.v H rfl (wS H rfl rfl rfl) rfl rfl rfl (x_move (H.r 8 rfl)) ?_; clear H; intro T H
              refine At.f0 H rfl (wS H rfl rfl rfl) rfl rfl rfl (args3 (H.r 51 rfl) (H.r 52 rfl) (H.r 53 rfl)) Try.call35 (can (Op.ofH H (bp := bp) (by repeat (first | exact List.mem_cons_self | apply List.mem_cons_of_mem)) (by repeat (first | exact List.mem_cons_self | apply List.mem_cons_of_mem)) hM hL) hv hmj hzz) ?_; clear H; rintro v54 T w rfl _ H
              refine At.v H rfl (wS H rfl rfl rfl) rfl rfl rfl (x_not (H.r 54 rfl)) ?_; clear H; intro T H
              refine At.v H rfl (wN rfl) rfl rfl rfl (x_pickF (H.r 50 rfl) (H.r 55 rfl)) ?_; clear H; intro T H
              refine At.regionEnd ?_
              refine At.condB (H.r 56 rfl) ?_ ?_
              · intro hc15
                have hcb : canW zz.for_ mj = false := by simpa using hc15
                have hpk : pickM men list st.has st.rest k j = false := by simp [pickM, hcz, hcb]
                have hrf3 := hrf1
                refine At.exit rfl ?_
                refine At.region' (l := [0, 1]) rfl ?_
                refine At.v H rfl (wN rfl) rfl rfl rfl (x_add (H.r 43 rfl) evC (w64 (by omega) (by omega))) ?_; clear H; intro T H
                refine At.v H rfl (wN rfl) rfl rfl rfl (x_move (H.r 71 rfl)) ?_; clear H; intro T H
                refine At.regionEnd ?_
                exact hnext1 (men.length - (j + 1)) _ _ (by omega) ⟨j + 1, _, rfl, by omega, hrf3, find_none_succ hN (range_at hj1) hpk, (H.pk (by repeat (first | exact Pk.nil | exact Pk.all | refine Pk.cons (by repeat (first | exact Take.here | apply Take.there)) ?_ | apply Pk.skip))).sub ⟨rfl, rfl, rfl, rfl, rfl, rfl, rfl, rfl, rfl, rfl, rfl, rfl, trivial⟩⟩
              · intro hc15
                have hcb : canW zz.for_ mj = true := by simpa using hc15
                refine At.skip ?_
                refine At.seq ?_
                refine At.region' (l := [0, 1, 2]) rfl ?_
                refine At.v H rfl (wN rfl) rfl rfl rfl (x_move (H.r 6 rfl)) ?_; clear H; intro T H
                refine At.v H rfl (wN rfl) rfl rfl rfl (x_move (H.r 10 rfl)) ?_; clear H; intro T H
                refine At.mapPut H rfl (wN rfl) (.inl rfl) rfl (H.r 57 rfl) (H.r 58 rfl) evC Try.runUnderlying75 Try.runUnderlying3 (by repeat (first | exact Upd.here | apply Upd.there)) ?_; clear H; intro T w _ H
                refine At.regionEnd ?_
                refine At.seq ?_
                refine At.seq ?_
                refine At.region' (l := [0, 1, 2, 3, 4, 5, 6, 7, 8]) rfl ?_
                refine At.v H rfl (wN rfl) rfl rfl rfl (x_move (H.r 5 rfl)) ?_; clear H; intro T H
                refine At.v H rfl (wN rfl) rfl rfl rfl (x_move (H.r 8 rfl)) ?_; clear H; intro T H
                refine At.v H rfl (wN rfl) rfl rfl rfl (x_add (H.r 60 rfl) evC (w64 (by omega) (by omega))) ?_; clear H; intro T H
                refine At.v H rfl (wN rfl) rfl rfl rfl (x_move (H.r 6 rfl)) ?_; clear H; intro T H
                refine At.v H rfl (wN rfl) rfl rfl rfl (x_makeFunc (args1 (H.r 62 rfl)) args0) ?_; clear H; intro T H
                refine At.f0 H rfl (wN rfl) rfl rfl rfl (args3 (H.r 59 rfl) (H.r 61 rfl) (H.r 63 rfl)) Try.call40 (most (Op.ofH H (bp := bp) (by repeat (first | exact List.mem_cons_self | apply List.mem_cons_of_mem)) (by repeat (first | exact List.mem_cons_self | apply List.mem_cons_of_mem)) hM hL) hv (leftN_isP (H.mpAt (by repeat (first | exact List.mem_cons_self | apply List.mem_cons_of_mem))) (hrf1.setB j true)) rfl (k + 1) hk1) ?_; clear H; rintro v64 T w rfl _ H
                replace H : Sx w0 [] 81 ((64, .int .i64 (manyM men list (k + 1) (setF st.has j true) : Int)) :: _) _ T w := H
                refine At.v H rfl (wN rfl) rfl rfl rfl (x_move (H.r 7 rfl)) ?_; clear H; intro T H
                refine At.v H rfl (wN rfl) rfl rfl rfl (x_sub (H.r 65 rfl) evC (w64 (by omega) (by omega))) ?_; clear H; intro T H
                refine At.c H rfl (wN rfl) rfl rfl rfl (x_eql (H.r 64 rfl) (H.r 66 rfl)) ?_ ?_
                · clear H; intro h67 T H
                  have hpk : pickM men list st.has st.rest k j = true := by simp only [pickM, hkj, hcz, hcb, Bool.not_false, Bool.true_and, decide_eq_true_eq]; omega
                  have hF := find_some_of hN (range_at hj1) hpk
                  let od : Option Nat := some j
                  have hst2 : mostTo men list (k + 1) = ⟨setF st.has j true, st.rest - 1, st.acc ++ [od]⟩ := by rw [hst1, stepMo, if_pos h36n, hF] <;> rfl
                  have hrf2 := hrf1.setB j true
                  refine At.regionEnd ?_
                  refine At.condT (H.r 67 rfl) ?_
                  refine At.seq ?_
                  refine At.region' (l := [0, 1]) rfl ?_
                  refine At.v H rfl (wN rfl) rfl rfl rfl (x_move (H.r 10 rfl)) ?_; clear H; intro T H
                  refine At.v H rfl (wN rfl) rfl rfl rfl (x_assign (H.r 68 rfl)) ?_; clear H; intro T H
                  refine At.regionEnd ?_
                  refine At.exit rfl ?_
                  refine At.region' (l := [0, 1, 2]) rfl ?_
                  refine At.v H rfl (wN rfl) rfl rfl rfl (x_move (H.r 7 rfl)) ?_; clear H; intro T H
                  refine At.v H rfl (wN rfl) rfl rfl rfl (x_sub (z := ((st.rest - 1 : Nat) : Int)) (H.r 72 rfl) evC (by rw [show (st.rest : Int) - 1 = ((st.rest - 1 : Nat) : Int) by omega]; exact w64 (by omega) (by omega))) ?_; clear H; intro T H
                  refine At.v H rfl (wN rfl) rfl rfl rfl (x_assign (H.r 73 rfl)) ?_; clear H; intro T H
                  refine At.regionEnd ?_
                  refine At.region' (l := [0, 1, 2, 3, 4]) rfl ?_
                  refine At.v H rfl (wN rfl) rfl rfl rfl (x_move (H.r 3 rfl)) ?_; clear H; intro T H
                  refine At.v H rfl (wN rfl) rfl rfl rfl (x_move (H.r 9 rfl)) ?_; clear H; intro T H
                  refine At.bs (n := 1) (L := ?l76_2) (e := ?e76_2) H rfl (wN rfl) rfl rfl rfl (x_bs1 (H.r 75 rfl) ?r76_2) ?_
                  case r76_2 => (simp [go_sem]; rfl)
                  clear H; intro b76 T w H
                  refine At.append H rfl (wN rfl) rfl rfl rfl (etI w0) (H.r 74 rfl) (H.r 76 rfl) (by repeat (first | exact Take.here | apply Take.there)) (show CellsAt _ _ _ (encO od) from H.cellsAt (n := 1) (by repeat (first | exact List.mem_cons_self | apply List.mem_cons_of_mem)) rfl) rfl (by simp [encO, Value.oneCell']) (by omega) ?_; clear H; intro A77 c77 T w hc77 hA77 H
                  refine At.v H rfl (wN rfl) rfl rfl rfl (x_assign (H.r 77 rfl)) ?_; clear H; intro T H
                  refine At.regionEnd ?_
                  refine At.inBlock ?_
                  refine At.region' (l := [0, 1]) rfl ?_
                  refine At.v H rfl (wN rfl) rfl rfl rfl (x_add (H.r 26 rfl) evC (w64 (by omega) (by omega))) ?_; clear H; intro T H
                  refine At.v H rfl (wN rfl) rfl rfl rfl (x_move (H.r 78 rfl)) ?_; clear H; intro T H
                  refine At.regionEnd ?_
                  exact hnext (list.length - (k + 1)) _ _ (by omega) ⟨k + 1, _, _, _, _, rfl, by omega, hst2, hrf2, by rw [show (st.acc ++ [od]).flatMap encO = st.acc.flatMap encO ++ encO od from by simp]; exact (H.pk (by repeat (first | exact Pk.nil | exact Pk.all | refine Pk.cons (by repeat (first | exact Take.here | apply Take.there)) ?_ | apply Pk.skip))).sub ⟨rfl, rfl, rfl, rfl, rfl, rfl, rfl, rfl, trivial⟩⟩
                · clear H; intro h67 T H
                  have hpk : pickM men list st.has st.rest k j = false := by simp only [pickM, hkj, hcz, hcb, Bool.not_false, Bool.true_and, decide_eq_false_iff_not]; omega
                  have hrf3 := (hrf1.setB j true).setB j false
                  rw [setF_back hkj] at hrf3
                  refine At.regionEnd ?_
                  refine At.condF (H.r 67 rfl) ?_
                  refine At.skip ?_
                  refine At.region' (l := [0, 1, 2]) rfl ?_
                  refine At.v H rfl (wN rfl) rfl rfl rfl (x_move (H.r 6 rfl)) ?_; clear H; intro T H
                  refine At.v H rfl (wN rfl) rfl rfl rfl (x_move (H.r 10 rfl)) ?_; clear H; intro T H
                  refine At.mapPut H rfl (wN rfl) (.inl rfl) rfl (H.r 69 rfl) (H.r 70 rfl) evC Try.runUnderlying75 Try.runUnderlying3 (by repeat (first | exact Upd.here | apply Upd.there)) ?_; clear H; intro T w _ H
                  refine At.regionEnd ?_
                  refine At.inBlock ?_
                  refine At.region' (l := [0, 1]) rfl ?_
                  refine At.v H rfl (wN rfl) rfl rfl rfl (x_add (H.r 43 rfl) evC (w64 (by omega) (by omega))) ?_; clear H; intro T H
                  refine At.v H rfl (wN rfl) rfl rfl rfl (x_move (H.r 71 rfl)) ?_; clear H; intro T H
                  refine At.regionEnd ?_
                  exact hnext1 (men.length - (j + 1)) _ _ (by omega) ⟨j + 1, _, rfl, by omega, hrf3, find_none_succ hN (range_at hj1) hpk, (H.pk (by repeat (first | exact Pk.nil | exact Pk.all | refine Pk.cons (by repeat (first | exact Take.here | apply Take.there)) ?_ | apply Pk.skip))).sub ⟨rfl, rfl, rfl, rfl, rfl, rfl, rfl, rfl, rfl, rfl, rfl, rfl, trivial⟩⟩
          · clear H; intro h44 T H
            rw [List.take_of_length_le (by simp; omega)] at hN
            let od : Option Nat := none
            have hst2 : mostTo men list (k + 1) = ⟨st.has, st.rest - 1, st.acc ++ [od]⟩ := by rw [hst1, stepMo, if_pos h36n, hN] <;> rfl
            have hrf2 := hrf1
            refine At.regionEnd ?_
            refine At.seq ?_
            refine At.condF (H.r 44 rfl) ?_
            refine At.exit rfl ?_
            refine At.region' (l := [0, 1, 2]) rfl ?_
            refine At.v H rfl (wN rfl) rfl rfl rfl (x_move (H.r 7 rfl)) ?_; clear H; intro T H
            refine At.v H rfl (wN rfl) rfl rfl rfl (x_sub (z := ((st.rest - 1 : Nat) : Int)) (H.r 72 rfl) evC (by rw [show (st.rest : Int) - 1 = ((st.rest - 1 : Nat) : Int) by omega]; exact w64 (by omega) (by omega))) ?_; clear H; intro T H
            refine At.v H rfl (wN rfl) rfl rfl rfl (x_assign (H.r 73 rfl)) ?_; clear H; intro T H
            refine At.regionEnd ?_
            refine At.region' (l := [0, 1, 2, 3, 4]) rfl ?_
            refine At.v H rfl (wN rfl) rfl rfl rfl (x_move (H.r 3 rfl)) ?_; clear H; intro T H
            refine At.v H rfl (wN rfl) rfl rfl rfl (x_move (H.r 9 rfl)) ?_; clear H; intro T H
            refine At.bs (n := 1) (L := ?l76_3) (e := ?e76_3) H rfl (wN rfl) rfl rfl rfl (x_bs1 (H.r 75 rfl) ?r76_3) ?_
            case r76_3 => (simp [go_sem]; rfl)
            clear H; intro b76 T w H
            refine At.append H rfl (wN rfl) rfl rfl rfl (etI w0) (H.r 74 rfl) (H.r 76 rfl) (by repeat (first | exact Take.here | apply Take.there)) (show CellsAt _ _ _ (encO od) from H.cellsAt (n := 1) (by repeat (first | exact List.mem_cons_self | apply List.mem_cons_of_mem)) rfl) rfl (by simp [encO, Value.oneCell']) (by omega) ?_; clear H; intro A77 c77 T w hc77 hA77 H
            refine At.v H rfl (wN rfl) rfl rfl rfl (x_assign (H.r 77 rfl)) ?_; clear H; intro T H
            refine At.regionEnd ?_
            refine At.inBlock ?_
            refine At.region' (l := [0, 1]) rfl ?_
            refine At.v H rfl (wN rfl) rfl rfl rfl (x_add (H.r 26 rfl) evC (w64 (by omega) (by omega))) ?_; clear H; intro T H
            refine At.v H rfl (wN rfl) rfl rfl rfl (x_move (H.r 78 rfl)) ?_; clear H; intro T H
            refine At.regionEnd ?_
            exact hnext (list.length - (k + 1)) _ _ (by omega) ⟨k + 1, _, _, _, _, rfl, by omega, hst2, hrf2, by rw [show (st.acc ++ [od]).flatMap encO = st.acc.flatMap encO ++ encO od from by simp]; exact (H.pk (by repeat (first | exact Pk.nil | exact Pk.all | refine Pk.cons (by repeat (first | exact Take.here | apply Take.there)) ?_ | apply Pk.skip))).sub ⟨rfl, rfl, rfl, rfl, rfl, rfl, rfl, rfl, trivial⟩⟩
      · clear H; intro h36 T H
        have h36n : ¬ manyM men list (k + 1) st.has < st.rest := fun h => h36 (Int.ofNat_lt.2 h)
        let od : Option Nat := none
        have hst2 : mostTo men list (k + 1) = ⟨st.has, st.rest, st.acc ++ [od]⟩ := by rw [hst1, stepMo, if_neg h36n] <;> rfl
        have hrf2 := hrf
        refine At.regionEnd ?_
        refine At.condF (H.r 36 rfl) ?_
        refine At.skip ?_
        refine At.region' (l := [0, 1, 2, 3, 4]) rfl ?_
        refine At.v H rfl (wN rfl) rfl rfl rfl (x_move (H.r 3 rfl)) ?_; clear H; intro T H
        refine At.v H rfl (wN rfl) rfl rfl rfl (x_move (H.r 9 rfl)) ?_; clear H; intro T H
        refine At.bs (n := 1) (L := ?l76_4) (e := ?e76_4) H rfl (wN rfl) rfl rfl rfl (x_bs1 (H.r 75 rfl) ?r76_4) ?_
        case r76_4 => (simp [go_sem]; rfl)
        clear H; intro b76 T w H
        refine At.append H rfl (wN rfl) rfl rfl rfl (etI w0) (H.r 74 rfl) (H.r 76 rfl) (by repeat (first | exact Take.here | apply Take.there)) (show CellsAt _ _ _ (encO od) from H.cellsAt (n := 1) (by repeat (first | exact List.mem_cons_self | apply List.mem_cons_of_mem)) rfl) rfl (by simp [encO, Value.oneCell']) (by omega) ?_; clear H; intro A77 c77 T w hc77 hA77 H
        refine At.v H rfl (wN rfl) rfl rfl rfl (x_assign (H.r 77 rfl)) ?_; clear H; intro T H
        refine At.regionEnd ?_
        refine At.inBlock ?_
        refine At.region' (l := [0, 1]) rfl ?_
        refine At.v H rfl (wN rfl) rfl rfl rfl (x_add (H.r 26 rfl) evC (w64 (by omega) (by omega))) ?_; clear H; intro T H
        refine At.v H rfl (wN rfl) rfl rfl rfl (x_move (H.r 78 rfl)) ?_; clear H; intro T H
        refine At.regionEnd ?_
        exact hnext (list.length - (k + 1)) _ _ (by omega) ⟨k + 1, _, _, _, _, rfl, by omega, hst2, hrf2, by rw [show (st.acc ++ [od]).flatMap encO = st.acc.flatMap encO ++ encO od from by simp]; exact (H.pk (by repeat (first | exact Pk.nil | exact Pk.all | refine Pk.cons (by repeat (first | exact Take.here | apply Take.there)) ?_ | apply Pk.skip))).sub ⟨rfl, rfl, rfl, rfl, rfl, rfl, rfl, rfl, trivial⟩⟩
    · clear H; intro h27 T H
      refine At.regionEnd ?_
      refine At.seq ?_
      refine At.condF (H.r 27 rfl) ?_
      refine At.exit rfl ?_
      refine At.seq ?_
      refine At.region' (l := [0, 1, 2, 3, 4]) rfl ?_
      refine At.v H rfl (wN rfl) rfl rfl rfl (x_move (H.r 2 rfl)) ?_; clear H; intro T H
      refine At.v H rfl (wN rfl) rfl rfl rfl (x_move (H.r 3 rfl)) ?_; clear H; intro T H
      refine At.v H rfl (wN rfl) rfl rfl rfl (x_assign (H.r 79 rfl)) ?_; clear H; intro T H
      refine At.v H rfl (wN rfl) rfl rfl rfl (x_assign (H.r 80 rfl)) ?_; clear H; intro T H
      refine At.store1 H rfl (wN rfl) rfl rfl (H.r 4 rfl) evC Try.sizeOf32 rfl rfl (by repeat (first | exact Upd.here | apply Upd.there)) (by repeat (first | exact SetAt.z | apply SetAt.s)) ?_; clear H; intro T w _ H
      refine At.regionEnd ?_
      refine At.ret rfl ?_
      obtain rfl : k = list.length := by omega
      exact leaT H (fun w H => lea Try.func18 (resL (rs := [.tmp 2, .tmp 3, .cell 4 32]) Try.results18 (.tmp (H.r 2 rfl) (.tmp (H.r 3 rfl) (.cell (H.r 4 rfl) Try.isAgg32 (H.cell (by repeat (first | exact List.mem_cons_self | apply List.mem_cons_of_mem)) 0 rfl) .nil))) (by simp)) (RetG.of H [.row (.slice A3 list.length c3) 3 1 list.length ((mostL men list).flatMap encO)] (by rw [mostL, hst]; simp) (by simp [Ent.w, Ent.keys]) ⟨A3, c3, rfl, rfl⟩))
theorem Most_no {AM AL : Option Addr} {cM bM oM cL bL oL : Nat} {men : List Wi} {list : List Zi} {w0 : World} (hM : SlP encW 4 w0 AM cM bM oM men) (hL : SlP encZ 2 w0 AL cL bL oL list) (hv : ¬ Valid men list) (h1 : men.length ≤ 40) (h2 : list.length ≤ 40) : Calls Try.prog 18 #[(.agg #[(.slice AM men.length cM), (.slice AL list.length cL)])] w0 (Ret w0 fun v _ => v = .tuple #[.int .i64 0, .slice none 0 0, .int .i64 1]) := by
  refine enter (args := [(.agg #[(.slice AM men.length cM), (.slice AL list.length cL)])]) (S := []) Try.func18 rfl Try.ntmps18 rfl fun cs T H => ?_
  refine At.seq ?_
  refine At.region' (l := [0, 1, 2, 3]) rfl ?_
  refine At.new H rfl (wN rfl) rfl rfl rfl (x_box (H.r 0 rfl) rfl) ?_; clear H; intro b1 T w _ _ H
  refine At.v H rfl (wN rfl) rfl rfl rfl (x_assign evC) ?_; clear H; intro T H
  refine At.v H rfl (wN rfl) rfl rfl rfl (x_assign evC) ?_; clear H; intro T H
  refine At.new H rfl (wN rfl) rfl rfl rfl (x_alloc Try.zeroValue32 rfl) ?_; clear H; intro b4 T w _ _ H
  refine At.regionEnd ?_
  refine At.seq ?_
  refine At.region' (l := [0]) rfl ?_
  refine At.defer rfl rfl (wN rfl) rfl (x_defer evF (args1 (H.r 4 rfl))) ?_
  refine At.regionEnd ?_
  refine At.seq ?_
  refine At.region' (l := [0, 1, 2]) rfl ?_
  refine At.v H rfl (wN rfl) rfl rfl rfl (x_loadA (H.r 1 rfl) Try.isAgg25 Try.sizeOf25 (H.cellsAt (n := 2) (by repeat (first | exact List.mem_cons_self | apply List.mem_cons_of_mem)) rfl) rfl) ?_; clear H; intro T H
  refine At.fP H rfl (wN rfl) rfl (args1 (H.r 11 rfl)) Try.call31 (openNo (hM.fr0 H.fr) (hL.fr0 H.fr) hv h1 h2) ?_
  clear H; intro w _ H
  exact panT H (by repeat (first | exact Upd.here | apply Upd.there)) (fun w H => lea Try.func18 (resL (rs := [.tmp 2, .tmp 3, .cell 4 32]) Try.results18 (.tmp (H.r 2 rfl) (.tmp (H.r 3 rfl) (.cell (H.r 4 rfl) Try.isAgg32 (H.cell (by repeat (first | exact List.mem_cons_self | apply List.mem_cons_of_mem)) 0 rfl) .nil))) (by simp)) (Ret.mk H.fr rfl))
end Go.Proofs.Pz
end
section
namespace Go.Sx
open Go.RowKit

section
variable {P : Program} {w : World} {ρ : Operand → Value} {d : Option Tmp} {ty : TypeId} {pos : String} {af : Array Edge} {g : Option (Nat × Bool)}
/-- 's == nil' of a slice -/
theorem x_eqSl {t u e : TypeId} {x : Operand} {A : Option Addr} {n c : Nat} (hx : ρ x = .slice A n c) (hy : ρ (.const (.slice none 0 0)) = .slice none 0 0) (hu : P.underlying t = some (.slice e)) :
    (execOp ρ ⟨d, .binOp .eql t x (.const (.slice none 0 0)) u, ty, pos, af, g⟩).run P w = .ok (.value (.bool A.isNone)) w := by
  have h : (Op.equal t (.slice A n c) (.slice none 0 0)).run P w = .ok A.isNone w := run_equal_slice_nil w t e A n c hu
  simp only [execOp, hx, hy, eqGuard, Bool.or_true, if_true, ite_self, binOp, Sem.run_bind, Sem.run_pure, Result.andThen_ok, h]
/-- 's[j:]' -/
theorem x_slJ {t e : TypeId} {x y : Operand} {gb n cap sz j : Nat} (hx : ρ x = .slice (some ⟨gb, 0, none⟩) n cap) (hl : ρ y = .int .i64 (j : Int))
    (hu : ∀ w, (underlying t).run P w = .ok (.slice e) w) (hs : ∀ w, (sizeOf e).run P w = .ok sz w) (h1 : j ≤ n) (h2 : n ≤ cap) :
    (execOp ρ ⟨d, .slice t x (some y) none none, ty, pos, af, g⟩).run P w = .ok (.value (.slice (some ⟨gb, if cap = j then 0 else j * sz, none⟩) (n - j) (cap - j))) w := by
  have := x_slS (P := P) (w := w) (d := d) (ty := ty) (pos := pos) (af := af) (g := g) (lo := some y) (hi := none) (l := j) (h := n) hx (by simp [hl]) (by simp) hu hs h1 h2
  rw [this]
  by_cases hc : cap = j
  · simp [hc]
  · simp [hc, add_plain']
/-- 's[j:h]' -/
theorem x_slJH {t e : TypeId} {x y y' : Operand} {gb n cap sz j h : Nat} (hx : ρ x = .slice (some ⟨gb, 0, none⟩) n cap) (hl : ρ y = .int .i64 (j : Int)) (hh : ρ y' = .int .i64 (h : Int))
    (hu : ∀ w, (underlying t).run P w = .ok (.slice e) w) (hs : ∀ w, (sizeOf e).run P w = .ok sz w) (h1 : j < h) (h2 : h ≤ cap) :
    (execOp ρ ⟨d, .slice t x (some y) (some y') none, ty, pos, af, g⟩).run P w = .ok (.value (.slice (some ⟨gb, j * sz, none⟩) (h - j) (cap - j))) w := by
  have := x_slS (P := P) (w := w) (d := d) (ty := ty) (pos := pos) (af := af) (g := g) (lo := some y) (hi := some y') (l := j) (h := h) hx (by simp [hl]) (by simp [hh]) hu hs (by omega) h2
  rw [this]
  simp [show ¬ cap = j by omega, add_plain']
end

section
variable {P : Program} {Φ : Machine → Prop} {b : Frame} {cs : List Frame} {D : List Deferred} {k : List Item}
variable {ops : Array Oper} {Kf : Array Value → World → Prop} {Kp : KP}
variable {T : Array Value} {w : World} {w0 : World} {S : List Nat} {N : Nat} {R : List (Nat × Value)} {G : List Ent}
variable {i n : Nat} {o : Oper} {L L' : Array Bool} {rest : List Nat}

theorem GA.appendRoom {s x : Operand} {t e : TypeId} {sz bytes q m c g cap i0 bk off : Nat} {z : Value} {l news : List Value} {G0 : List Ent} {d : Tmp}
    (H : Sx w0 S N R G T w) (ho : ops[i]? = some o) (hw : Region.wanted o (yielded ops T) = true) (hop : o.op = .call { callee := .builtin .append, args := #[s, x], argTypes := #[t, t] }) (hd : o.dst = some d) (hN : Nat.blt d N = true)
    (hq : Region.ready .any ops L = [i]) (hL : L.setIfInBounds i true = L')
    (E : ET P t e sz bytes z) (hx : evT T s = .slice (some ⟨g, 0, none⟩) i0 cap) (hy : evT T x = .slice (some ⟨bk, off, none⟩) m c) (ht : Take (.row (.slice (some ⟨g, 0, none⟩) q cap) e sz q l) G G0)
    (hnews : CellsAt w bk off news) (hl : news.length = m * sz) (h1 : ∀ u ∈ news, u.oneCell' = true) (hroom : i0 + m ≤ q)
    (K : ∀ T' w', Sx w0 S N ((d, .slice (some ⟨g, 0, none⟩) (i0 + m) cap) :: R) (.row (.slice (some ⟨g, 0, none⟩) (i0 + m) cap) e sz (i0 + m) (l.take (i0 * sz) ++ news) :: G0) T' w' → GA P ops Kf Kp n L' T' w') :
    GA P ops Kf Kp (n + 1) L T w := by
  have hown := H.ent _ ht.mem
  obtain ⟨i1, hi, hz1, hz2, hz3⟩ := E.hi
  rcases hown.2 with ⟨h1', _⟩ | ⟨g', cap', cur, he, _, hg, hle, hmx, hcs, htk⟩
  · cases h1'
  · simp only [Value.slice.injEq, Option.some.injEq, Addr.mk.injEq, and_true, true_and] at he
    obtain ⟨rfl, rfl⟩ := he
    have hmul : (i0 + m) * sz ≤ q * sz := Nat.mul_le_mul_right _ hroom
    have hmul2 : q * sz ≤ cap * sz := Nat.mul_le_mul_right _ hle
    have hadd : (i0 + m) * sz = i0 * sz + m * sz := Nat.add_mul _ _ _
    have hcl : cur.toList.length = cap * sz := by simpa using hcs
    have hr := run_append_room (P := P) w t o.type e i1 E.ht hi g i0 cap cur hg ⟨bk, off, none⟩ m c news (by rw [hz2]; exact hl) (fun j u hj => by rw [add_plain']; exact hnews j u hj) h1 (by omega) (by rw [hz2, hl]; omega)
    rw [hz2] at hr
    refine GA.op (v := .slice (some ⟨g, 0, none⟩) (i0 + m) cap) (w' := w.setRow g (cur.toList.take (i0 * sz) ++ news ++ cur.toList.drop (i0 * sz + news.length)).toArray) ho hw (by rw [hop]; rfl) hq hL ?_ (fun h => by simp [extK, hop] at h) ?_
    · unfold execOp
      rw [hop]
      simp [resolve, invoke, builtin, hx, hy, hr]
    · rw [hd]
      refine K _ _ (Sx.put ?_ d _ (lt_of_blt hN))
      have hu : Upd (.row (.slice (some ⟨g, 0, none⟩) (i0 + m) cap) e sz (i0 + m) (l.take (i0 * sz) ++ news)) (.row (.slice (some ⟨g, 0, none⟩) q cap) e sz q l) (.row (.slice (some ⟨g, 0, none⟩) q cap) e sz q l :: G0) (.row (.slice (some ⟨g, 0, none⟩) (i0 + m) cap) e sz (i0 + m) (l.take (i0 * sz) ++ news) :: G0) := .here
      refine (H.front ht).upd hu (by simpa [Ent.w, Value.ownBlock] using Fr.setRow w g _) ?_ (fun k hk => .inl hk) (by simp [Ent.keys, Value.ownBlock])
      have hlt : l.take (i0 * sz) = cur.toList.take (i0 * sz) := by rw [← htk, List.take_take]; congr 1; omega
      refine ⟨?_, .inr ⟨g, cap, _, rfl, Nat.zero_le _, setRow_heap w g cur _ e _ hg, by omega, hmx, ?_, ?_⟩⟩
      · rw [hlt, List.length_append, List.length_take, hl, hcl]; omega
      · simp only [List.size_toArray, List.length_append, List.length_take, List.length_drop, hcl, hl]; omega
      · rw [hlt]
        simp only []
        rw [List.take_append_of_le_length (by simp only [List.length_append, List.length_take, hcl, hl]; omega), List.take_of_length_le (by simp only [List.length_append, List.length_take, hcl, hl]; omega)]

/-- 'clear' of one element behind a row -/
theorem At.clear1 {x : Operand} {t e : TypeId} {sz bytes c g cap off q : Nat} {z : Value} {l : List Value}
    (H : Sx w0 S N R G T w) (ho : ops[i]? = some o) (hw : Region.wanted o (yielded ops T) = true) (hop : o.op = .call { callee := .builtin .clear, args := #[x], argTypes := #[t] }) (hd : o.dst = none)
    (E : ET P t e sz bytes z) (hzv : ∀ w, (zeroValue e).run P w = .ok z w) (hzc : Builtin.zeroCells z.cells 1 = z.cells) (h1 : ∀ u ∈ z.cells.toList, u.oneCell' = true)
    (hx : evT T x = .slice (some ⟨g, off, none⟩) 1 c) (ht : Ent.row (.slice (some ⟨g, 0, none⟩) q cap) e sz q l ∈ G) (hoff : off = q * sz) (hroom : q + 1 ≤ cap)
    (K : ∀ T' w', Sx w0 S N R G T' w' → At P Φ b cs D (.inRegion ops rest :: k) T' w') :
    At P Φ b cs D (.inRegion ops (i :: rest) :: k) T w := by
  have hown := H.ent _ ht
  rcases hown.2 with ⟨h1', _⟩ | ⟨g', cap', cur, he, _, hg, hle, hmx, hcs, htk⟩
  · cases h1'
  · simp only [Value.slice.injEq, Option.some.injEq, Addr.mk.injEq, and_true, true_and] at he
    obtain ⟨rfl, rfl⟩ := he
    have hmul : (q + 1) * sz ≤ cap * sz := Nat.mul_le_mul_right _ hroom
    have hadd : (q + 1) * sz = q * sz + sz := Nat.succ_mul _ _
    have hcl : cur.toList.length = cap * sz := by simpa using hcs
    have hzl : z.cells.toList.length = sz := by simpa using E.hz
    have hst := run_storeCells_at P g off e z.cells.toList 0 cur w hg (by rw [show cur.size = cap * sz by simpa using hcl]; omega) h1
    have hr : (execOp (evT T) o).run P w = .ok (.value (.tuple #[])) (w.setRow g (cur.toList.take (off + 0) ++ z.cells.toList ++ cur.toList.drop (off + 0 + z.cells.toList.length)).toArray) := by
      unfold execOp
      rw [hop]
      simp [resolve, invoke, builtin, hx, Builtin.clear_, run_underlying E.ht, hzv, hzc, hst]
    refine At.op ho hw (by rw [hop]; rfl) hr ?_
    rw [hd]
    refine K _ _ ?_
    refine Sx.put0 ?_ _
    obtain ⟨G1, G2, rfl⟩ := List.append_of_mem ht
    have hu : ∀ (A : List Ent), Upd (.row (.slice (some ⟨g, 0, none⟩) q cap) e sz q l) (.row (.slice (some ⟨g, 0, none⟩) q cap) e sz q l) (A ++ .row (.slice (some ⟨g, 0, none⟩) q cap) e sz q l :: G2) (A ++ .row (.slice (some ⟨g, 0, none⟩) q cap) e sz q l :: G2) := by
      intro A
      induction A with
      | nil => exact .here
      | cons y r ih => exact .there ih
    refine H.upd (hu G1) (by simpa [Ent.w, Value.ownBlock] using Fr.setRow w g _) ?_ (fun k hk => .inl hk) (by simp [Ent.keys, Value.ownBlock])
    refine ⟨hown.1, .inr ⟨g, cap, _, rfl, Nat.zero_le _, setRow_heap w g cur _ e _ hg, hle, hmx, ?_, ?_⟩⟩
    · simp only [List.size_toArray, List.length_append, List.length_take, List.length_drop, hcl, hzl]; omega
    · subst hoff
      simp only [Nat.add_zero, List.append_assoc]
      rw [List.take_append_of_le_length (by rw [List.length_take, hcl]; omega), List.take_take, Nat.min_self, htk]
end
end Go.Sx
namespace Go.Sx
open Go.RowKit
theorem flatAt {α : Type} {enc : α → List Value} {sz : Nat} {w : World} {bk : Nat} (hlen : ∀ x, (enc x).length = sz) : ∀ (xs : List α) (off : Nat), (∀ i x, xs[i]? = some x → CellsAt w bk (off + i * sz) (enc x)) → CellsAt w bk off (xs.flatMap enc)
  | [], off, _ => by intro j u hj; simp at hj
  | x :: r, off, h => by
    intro j u hj
    rw [List.flatMap_cons] at hj
    by_cases hlt : j < sz
    · rw [List.getElem?_append_left (by rw [hlen]; exact hlt)] at hj
      have := h 0 x rfl j u hj
      simpa using this
    · rw [List.getElem?_append_right (by rw [hlen]; omega), hlen] at hj
      have ih := flatAt hlen r (off + sz) (fun i y hy => by
        have := h (i + 1) y (by simpa using hy)
        rw [show off + sz + i * sz = off + (i + 1) * sz by rw [Nat.succ_mul]; omega]
        exact this)
      have := ih (j - sz) u hj
      rw [show off + sz + (j - sz) = off + j by omega] at this
      exact this
theorem SlP.flat {α : Type} {enc : α → List Value} {sz : Nat} {w : World} {A : Option Addr} {cap bk off : Nat} {xs : List α} (h : SlP enc sz w A cap bk off xs) (hlen : ∀ x, (enc x).length = sz) : CellsAt w bk off (xs.flatMap enc) :=
  flatAt hlen xs off h.cell
theorem flat_len {α : Type} {enc : α → List Value} {sz : Nat} (hlen : ∀ x, (enc x).length = sz) : ∀ (xs : List α), (xs.flatMap enc).length = xs.length * sz
  | [] => by simp
  | x :: r => by rw [List.flatMap_cons, List.length_append, hlen, flat_len hlen r, List.length_cons, Nat.succ_mul]; omega
theorem flat_one {α : Type} {enc : α → List Value} (h1 : ∀ x, ∀ u ∈ enc x, u.oneCell' = true) (xs : List α) : ∀ u ∈ xs.flatMap enc, u.oneCell' = true := by
  intro u hu
  obtain ⟨x, _, hx⟩ := List.mem_flatMap.1 hu
  exact h1 x u hx
section
variable {P : Program} {w : World} {ρ : Operand → Value} {d : Option Tmp} {ty : TypeId} {pos : String} {af : Array Edge} {g : Option (Nat × Bool)}
theorem x_slHN {t e : TypeId} {x y : Operand} {bk off n cap sz : Nat} {h : Nat} (hx : ρ x = .slice (some ⟨bk, off, none⟩) n cap) (hh : ρ y = .int .i64 (h : Int))
    (hu : ∀ w, (underlying t).run P w = .ok (.slice e) w) (hs : ∀ w, (sizeOf e).run P w = .ok sz w) (h2 : h ≤ cap) :
    (execOp ρ ⟨d, .slice t x none (some y) none, ty, pos, af, g⟩).run P w = .ok (.value (.slice (some ⟨bk, off, none⟩) h cap)) w := by
  have := x_slS0 (P := P) (w := w) (d := d) (ty := ty) (pos := pos) (af := af) (g := g) hx hh hu hs (by omega) (by omega)
  simpa using this
/-- 's[i:j:k]' -/
theorem x_sl3 {t e : TypeId} {x y y' y'' : Operand} {A : Option Addr} {n cap sz i j m : Nat} (hx : ρ x = .slice A n cap) (hl : ρ y = .int .i64 (i : Int)) (hh : ρ y' = .int .i64 (j : Int)) (hm : ρ y'' = .int .i64 (m : Int))
    (hu : ∀ w, (underlying t).run P w = .ok (.slice e) w) (hs : ∀ w, (sizeOf e).run P w = .ok sz w) (h1 : i ≤ j) (h2 : j ≤ m) (h3 : m ≤ cap) :
    (execOp ρ ⟨d, .slice t x (some y) (some y') (some y''), ty, pos, af, g⟩).run P w = .ok (.value (.slice (if m = i then A else A.map (·.add (i * sz))) (j - i) (m - i))) w := by
  have hb0 : ∀ (w : World) (c : BoundsCode), (Instr.sliceBound (.int .i64 (m : Int)) cap c).run P w = .ok m w := fun w c => by have := run_bound (P := P) (w := w) (q := .i64) (n := (m : Int)) (y := cap) (c := c) (by omega) (by omega); simpa using this
  have hb1 : ∀ (w : World) (c : BoundsCode), (Instr.sliceBound (.int .i64 (j : Int)) m c).run P w = .ok j w := fun w c => by have := run_bound (P := P) (w := w) (q := .i64) (n := (j : Int)) (y := m) (c := c) (by omega) (by omega); simpa using this
  have hb2 : ∀ (w : World) (c : BoundsCode), (Instr.sliceBound (.int .i64 (i : Int)) j c).run P w = .ok i w := fun w c => by have := run_bound (P := P) (w := w) (q := .i64) (n := (i : Int)) (y := j) (c := c) (by omega) (by omega); simpa using this
  simp [execOp, hx, hl, hh, hm, Instr.sliceAt, Instr.slice, hu, Instr.sliceBounds, hs, hb0, hb1, hb2]
end
section
variable {P : Program} {Φ : Machine → Prop} {b : Frame} {cs : List Frame} {D : List Deferred} {k : List Item} {T : Array Value} {w : World}
variable {w0 : World} {S : List Nat} {N : Nat} {R : List (Nat × Value)} {G : List Ent}
variable {ops : Array Oper} {i : Nat} {rest : List Nat} {o : Oper}
/-- one entry turns -/
def RetX (w : World) (x x' : Ent) (v : Value) : Ending → World → Prop := fun e w' => e = .returned v ∧ Fr x.w w w' ∧ x'.holds w'
theorem At.fX {f : FuncId} {xs : Array Operand} {ts : Array TypeId} {args : Array Value} {x x' : Ent} {v : Value} {G0 : List Ent} {d : Tmp} (H : Sx w0 S N R G T w) (ho : ops[i]? = some o) (hw : Region.wanted o (yielded ops T) = true)
    (hop : o.op = .call { callee := .value (.func f), args := xs, argTypes := ts }) (hd : o.dst = some d) (hN : Nat.blt d N = true) (ha : xs.map (evT T) = args) (hf : ∀ (args : Array Value) w, (callFunc f args).run P w = .ok (.enter f args) w)
    (ht : Take x G G0) (hc : Calls P f args w (RetX w x x' v)) (hk : ∀ k ∈ x'.keys, k ∈ x.w) (hn : x'.keys.Nodup)
    (K : ∀ T' w', Sx w0 S N ((d, v) :: R) (x' :: G0) T' w' → At P Φ b cs D (.inRegion ops rest :: k) T' w') :
    At P Φ b cs D (.inRegion ops (i :: rest) :: k) T w := by
  refine At.f ho hw hop ha hf hc ?_
  rintro e w2 ⟨rfl, hfr, hx⟩
  show At _ _ _ _ _ _ _ _
  rw [hd]
  exact K _ w2 (((H.front ht).upd (x' := x') .here hfr hx (fun k h => .inl (hk k h)) hn).put d v (lt_of_blt hN))
end
end Go.Sx
end
section
namespace Go.Proofs.Pz
open Go.Sx Go.RowKit
set_option linter.unusedVariables false
namespace AE

end AE
open AE
theorem etW (w : World) : ET Try.prog 22 59 4 24 (.agg #[.int .i64 0, .int .i64 0, .bool false, .bool false]) := ET.of w Try.underlying22 Try.typeInfo59 rfl rfl rfl rfl (by decide) (by decide)
theorem lenW (x : Wi) : (encW x).length = 4 := rfl
theorem oneW (x : Wi) : ∀ u ∈ encW x, u.oneCell' = true := List.all_eq_true.1 rfl
theorem oneI (x : Int) : ∀ u ∈ encI x, u.oneCell' = true := List.all_eq_true.1 rfl
theorem clone43 {A : Option Addr} {cap bk off : Nat} {ws : List Wi} {w0 : World} (hP : SlP encW 4 w0 A cap bk off ws) (h0 : ws ≠ []) (hn : ws.length ≤ 1000) :
    Calls Try.prog 43 #[.slice A ws.length cap] w0 (RetG w0 fun v E _ => ∃ g c, v = .slice (some ⟨g, 0, none⟩) ws.length c ∧ E = [.row v 59 4 ws.length (ws.flatMap encW)]) := by
  have hA := hP.addr h0
  subst hA
  have hpos : 0 < ws.length := List.length_pos_iff.2 h0
  refine enter (args := [.slice (some ⟨bk, off, none⟩) ws.length cap]) (S := []) Try.func43 rfl Try.ntmps43 rfl fun cs T H => ?_
  refine At.seq ?_
  refine At.region' (l := [0]) rfl ?_
  refine At.v H rfl (wN rfl) rfl rfl rfl (x_assign evC) ?_; clear H; intro T H
  refine At.regionEnd ?_
  refine At.seq ?_
  refine At.seq ?_
  refine At.region' (l := [0, 1]) rfl ?_
  refine At.v H rfl (wN rfl) rfl rfl rfl (x_move (H.r 0 rfl)) ?_; clear H; intro T H
  refine At.v H rfl (wN rfl) rfl rfl rfl (x_eqSl (H.r 3 rfl) evC Try.underlying22) ?_; clear H; intro T H
  refine At.regionEnd ?_
  refine At.condF (H.r 4 rfl) ?_
  refine At.skip ?_
  refine At.seq ?_
  refine At.region' (l := [0, 1, 2, 3]) rfl ?_
  refine At.bs (n := 0) (L := ?l5_1) (e := ?e5_1) H rfl (wN rfl) rfl rfl rfl (x_bs0  ?r5_1) ?_
  case r5_1 => (simp [go_sem]; rfl)
  clear H; intro b5 T w H
  replace H := H.toRow (n := 0) (sz := 4) (e := 59) (by repeat (first | exact Take.here | apply Take.there)) rfl (by decide)
  refine At.v H rfl (wN rfl) rfl rfl rfl (x_move (H.r 0 rfl)) ?_; clear H; intro T H
  refine At.append H rfl (wN rfl) rfl rfl rfl (etW w0) (H.r 5 rfl) (H.r 6 rfl) (by repeat (first | exact Take.here | apply Take.there)) (H.extA (SlP.flat hP lenW) (by simp)) (flat_len lenW ws) (flat_one oneW ws) (by omega) ?_; clear H; intro A7 c7 T w hc7 hA7 H
  refine At.v H rfl (wN rfl) rfl rfl rfl (x_assign (H.r 7 rfl)) ?_; clear H; intro T H
  refine At.regionEnd ?_
  refine At.ret rfl ?_
  obtain ⟨g7, rfl⟩ := hA7 (by omega)
  simp only [Nat.zero_add, List.nil_append] at H
  exact lea Try.func43 (res1 Try.results43 (H.r 2 rfl)) (RetG.of H [.row (.slice (some ⟨g7, 0, none⟩) ws.length c7) 59 4 ws.length (ws.flatMap encW)] (by simp) (by simp [Ent.w, Ent.keys]) ⟨g7, c7, rfl, rfl⟩)
theorem delete42 {g n c i : Nat} {l : List Value} {w0 : World} (hrow : w0.ownsRow 0 59 4 (.slice (some ⟨g, 0, none⟩) n c) n l) (hi : i < n) (hn : n ≤ 1000) (h1 : ∀ u ∈ l, u.oneCell' = true) :
    Calls Try.prog 42 #[.slice (some ⟨g, 0, none⟩) n c, .int .i64 (i : Int), .int .i64 ((i + 1 : Nat) : Int)] w0
      (RetX w0 (.row (.slice (some ⟨g, 0, none⟩) n c) 59 4 n l) (.row (.slice (some ⟨g, 0, none⟩) (n - 1) c) 59 4 (n - 1) (l.take (i * 4) ++ l.drop ((i + 1) * 4))) (.slice (some ⟨g, 0, none⟩) (n - 1) c)) := by
  have hll : l.length = n * 4 := hrow.1
  refine enterG (args := [.slice (some ⟨g, 0, none⟩) n c, .int .i64 (i : Int), .int .i64 ((i + 1 : Nat) : Int)]) (S := [g]) (G := [.row (.slice (some ⟨g, 0, none⟩) n c) 59 4 n l]) Try.func42 rfl Try.ntmps42 rfl (fun x hx => (List.mem_singleton.1 hx) ▸ hrow) (by simp [Ent.keys, Value.ownBlock]) (by simp [Ent.keys, Value.ownBlock]) fun cs T H => ?_
  have hnc := H.rowCap (A := some ⟨g, 0, none⟩) (by repeat (first | exact List.mem_cons_self | apply List.mem_cons_of_mem))
  refine At.seq ?_
  refine At.region' (l := [0]) rfl ?_
  refine At.v H rfl (wN rfl) rfl rfl rfl (x_assign evC) ?_; clear H; intro T H
  refine At.regionEnd ?_
  refine At.seq ?_
  refine At.region' (l := [0, 1, 2, 3, 4, 5]) rfl ?_
  refine At.v H rfl (wN rfl) rfl rfl rfl (x_move (H.r 0 rfl)) ?_; clear H; intro T H
  refine At.v H rfl (wN rfl) rfl rfl rfl (x_move (H.r 1 rfl)) ?_; clear H; intro T H
  refine At.v H rfl (wN rfl) rfl rfl rfl (x_move (H.r 2 rfl)) ?_; clear H; intro T H
  refine At.v H rfl (wN rfl) rfl rfl rfl (x_move (H.r 0 rfl)) ?_; clear H; intro T H
  refine At.v H rfl (wN rfl) rfl rfl rfl (x_len (H.r 11 rfl) Try.runUnderlying22) ?_; clear H; intro T H
  refine At.v H rfl (wN rfl) rfl rfl rfl (x_sl3 (i := i) (j := i + 1) (m := n) (H.r 8 rfl) (H.r 9 rfl) (H.r 10 rfl) (H.r 12 rfl) Try.runUnderlying22 Try.sizeOf59 (by omega) (by omega) (by omega)) ?_; clear H; intro T H
  refine At.regionEnd ?_
  refine At.seq ?_
  refine At.seq ?_
  refine At.region' (l := [0, 1, 2]) rfl ?_
  refine At.v H rfl (wN rfl) rfl rfl rfl (x_move (H.r 1 rfl)) ?_; clear H; intro T H
  refine At.v H rfl (wN rfl) rfl rfl rfl (x_move (H.r 2 rfl)) ?_; clear H; intro T H
  refine At.c H rfl (wN rfl) rfl rfl rfl (x_eql (H.r 14 rfl) (H.r 15 rfl)) ?_ ?_
  · clear H; intro h16 T H
    exact absurd h16 (by omega)
  · clear H; intro h16 T H
    refine At.regionEnd ?_
    refine At.condF (H.r 16 rfl) ?_
    refine At.skip ?_
    refine At.seq ?_
    refine At.region' (l := [0, 1, 2]) rfl ?_
    refine At.v H rfl (wN rfl) rfl rfl rfl (x_move (H.r 0 rfl)) ?_; clear H; intro T H
    refine At.v H rfl (wN rfl) rfl rfl rfl (x_len (H.r 18 rfl) Try.runUnderlying22) ?_; clear H; intro T H
    refine At.v H rfl (wN rfl) rfl rfl rfl (x_assign (H.r 19 rfl)) ?_; clear H; intro T H
    refine At.regionEnd ?_
    refine At.seq ?_
    refine At.drawnC (m := 8) (L := #[false, false, false, false, false, false, false, false]) H mixed rfl rfl ?_; clear H; intro w H
    refine GA.v (i := 0) (L' := #[true, false, false, false, false, false, false, false]) H rfl (wN rfl) rfl rfl rfl (by kernel_rfl) rfl (fun w H => x_move (H.r 0 rfl)) ?_; clear H; intro T H
    refine GA.v (i := 1) (L' := #[true, true, false, false, false, false, false, false]) H rfl (wN rfl) rfl rfl rfl (by kernel_rfl) rfl (fun w H => x_move (H.r 1 rfl)) ?_; clear H; intro T H
    refine GA.v (i := 2) (L' := #[true, true, true, false, false, false, false, false]) H rfl (wN rfl) rfl rfl rfl (by kernel_rfl) rfl (fun w H => x_slHN (h := i) (H.r 20 rfl) (H.r 21 rfl) Try.runUnderlying22 Try.sizeOf59 (by omega)) ?_; clear H; intro T H
    refine GA.v (i := 3) (L' := #[true, true, true, true, false, false, false, false]) H rfl (wN rfl) rfl rfl rfl (by kernel_rfl) rfl (fun w H => x_move (H.r 0 rfl)) ?_; clear H; intro T H
    refine GA.v (i := 4) (L' := #[true, true, true, true, true, false, false, false]) H rfl (wN rfl) rfl rfl rfl (by kernel_rfl) rfl (fun w H => x_move (H.r 2 rfl)) ?_; clear H; intro T H
    refine GA.v (i := 5) (L' := #[true, true, true, true, true, true, false, false]) H rfl (wN rfl) rfl rfl rfl (by kernel_rfl) rfl (fun w H => x_slJ (j := i + 1) (H.r 23 rfl) (H.r 24 rfl) Try.runUnderlying22 Try.sizeOf59 (by omega) (by omega)) ?_; clear H; intro T H
    have hcl : CellsAt w g (if c = i + 1 then 0 else (i + 1) * 4) (l.drop ((i + 1) * 4)) := by
      intro j u hj
      rw [List.getElem?_drop] at hj
      have hlt := (List.getElem?_eq_some_iff.1 hj).1
      rw [if_neg (by omega)]
      exact H.rowCell (g := g) (by repeat (first | exact List.mem_cons_self | apply List.mem_cons_of_mem)) _ hj
    refine GA.appendRoom (i := 6) (L' := #[true, true, true, true, true, true, true, false]) (news := l.drop ((i + 1) * 4)) H rfl (wN rfl) rfl rfl rfl (by kernel_rfl) rfl (etW w0) (H.r 22 rfl) (H.r 25 rfl) (by repeat (first | exact Take.here | apply Take.there)) hcl (by rw [List.length_drop, hll]; omega) (fun u hu => h1 u (List.mem_of_mem_drop hu)) (by omega) ?_; clear H hcl; intro T w H
    rw [show i + (n - (i + 1)) = n - 1 by omega] at H
    refine GA.v (i := 7) (L' := #[true, true, true, true, true, true, true, true]) H rfl (wN rfl) rfl rfl rfl (by kernel_rfl) rfl (fun w H => x_assign (H.r 26 rfl)) ?_; clear H; intro T H
    refine GA.done (by kernel_rfl) ?_
    refine At.seq ?_
    refine At.region' (l := [0, 1, 2, 3, 4, 5]) rfl ?_
    refine At.v H rfl (wN rfl) rfl rfl rfl (x_move (H.r 0 rfl)) ?_; clear H; intro T H
    refine At.v H rfl (wN rfl) rfl rfl rfl (x_move (H.r 0 rfl)) ?_; clear H; intro T H
    refine At.v H rfl (wN rfl) rfl rfl rfl (x_len (H.r 28 rfl) Try.runUnderlying22) ?_; clear H; intro T H
    refine At.v H rfl (wN rfl) rfl rfl rfl (x_move (H.r 7 rfl)) ?_; clear H; intro T H
    refine At.v H rfl (wN rfl) rfl rfl rfl (x_slJH (j := n - 1) (h := n) (H.r 27 rfl) (H.r 29 rfl) (H.r 30 rfl) Try.runUnderlying22 Try.sizeOf59 (by omega) (by omega)) ?_; clear H; intro T H
    rw [show n - (n - 1) = 1 by omega] at H
    refine At.clear1 H rfl (wN rfl) rfl rfl (etW w0) Try.zeroValue59 (by kernel_rfl) (List.all_eq_true.1 rfl) (H.r 31 rfl) (q := n - 1) (cap := c) (by repeat (first | exact List.mem_cons_self | apply List.mem_cons_of_mem)) rfl (by omega) ?_; clear H; intro T w H
    refine At.regionEnd ?_
    refine At.seq ?_
    refine At.region' (l := [0, 1]) rfl ?_
    refine At.v H rfl (wN rfl) rfl rfl rfl (x_move (H.r 0 rfl)) ?_; clear H; intro T H
    refine At.v H rfl (wN rfl) rfl rfl rfl (x_assign (H.r 32 rfl)) ?_; clear H; intro T H
    refine At.regionEnd ?_
    refine At.ret rfl ?_
    exact lea Try.func42 (res1 Try.results42 (H.r 6 rfl)) ⟨rfl, by simpa [Ent.w, Value.ownBlock] using H.fr, H.ent _ (by simp)⟩
theorem collect {bp bi : Nat} {xs : List Nat} {Env : World → Prop} {w0 : World} (hI : IterC Try.prog 55 #[] #[.pointer (some ⟨bp, 0, none⟩), .pointer (some ⟨bi, 0, none⟩)] (intV xs) Env) (hE : ∀ w', Fr [] w0 w' → Env w') (hn : xs.length ≤ 1000) :
    Calls Try.prog 54 #[.slice none 0 0, .func (.func 55) #[] #[.pointer (some ⟨bp, 0, none⟩), .pointer (some ⟨bi, 0, none⟩)]] w0 (RetG w0 fun v E _ => ∃ A c, v = .slice A xs.length c ∧ E = [.row v 3 1 xs.length (intV xs)]) := by
  refine enter (args := [.slice none 0 0, .func (.func 55) #[] #[.pointer (some ⟨bp, 0, none⟩), .pointer (some ⟨bi, 0, none⟩)]]) (S := []) Try.func54 rfl Try.ntmps54 rfl fun cs T H => ?_
  refine At.seq ?_
  refine At.region' (l := [0, 1]) rfl ?_
  refine At.new H rfl (wN rfl) rfl rfl rfl (x_box (H.r 0 rfl) rfl) ?_; clear H; intro b2 T w _ _ H
  replace H := H.addNil 3 1
  refine At.v H rfl (wN rfl) rfl rfl rfl (x_assign evC) ?_; clear H; intro T H
  refine At.regionEnd ?_
  refine At.seq ?_
  refine At.seq ?_
  refine At.region' (l := [0]) rfl ?_
  refine At.v H rfl (wN rfl) rfl rfl rfl (x_move (H.r 1 rfl)) ?_; clear H; intro T H
  refine At.regionEnd ?_
  refine At.block ?_
  refine At.range H rfl (H.r 6 rfl) ⟨_, Try.func55, rfl, rfl⟩ rfl (hI) (fun k G' => ∃ A c, G' = [.row (.slice A k c) 3 1 k ((intV xs).take k), .blk b2 (Eo (.cells [.slice A k c].toArray 30 (0, 0)))]) (fun _ _ => False) ?_ ?_ ?_ ?_ ?_
  · exact ⟨none, 0, rfl⟩
  · intro kk G1 w1 hI1 H1
    exact hE _ H1.fr
  · clear H; intro d1 l1 kk x1 G1 T w c1 cs1 lo1 hlo hx1 hI1 H
    obtain ⟨A2, c2, rfl⟩ := hI1
    obtain ⟨m, hm, rfl⟩ := intV_inv hx1
    have hkk := (List.getElem?_eq_some_iff.1 hm).1
    have htk : (intV xs).take (kk + 1) = (intV xs).take kk ++ [.int .i64 (m : Int)] := by rw [List.take_add_one, hx1]; rfl
    refine At.region' (l := [0]) rfl ?_
    refine At.v H rfl (wN rfl) rfl rfl rfl (x_assign (H.r 7 rfl)) ?_; clear H; intro T H
    refine At.regionEnd ?_
    refine At.begR H hlo rfl ?_; clear H; intro w H
    refine At.block ?_
    refine At.region' (l := [0, 1, 2, 3, 4]) rfl ?_
    refine At.v H rfl (wN rfl) rfl rfl rfl (x_load (H.r 2 rfl) Try.isAgg30 (by first | exact H.cell (by repeat (first | exact List.mem_cons_self | apply List.mem_cons_of_mem)) _ rfl | exact H.cellR (by repeat (first | exact List.mem_cons_self | apply List.mem_cons_of_mem)) _ rfl)) ?_; clear H; intro T H
    refine At.v H rfl (wN rfl) rfl rfl rfl (x_move (H.r 5 rfl)) ?_; clear H; intro T H
    refine At.bs (n := 1) (L := ?l10_1) (e := ?e10_1) H rfl (wN rfl) rfl rfl rfl (x_bs1 (H.r 9 rfl) ?r10_1) ?_
    case r10_1 => (simp [go_sem]; rfl)
    clear H; intro b10 T w H
    refine At.append H rfl (wN rfl) rfl rfl rfl (etI w0) (H.r 8 rfl) (H.r 10 rfl) (by repeat (first | exact Take.here | apply Take.there)) (show CellsAt _ _ _ [.int .i64 (m : Int)] from H.cellsAt (n := 1) (by repeat (first | exact List.mem_cons_self | apply List.mem_cons_of_mem)) rfl) rfl (by simp [Value.oneCell']) (by omega) ?_; clear H; intro A11 c11 T w hc11 hA11 H
    refine At.store1 H rfl (wN rfl) rfl rfl (H.r 2 rfl) (H.r 11 rfl) Try.sizeOf30 rfl rfl (by repeat (first | exact Upd.here | apply Upd.there)) (by repeat (first | exact SetAt.z | apply SetAt.s)) ?_; clear H; intro T w _ H
    refine At.regionEnd ?_
    refine At.inBlock ?_
    rw [← htk] at H
    exact At.leaveN H hlo rfl rfl (by repeat (first | exact Picks.nil | exact Picks.all | refine Picks.cons (by repeat (first | exact Take.here | apply Take.there)) ?_ | apply Picks.skip)) ⟨_, _, rfl⟩
  · clear H; intro d1 G1 w hI1 H
    obtain ⟨A2, c2, rfl⟩ := hI1
    rw [intV_len] at H
    rw [List.take_of_length_le (by rw [intV_len]; exact Nat.le_refl _)] at H
    refine At.inBlock ?_
    refine At.seq ?_
    refine At.region' (l := [0, 1]) rfl ?_
    refine At.v H rfl (wN rfl) rfl rfl rfl (x_load (H.r 2 rfl) Try.isAgg30 (by first | exact H.cell (by repeat (first | exact List.mem_cons_self | apply List.mem_cons_of_mem)) _ rfl | exact H.cellR (by repeat (first | exact List.mem_cons_self | apply List.mem_cons_of_mem)) _ rfl)) ?_; clear H; intro T H
    refine At.v H rfl (wN rfl) rfl rfl rfl (x_assign (H.r 12 rfl)) ?_; clear H; intro T H
    refine At.regionEnd ?_
    refine At.ret rfl ?_
    exact Lea.coll1 H .all (fun w H => lea Try.func54 (res1 Try.results54 (H.r 4 rfl)) (RetG.of H [.row (.slice A2 xs.length c2) 3 1 xs.length (intV xs)] (by simp) (by simp [Ent.w, Ent.keys]) ⟨A2, c2, rfl, rfl⟩))
  · clear H; intro d1 c1 G1 w hI1 H
    exact hI1.elim
theorem collect44 {bp bi : Nat} {xs : List Nat} {Env : World → Prop} {w0 : World} (hI : IterC Try.prog 55 #[] #[.pointer (some ⟨bp, 0, none⟩), .pointer (some ⟨bi, 0, none⟩)] (intV xs) Env) (hE : ∀ w', Fr [] w0 w' → Env w') (hn : xs.length ≤ 1000) :
    Calls Try.prog 44 #[.func (.func 55) #[] #[.pointer (some ⟨bp, 0, none⟩), .pointer (some ⟨bi, 0, none⟩)]] w0 (RetG w0 fun v E _ => ∃ A c, v = .slice A xs.length c ∧ E = [.row v 3 1 xs.length (intV xs)]) := by
  refine enter (args := [.func (.func 55) #[] #[.pointer (some ⟨bp, 0, none⟩), .pointer (some ⟨bi, 0, none⟩)]]) (S := []) Try.func44 rfl Try.ntmps44 rfl fun cs T H => ?_
  refine At.seq ?_
  refine At.region' (l := [0]) rfl ?_
  refine At.v H rfl (wN rfl) rfl rfl rfl (x_assign evC) ?_; clear H; intro T H
  refine At.regionEnd ?_
  refine At.seq ?_
  refine At.region' (l := [0, 1, 2]) rfl ?_
  refine At.v H rfl (wN rfl) rfl rfl rfl (x_move (H.r 0 rfl)) ?_; clear H; intro T H
  refine At.fG H rfl (wN rfl) rfl rfl rfl (args2 evC (H.r 3 rfl)) Try.call54 (collect hI (fun w2 h2 => hE w2 (H.fr.trans0 h2)) hn) ?_; clear H; rintro v4 E4 T w ⟨A4, c4, rfl, rfl⟩ _ H
  refine At.v H rfl (wN rfl) rfl rfl rfl (x_assign (H.r 4 rfl)) ?_; clear H; intro T H
  refine At.regionEnd ?_
  refine At.ret rfl ?_
  exact lea Try.func44 (res1 Try.results44 (H.r 2 rfl)) (RetG.of H [.row (.slice A4 xs.length c4) 3 1 xs.length (intV xs)] (by simp) (by simp [Ent.w, Ent.keys]) ⟨A4, c4, rfl, rfl⟩)
/-- where it is: -1: nowhere -/
def indexI (xs : List Int) (x : Int) : Int := match (List.range xs.length).find? (fun i => xs[i]? = some x) with | some i => (i : Int) | none => -1
theorem index58 {v : Value} {xs : List Int} {w0 : World} (hS : Sl encI 1 w0 v xs) (x : Int) (hn : xs.length ≤ 1000) : Calls Try.prog 58 #[v, .int .i64 x] w0 (Ret w0 fun r _ => r = .int .i64 (indexI xs x)) := by
  obtain ⟨A, cap, bk, off, rfl, hP⟩ := hS
  refine enter (args := [.slice A xs.length cap, .int .i64 x]) (S := []) Try.func58 rfl Try.ntmps58 rfl fun cs T H => ?_
  refine At.seq ?_
  refine At.region' (l := [0]) rfl ?_
  refine At.v H rfl (wN rfl) rfl rfl rfl (x_assign evC) ?_; clear H; intro T H
  refine At.regionEnd ?_
  refine At.seq ?_
  refine At.seq ?_
  refine At.region' (l := [0, 1, 2]) rfl ?_
  refine At.v H rfl (wN rfl) rfl rfl rfl (x_move (H.r 0 rfl)) ?_; clear H; intro T H
  refine At.v H rfl (wN rfl) rfl rfl rfl (x_len (H.r 6 rfl) Try.runUnderlying30) ?_; clear H; intro T H
  refine At.v H rfl (wN rfl) rfl rfl rfl (x_move evC) ?_; clear H; intro T H
  refine At.regionEnd ?_
  refine At.block ?_
  refine At.loopN (fun m T w => ∃ k : Nat, m = xs.length - k ∧ k ≤ xs.length ∧ ((List.range xs.length).take k).find? (fun i => xs[i]? = some x) = none ∧ Sx w0 [] 19 [(8, .int .i64 (k : Int)), (7, .int .i64 (xs.length : Int)), (1, .int .i64 x), (0, .slice A xs.length cap)] [] T w) (xs.length) ?_ ?_
  · exact ⟨0, rfl, Nat.zero_le _, by simp, H.sub ⟨rfl, rfl, rfl, rfl, trivial⟩⟩
  · clear H
    rintro n T w ⟨k, rfl, hk, hN, H⟩ hnext
    refine At.seq ?_
    refine At.region' (l := [0]) rfl ?_
    refine At.c H rfl (wN rfl) rfl rfl rfl (x_lss (H.r 8 rfl) (H.r 7 rfl)) ?_ ?_
    · clear H; intro h9 T H
      have hk1 : k < xs.length := by omega
      have hy := List.getElem?_eq_getElem hk1
      generalize xs[k] = y at hy
      have hA := hP.addr (fun e => by simp [e] at hk1)
      subst hA
      refine At.regionEnd ?_
      refine At.seq ?_
      refine At.condT (H.r 9 rfl) ?_
      refine At.skip ?_
      refine At.seq ?_
      refine At.block ?_
      refine At.seq ?_
      refine At.region' (l := [0, 1]) rfl ?_
      refine At.v H rfl (wN rfl) rfl rfl rfl (x_move (H.r 8 rfl)) ?_; clear H; intro T H
      refine At.v H rfl (wN rfl) rfl rfl rfl (x_assign (H.r 10 rfl)) ?_; clear H; intro T H
      refine At.regionEnd ?_
      refine At.seq ?_
      refine At.region' (l := [0, 1, 2, 3, 4, 5]) rfl ?_
      refine At.v H rfl (wN rfl) rfl rfl rfl (x_move (H.r 1 rfl)) ?_; clear H; intro T H
      refine At.v H rfl (wN rfl) rfl rfl rfl (x_move (H.r 0 rfl)) ?_; clear H; intro T H
      refine At.v H rfl (wN rfl) rfl rfl rfl (x_move (H.r 5 rfl)) ?_; clear H; intro T H
      refine At.v H rfl (wN rfl) rfl rfl rfl (x_ixSN (H.r 12 rfl) (H.r 13 rfl) Try.runUnderlying30 Try.sizeOf3 (by omega)) ?_; clear H; intro T H
      refine At.v H rfl (wN rfl) rfl rfl rfl (x_load (H.r 14 rfl) Try.isAgg3 (H.ext (hP.cell k y hy 0 _ rfl) (by simp))) ?_; clear H; intro T H
      refine At.c H rfl (wN rfl) rfl rfl rfl (x_eql (H.r 11 rfl) (H.r 15 rfl)) ?_ ?_
      · clear H; intro h16 T H
        have hG : indexI xs x = (k : Int) := by rw [indexI, find_some_of hN (range_at hk1) (by rw [hy, h16]; simp)]
        refine At.regionEnd ?_
        refine At.condT (H.r 16 rfl) ?_
        refine At.seq ?_
        refine At.region' (l := [0, 1]) rfl ?_
        refine At.v H rfl (wN rfl) rfl rfl rfl (x_move (H.r 5 rfl)) ?_; clear H; intro T H
        refine At.v H rfl (wN rfl) rfl rfl rfl (x_assign (H.r 17 rfl)) ?_; clear H; intro T H
        refine At.regionEnd ?_
        refine At.ret rfl ?_
        exact lea Try.func58 (res1 Try.results58 (H.r 4 rfl)) (Ret.mk H.fr (by rw [hG]))
      · clear H; intro h16 T H
        refine At.regionEnd ?_
        refine At.condF (H.r 16 rfl) ?_
        refine At.skip ?_
        refine At.inBlock ?_
        refine At.region' (l := [0, 1]) rfl ?_
        refine At.v H rfl (wN rfl) rfl rfl rfl (x_add (H.r 8 rfl) evC (w64 (by omega) (by omega))) ?_; clear H; intro T H
        refine At.v H rfl (wN rfl) rfl rfl rfl (x_move (H.r 18 rfl)) ?_; clear H; intro T H
        refine At.regionEnd ?_
        exact hnext (xs.length - (k + 1)) _ _ (by omega) ⟨k + 1, rfl, by omega, find_none_succ hN (range_at hk1) (by rw [hy]; simpa using fun e : y = x => h16 e.symm), H.sub ⟨rfl, rfl, rfl, rfl, trivial⟩⟩
    · clear H; intro h9 T H
      rw [List.take_of_length_le (by simp; omega)] at hN
      have hG : indexI xs x = -1 := by rw [indexI, hN]
      refine At.regionEnd ?_
      refine At.seq ?_
      refine At.condF (H.r 9 rfl) ?_
      refine At.exit rfl ?_
      refine At.seq ?_
      refine At.region' (l := [0]) rfl ?_
      refine At.v H rfl (wN rfl) rfl rfl rfl (x_assign evC) ?_; clear H; intro T H
      refine At.regionEnd ?_
      refine At.ret rfl ?_
      exact lea Try.func58 (res1 Try.results58 (H.r 4 rfl)) (Ret.mk H.fr (by rw [hG]))
theorem contains49 {v : Value} {xs : List Int} {w0 : World} (hS : Sl encI 1 w0 v xs) (x : Int) (hn : xs.length ≤ 1000) : Calls Try.prog 49 #[v, .int .i64 x] w0 (Ret w0 fun r _ => r = .bool (decide (0 ≤ indexI xs x))) := by
  refine enter (args := [v, .int .i64 x]) (S := []) Try.func49 rfl Try.ntmps49 rfl fun cs T H => ?_
  refine At.seq ?_
  refine At.region' (l := [0]) rfl ?_
  refine At.v H rfl (wN rfl) rfl rfl rfl (x_assign evC) ?_; clear H; intro T H
  refine At.regionEnd ?_
  refine At.seq ?_
  refine At.region' (l := [0, 1, 2, 3, 4]) rfl ?_
  refine At.v H rfl (wN rfl) rfl rfl rfl (x_move (H.r 0 rfl)) ?_; clear H; intro T H
  refine At.v H rfl (wN rfl) rfl rfl rfl (x_move (H.r 1 rfl)) ?_; clear H; intro T H
  refine At.f0 H rfl (wN rfl) rfl rfl rfl (args2 (H.r 5 rfl) (H.r 6 rfl)) Try.call58 (index58 (hS.fr0 H.fr) x hn) ?_; clear H; rintro v7 T w rfl _ H
  refine At.v H rfl (wN rfl) rfl rfl rfl (x_geq (H.r 7 rfl) evC) ?_; clear H; intro T H
  refine At.v H rfl (wN rfl) rfl rfl rfl (x_assign (H.r 8 rfl)) ?_; clear H; intro T H
  refine At.regionEnd ?_
  refine At.ret rfl ?_
  exact lea Try.func49 (res1 Try.results49 (H.r 4 rfl)) (Ret.mk H.fr rfl)
theorem for1 {b1 : Nat} {x : Int} {w : World} (h1 : w.cell? ⟨b1, 0, none⟩ = some (.int .i64 x)) (m : Nat) : Calls Try.prog 46 #[.int .i64 (m : Int), .pointer (some ⟨b1, 0, none⟩)] w (Ret w fun v _ => v = .bool (decide ((m : Int) ≠ x))) := by
  refine enter (args := [.int .i64 (m : Int), .pointer (some ⟨b1, 0, none⟩)]) (S := []) Try.func46 rfl Try.ntmps46 rfl fun cs T H => ?_
  refine At.seq ?_
  refine At.region' (l := [0]) rfl ?_
  refine At.v H rfl (wN rfl) rfl rfl rfl (x_assign evC) ?_; clear H; intro T H
  refine At.regionEnd ?_
  refine At.seq ?_
  refine At.region' (l := [0, 1, 2, 3]) rfl ?_
  refine At.v H rfl (wN rfl) rfl rfl rfl (x_move (H.r 0 rfl)) ?_; clear H; intro T H
  refine At.v H rfl (wN rfl) rfl rfl rfl (x_load (H.r 1 rfl) Try.isAgg3 (H.ext h1 (by simp))) ?_; clear H; intro T H
  refine At.v H rfl (wN rfl) rfl rfl rfl (x_neq (H.r 4 rfl) (H.r 5 rfl)) ?_; clear H; intro T H
  refine At.v H rfl (wN rfl) rfl rfl rfl (x_assign (H.r 6 rfl)) ?_; clear H; intro T H
  refine At.regionEnd ?_
  refine At.ret rfl ?_
  exact lea Try.func46 (res1 Try.results46 (H.r 3 rfl)) (Ret.mk H.fr rfl)
end Go.Proofs.Pz
end
section
set_option linter.unusedVariables false
namespace Go.Proofs.Pz
open Go.Sx
/-! ### without somebody -/
def decP (p : Int) (m : Wi) : Wi := if p < m.place then { m with place := m.place - 1 } else m
def lessMen (men : List Wi) (i : Nat) : List Wi := (men.eraseIdx i).map (decP (placeAt men i))
def lessTo (men : List Wi) (i k : Nat) : List Wi := ((men.eraseIdx i).take k).map (decP (placeAt men i)) ++ (men.eraseIdx i).drop k
def atOf (i k : Nat) : Nat := if i ≤ k then k + 1 else k
def stayTo (now then_ : List Int) (i k : Nat) : Nat := (List.range k).foldl (fun acc j => if now[atOf i j]?.getD 0 < then_[j]?.getD 0 then acc ||| 2 ^ atOf i j else acc) 0
def stayL (men : List Wi) (list : List Zi) (i : Nat) : Nat := if men.length = 1 then 0 else stayTo (worthsL men list (dueL men list)) (worthsL (lessMen men i) list (dueL (lessMen men i) list)) i (men.length - 1)

theorem stayTo_succ (now then_ : List Int) (i k : Nat) : stayTo now then_ i (k + 1) = if now[atOf i k]?.getD 0 < then_[k]?.getD 0 then stayTo now then_ i k ||| 2 ^ atOf i k else stayTo now then_ i k := by
  unfold stayTo
  rw [List.range_succ, List.foldl_append]
  rfl
theorem stayTo_lt (now then_ : List Int) (i k : Nat) (h : k ≤ 7) : stayTo now then_ i k < 2 ^ 8 := by
  induction k with
  | zero => simp [stayTo]
  | succ k ih =>
    have ih := ih (by omega)
    rw [stayTo_succ]
    split
    · refine Nat.or_lt_two_pow ih ?_
      have : atOf i k < 8 := by unfold atOf; split <;> omega
      exact Nat.pow_lt_pow_right (by omega) this
    · exact ih
theorem er_len {men : List Wi} {i : Nat} (h : i < men.length) : (men.eraseIdx i).length = men.length - 1 := by rw [List.length_eraseIdx, if_pos h]
theorem lessMen_len {men : List Wi} {i : Nat} (h : i < men.length) : (lessMen men i).length = men.length - 1 := by rw [lessMen, List.length_map, er_len h]
theorem lessTo_zero (men : List Wi) (i : Nat) : lessTo men i 0 = men.eraseIdx i := by simp [lessTo]
theorem lessTo_end {men : List Wi} {i : Nat} (h : i < men.length) : lessTo men i (men.length - 1) = lessMen men i := by
  rw [lessTo, ← er_len h, List.take_length, List.drop_length, List.append_nil]; rfl
theorem lessTo_len {men : List Wi} {i k : Nat} : (lessTo men i k).length = (men.eraseIdx i).length := by
  simp only [lessTo, List.length_append, List.length_map, List.length_take, List.length_drop]; omega
theorem lessTo_at {men : List Wi} {i k : Nat} {y : Wi} (h : (men.eraseIdx i)[k]? = some y) : (lessTo men i k)[k]? = some y := by
  have hlt := (List.getElem?_eq_some_iff.1 h).1
  rw [lessTo, List.getElem?_append_right (by rw [List.length_map, List.length_take]; omega), List.length_map, List.length_take, List.getElem?_drop, ← h]
  congr 1
  omega
theorem lessTo_succ {men : List Wi} {i k : Nat} {y : Wi} (h : (men.eraseIdx i)[k]? = some y) : lessTo men i (k + 1) = (lessTo men i k).set k (decP (placeAt men i) y) := by
  have hlt := (List.getElem?_eq_some_iff.1 h).1
  have hd : (men.eraseIdx i).drop k = y :: (men.eraseIdx i).drop (k + 1) := by
    have h2 := (List.getElem?_eq_some_iff.1 h).2
    rw [← h2, List.getElem_cons_drop]
  rw [lessTo, lessTo, List.take_add_one, h, hd, List.set_append_right _ _ (by rw [List.length_map, List.length_take]; omega), List.length_map, List.length_take, show k - min k (men.eraseIdx i).length = 0 by omega]
  simp
theorem flatW_at {xs : List Wi} {k : Nat} {x : Wi} (h : xs[k]? = some x) : ∀ j u, (encW x)[j]? = some u → (xs.flatMap encW)[k * 4 + j]? = some u := by
  induction xs generalizing k with
  | nil => simp at h
  | cons y r ih =>
    intro j u hj
    have hj4 : j < 4 := (List.getElem?_eq_some_iff.1 hj).1
    rw [List.flatMap_cons]
    cases k with
    | zero =>
      simp only [List.getElem?_cons_zero, Option.some.injEq] at h
      subst h
      rw [Nat.zero_mul, Nat.zero_add, List.getElem?_append_left (by exact hj4), hj]
    | succ k =>
      rw [List.getElem?_append_right (by show 4 ≤ _; omega), show (k + 1) * 4 + j - (encW y).length = k * 4 + j by show (k + 1) * 4 + j - 4 = _; omega]
      exact ih (by simpa using h) j u hj
theorem flatW_set {xs : List Wi} {k : Nat} {x : Wi} (h : xs[k]? = some x) (p : Int) : (xs.flatMap encW).set (k * 4) (.int .i64 p) = (xs.set k { x with place := p }).flatMap encW := by
  induction xs generalizing k with
  | nil => simp at h
  | cons y r ih =>
    cases k with
    | zero =>
      simp only [List.getElem?_cons_zero, Option.some.injEq] at h
      subst h
      simp [encW]
    | succ k =>
      rw [List.flatMap_cons, List.set_cons_succ, List.flatMap_cons, List.set_append_right _ _ (by show 4 ≤ _; omega), show (k + 1) * 4 - (encW y).length = k * 4 by show (k + 1) * 4 - 4 = _; omega, ih (by simpa using h)]
theorem flatW_len (xs : List Wi) : (xs.flatMap encW).length = xs.length * 4 := by
  induction xs with
  | nil => rfl
  | cons x r ih => rw [List.flatMap_cons, List.length_append, ih, List.length_cons]; show 4 + _ = _; omega
theorem flatW_take (xs : List Wi) (i : Nat) : (xs.flatMap encW).take (i * 4) = (xs.take i).flatMap encW := by
  induction xs generalizing i with
  | nil => simp
  | cons x r ih =>
    cases i with
    | zero => simp
    | succ i =>
      rw [List.flatMap_cons, List.take_succ_cons, List.flatMap_cons, ← ih, List.take_append, List.take_of_length_le (by show 4 ≤ _; omega)]
      congr 2
      show (i + 1) * 4 - 4 = _
      omega
theorem flatW_drop (xs : List Wi) (i : Nat) : (xs.flatMap encW).drop (i * 4) = (xs.drop i).flatMap encW := by
  induction xs generalizing i with
  | nil => simp
  | cons x r ih =>
    cases i with
    | zero => simp
    | succ i =>
      rw [List.flatMap_cons, List.drop_succ_cons, ← ih, List.drop_append, List.drop_eq_nil_of_le (by show 4 ≤ _; omega), List.nil_append]
      congr 1
      show (i + 1) * 4 - 4 = _
      omega
theorem flatW_erase (xs : List Wi) (i : Nat) : (xs.flatMap encW).take (i * 4) ++ (xs.flatMap encW).drop ((i + 1) * 4) = (xs.eraseIdx i).flatMap encW := by
  rw [flatW_take, flatW_drop, List.eraseIdx_eq_take_drop_succ, List.flatMap_append]

theorem find_mem {l : List Nat} {q : Nat → Bool} {m : Nat} (h : l.find? q = some m) : m ∈ l := List.mem_of_find?_eq_some h
theorem givesP_mem {men : List Wi} {p : Nat → Bool} {f : Int} {m : Nat} (h : givesP men p f = some m) : m ∈ ord men ∧ p m = true ∧ canAt men f m = true := by
  unfold givesP at h
  have h1 := find_mem h
  have h2 := List.find?_some h
  rw [List.mem_filter] at h1
  exact ⟨h1.1, h1.2, h2⟩
theorem givesC_mem {men : List Wi} {best : Int × Int} {p : Nat → Bool} {f : Int} {m : Nat} (h : givesC men best p f = some m) : m ∈ ord men ∧ p m = true ∧ canAt men f m = true := by
  unfold givesC at h
  split at h
  · exact givesP_mem h
  · split at h
    · cases h
    · have := givesP_mem h
      simp only [Bool.and_eq_true] at this
      exact ⟨this.1, this.2.1.1, this.2.2⟩
theorem dueL_lt {men : List Wi} {list : List Zi} (hv : Valid men list) : ∀ m, some m ∈ dueL men list → m < men.length := by
  have key : ∀ k, k ≤ list.length → ∀ m, some m ∈ dueL men (list.take k) → m < men.length := by
    intro k
    induction k with
    | zero => intro _ m hm; simp [dueL] at hm
    | succ k ih =>
      intro hk m hm
      rw [dueL_succ (List.getElem?_eq_getElem (by omega)), List.mem_append] at hm
      rcases hm with hm | hm
      · exact ih (by omega) m hm
      · simp only [List.mem_singleton] at hm
        obtain ⟨mi, h1, _⟩ := hv.ord_mem (givesC_mem hm.symm).1
        exact h1
  intro m hm
  have := key list.length (Nat.le_refl _) m
  rw [List.take_length] at this
  exact this hm
theorem Valid.less {men : List Wi} {list : List Zi} (hv : Valid men list) {i : Nat} (hi : i < men.length) (h2 : 2 ≤ men.length) : Valid (lessMen men i) list := by
  have hmi := List.getElem?_eq_getElem hi
  generalize hm : men[i] = mi at hmi
  have hp : placeAt men i = mi.place := by simp [placeAt, hmi]
  have hpl := hv.place mi (List.mem_of_getElem? hmi)
  have hsub : (men.eraseIdx i).Sublist men := List.eraseIdx_sublist _ _
  have hnd : ((men.eraseIdx i).map (·.place)).Nodup := (hsub.map _).nodup hv.nd
  have hnot : ∀ m ∈ men.eraseIdx i, m.place ≠ mi.place := by
    intro m hm' e
    have hn := hv.nd
    have hsplit : men = men.take i ++ mi :: men.drop (i + 1) := by
      rw [← hm, List.getElem_cons_drop, List.take_append_drop]
    rw [hsplit, List.map_append, List.map_cons, List.nodup_append, List.nodup_cons] at hn
    rw [List.eraseIdx_eq_take_drop_succ, List.mem_append] at hm'
    rcases hm' with h | h
    · exact hn.2.2 m.place (List.mem_map.2 ⟨m, h, rfl⟩) mi.place (by simp) e
    · exact hn.2.1.1 (List.mem_map.2 ⟨m, h, e⟩)
  have hlen := lessMen_len hi
  refine ⟨by omega, by have := hv.n8; omega, hv.l6, ?_, ?_, ?_, hv.prize⟩
  · intro m hm'
    obtain ⟨m0, h0, rfl⟩ := List.mem_map.1 hm'
    have h1 := hv.place m0 (hsub.subset h0)
    have h3 := hnot m0 h0
    rw [hlen, hp]
    unfold decP
    split
    · simp only; omega
    · omega
  · intro m hm'
    obtain ⟨m0, h0, rfl⟩ := List.mem_map.1 hm'
    have h1 := hv.club m0 (hsub.subset h0)
    unfold decP
    split <;> exact h1
  · rw [lessMen, List.map_map]
    have hmap : (men.eraseIdx i).map ((·.place) ∘ decP (placeAt men i)) = ((men.eraseIdx i).map (·.place)).map (fun q => if mi.place < q then q - 1 else q) := by
      rw [List.map_map]
      apply List.map_congr_left
      intro m _
      simp only [Function.comp, decP, hp]
      split <;> rfl
    rw [hmap]
    have hne : ∀ q ∈ (men.eraseIdx i).map (·.place), q ≠ mi.place := by
      intro q hq
      obtain ⟨m, h0, rfl⟩ := List.mem_map.1 hq
      exact hnot m h0
    generalize (men.eraseIdx i).map (·.place) = l at hnd hne
    clear hmap
    induction l with
    | nil => simp
    | cons q r ih =>
      rw [List.nodup_cons] at hnd
      rw [List.map_cons, List.nodup_cons]
      refine ⟨?_, ih hnd.2 (fun x hx => hne x (by simp [hx]))⟩
      intro hmem
      obtain ⟨q', hq', e⟩ := List.mem_map.1 hmem
      have h1 := hne q (by simp)
      have h3 := hne q' (by simp [hq'])
      have : q' = q := by split at e <;> split at e <;> omega
      exact hnd.1 (this ▸ hq')
end Go.Proofs.Pz
end
section
namespace Go.Sx
open Go.RowKit
section
variable {P : Program} {w : World} {ρ : Operand → Value} {d : Option Tmp} {ty : TypeId} {pos : String} {af : Array Edge} {g : Option (Nat × Bool)}

theorem wrapN {n : Nat} (h : n < 9223372036854775808) : IntKind.i64.wrap (n : Int) = (n : Int) := w64 (by omega) (by omega)
theorem x_orN {t u : TypeId} {x y : Operand} {a b : Nat} (hx : ρ x = .int .i64 (a : Int)) (hy : ρ y = .int .i64 (b : Int)) (ha : a < 2 ^ 62) (hb : b < 2 ^ 62) :
    (execOp ρ ⟨d, .binOp .or t x y u, ty, pos, af, g⟩).run P w = .ok (.value (.int .i64 ((a ||| b : Nat) : Int))) w := by
  have h1 : (BitVec.ofInt 64 (a : Int) ||| BitVec.ofInt 64 (b : Int)).toNat = a ||| b := by
    rw [BitVec.toNat_or, BitVec.toNat_ofInt, BitVec.toNat_ofInt]
    have e1 : ((a : Int) % ((2 ^ 64 : Nat) : Int)).toNat = a := by omega
    have e2 : ((b : Int) % ((2 ^ 64 : Nat) : Int)).toNat = b := by omega
    rw [e1, e2]
  have h2 : a ||| b < 2 ^ 62 := Nat.or_lt_two_pow ha hb
  have h3 : IntKind.i64.wrap ((a ||| b : Nat) : Int) = ((a ||| b : Nat) : Int) := wrapN (by omega)
  have h4 : Op.intBits .or .i64 (a : Int) (b : Int) = pure (.int .i64 (IntKind.i64.wrap ((BitVec.ofInt 64 (a : Int) ||| BitVec.ofInt 64 (b : Int)).toNat : Int))) := rfl
  simp only [execOp, hx, hy, eqGuard, binOp, h4, h1, h3]
  simp
theorem x_andN {t u : TypeId} {x y : Operand} {a b : Nat} (hx : ρ x = .int .i64 (a : Int)) (hy : ρ y = .int .i64 (b : Int)) (ha : a < 2 ^ 62) (hb : b < 2 ^ 62) :
    (execOp ρ ⟨d, .binOp .and t x y u, ty, pos, af, g⟩).run P w = .ok (.value (.int .i64 ((a &&& b : Nat) : Int))) w := by
  have h1 : (BitVec.ofInt 64 (a : Int) &&& BitVec.ofInt 64 (b : Int)).toNat = a &&& b := by
    rw [BitVec.toNat_and, BitVec.toNat_ofInt, BitVec.toNat_ofInt]
    have e1 : ((a : Int) % ((2 ^ 64 : Nat) : Int)).toNat = a := by omega
    have e2 : ((b : Int) % ((2 ^ 64 : Nat) : Int)).toNat = b := by omega
    rw [e1, e2]
  have h2 : a &&& b < 2 ^ 62 := Nat.and_lt_two_pow a hb
  have h3 : IntKind.i64.wrap ((a &&& b : Nat) : Int) = ((a &&& b : Nat) : Int) := wrapN (by omega)
  have h4 : Op.intBits .and .i64 (a : Int) (b : Int) = pure (.int .i64 (IntKind.i64.wrap ((BitVec.ofInt 64 (a : Int) &&& BitVec.ofInt 64 (b : Int)).toNat : Int))) := rfl
  simp only [execOp, hx, hy, eqGuard, binOp, h4, h1, h3]
  simp
theorem x_shlN {t u : TypeId} {x y : Operand} {a n : Nat} {q : IntKind} (hx : ρ x = .int .i64 (a : Int)) (hy : ρ y = .int q (n : Int)) (hn : n < 64) (hz : a * 2 ^ n < 9223372036854775808) :
    (execOp ρ ⟨d, .binOp .shl t x y u, ty, pos, af, g⟩).run P w = .ok (.value (.int .i64 ((a * 2 ^ n : Nat) : Int))) w := by
  have h3 : IntKind.i64.wrap ((a * 2 ^ n : Nat) : Int) = ((a * 2 ^ n : Nat) : Int) := wrapN hz
  have hb : IntKind.i64.bits = 64 := rfl
  have hm : min n 64 = n := by omega
  have hcast : (a : Int) * 2 ^ n = ((a * 2 ^ n : Nat) : Int) := by simp
  simp [execOp, hx, hy, eqGuard, binOp, Op.shift, hb, hm, show ¬ ((n : Int) < 0) by omega]
  rw [hcast, h3]
theorem x_shrN {t u : TypeId} {x y : Operand} {a n : Nat} {q : IntKind} (hx : ρ x = .int .i64 (a : Int)) (hy : ρ y = .int q (n : Int)) (hn : n < 64) :
    (execOp ρ ⟨d, .binOp .shr t x y u, ty, pos, af, g⟩).run P w = .ok (.value (.int .i64 ((a / 2 ^ n : Nat) : Int))) w := by
  have hb : IntKind.i64.bits = 64 := rfl
  have hm : min n 64 = n := by omega
  have hf : Int.fdiv (a : Int) (2 ^ n) = ((a / 2 ^ n : Nat) : Int) := by
    rw [Int.fdiv_eq_ediv_of_nonneg _ (by have := Int.pow_nonneg (n := 2) (m := n) (by omega); exact this)]
    simp
  simp [execOp, hx, hy, eqGuard, binOp, Op.shift, hb, hm, show ¬ ((n : Int) < 0) by omega, hf]
theorem x_remN {t u : TypeId} {x y : Operand} {a b : Nat} (hx : ρ x = .int .i64 (a : Int)) (hy : ρ y = .int .i64 (b : Int)) (hb : 0 < b) :
    (execOp ρ ⟨d, .binOp .rem t x y u, ty, pos, af, g⟩).run P w = .ok (.value (.int .i64 ((a % b : Nat) : Int))) w := by
  have h0 : ¬ ((b : Int) = 0) := by omega
  have hm : Int.tmod (a : Int) (b : Int) = ((a % b : Nat) : Int) := rfl
  simp [execOp, hx, hy, eqGuard, binOp, Op.intDiv, hm]
  intro h; omega
end
end Go.Sx
end
section
namespace Go.Sx
open Go.RowKit
theorem Sx.rowP {α : Type} {enc : α → List Value} {w0 w : World} {S : List Nat} {N : Nat} {R : List (Nat × Value)} {G : List Ent} {T : Array Value} (H : Sx w0 S N R G T w) {g c : Nat} {e : TypeId} {sz m : Nat} {xs : List α} {l : List Value} (h : Ent.row (.slice (some ⟨g, 0, none⟩) m c) e sz m l ∈ G) (hlen : ∀ x, (enc x).length = sz) (hm : m = xs.length) (hl : l = xs.flatMap enc) : SlP enc sz w (some ⟨g, 0, none⟩) c g 0 xs := by
  have hc := H.rowCap h
  subst hm hl
  refine ⟨hc, fun _ => rfl, fun i x hx j u hj => ?_⟩
  obtain ⟨A, cap, bk, off, h1, hP⟩ := H.rowSl (enc := enc) h hlen rfl rfl
  simp only [Value.slice.injEq] at h1
  obtain ⟨h2, _, _⟩ := h1
  have hne : xs ≠ [] := fun e => by simp [e] at hx
  have ha := hP.addr hne
  rw [← h2] at ha
  simp only [Option.some.injEq, Addr.mk.injEq] at ha
  obtain ⟨rfl, rfl, _⟩ := ha
  exact hP.cell i x hx j u hj
end Go.Sx
namespace Go.Sx
theorem Sx.rowAt {w0 w : World} {S : List Nat} {N : Nat} {R : List (Nat × Value)} {G : List Ent} {T : Array Value} (H : Sx w0 S N R G T w) {v : Value} {e : TypeId} {sz m : Nat} {l : List Value} (h : Ent.row v e sz m l ∈ G) : w.ownsRow 0 e sz v m l := H.ent _ h
theorem get_ex {α : Type} {l : List α} {k : Nat} (h : k < l.length) : ∃ y, l[k]? = some y := ⟨_, List.getElem?_eq_getElem h⟩
end Go.Sx
end
section
namespace Go.Proofs.Pz
open Go.Sx Go.RowKit
set_option linter.unusedVariables false
namespace AF
theorem fa25_0 (a : Addr) (w : World) : (Instr.fieldAt 25 (.pointer (some a)) 0).run Try.prog w = .ok (.pointer (some (a.add 0))) w := by simp [go_sem]
theorem fa59_0 (a : Addr) (w : World) : (Instr.fieldAt 59 (.pointer (some a)) 0).run Try.prog w = .ok (.pointer (some (a.add 0))) w := by simp [go_sem]
end AF
open AF
theorem Op.mk2 {AM AL : Option Addr} {cM bM oM cL bL oL : Nat} {men : List Wi} {list : List Zi} {bp mw : Nat} {w : World} (h1 : w.heap[bp]? = some (.cells (pzCells AM men.length cM AL list.length cL mw (atL men)).toArray 80 (0, 0))) (h2 : w.heap[mw]? = some whoObj)
    (hM : SlP encW 4 w AM cM bM oM men) (hL : SlP encZ 2 w AL cL bL oL list) : Op w bp men list := ⟨AM, cM, bM, oM, AL, cL, bL, oL, mw, h1, h2, hM, hL⟩
theorem Stay {AM AL : Option Addr} {cM bM oM cL bL oL : Nat} {men : List Wi} {list : List Zi} {w0 : World} (hM : SlP encW 4 w0 AM cM bM oM men) (hL : SlP encZ 2 w0 AL cL bL oL list) (hv : Valid men list) {i : Nat} (hi : i < men.length) : Calls Try.prog 20 #[(.agg #[(.slice AM men.length cM), (.slice AL list.length cL)]), .int .i64 (i : Int)] w0 (Ret w0 fun v _ => v = .tuple #[.int .i64 (stayL men list i : Int), .int .i64 0]) := by
  have hl6 := hv.l6
  have hn8 := hv.n8
  have hmi := List.getElem?_eq_getElem hi
  generalize men[i] = mi at hmi
  have hpa : placeAt men i = mi.place := by simp [placeAt, hmi]
  have hne : men ≠ [] := fun e => by simp [e] at hi
  have hA := hM.addr hne
  refine enter (args := [(.agg #[(.slice AM men.length cM), (.slice AL list.length cL)]), .int .i64 (i : Int)]) (S := []) Try.func20 rfl Try.ntmps20 rfl fun cs T H => ?_
  refine At.seq ?_
  refine At.region' (l := [0, 1, 2]) rfl ?_
  refine At.new H rfl (wN rfl) rfl rfl rfl (x_box (H.r 0 rfl) rfl) ?_; clear H; intro b2 T w _ _ H
  refine At.v H rfl (wN rfl) rfl rfl rfl (x_assign evC) ?_; clear H; intro T H
  refine At.new H rfl (wN rfl) rfl rfl rfl (x_alloc Try.zeroValue32 rfl) ?_; clear H; intro b5 T w _ _ H
  refine At.regionEnd ?_
  refine At.seq ?_
  refine At.region' (l := [0]) rfl ?_
  refine At.defer rfl rfl (wN rfl) rfl (x_defer evF (args1 (H.r 5 rfl))) ?_
  refine At.regionEnd ?_
  refine At.seq ?_
  refine At.region' (l := [0, 1, 2]) rfl ?_
  refine At.v H rfl (wN rfl) rfl rfl rfl (x_loadA (H.r 2 rfl) Try.isAgg25 Try.sizeOf25 (H.cellsAt (n := 2) (by repeat (first | exact List.mem_cons_self | apply List.mem_cons_of_mem)) rfl) rfl) ?_; clear H; intro T H
  refine At.fG H rfl (wN rfl) rfl rfl rfl (args1 (H.r 14 rfl)) Try.call31 (openV (hM.fr0 H.fr) (hL.fr0 H.fr) hv) ?_; clear H; rintro v15 E15 T w ⟨bp, mw, rfl, rfl⟩ _ H
  refine At.v H rfl (wN rfl) rfl rfl rfl (x_assign (H.r 15 rfl)) ?_; clear H; intro T H
  refine At.regionEnd ?_
  refine At.seq ?_
  refine At.region' (l := [0, 1, 2, 3]) rfl ?_
  refine At.v H rfl (wN rfl) rfl rfl rfl (x_move (H.r 6 rfl)) ?_; clear H; intro T H
  refine At.v H rfl (wN rfl) rfl rfl rfl (x_move (H.r 1 rfl)) ?_; clear H; intro T H
  refine At.f0 H rfl (wN rfl) rfl rfl rfl (args2 (H.r 16 rfl) (H.r 17 rfl)) Try.call38 (isMan (Op.ofH H (bp := bp) (by repeat (first | exact List.mem_cons_self | apply List.mem_cons_of_mem)) (by repeat (first | exact List.mem_cons_self | apply List.mem_cons_of_mem)) hM hL) _ hv.n8) ?_; clear H; rintro v18 T w rfl _ H
  rw [decide_eq_true (show 0 ≤ (i : Int) ∧ (i : Int) ≤ (men.length : Int) - 1 from by omega)] at H
  refine At.f0 H rfl (wN rfl) rfl rfl rfl (args2 (H.r 18 rfl) evC) Try.call34 (must_ok 2 _) ?_; clear H; rintro v19 T w rfl _ H
  refine At.regionEnd ?_
  refine At.seq ?_
  refine At.region' (l := [0, 1, 2, 3, 4]) rfl ?_
  refine At.v H rfl (wN rfl) rfl rfl rfl (x_move (H.r 6 rfl)) ?_; clear H; intro T H
  refine At.v H rfl (wN rfl) rfl rfl rfl (x_move (H.r 6 rfl)) ?_; clear H; intro T H
  refine At.fG H rfl (wN rfl) rfl rfl rfl (args1 (H.r 21 rfl)) Try.call32 (due (Op.ofH H (bp := bp) (by repeat (first | exact List.mem_cons_self | apply List.mem_cons_of_mem)) (by repeat (first | exact List.mem_cons_self | apply List.mem_cons_of_mem)) hM hL) hv) ?_; clear H; rintro v22 E22 T w ⟨A22, c22, rfl, rfl⟩ _ H
  refine At.fG H rfl (wN rfl) rfl rfl rfl (args2 (H.r 20 rfl) (H.r 22 rfl)) Try.call36 (worths (Op.ofH H (bp := bp) (by repeat (first | exact List.mem_cons_self | apply List.mem_cons_of_mem)) (by repeat (first | exact List.mem_cons_self | apply List.mem_cons_of_mem)) hM hL) hv (H.rowSl (enc := encO) (by repeat (first | exact List.mem_cons_self | apply List.mem_cons_of_mem)) (fun _ => rfl) (dueL_len _ _).symm rfl) (dueL_len _ _) (dueL_lt hv)) ?_; clear H; rintro v23 E23 T w ⟨g23, rfl, rfl⟩ _ H
  refine At.v H rfl (wN rfl) rfl rfl rfl (x_assign (H.r 23 rfl)) ?_; clear H; intro T H
  refine At.regionEnd ?_
  refine At.seq ?_
  refine At.seq ?_
  refine At.region' (l := [0, 1, 2, 3]) rfl ?_
  refine At.v H rfl (wN rfl) rfl rfl rfl (x_fieldAddr (H.r 2 rfl) fa25_0) ?_; clear H; intro T H
  refine At.v H rfl (wN rfl) rfl rfl rfl (x_load (H.r 24 rfl) Try.isAgg22 (by first | exact H.cell (by repeat (first | exact List.mem_cons_self | apply List.mem_cons_of_mem)) _ rfl | exact H.cellR (by repeat (first | exact List.mem_cons_self | apply List.mem_cons_of_mem)) _ rfl)) ?_; clear H; intro T H
  refine At.v H rfl (wN rfl) rfl rfl rfl (x_len (H.r 25 rfl) Try.runUnderlying22) ?_; clear H; intro T H
  refine At.c H rfl (wN rfl) rfl rfl rfl (x_eql (H.r 26 rfl) evC) ?_ ?_
  · clear H; intro h27 T H
    have hG : stayL men list i = 0 := by rw [stayL, if_pos (by omega)]
    refine At.regionEnd ?_
    refine At.condT (H.r 27 rfl) ?_
    refine At.seq ?_
    refine At.region' (l := [0, 1]) rfl ?_
    refine At.v H rfl (wN rfl) rfl rfl rfl (x_assign evC) ?_; clear H; intro T H
    refine At.store1 H rfl (wN rfl) rfl rfl (H.r 5 rfl) evC Try.sizeOf32 rfl rfl (by repeat (first | exact Upd.here | apply Upd.there)) (by repeat (first | exact SetAt.z | apply SetAt.s)) ?_; clear H; intro T w _ H
    refine At.regionEnd ?_
    refine At.ret rfl ?_
    exact leaT H (fun w H => lea Try.func20 (resL (rs := [.tmp 4, .cell 5 32]) Try.results20 (.tmp (H.r 4 rfl) (.cell (H.r 5 rfl) Try.isAgg32 (H.cell (by repeat (first | exact List.mem_cons_self | apply List.mem_cons_of_mem)) 0 rfl) .nil)) (by simp)) (Ret.mk H.fr (by first | rfl | (rw [hG]; rfl))))
  · clear H; intro h27 T H
    have h2 : 2 ≤ men.length := by have := hv.n1; omega
    have hG : stayL men list i = stayTo (worthsL men list (dueL men list)) (worthsL (lessMen men i) list (dueL (lessMen men i) list)) i (men.length - 1) := by rw [stayL, if_neg (by omega)]
    have hv2 := hv.less hi h2
    have hl2 := lessMen_len hi
    refine At.regionEnd ?_
    refine At.condF (H.r 27 rfl) ?_
    refine At.skip ?_
    refine At.seq ?_
    refine At.region' (l := [0, 1, 2]) rfl ?_
    refine At.v H rfl (wN rfl) rfl rfl rfl (x_loadA (H.r 2 rfl) Try.isAgg25 Try.sizeOf25 (H.cellsAt (n := 2) (by repeat (first | exact List.mem_cons_self | apply List.mem_cons_of_mem)) rfl) rfl) ?_; clear H; intro T H
    refine At.new H rfl (wN rfl) rfl rfl rfl (x_alloc Try.zeroValue25 rfl) ?_; clear H; intro b8 T w _ _ H
    refine At.storeA H rfl (wN rfl) rfl rfl (H.r 8 rfl) (H.r 28 rfl) Try.sizeOf25 (List.all_eq_true.1 rfl) (by repeat (first | exact Upd.here | apply Upd.there)) (by rfl) ?_; clear H; intro T w _ H
    refine At.regionEnd ?_
    refine At.seq ?_
    refine At.region' (l := [0, 1, 2, 3, 4, 5, 6, 7, 8]) rfl ?_
    refine At.v H rfl (wN rfl) rfl rfl rfl (x_fieldAddr (H.r 2 rfl) fa25_0) ?_; clear H; intro T H
    refine At.v H rfl (wN rfl) rfl rfl rfl (x_load (H.r 29 rfl) Try.isAgg22 (by first | exact H.cell (by repeat (first | exact List.mem_cons_self | apply List.mem_cons_of_mem)) _ rfl | exact H.cellR (by repeat (first | exact List.mem_cons_self | apply List.mem_cons_of_mem)) _ rfl)) ?_; clear H; intro T H
    refine At.fG H rfl (wN rfl) rfl rfl rfl (args1 (H.r 30 rfl)) Try.call43 (clone43 (hM.fr0 H.fr) hne (by omega)) ?_; clear H; rintro v31 E31 T w ⟨g31, c31, rfl, rfl⟩ _ H
    refine At.v H rfl (wN rfl) rfl rfl rfl (x_move (H.r 1 rfl)) ?_; clear H; intro T H
    refine At.v H rfl (wN rfl) rfl rfl rfl (x_move (H.r 1 rfl)) ?_; clear H; intro T H
    refine At.v H rfl (wN rfl) rfl rfl rfl (x_add (H.r 33 rfl) evC (w64 (by omega) (by omega))) ?_; clear H; intro T H
    refine At.fX H rfl (wN rfl) rfl rfl rfl (args3 (H.r 31 rfl) (H.r 32 rfl) (H.r 34 rfl)) Try.call42 (by repeat (first | exact Take.here | apply Take.there)) (delete42 (H.rowAt (by repeat (first | exact List.mem_cons_self | apply List.mem_cons_of_mem))) hi (by omega) (flat_one oneW men)) (by simp [Ent.keys, Ent.w, Value.ownBlock]) (by simp [Ent.keys, Value.ownBlock]) ?_; clear H; intro T w H
    rw [flatW_erase] at H
    refine At.v H rfl (wN rfl) rfl rfl rfl (x_fieldAddr (H.r 8 rfl) fa25_0) ?_; clear H; intro T H
    refine At.store1 H rfl (wN rfl) rfl rfl (H.r 36 rfl) (H.r 35 rfl) Try.sizeOf22 rfl rfl (by repeat (first | exact Upd.here | apply Upd.there)) (by repeat (first | exact SetAt.z | apply SetAt.s)) ?_; clear H; intro T w _ H
    refine At.regionEnd ?_
    refine At.seq ?_
    refine At.seq ?_
    refine At.region' (l := [0, 1, 2, 3]) rfl ?_
    refine At.v H rfl (wN rfl) rfl rfl rfl (x_fieldAddr (H.r 8 rfl) fa25_0) ?_; clear H; intro T H
    refine At.v H rfl (wN rfl) rfl rfl rfl (x_load (H.r 37 rfl) Try.isAgg22 (by first | exact H.cell (by repeat (first | exact List.mem_cons_self | apply List.mem_cons_of_mem)) _ rfl | exact H.cellR (by repeat (first | exact List.mem_cons_self | apply List.mem_cons_of_mem)) _ rfl)) ?_; clear H; intro T H
    refine At.v H rfl (wN rfl) rfl rfl rfl (x_len (H.r 38 rfl) Try.runUnderlying22) ?_; clear H; intro T H
    refine At.v H rfl (wN rfl) rfl rfl rfl (x_move evC) ?_; clear H; intro T H
    refine At.regionEnd ?_
    refine At.block ?_
    refine At.loopN (fun m T w => ∃ k : Nat, m = men.length - 1 - k ∧ k ≤ men.length - 1 ∧ Sx w0 [] 96 [(40, .int .i64 (k : Int)), (39, .int .i64 ((men.length - 1 : Nat) : Int)), (8, .pointer (some ⟨b8, 0, none⟩)), (7, .slice (some ⟨g23, 0, none⟩) men.length men.length), (5, .pointer (some ⟨b5, 0, none⟩)), (4, .int .i64 0), (2, .pointer (some ⟨b2, 0, none⟩)), (1, .int .i64 (i : Int))] [.row (.slice (some ⟨g31, 0, none⟩) (men.length - 1) c31) 59 4 (men.length - 1) ((lessTo men i k).flatMap encW), .row (.slice (some ⟨g23, 0, none⟩) men.length men.length) 3 1 men.length ((worthsL men list (dueL men list)).flatMap encI), .blk b8 (Eo (.cells [.slice (some ⟨g31, 0, none⟩) (men.length - 1) c31, (.slice AL list.length cL)].toArray 25 (0, 0))), .blk b5 (Eo (.cells [.int .i64 0].toArray 32 (0, 0))), .blk b2 (Eo (.cells [(.slice AM men.length cM), (.slice AL list.length cL)].toArray 25 (0, 0)))] T w) (men.length - 1) ?_ ?_
    · exact ⟨0, rfl, Nat.zero_le _, by rw [lessTo_zero]; exact (H.pk (by repeat (first | exact Pk.nil | exact Pk.all | refine Pk.cons (by repeat (first | exact Take.here | apply Take.there)) ?_ | apply Pk.skip))).sub ⟨rfl, rfl, rfl, rfl, rfl, rfl, rfl, rfl, trivial⟩⟩
    · clear H
      rintro n T w ⟨k, rfl, hk, H⟩ hnext
      refine At.seq ?_
      refine At.region' (l := [0]) rfl ?_
      refine At.c H rfl (wN rfl) rfl rfl rfl (x_lss (H.r 40 rfl) (H.r 39 rfl)) ?_ ?_
      · clear H; intro h41 T H
        have hk1 : k < men.length - 1 := by omega
        obtain ⟨y, hy⟩ := get_ex (l := men.eraseIdx i) (k := k) (by rw [er_len hi]; omega)
        have hls0 := lessTo_succ hy
        have hlk := lessTo_at hy
        have hypl : ((lessTo men i k).flatMap encW)[0 + k * 4 + 0]? = some (.int .i64 y.place) := by rw [show 0 + k * 4 + 0 = k * 4 + 0 by omega]; exact flatW_at hlk 0 _ rfl
        have hyp := hv.place y ((List.eraseIdx_sublist men i).subset (List.mem_of_getElem? hy))
        refine At.regionEnd ?_
        refine At.seq ?_
        refine At.condT (H.r 41 rfl) ?_
        refine At.skip ?_
        refine At.seq ?_
        refine At.block ?_
        refine At.seq ?_
        refine At.region' (l := [0, 1]) rfl ?_
        refine At.v H rfl (wN rfl) rfl rfl rfl (x_move (H.r 40 rfl)) ?_; clear H; intro T H
        refine At.v H rfl (wN rfl) rfl rfl rfl (x_assign (H.r 42 rfl)) ?_; clear H; intro T H
        refine At.regionEnd ?_
        refine At.seq ?_
        refine At.drawnC (m := 13) (L := #[false, false, false, false, false, false, false, false, false, false, false, false, false]) H mixed rfl rfl ?_; clear H; intro w H
        refine GA.v (i := 0) (L' := #[true, false, false, false, false, false, false, false, false, false, false, false, false]) H rfl (wN rfl) rfl rfl rfl (by kernel_rfl) rfl (fun w H => x_fieldAddr (H.r 8 rfl) fa25_0) ?_; clear H; intro T H
        refine GA.v (i := 1) (L' := #[true, true, false, false, false, false, false, false, false, false, false, false, false]) H rfl (wN rfl) rfl rfl rfl (by kernel_rfl) rfl (fun w H => x_load (H.r 43 rfl) Try.isAgg22 (by first | exact H.cell (by repeat (first | exact List.mem_cons_self | apply List.mem_cons_of_mem)) _ rfl | exact H.cellR (by repeat (first | exact List.mem_cons_self | apply List.mem_cons_of_mem)) _ rfl)) ?_; clear H; intro T H
        refine GA.v (i := 2) (L' := #[true, true, true, false, false, false, false, false, false, false, false, false, false]) H rfl (wN rfl) rfl rfl rfl (by kernel_rfl) rfl (fun w H => x_move (H.r 9 rfl)) ?_; clear H; intro T H
        refine GA.v (i := 3) (L' := #[true, true, true, true, false, false, false, false, false, false, false, false, false]) H rfl (wN rfl) rfl rfl rfl (by kernel_rfl) rfl (fun w H => x_ixSN (H.r 44 rfl) (H.r 45 rfl) Try.runUnderlying22 Try.sizeOf59 (by omega)) ?_; clear H; intro T H
        refine GA.v (i := 4) (L' := #[true, true, true, true, true, false, false, false, false, false, false, false, false]) H rfl (wN rfl) rfl rfl rfl (by kernel_rfl) rfl (fun w H => x_fieldAddr (H.r 46 rfl) fa59_0) ?_; clear H; intro T H
        refine GA.v (i := 5) (L' := #[true, true, true, true, true, true, false, false, false, false, false, false, false]) H rfl (wN rfl) rfl rfl rfl (by kernel_rfl) rfl (fun w H => x_load (H.r 47 rfl) Try.isAgg3 (H.rowCell (g := g31) (by repeat (first | exact List.mem_cons_self | apply List.mem_cons_of_mem)) _ hypl)) ?_; clear H; intro T H
        refine GA.v (i := 6) (L' := #[true, true, true, true, true, true, true, false, false, false, false, false, false]) H rfl (wN rfl) rfl rfl rfl (by kernel_rfl) rfl (fun w H => x_fieldAddr (H.r 2 rfl) fa25_0) ?_; clear H; intro T H
        refine GA.v (i := 7) (L' := #[true, true, true, true, true, true, true, true, false, false, false, false, false]) H rfl (wN rfl) rfl rfl rfl (by kernel_rfl) rfl (fun w H => x_load (H.r 49 rfl) Try.isAgg22 (by first | exact H.cell (by repeat (first | exact List.mem_cons_self | apply List.mem_cons_of_mem)) _ rfl | exact H.cellR (by repeat (first | exact List.mem_cons_self | apply List.mem_cons_of_mem)) _ rfl)) ?_; clear H; intro T H
        refine GA.v (i := 8) (L' := #[true, true, true, true, true, true, true, true, true, false, false, false, false]) H rfl (wN rfl) rfl rfl rfl (by kernel_rfl) rfl (fun w H => x_move (H.r 1 rfl)) ?_; clear H; intro T H
        refine GA.v (i := 9) (L' := #[true, true, true, true, true, true, true, true, true, true, false, false, false]) H rfl (wN rfl) rfl rfl rfl (by kernel_rfl) rfl (fun w H => x_ixSN (n := i) (show _ = Value.slice (some ⟨bM, oM, none⟩) men.length cM from (H.r 50 rfl).trans (by rw [hA]; rfl)) (H.r 51 rfl) Try.runUnderlying22 Try.sizeOf59 hi) ?_; clear H; intro T H
        refine GA.v (i := 10) (L' := #[true, true, true, true, true, true, true, true, true, true, true, false, false]) H rfl (wN rfl) rfl rfl rfl (by kernel_rfl) rfl (fun w H => x_fieldAddr (H.r 52 rfl) fa59_0) ?_; clear H; intro T H
        refine GA.v (i := 11) (L' := #[true, true, true, true, true, true, true, true, true, true, true, true, false]) H rfl (wN rfl) rfl rfl rfl (by kernel_rfl) rfl (fun w H => x_load (H.r 53 rfl) Try.isAgg3 (H.ext (hM.cell i mi hmi 0 _ rfl) (by simp))) ?_; clear H; intro T H
        refine GA.c (i := 12) (L' := #[true, true, true, true, true, true, true, true, true, true, true, true, true]) H rfl (wN rfl) rfl rfl rfl (by kernel_rfl) rfl (fun w H => x_gtr (H.r 48 rfl) (H.r 54 rfl)) ?_ ?_
        · clear H; intro h55 T H
          have hls : lessTo men i (k + 1) = (lessTo men i k).set k { y with place := y.place - 1 } := by rw [hls0, decP, if_pos (by rw [hpa]; exact h55)]
          refine GA.done (by kernel_rfl) ?_
          refine At.condT (H.r 55 rfl) ?_
          refine At.region' (l := [0, 1, 2, 3, 4, 5, 6, 7, 8, 9]) rfl ?_
          refine At.v H rfl (wN rfl) rfl rfl rfl (x_fieldAddr (H.r 8 rfl) fa25_0) ?_; clear H; intro T H
          refine At.v H rfl (wN rfl) rfl rfl rfl (x_load (H.r 56 rfl) Try.isAgg22 (by first | exact H.cell (by repeat (first | exact List.mem_cons_self | apply List.mem_cons_of_mem)) _ rfl | exact H.cellR (by repeat (first | exact List.mem_cons_self | apply List.mem_cons_of_mem)) _ rfl)) ?_; clear H; intro T H
          refine At.v H rfl (wN rfl) rfl rfl rfl (x_move (H.r 9 rfl)) ?_; clear H; intro T H
          refine At.v H rfl (wN rfl) rfl rfl rfl (x_ixSN (H.r 57 rfl) (H.r 58 rfl) Try.runUnderlying22 Try.sizeOf59 (by omega)) ?_; clear H; intro T H
          refine At.v H rfl (wN rfl) rfl rfl rfl (x_fieldAddr (H.r 59 rfl) fa59_0) ?_; clear H; intro T H
          refine At.v H rfl (wN rfl) rfl rfl rfl (x_load (H.r 60 rfl) Try.isAgg3 (H.rowCell (g := g31) (by repeat (first | exact List.mem_cons_self | apply List.mem_cons_of_mem)) _ hypl)) ?_; clear H; intro T H
          refine At.v H rfl (wN rfl) rfl rfl rfl (x_sub (H.r 61 rfl) evC (w64 (by omega) (by omega))) ?_; clear H; intro T H
          refine At.v H rfl (wN rfl) rfl rfl rfl (x_ixSN (H.r 57 rfl) (H.r 58 rfl) Try.runUnderlying22 Try.sizeOf59 (by omega)) ?_; clear H; intro T H
          refine At.v H rfl (wN rfl) rfl rfl rfl (x_fieldAddr (H.r 63 rfl) fa59_0) ?_; clear H; intro T H
          refine At.storeR (l' := ((lessTo men i k).set k { y with place := y.place - 1 }).flatMap encW) H rfl (wN rfl) rfl rfl (H.r 64 rfl) (H.r 62 rfl) Try.sizeOf3 rfl rfl (by repeat (first | exact Take.here | apply Take.there)) (by rw [flatW_len, lessTo_len, er_len hi]; omega) (by rw [show 0 + k * 4 + 0 = k * 4 by omega, flatW_set hlk]) ?_; clear H; intro T w _ H
          refine At.regionEnd ?_
          refine At.inBlock ?_
          refine At.region' (l := [0, 1]) rfl ?_
          refine At.v H rfl (wN rfl) rfl rfl rfl (x_add (H.r 40 rfl) evC (w64 (by omega) (by omega))) ?_; clear H; intro T H
          refine At.v H rfl (wN rfl) rfl rfl rfl (x_move (H.r 65 rfl)) ?_; clear H; intro T H
          refine At.regionEnd ?_
          exact hnext (men.length - 1 - (k + 1)) _ _ (by omega) ⟨k + 1, rfl, by omega, by rw [hls]; exact (H.pk (by repeat (first | exact Pk.nil | exact Pk.all | refine Pk.cons (by repeat (first | exact Take.here | apply Take.there)) ?_ | apply Pk.skip))).sub ⟨rfl, rfl, rfl, rfl, rfl, rfl, rfl, rfl, trivial⟩⟩
        · clear H; intro h55 T H
          have hls : lessTo men i (k + 1) = lessTo men i k := by rw [hls0, decP, if_neg (by rw [hpa]; exact h55)]; exact List.ext_getElem? (fun j => by rw [List.getElem?_set]; split; (rename_i e; subst e; rw [if_pos (List.getElem?_eq_some_iff.1 hlk).1, hlk]); rfl)
          refine GA.done (by kernel_rfl) ?_
          refine At.condF (H.r 55 rfl) ?_
          refine At.skip ?_
          refine At.inBlock ?_
          refine At.region' (l := [0, 1]) rfl ?_
          refine At.v H rfl (wN rfl) rfl rfl rfl (x_add (H.r 40 rfl) evC (w64 (by omega) (by omega))) ?_; clear H; intro T H
          refine At.v H rfl (wN rfl) rfl rfl rfl (x_move (H.r 65 rfl)) ?_; clear H; intro T H
          refine At.regionEnd ?_
          exact hnext (men.length - 1 - (k + 1)) _ _ (by omega) ⟨k + 1, rfl, by omega, by rw [hls]; exact (H.pk (by repeat (first | exact Pk.nil | exact Pk.all | refine Pk.cons (by repeat (first | exact Take.here | apply Take.there)) ?_ | apply Pk.skip))).sub ⟨rfl, rfl, rfl, rfl, rfl, rfl, rfl, rfl, trivial⟩⟩
      · clear H; intro h41 T H
        obtain rfl : k = men.length - 1 := by omega
        rw [lessTo_end hi] at H
        rw [← hl2] at H
        refine At.regionEnd ?_
        refine At.seq ?_
        refine At.condF (H.r 41 rfl) ?_
        refine At.exit rfl ?_
        refine At.seq ?_
        refine At.region' (l := [0, 1, 2]) rfl ?_
        refine At.v H rfl (wN rfl) rfl rfl rfl (x_loadA (H.r 8 rfl) Try.isAgg25 Try.sizeOf25 (H.cellsAt (n := 2) (by repeat (first | exact List.mem_cons_self | apply List.mem_cons_of_mem)) rfl) rfl) ?_; clear H; intro T H
        refine At.fG H rfl (wN rfl) rfl rfl rfl (args1 (H.r 66 rfl)) Try.call31 (openV (H.rowP (enc := encW) (by repeat (first | exact List.mem_cons_self | apply List.mem_cons_of_mem)) (fun _ => rfl) rfl rfl) (hL.fr0 H.fr) hv2) ?_; clear H; rintro v67 E67 T w ⟨bq, mq, rfl, rfl⟩ _ H
        refine At.v H rfl (wN rfl) rfl rfl rfl (x_assign (H.r 67 rfl)) ?_; clear H; intro T H
        refine At.regionEnd ?_
        refine At.seq ?_
        refine At.seq ?_
        refine At.region' (l := [0, 1, 2, 3, 4, 5]) rfl ?_
        refine At.v H rfl (wN rfl) rfl rfl rfl (x_move (H.r 10 rfl)) ?_; clear H; intro T H
        refine At.v H rfl (wN rfl) rfl rfl rfl (x_move (H.r 10 rfl)) ?_; clear H; intro T H
        refine At.fG H rfl (wN rfl) rfl rfl rfl (args1 (H.r 69 rfl)) Try.call32 (due (Op.mk2 (H.heap (b := bq) (by repeat (first | exact List.mem_cons_self | apply List.mem_cons_of_mem))) (H.heap (b := mq) (by repeat (first | exact List.mem_cons_self | apply List.mem_cons_of_mem))) (H.rowP (enc := encW) (g := g31) (by repeat (first | exact List.mem_cons_self | apply List.mem_cons_of_mem)) (fun _ => rfl) rfl rfl) (hL.fr0 H.fr)) hv2) ?_; clear H; rintro v70 E70 T w ⟨A70, c70, rfl, rfl⟩ _ H
        refine At.fG H rfl (wN rfl) rfl rfl rfl (args2 (H.r 68 rfl) (H.r 70 rfl)) Try.call36 (worths (Op.mk2 (H.heap (b := bq) (by repeat (first | exact List.mem_cons_self | apply List.mem_cons_of_mem))) (H.heap (b := mq) (by repeat (first | exact List.mem_cons_self | apply List.mem_cons_of_mem))) (H.rowP (enc := encW) (g := g31) (by repeat (first | exact List.mem_cons_self | apply List.mem_cons_of_mem)) (fun _ => rfl) rfl rfl) (hL.fr0 H.fr)) hv2 (H.rowSl (enc := encO) (xs := dueL (lessMen men i) list) (by repeat (first | exact List.mem_cons_self | apply List.mem_cons_of_mem)) (fun _ => rfl) (dueL_len _ _).symm rfl) (dueL_len _ _) (dueL_lt hv2)) ?_; clear H; rintro v71 E71 T w ⟨g71, rfl, rfl⟩ _ H
        refine At.v H rfl (wN rfl) rfl rfl rfl (x_len (H.r 71 rfl) Try.runUnderlying30) ?_; clear H; intro T H
        refine At.v H rfl (wN rfl) rfl rfl rfl (x_move evC) ?_; clear H; intro T H
        refine At.regionEnd ?_
        refine At.block ?_
        refine At.loopN (fun m T w => ∃ k : Nat, m = (lessMen men i).length - k ∧ k ≤ (lessMen men i).length ∧ Sx w0 [] 96 [(73, .int .i64 (k : Int)), (72, .int .i64 ((lessMen men i).length : Int)), (71, .slice (some ⟨g71, 0, none⟩) (lessMen men i).length (lessMen men i).length), (7, .slice (some ⟨g23, 0, none⟩) men.length men.length), (5, .pointer (some ⟨b5, 0, none⟩)), (4, .int .i64 (stayTo (worthsL men list (dueL men list)) (worthsL (lessMen men i) list (dueL (lessMen men i) list)) i k : Int)), (1, .int .i64 (i : Int))] [.row (.slice (some ⟨g71, 0, none⟩) (lessMen men i).length (lessMen men i).length) 3 1 (lessMen men i).length ((worthsL (lessMen men i) list (dueL (lessMen men i) list)).flatMap encI), .row (.slice (some ⟨g23, 0, none⟩) men.length men.length) 3 1 men.length ((worthsL men list (dueL men list)).flatMap encI), .blk b5 (Eo (.cells [.int .i64 0].toArray 32 (0, 0)))] T w) ((lessMen men i).length) ?_ ?_
        · exact ⟨0, rfl, Nat.zero_le _, (H.pk (by repeat (first | exact Pk.nil | exact Pk.all | refine Pk.cons (by repeat (first | exact Take.here | apply Take.there)) ?_ | apply Pk.skip))).sub ⟨rfl, rfl, rfl, rfl, rfl, rfl, rfl, trivial⟩⟩
        · clear H
          rintro n T w ⟨k, rfl, hk, H⟩ hnext
          have hst8 := stayTo_lt (worthsL men list (dueL men list)) (worthsL (lessMen men i) list (dueL (lessMen men i) list)) i k (by omega)
          have hss := stayTo_succ (worthsL men list (dueL men list)) (worthsL (lessMen men i) list (dueL (lessMen men i) list)) i k
          refine At.seq ?_
          refine At.region' (l := [0]) rfl ?_
          refine At.c H rfl (wN rfl) rfl rfl rfl (x_lss (H.r 73 rfl) (H.r 72 rfl)) ?_ ?_
          · clear H; intro h74 T H
            have hk1 : k < (lessMen men i).length := by omega
            obtain ⟨th, hth⟩ := get_ex (l := (worthsL (lessMen men i) list (dueL (lessMen men i) list))) (k := k) (by rw [worthsL, worthsTo_len]; exact hk1)
            refine At.regionEnd ?_
            refine At.seq ?_
            refine At.condT (H.r 74 rfl) ?_
            refine At.skip ?_
            refine At.seq ?_
            refine At.block ?_
            refine At.seq ?_
            refine At.region' (l := [0, 1, 2, 3, 4]) rfl ?_
            refine At.v H rfl (wN rfl) rfl rfl rfl (x_move (H.r 73 rfl)) ?_; clear H; intro T H
            refine At.v H rfl (wN rfl) rfl rfl rfl (x_ixSN (H.r 71 rfl) (H.r 73 rfl) Try.runUnderlying30 Try.sizeOf3 (by omega)) ?_; clear H; intro T H
            refine At.v H rfl (wN rfl) rfl rfl rfl (x_load (H.r 76 rfl) Try.isAgg3 (by rw [show 0 + k * 1 = k by omega]; exact H.rowCell (g := g71) (by repeat (first | exact List.mem_cons_self | apply List.mem_cons_of_mem)) k (flatI_at hth))) ?_; clear H; intro T H
            refine At.v H rfl (wN rfl) rfl rfl rfl (x_assign (H.r 75 rfl)) ?_; clear H; intro T H
            refine At.v H rfl (wN rfl) rfl rfl rfl (x_assign (H.r 77 rfl)) ?_; clear H; intro T H
            refine At.regionEnd ?_
            refine At.seq ?_
            refine At.region' (l := [0, 1]) rfl ?_
            refine At.v H rfl (wN rfl) rfl rfl rfl (x_move (H.r 11 rfl)) ?_; clear H; intro T H
            refine At.v H rfl (wN rfl) rfl rfl rfl (x_assign (H.r 78 rfl)) ?_; clear H; intro T H
            refine At.regionEnd ?_
            refine At.seq ?_
            refine At.seq ?_
            refine At.region' (l := [0, 1, 2]) rfl ?_
            refine At.v H rfl (wN rfl) rfl rfl rfl (x_move (H.r 11 rfl)) ?_; clear H; intro T H
            refine At.v H rfl (wN rfl) rfl rfl rfl (x_move (H.r 1 rfl)) ?_; clear H; intro T H
            refine At.c H rfl (wN rfl) rfl rfl rfl (x_geq (H.r 79 rfl) (H.r 80 rfl)) ?_ ?_
            · clear H; intro h81 T H
              obtain ⟨atn, hat⟩ : ∃ atn, atn = k + 1 := ⟨_, rfl⟩
              have hato : atOf i k = atn := by rw [hat, atOf, if_pos (by omega)]
              have hatl : atn < men.length := by omega
              refine At.regionEnd ?_
              refine At.condT (H.r 81 rfl) ?_
              refine At.region' (l := [0, 1, 2]) rfl ?_
              refine At.v H rfl (wN rfl) rfl rfl rfl (x_move (H.r 13 rfl)) ?_; clear H; intro T H
              refine At.v H rfl (wN rfl) rfl rfl rfl (x_add (H.r 82 rfl) evC (w64 (by omega) (by omega))) ?_; clear H; intro T H
              refine At.v H rfl (wN rfl) rfl rfl rfl (x_assign (H.r 83 rfl)) ?_; clear H; intro T H
              refine At.regionEnd ?_
              refine At.seq ?_
              refine At.region' (l := [0, 1, 2, 3, 4, 5]) rfl ?_
              obtain ⟨nw, hnw⟩ := get_ex (l := (worthsL men list (dueL men list))) (k := atn) (by rw [worthsL, worthsTo_len]; exact hatl)
              rw [hato, hnw, hth] at hss
              simp only [Option.getD_some] at hss
              replace H : Sx w0 [] 96 [(13, .int .i64 (atn : Int)), (12, .int .i64 th), (73, .int .i64 (k : Int)), (72, .int .i64 ((lessMen men i).length : Int)), (71, .slice (some ⟨g71, 0, none⟩) (lessMen men i).length (lessMen men i).length), (7, .slice (some ⟨g23, 0, none⟩) men.length men.length), (5, .pointer (some ⟨b5, 0, none⟩)), (4, .int .i64 (stayTo (worthsL men list (dueL men list)) (worthsL (lessMen men i) list (dueL (lessMen men i) list)) i k : Int)), (1, .int .i64 (i : Int))] _ T w := H.sub ⟨by rw [hat]; rfl, rfl, rfl, rfl, rfl, rfl, rfl, rfl, rfl, trivial⟩
              refine At.v H rfl (wN rfl) rfl rfl rfl (x_move (H.r 12 rfl)) ?_; clear H; intro T H
              refine At.v H rfl (wN rfl) rfl rfl rfl (x_move (H.r 7 rfl)) ?_; clear H; intro T H
              refine At.v H rfl (wN rfl) rfl rfl rfl (x_move (H.r 13 rfl)) ?_; clear H; intro T H
              refine At.v H rfl (wN rfl) rfl rfl rfl (x_ixSN (n := atn) (H.r 85 rfl) (H.r 86 rfl) Try.runUnderlying30 Try.sizeOf3 hatl) ?_; clear H; intro T H
              refine At.v H rfl (wN rfl) rfl rfl rfl (x_load (H.r 87 rfl) Try.isAgg3 (by rw [show 0 + atn * 1 = atn by omega]; exact H.rowCell (g := g23) (by repeat (first | exact List.mem_cons_self | apply List.mem_cons_of_mem)) atn (flatI_at hnw))) ?_; clear H; intro T H
              refine At.c H rfl (wN rfl) rfl rfl rfl (x_gtr (H.r 84 rfl) (H.r 88 rfl)) ?_ ?_
              · clear H; intro h89 T H
                have hst : stayTo (worthsL men list (dueL men list)) (worthsL (lessMen men i) list (dueL (lessMen men i) list)) i (k + 1) = stayTo (worthsL men list (dueL men list)) (worthsL (lessMen men i) list (dueL (lessMen men i) list)) i k ||| 1 * 2 ^ atn := by rw [hss, if_pos h89, Nat.one_mul]
                have hpw : 2 ^ atn < 2 ^ 8 := Nat.pow_lt_pow_right (by omega) (by omega)
                refine At.regionEnd ?_
                refine At.condT (H.r 89 rfl) ?_
                refine At.region' (l := [0, 1, 2, 3, 4]) rfl ?_
                refine At.v H rfl (wN rfl) rfl rfl rfl (x_move (H.r 4 rfl)) ?_; clear H; intro T H
                refine At.v H rfl (wN rfl) rfl rfl rfl (x_move (H.r 13 rfl)) ?_; clear H; intro T H
                refine At.v H rfl (wN rfl) rfl rfl rfl (x_shlN (a := 1) (n := atn) evC (H.r 91 rfl) (by omega) (by omega)) ?_; clear H; intro T H
                refine At.v H rfl (wN rfl) rfl rfl rfl (x_orN (H.r 90 rfl) (H.r 92 rfl) (by omega) (by omega)) ?_; clear H; intro T H
                refine At.v H rfl (wN rfl) rfl rfl rfl (x_assign (H.r 93 rfl)) ?_; clear H; intro T H
                refine At.regionEnd ?_
                refine At.inBlock ?_
                refine At.region' (l := [0, 1]) rfl ?_
                refine At.v H rfl (wN rfl) rfl rfl rfl (x_add (H.r 73 rfl) evC (w64 (by omega) (by omega))) ?_; clear H; intro T H
                refine At.v H rfl (wN rfl) rfl rfl rfl (x_move (H.r 94 rfl)) ?_; clear H; intro T H
                refine At.regionEnd ?_
                exact hnext ((lessMen men i).length - (k + 1)) _ _ (by omega) ⟨k + 1, rfl, by omega, by rw [hst]; exact H.sub ⟨rfl, rfl, rfl, rfl, rfl, rfl, rfl, trivial⟩⟩
              · clear H; intro h89 T H
                have hst : stayTo (worthsL men list (dueL men list)) (worthsL (lessMen men i) list (dueL (lessMen men i) list)) i (k + 1) = stayTo (worthsL men list (dueL men list)) (worthsL (lessMen men i) list (dueL (lessMen men i) list)) i k := by rw [hss, if_neg h89]
                refine At.regionEnd ?_
                refine At.condF (H.r 89 rfl) ?_
                refine At.skip ?_
                refine At.inBlock ?_
                refine At.region' (l := [0, 1]) rfl ?_
                refine At.v H rfl (wN rfl) rfl rfl rfl (x_add (H.r 73 rfl) evC (w64 (by omega) (by omega))) ?_; clear H; intro T H
                refine At.v H rfl (wN rfl) rfl rfl rfl (x_move (H.r 94 rfl)) ?_; clear H; intro T H
                refine At.regionEnd ?_
                exact hnext ((lessMen men i).length - (k + 1)) _ _ (by omega) ⟨k + 1, rfl, by omega, by rw [hst]; exact H.sub ⟨rfl, rfl, rfl, rfl, rfl, rfl, rfl, trivial⟩⟩
            · clear H; intro h81 T H
              obtain ⟨atn, hat⟩ : ∃ atn, atn = k := ⟨_, rfl⟩
              have hato : atOf i k = atn := by rw [hat, atOf, if_neg (by omega)]
              have hatl : atn < men.length := by omega
              refine At.regionEnd ?_
              refine At.condF (H.r 81 rfl) ?_
              refine At.skip ?_
              refine At.seq ?_
              refine At.region' (l := [0, 1, 2, 3, 4, 5]) rfl ?_
              obtain ⟨nw, hnw⟩ := get_ex (l := (worthsL men list (dueL men list))) (k := atn) (by rw [worthsL, worthsTo_len]; exact hatl)
              rw [hato, hnw, hth] at hss
              simp only [Option.getD_some] at hss
              replace H : Sx w0 [] 96 [(13, .int .i64 (atn : Int)), (12, .int .i64 th), (73, .int .i64 (k : Int)), (72, .int .i64 ((lessMen men i).length : Int)), (71, .slice (some ⟨g71, 0, none⟩) (lessMen men i).length (lessMen men i).length), (7, .slice (some ⟨g23, 0, none⟩) men.length men.length), (5, .pointer (some ⟨b5, 0, none⟩)), (4, .int .i64 (stayTo (worthsL men list (dueL men list)) (worthsL (lessMen men i) list (dueL (lessMen men i) list)) i k : Int)), (1, .int .i64 (i : Int))] _ T w := H.sub ⟨by rw [hat]; rfl, rfl, rfl, rfl, rfl, rfl, rfl, rfl, rfl, trivial⟩
              refine At.v H rfl (wN rfl) rfl rfl rfl (x_move (H.r 12 rfl)) ?_; clear H; intro T H
              refine At.v H rfl (wN rfl) rfl rfl rfl (x_move (H.r 7 rfl)) ?_; clear H; intro T H
              refine At.v H rfl (wN rfl) rfl rfl rfl (x_move (H.r 13 rfl)) ?_; clear H; intro T H
              refine At.v H rfl (wN rfl) rfl rfl rfl (x_ixSN (n := atn) (H.r 85 rfl) (H.r 86 rfl) Try.runUnderlying30 Try.sizeOf3 hatl) ?_; clear H; intro T H
              refine At.v H rfl (wN rfl) rfl rfl rfl (x_load (H.r 87 rfl) Try.isAgg3 (by rw [show 0 + atn * 1 = atn by omega]; exact H.rowCell (g := g23) (by repeat (first | exact List.mem_cons_self | apply List.mem_cons_of_mem)) atn (flatI_at hnw))) ?_; clear H; intro T H
              refine At.c H rfl (wN rfl) rfl rfl rfl (x_gtr (H.r 84 rfl) (H.r 88 rfl)) ?_ ?_
              · clear H; intro h89 T H
                have hst : stayTo (worthsL men list (dueL men list)) (worthsL (lessMen men i) list (dueL (lessMen men i) list)) i (k + 1) = stayTo (worthsL men list (dueL men list)) (worthsL (lessMen men i) list (dueL (lessMen men i) list)) i k ||| 1 * 2 ^ atn := by rw [hss, if_pos h89, Nat.one_mul]
                have hpw : 2 ^ atn < 2 ^ 8 := Nat.pow_lt_pow_right (by omega) (by omega)
                refine At.regionEnd ?_
                refine At.condT (H.r 89 rfl) ?_
                refine At.region' (l := [0, 1, 2, 3, 4]) rfl ?_
                refine At.v H rfl (wN rfl) rfl rfl rfl (x_move (H.r 4 rfl)) ?_; clear H; intro T H
                refine At.v H rfl (wN rfl) rfl rfl rfl (x_move (H.r 13 rfl)) ?_; clear H; intro T H
                refine At.v H rfl (wN rfl) rfl rfl rfl (x_shlN (a := 1) (n := atn) evC (H.r 91 rfl) (by omega) (by omega)) ?_; clear H; intro T H
                refine At.v H rfl (wN rfl) rfl rfl rfl (x_orN (H.r 90 rfl) (H.r 92 rfl) (by omega) (by omega)) ?_; clear H; intro T H
                refine At.v H rfl (wN rfl) rfl rfl rfl (x_assign (H.r 93 rfl)) ?_; clear H; intro T H
                refine At.regionEnd ?_
                refine At.inBlock ?_
                refine At.region' (l := [0, 1]) rfl ?_
                refine At.v H rfl (wN rfl) rfl rfl rfl (x_add (H.r 73 rfl) evC (w64 (by omega) (by omega))) ?_; clear H; intro T H
                refine At.v H rfl (wN rfl) rfl rfl rfl (x_move (H.r 94 rfl)) ?_; clear H; intro T H
                refine At.regionEnd ?_
                exact hnext ((lessMen men i).length - (k + 1)) _ _ (by omega) ⟨k + 1, rfl, by omega, by rw [hst]; exact H.sub ⟨rfl, rfl, rfl, rfl, rfl, rfl, rfl, trivial⟩⟩
              · clear H; intro h89 T H
                have hst : stayTo (worthsL men list (dueL men list)) (worthsL (lessMen men i) list (dueL (lessMen men i) list)) i (k + 1) = stayTo (worthsL men list (dueL men list)) (worthsL (lessMen men i) list (dueL (lessMen men i) list)) i k := by rw [hss, if_neg h89]
                refine At.regionEnd ?_
                refine At.condF (H.r 89 rfl) ?_
                refine At.skip ?_
                refine At.inBlock ?_
                refine At.region' (l := [0, 1]) rfl ?_
                refine At.v H rfl (wN rfl) rfl rfl rfl (x_add (H.r 73 rfl) evC (w64 (by omega) (by omega))) ?_; clear H; intro T H
                refine At.v H rfl (wN rfl) rfl rfl rfl (x_move (H.r 94 rfl)) ?_; clear H; intro T H
                refine At.regionEnd ?_
                exact hnext ((lessMen men i).length - (k + 1)) _ _ (by omega) ⟨k + 1, rfl, by omega, by rw [hst]; exact H.sub ⟨rfl, rfl, rfl, rfl, rfl, rfl, rfl, trivial⟩⟩
          · clear H; intro h74 T H
            obtain rfl : k = (lessMen men i).length := by omega
            rw [hl2, ← hG] at H
            refine At.regionEnd ?_
            refine At.seq ?_
            refine At.condF (H.r 74 rfl) ?_
            refine At.exit rfl ?_
            refine At.seq ?_
            refine At.region' (l := [0, 1, 2]) rfl ?_
            refine At.v H rfl (wN rfl) rfl rfl rfl (x_move (H.r 4 rfl)) ?_; clear H; intro T H
            refine At.v H rfl (wN rfl) rfl rfl rfl (x_assign (H.r 95 rfl)) ?_; clear H; intro T H
            refine At.store1 H rfl (wN rfl) rfl rfl (H.r 5 rfl) evC Try.sizeOf32 rfl rfl (by repeat (first | exact Upd.here | apply Upd.there)) (by repeat (first | exact SetAt.z | apply SetAt.s)) ?_; clear H; intro T w _ H
            refine At.regionEnd ?_
            refine At.ret rfl ?_
            exact leaT H (fun w H => lea Try.func20 (resL (rs := [.tmp 4, .cell 5 32]) Try.results20 (.tmp (H.r 4 rfl) (.cell (H.r 5 rfl) Try.isAgg32 (H.cell (by repeat (first | exact List.mem_cons_self | apply List.mem_cons_of_mem)) 0 rfl) .nil)) (by simp)) (Ret.mk H.fr (by first | rfl | (rw [hG]; rfl))))
end Go.Proofs.Pz
end
section
namespace Go.Proofs
open Go.Shelf
def Try.laysIns_ren : Go.Shelf.Ren := ⟨fun | 21 => 47 | 27 => 56 | 28 => 57 | 35 => 67 | 39 => 68 | n => n, fun | 22 => 30 | 3 => 3 | 4 => 4 | 0 => 0 | n => n, fun | n => n⟩
theorem Try.laysIns : Go.Proofs.Lays2.n21 Try.prog Try.laysIns_ren := {
  mixed := by kernel_rfl
  f21 := Try.func47.trans (congrArg some (by kernel_rfl))
  f27 := Try.func56.trans (congrArg some (by kernel_rfl))
  f28 := Try.func57.trans (congrArg some (by kernel_rfl))
  f35 := Try.func67.trans (congrArg some (by kernel_rfl))
  f39 := Try.func68.trans (congrArg some (by kernel_rfl))
  t0 := Try.underlying0
  a0 := Try.isAgg0
  z0 := Try.sizeOf0
  v0 := Try.zeroValue0
  t3 := Try.underlying3
  a3 := Try.isAgg3
  z3 := Try.sizeOf3
  v3 := Try.zeroValue3
  t4 := Try.underlying4
  a4 := Try.isAgg4
  z4 := Try.sizeOf4
  v4 := Try.zeroValue4
  t22 := Try.underlying30
  a22 := Try.isAgg30
  z22 := Try.sizeOf30
  v22 := Try.zeroValue30
  i3 := by kernel_rfl }
end Go.Proofs
namespace Go.Proofs.Pz
open Go.Sx Go.RowKit

theorem setCells_row {P : Program} {w : World} {g o : Nat} {t : TypeId} {cur : Array Value} {vs : List Value} (hg : w.heap[g]? = some (.cells cur t (0, 0))) (hfit : o + vs.length ≤ cur.size) (h1 : ∀ v ∈ vs, v.oneCell' = true) :
    w.setCells g o vs = w.setRow g (cur.toList.take o ++ vs ++ cur.toList.drop (o + vs.length)).toArray := by
  have a := run_storeCells_at P g o t vs 0 cur w hg (by simpa using hfit) h1
  have b := run_storeCells_cells (P := P) g o vs 0 w (fun j hj => by
    rw [cell_of_row w g _ cur t (0, 0) hg, Array.getElem?_eq_getElem (by omega)]; rfl) (fun j hj => by simp [World.frozen?, hg]) h1
  rw [a] at b
  simpa using b.symm

/-- one more in a row -/
def RetI (w : World) (v : Value) (m : Nat) (l : List Value) : Ending → World → Prop := fun e w' =>
  ∃ A c, e = .returned (.slice A m c) ∧ Fr v.ownBlock.toList w w' ∧ ((Value.slice A m c).ownBlock = v.ownBlock ∨ ∃ g, (Value.slice A m c).ownBlock = some g ∧ w.heap.size ≤ g) ∧ w'.ownsRow 0 3 1 (.slice A m c) m l

theorem zeros_size (z : Value) (hz : z.cells = #[z]) (n : Nat) : (Builtin.zeroCells z.cells n).size = n := by
  simp [Builtin.zeroCells, hz]
theorem insert47 {A : Option Addr} {n c i vb : Nat} {e : TypeId} {xv : Value} {l : List Value} {w : World} (hrow : w.ownsRow 0 3 1 (.slice A n c) n l) (hvb : w.heap[vb]? = some (.cells #[xv] e (0, 0))) (hne : (Value.slice A n c).ownBlock ≠ some vb)
    (hi : i ≤ n) (hn : n ≤ 1000) (h1 : ∀ u ∈ l, u.oneCell' = true) (hx : xv.oneCell' = true) :
    Calls Try.prog 47 #[.slice A n c, .int .i64 (i : Int), .slice (some ⟨vb, 0, none⟩) 1 1] w (RetI w (.slice A n c) (n + 1) (l.take i ++ [xv] ++ l.drop i)) := by
  have hll : l.length = n := by have := hrow.1; omega
  have hvs : ∀ j v, [xv][j]? = some v → w.cell? ⟨vb, 0 + j, none⟩ = some v := by
    intro j v hj
    rw [cell_of_row w vb _ _ _ _ hvb]
    cases j with
    | zero => simpa using hj
    | succ j => simp at hj
  have h1v : ∀ v ∈ [xv], v.oneCell' = true := by simp [hx]
  have hgrow : ∀ (cap : Nat) (hcap : cap < n + 1) (L : List Value), L.length = n + 1 →
      (w.drew.alloc (.cells (L.toArray ++ Builtin.zeroCells (Value.int .i64 0).cells (grownCap w (n + 1) cap 3 - (n + 1))) 3)).ownsRow 0 3 1 (.slice (some ⟨w.heap.size, 0, none⟩) (n + 1) (grownCap w (n + 1) cap 3)) (n + 1) L := by
    intro cap hcap L hL
    have hge := grownCap_ge w (n + 1) cap 3
    have hmx := grownCap_le_maxLen w (n + 1) cap 3 (by unfold maxLen; omega)
    refine ⟨by omega, .inr ⟨w.heap.size, _, _, rfl, Nat.zero_le _, heap_alloc_new w.drew _, hge, hmx, ?_, ?_⟩⟩
    · rw [Array.size_append, zeros_size _ rfl]
      simp only [List.size_toArray, hL]
      omega
    · simp only [Array.toList_append]
      rw [List.take_append_of_le_length (by simp [hL]), List.take_of_length_le (by simp [hL])]
  rcases hrow.2 with ⟨hv, h0⟩ | ⟨g, cap, cur, hv, _, hg, hle, hmx, hcs, htk⟩
  · simp only [Value.slice.injEq] at hv
    obtain ⟨rfl, rfl, rfl⟩ := hv
    obtain rfl : i = 0 := by omega
    obtain rfl : l = [] := List.eq_nil_of_length_eq_zero hll
    refine (Any2.slices_Insert_int_end_grow Try.laysIns none 0 0 vb 0 1 1 [] [xv] w (by omega) (by omega) (by omega) (by decide) rfl rfl (fun _ => rfl) (by intro a h; cases h) hvs h1v).mono ?_
    rintro e' w' ⟨rfl, rfl⟩
    refine ⟨_, _, rfl, ?_, .inr ⟨w.heap.size, rfl, Nat.le_refl _⟩, ?_⟩
    · exact (Fr.drawn w _).trans0 (Fr.alloc _ _)
    · exact hgrow 0 (by omega) [xv] rfl
  · simp only [Value.slice.injEq, true_and] at hv
    obtain ⟨rfl, rfl⟩ := hv
    have hcl : cur.toList.length = c := by simpa using hcs
    have htk' : cur.toList.take n = l := by simpa using htk
    have hcell : ∀ j v, l[j]? = some v → w.cell? ⟨g, 0 + j, none⟩ = some v := by
      intro j v hj
      rw [cell_of_row w g _ _ _ _ hg]
      rw [← htk', List.getElem?_take] at hj
      split at hj
      · rw [Nat.zero_add]; simpa using hj
      · cases hj
    have hsome : ∀ j, j < c → (w.cell? ⟨g, 0 + j, none⟩).isSome = true := by
      intro j hj
      rw [cell_of_row w g _ _ _ _ hg, Array.getElem?_eq_getElem (by rw [hcs]; omega)]; rfl
    have hfz : ∀ j, w.frozen? ⟨g, j, none⟩ = false := fun j => by simp [World.frozen?, hg]
    have hmx' : c ≤ 9223372036854775807 := by unfold maxLen at hmx; omega
    by_cases hin : i = n
    · subst hin
      by_cases hroom : i + 1 ≤ c
      · refine (Any2.slices_Insert_int_end_room Try.laysIns g 0 i c vb 0 1 1 [xv] w (by omega) hroom hmx' rfl (fun j hj => by rw [show 0 + i + j = 0 + (i + j) by omega]; exact hsome _ (by omega)) (fun j hj => hfz _) hvs h1v).mono ?_
        rintro e' w' ⟨rfl, rfl⟩
        have hset := setCells_row (P := Try.prog) (o := 0 + i) (vs := [xv]) hg (by simp [hcs]; omega) h1v
        refine ⟨_, _, rfl, ?_, .inl rfl, ?_⟩
        · rw [hset]; exact Fr.setRow _ _ _
        · rw [hset]
          refine ⟨by simp [hll], .inr ⟨g, c, _, rfl, Nat.zero_le _, setRow_heap w g cur _ 3 _ hg, hroom, hmx, ?_, ?_⟩⟩
          · simp only [List.size_toArray, List.length_append, List.length_take, List.length_drop, hcl, List.length_singleton]; omega
          · simp only [Nat.zero_add, htk']
            rw [List.take_append_of_le_length (by simp [hll]), List.take_of_length_le (by simp [hll]), List.take_of_length_le (by omega), List.drop_eq_nil_of_le (by omega), List.append_nil]
      · refine (Any2.slices_Insert_int_end_grow Try.laysIns (some ⟨g, 0, none⟩) i c vb 0 1 1 l [xv] w (by omega) hle (by omega) (by omega) hll rfl (by simp) (by intro a h; cases h; intro j v hj; rw [add_plain']; exact hcell j v hj) hvs h1v).mono ?_
        rintro e' w' ⟨rfl, rfl⟩
        refine ⟨_, _, rfl, ?_, .inr ⟨w.heap.size, rfl, Nat.le_refl _⟩, ?_⟩
        · exact ((Fr.drawn w _).trans0 (Fr.alloc _ _)).mono (by simp)
        · rw [List.take_of_length_le (by omega), List.drop_eq_nil_of_le (by omega), List.append_nil]
          exact hgrow c (by omega) (l ++ [xv]) (by simp [hll])
    · by_cases hroom : n + 1 ≤ c
      · refine (Any2.slices_Insert_int_shift Try.laysIns g 0 n c i vb 0 1 1 l [xv] w (by omega) (by omega) hroom hmx' (by intro e; exact hne (by rw [e]; rfl)) hll rfl hcell (fun j hj => hsome j (by omega)) (fun j hj => hfz _) hvs h1 h1v e 3 1 c (by simp [World.shape?, hvb]) (by simp [World.shape?, hg, hcs]) (by omega) (by simp [World.frozen?, hvb]) (by simp [World.frozen?, hvb])).mono ?_
        rintro e' w' ⟨rfl, rfl⟩
        have hdl : ∀ u ∈ l.drop i, u.oneCell' = true := fun u hu => h1 u (List.mem_of_mem_drop hu)
        have hset1 := setCells_row (P := Try.prog) (w := w.drew) (o := 0 + (i + 1)) (vs := l.drop i) hg (by rw [List.length_drop, hll, hcs]; omega) hdl
        have hg2 := setRow_heap w.drew g cur (cur.toList.take (0 + (i + 1)) ++ l.drop i ++ cur.toList.drop (0 + (i + 1) + (l.drop i).length)).toArray 3 (0, 0) hg
        have hset2 := setCells_row (P := Try.prog) (o := 0 + i) (vs := [xv]) hg2 (by simp only [List.size_toArray, List.length_append, List.length_take, List.length_drop, hcl, hll, List.length_singleton]; omega) h1v
        rw [hset1, hset2]
        refine ⟨_, _, rfl, ?_, .inl rfl, ?_⟩
        · exact ((Fr.drawn w _).mono (by simp)).trans ((Fr.setRow _ _ _).trans (Fr.setRow _ _ _) (fun s hs _ => hs)) (fun s hs _ => hs)
        · refine ⟨by simp only [List.length_append, List.length_take, List.length_drop, hll, List.length_singleton]; omega, .inr ⟨g, c, _, rfl, Nat.zero_le _, setRow_heap _ g _ _ 3 _ hg2, hroom, hmx, ?_, ?_⟩⟩
          · simp only [List.size_toArray, List.length_append, List.length_take, List.length_drop, hcl, hll, List.length_singleton]; omega
          · have hti : (cur.toList.take (i + 1)).take i = l.take i := by rw [List.take_take, ← htk', List.take_take]; congr 1; omega
            simp only [Nat.zero_add, List.length_singleton]
            have e1 : (cur.toList.take (i + 1) ++ l.drop i ++ cur.toList.drop (i + 1 + (l.drop i).length)).take i = l.take i := by
              rw [List.append_assoc, List.take_append_of_le_length (by rw [List.length_take, hcl]; omega), hti]
            have e2 : (cur.toList.take (i + 1) ++ l.drop i ++ cur.toList.drop (i + 1 + (l.drop i).length)).drop (i + 1) = l.drop i ++ cur.toList.drop (i + 1 + (l.drop i).length) := by
              rw [List.append_assoc, List.drop_append_of_le_length (by rw [List.length_take, hcl]; omega), List.drop_eq_nil_of_le (by rw [List.length_take]; omega), List.nil_append]
            rw [e1, e2, ← List.append_assoc, List.take_append_of_le_length (by simp only [List.length_append, List.length_take, List.length_drop, hll, List.length_singleton]; omega), List.take_of_length_le (by simp only [List.length_append, List.length_take, List.length_drop, hll, List.length_singleton]; omega)]
      · refine (Any2.slices_Insert_int_grow Try.laysIns g 0 n c i vb 0 1 1 l [xv] w (by omega) (by omega) hle (by omega) (by omega) hll rfl hcell hvs h1 h1v).mono ?_
        rintro e' w' ⟨rfl, rfl⟩
        have hge := grownCap_ge w (n + 1) c 3
        have hmx2 := grownCap_le_maxLen w (n + 1) c 3 (by unfold maxLen; omega)
        generalize hgc : grownCap w (n + 1) c 3 = gc at hge hmx2
        have hgc' : grownCap w (n + 1) c (Try.laysIns_ren.t 3) = gc := hgc
        rw [hgc']
        have hg1 : ((w.alloc (.cells ((l.take i).toArray ++ Builtin.zeroCells (Value.int .i64 0).cells (n + 1 - i) ++ Builtin.zeroCells (Value.int .i64 0).cells (gc - (n + 1))) 3)).drew).heap[w.heap.size]? = some (.cells ((l.take i).toArray ++ Builtin.zeroCells (Value.int .i64 0).cells (n + 1 - i) ++ Builtin.zeroCells (Value.int .i64 0).cells (gc - (n + 1))) 3 (0, 0)) := heap_alloc_new w _
        have hsz1 : ((l.take i).toArray ++ Builtin.zeroCells (Value.int .i64 0).cells (n + 1 - i) ++ Builtin.zeroCells (Value.int .i64 0).cells (gc - (n + 1))).size = gc := by
          rw [Array.size_append, Array.size_append, zeros_size _ rfl, zeros_size _ rfl]
          simp only [List.size_toArray, List.length_take, hll]
          omega
        have hpre : ((l.take i).toArray ++ Builtin.zeroCells (Value.int .i64 0).cells (n + 1 - i) ++ Builtin.zeroCells (Value.int .i64 0).cells (gc - (n + 1))).toList.take i = l.take i := by
          simp only [Array.toList_append, List.append_assoc]
          rw [List.take_append_of_le_length (by rw [List.length_take, hll]; omega), List.take_of_length_le (by rw [List.length_take]; omega)]
        show RetI w _ _ _ _ (((w.alloc (.cells ((l.take i).toArray ++ Builtin.zeroCells (Value.int .i64 0).cells (n + 1 - i) ++ Builtin.zeroCells (Value.int .i64 0).cells (gc - (n + 1))) 3)).drew.setCells w.heap.size i [xv]).drew.setCells w.heap.size (i + 1) (l.drop i))
        generalize ((l.take i).toArray ++ Builtin.zeroCells (Value.int .i64 0).cells (n + 1 - i) ++ Builtin.zeroCells (Value.int .i64 0).cells (gc - (n + 1))) = cur1 at *
        have hcl1 : cur1.toList.length = gc := by simpa using hsz1
        have hdl : ∀ u ∈ l.drop i, u.oneCell' = true := fun u hu => h1 u (List.mem_of_mem_drop hu)
        have hset1 := setCells_row (P := Try.prog) (o := i) (vs := [xv]) hg1 (by simp only [List.length_singleton]; omega) h1v
        rw [hset1]
        have hg2 : (((w.alloc (.cells cur1 3)).drew.setRow w.heap.size (cur1.toList.take i ++ [xv] ++ cur1.toList.drop (i + [xv].length)).toArray).drew).heap[w.heap.size]? = some (.cells (cur1.toList.take i ++ [xv] ++ cur1.toList.drop (i + [xv].length)).toArray 3 (0, 0)) := setRow_heap _ _ _ _ 3 _ hg1
        have hset2 := setCells_row (P := Try.prog) (o := i + 1) (vs := l.drop i) hg2 (by simp only [List.size_toArray, List.length_append, List.length_take, List.length_drop, hcl1, hll, List.length_singleton]; omega) hdl
        rw [hset2]
        refine ⟨_, _, rfl, ?_, .inr ⟨w.heap.size, rfl, Nat.le_refl _⟩, ?_⟩
        · have f1 : Fr [g] w (w.alloc (.cells cur1 3)) := (Fr.alloc w _).mono (by simp)
          have f2 : Fr [w.heap.size] (w.alloc (.cells cur1 3)) ((w.alloc (.cells cur1 3)).drew.setRow w.heap.size (cur1.toList.take i ++ [xv] ++ cur1.toList.drop (i + [xv].length)).toArray) := (((Fr.drawn (w.alloc (.cells cur1 3)) _).mono (S' := [w.heap.size]) (by simp))).trans (Fr.setRow _ _ _) (fun s hs _ => hs)
          have f3 := ((Fr.drawn ((w.alloc (.cells cur1 3)).drew.setRow w.heap.size (cur1.toList.take i ++ [xv] ++ cur1.toList.drop (i + [xv].length)).toArray) (((w.alloc (.cells cur1 3)).drew.setRow w.heap.size (cur1.toList.take i ++ [xv] ++ cur1.toList.drop (i + [xv].length)).toArray).drawn + 1)).mono (S' := [w.heap.size]) (by simp))
          refine f1.trans ((f2.trans f3 (fun s hs _ => hs)).trans (Fr.setRow _ _ _) (fun s hs _ => hs)) ?_
          intro s hs hlt
          obtain rfl : s = w.heap.size := by simpa using hs
          omega
        · refine ⟨by simp only [List.length_append, List.length_take, List.length_drop, hll, List.length_singleton]; omega, .inr ⟨w.heap.size, gc, _, rfl, Nat.zero_le _, setRow_heap _ _ _ _ 3 _ hg2, hge, hmx2, ?_, ?_⟩⟩
          · simp only [List.size_toArray, List.length_append, List.length_take, List.length_drop, hcl1, hll, List.length_singleton]; omega
          · simp only [List.length_singleton, hpre]
            have e1 : (l.take i ++ [xv] ++ cur1.toList.drop (i + 1)).take (i + 1) = l.take i ++ [xv] := by
              rw [List.take_append_of_le_length (by simp only [List.length_append, List.length_take, hll, List.length_singleton]; omega), List.take_of_length_le (by simp only [List.length_append, List.length_take, hll, List.length_singleton]; omega)]
            rw [e1, List.take_append_of_le_length (by simp only [List.length_append, List.length_take, List.length_drop, hll, List.length_singleton]; omega), List.take_of_length_le (by simp only [List.length_append, List.length_take, List.length_drop, hll, List.length_singleton]; omega)]
end Go.Proofs.Pz
end
section
namespace Go.Sx
open Go.RowKit
section
variable {P : Program} {ops : Array Oper} {Kf K' : Array Value → World → Prop} {Kp : KP}
variable {T : Array Value} {w : World} {w0 : World} {S : List Nat} {N : Nat} {R : List (Nat × Value)} {G : List Ent}
variable {i j n : Nat} {o : Oper} {L : Array Bool}

/-- two are ready: whichever comes first -/
theorem GA.two (hq : Region.ready .any ops L = [i, j]) (hi : StG P ops i (GA P ops Kf Kp n (L.setIfInBounds i true)) Kp T w) (hj : StG P ops j (GA P ops Kf Kp n (L.setIfInBounds j true)) Kp T w) : GA P ops Kf Kp (n + 1) L T w := by
  refine ⟨fun h0 => (by rw [hq] at h0; cases h0), fun k hk => ?_⟩
  rw [hq] at hk
  rcases List.mem_cons.1 hk with rfl | hk
  · exact hi
  · obtain rfl : k = j := by simpa using hk
    exact hj
theorem StG.of (ho : ops[i]? = some o) (hw : Region.wanted o (yielded ops T) = true) (h : Stp P o K' Kp T w) : StG P ops i K' Kp T w := by
  unfold StG
  rw [ho]
  simp only [hw, if_true]
  exact h
theorem StG.fG {f : FuncId} {xs : Array Operand} {ts : Array TypeId} {args : Array Value} {Q : Value → List Ent → World → Prop} {d : Tmp} (H : Sx w0 S N R G T w) (ho : ops[i]? = some o) (hw : Region.wanted o (yielded ops T) = true)
    (hop : o.op = .call { callee := .value (.func f), args := xs, argTypes := ts }) (hd : o.dst = some d) (hN : Nat.blt d N = true)
    (ha : xs.map (evT T) = args) (hf : ∀ (args : Array Value) w, (callFunc f args).run P w = .ok (.enter f args) w)
    (hc : Calls P f args w (RetG w Q)) (K : ∀ v E T' w', Q v E w' → Fr [] w w' → Sx w0 S N ((d, v) :: R) (E ++ G) T' w' → K' T' w') : StG P ops i K' Kp T w := by
  have hr : (execOp (evT T) o).run P w = .ok (.enter f args) w := by
    subst ha
    unfold execOp
    rw [hop]
    simp [resolve, evT, Deferred.ofValue, invoke, hf]
  refine StG.of ho hw ⟨by rw [hop]; rfl, ?_⟩
  rw [hr]
  refine hc.mono ?_
  rintro e w2 ⟨v, E, rfl, hfr, h1, h2, h3, hQ⟩
  refine .inl ⟨v, rfl, fun _ => hfr, ?_⟩
  rw [hd]
  exact K v E _ w2 hQ hfr ((H.adds hfr E h1 h2 h3).put d v (lt_of_blt hN))
theorem StG.bs {d : Tmp} {e : TypeId} {m : Nat} {C : List Value} (H : Sx w0 S N R G T w) (ho : ops[i]? = some o) (hw : Region.wanted o (yielded ops T) = true) (hn : noDefer o.op = true) (hd : o.dst = some d) (hN : Nat.blt d N = true)
    (hr : (execOp (evT T) o).run P w = .ok (.value (.slice (some ⟨w.heap.size, 0, none⟩) m m)) (w.alloc (.cells C.toArray e)))
    (K : ∀ g T' w', Sx w0 S N ((d, .slice (some ⟨g, 0, none⟩) m m) :: R) (.blk g (Eo (.cells C.toArray e (0, 0))) :: G) T' w' → K' T' w') : StG P ops i K' Kp T w := by
  refine StG.of ho hw ⟨hn, ?_⟩
  rw [hr]
  refine ⟨fun _ => Fr.alloc _ _, ?_⟩
  rw [hd]
  refine K w.heap.size _ _ (Sx.put ?_ d _ (lt_of_blt hN))
  exact H.new (Fr.alloc _ _) _ ⟨_, heap_alloc_new w _, rfl⟩ (by simp [Ent.keys]) (by simp [Ent.keys])
end
end Go.Sx
namespace Go.Sx
theorem Sx.rowNe {w0 w : World} {S : List Nat} {N : Nat} {R : List (Nat × Value)} {G G0 : List Ent} {T : Array Value} (H : Sx w0 S N R G T w) {g1 : Nat} {A1 : Obj → Prop} {v : Value} {e : TypeId} {sz m : Nat} {l : List Value} (ht : Take (.row v e sz m l) G G0) (h1 : Ent.blk g1 A1 ∈ G0) : v.ownBlock ≠ some g1 := by
  have hnd := (H.front ht).nd
  rw [List.flatMap_cons, List.nodup_append] at hnd
  intro h
  exact hnd.2.2 g1 (by simp [Ent.keys, h]) g1 (List.mem_flatMap.2 ⟨_, h1, by simp [Ent.keys]⟩) rfl
end Go.Sx
end
section
namespace Go.Proofs.Pz
open Go.Sx Go.RowKit
set_option linter.unusedVariables false
namespace AG

end AG
open AG
section
variable {P : Program} {ops : Array Oper} {Kf : Array Value → World → Prop} {Kp : KP}
variable {T : Array Value} {w : World} {w0 : World} {S : List Nat} {N : Nat} {R : List (Nat × Value)} {G G0 : List Ent}
variable {i n : Nat} {o : Oper} {L L' : Array Bool}
/-- a call that puts one more into a row of ours -/
theorem GA.fI {f : FuncId} {xs : Array Operand} {ts : Array TypeId} {args : Array Value} {v : Value} {q m : Nat} {l l' : List Value} {d : Tmp} (H : Sx w0 S N R G T w) (ho : ops[i]? = some o) (hw : Region.wanted o (yielded ops T) = true)
    (hop : o.op = .call { callee := .value (.func f), args := xs, argTypes := ts }) (hd : o.dst = some d) (hN : Nat.blt d N = true) (hq : Region.ready .any ops L = [i]) (hL : L.setIfInBounds i true = L')
    (ha : xs.map (evT T) = args) (hf : ∀ (args : Array Value) w, (callFunc f args).run P w = .ok (.enter f args) w) (ht : Take (.row v 3 1 q l) G G0) (hx : extK Kp.m o = false)
    (hc : Calls P f args w (RetI w v m l')) (K : ∀ A c T' w', Sx w0 S N ((d, .slice A m c) :: R) (.row (.slice A m c) 3 1 m l' :: G0) T' w' → GA P ops Kf Kp n L' T' w') : GA P ops Kf Kp (n + 1) L T w := by
  have hr : (execOp (evT T) o).run P w = .ok (.enter f args) w := by
    subst ha
    unfold execOp
    rw [hop]
    simp [resolve, evT, Deferred.ofValue, invoke, hf]
  refine GA.only ho hq hL hw ⟨by rw [hop]; rfl, ?_⟩
  rw [hr]
  refine hc.mono ?_
  rintro e w2 ⟨A, c, rfl, hfr, hk, hown⟩
  refine .inl ⟨_, rfl, fun h => (by rw [hx] at h; cases h), ?_⟩
  rw [hd]
  refine K A c _ w2 (Sx.put ?_ d _ (lt_of_blt hN))
  refine (H.front ht).upd (x' := .row (.slice A m c) 3 1 m l') .here hfr hown ?_ ?_
  · intro k hk'
    simp only [Ent.keys, Ent.w, Option.mem_toList] at hk' ⊢
    rcases hk with hk | ⟨g, h1, h2⟩
    · exact .inl (by rw [← hk]; exact hk')
    · rw [h1] at hk'
      simp only [Option.some.injEq] at hk'
      exact .inr (by omega)
  · simp only [Ent.keys]
    cases (Value.slice A m c).ownBlock with
    | none => exact List.nodup_nil
    | some x => simp
end
theorem clone48n {c : Nat} {w0 : World} : Calls Try.prog 48 #[.slice none 0 c] w0 (RetG w0 fun v E _ => ∃ A c', v = .slice A 0 c' ∧ E = [.row v 3 1 0 []]) := by
  refine enter (args := [.slice none 0 c]) (S := []) Try.func48 rfl Try.ntmps48 rfl fun cs T H => ?_
  refine At.seq ?_
  refine At.region' (l := [0]) rfl ?_
  refine At.v H rfl (wN rfl) rfl rfl rfl (x_assign evC) ?_; clear H; intro T H
  refine At.regionEnd ?_
  refine At.seq ?_
  refine At.seq ?_
  refine At.region' (l := [0, 1]) rfl ?_
  refine At.v H rfl (wN rfl) rfl rfl rfl (x_move (H.r 0 rfl)) ?_; clear H; intro T H
  refine At.v H rfl (wN rfl) rfl rfl rfl (x_eqSl (H.r 3 rfl) evC Try.underlying30) ?_; clear H; intro T H
  refine At.regionEnd ?_
  refine At.condT (H.r 4 rfl) ?_
  refine At.seq ?_
  refine At.region' (l := [0]) rfl ?_
  refine At.v H rfl (wN rfl) rfl rfl rfl (x_assign evC) ?_; clear H; intro T H
  refine At.regionEnd ?_
  refine At.ret rfl ?_
  exact lea Try.func48 (res1 Try.results48 (H.r 2 rfl)) (RetG.of (H.addNil 3 1) [.row (.slice none 0 0) 3 1 0 []] (by simp) (by simp [Ent.w, Ent.keys]) ⟨none, 0, rfl, rfl⟩)
theorem clone48s {bk off n c : Nat} {l : List Value} {w0 : World} (hc : CellsAt w0 bk off l) (hl : l.length = n) (h1 : ∀ u ∈ l, u.oneCell' = true) (hn : n ≤ 1000) : Calls Try.prog 48 #[.slice (some ⟨bk, off, none⟩) n c] w0 (RetG w0 fun v E _ => ∃ A c', v = .slice A n c' ∧ E = [.row v 3 1 n l]) := by
  refine enter (args := [.slice (some ⟨bk, off, none⟩) n c]) (S := []) Try.func48 rfl Try.ntmps48 rfl fun cs T H => ?_
  refine At.seq ?_
  refine At.region' (l := [0]) rfl ?_
  refine At.v H rfl (wN rfl) rfl rfl rfl (x_assign evC) ?_; clear H; intro T H
  refine At.regionEnd ?_
  refine At.seq ?_
  refine At.seq ?_
  refine At.region' (l := [0, 1]) rfl ?_
  refine At.v H rfl (wN rfl) rfl rfl rfl (x_move (H.r 0 rfl)) ?_; clear H; intro T H
  refine At.v H rfl (wN rfl) rfl rfl rfl (x_eqSl (H.r 3 rfl) evC Try.underlying30) ?_; clear H; intro T H
  refine At.regionEnd ?_
  refine At.condF (H.r 4 rfl) ?_
  refine At.skip ?_
  refine At.seq ?_
  refine At.region' (l := [0, 1, 2, 3]) rfl ?_
  refine At.bs (n := 0) (L := ?l5_1) (e := ?e5_1) H rfl (wN rfl) rfl rfl rfl (x_bs0  ?r5_1) ?_
  case r5_1 => (simp [go_sem]; rfl)
  clear H; intro b5 T w H
  replace H := H.toRow (n := 0) (sz := 1) (e := 3) (by repeat (first | exact Take.here | apply Take.there)) rfl (by decide)
  refine At.v H rfl (wN rfl) rfl rfl rfl (x_move (H.r 0 rfl)) ?_; clear H; intro T H
  refine At.append H rfl (wN rfl) rfl rfl rfl (etI w0) (H.r 5 rfl) (H.r 6 rfl) (by repeat (first | exact Take.here | apply Take.there)) (H.extA hc (by simp)) (by omega) h1 (by omega) ?_; clear H; intro A7 c7 T w hc7 hA7 H
  refine At.v H rfl (wN rfl) rfl rfl rfl (x_assign (H.r 7 rfl)) ?_; clear H; intro T H
  refine At.regionEnd ?_
  refine At.ret rfl ?_
  simp only [Nat.zero_add, List.nil_append] at H
  exact lea Try.func48 (res1 Try.results48 (H.r 2 rfl)) (RetG.of H [.row (.slice A7 n c7) 3 1 n l] (by simp) (by simp [Ent.w, Ent.keys]) ⟨A7, c7, rfl, rfl⟩)
theorem clone48 {A : Option Addr} {n c : Nat} {l : List Value} {w0 : World} (hrow : w0.ownsRow 0 3 1 (.slice A n c) n l) (h1 : ∀ u ∈ l, u.oneCell' = true) (hn : n ≤ 1000) : Calls Try.prog 48 #[.slice A n c] w0 (RetG w0 fun v E _ => ∃ A' c', v = .slice A' n c' ∧ E = [.row v 3 1 n l]) := by
  have hl := hrow.1
  rcases hrow.2 with ⟨hv, h0⟩ | ⟨g, cap, cur, hv, _, hg, hle, hmx, hcs, htk⟩
  · simp only [Value.slice.injEq] at hv
    obtain ⟨rfl, rfl, rfl⟩ := hv
    obtain rfl : l = [] := List.eq_nil_of_length_eq_zero (by omega)
    exact clone48n
  · simp only [Value.slice.injEq, true_and] at hv
    obtain ⟨rfl, rfl⟩ := hv
    refine clone48s (fun j u hj => ?_) (by omega) h1 hn
    have hj' := hj
    rw [← htk, List.getElem?_take] at hj'
    rw [cell_of_row w0 g _ _ _ _ hg, Nat.zero_add]
    split at hj'
    · simpa using hj'
    · cases hj'
end Go.Proofs.Pz
end
section
set_option linter.unusedVariables false
namespace Go.Proofs.Pz
open Go.Sx
/-! ### at another place -/
def othersL (men : List Wi) (i : Nat) : List Nat := (ord men).filter fun m => decide ((m : Int) ≠ (i : Int))
def ordAt (men : List Wi) (i p : Nat) : List Nat := (othersL men i).take (p - 1) ++ [i] ++ (othersL men i).drop (p - 1)
def movedTo (men : List Wi) (o : List Nat) (k : Nat) : List Wi := (List.range k).foldl (fun acc (j : Nat) => match o[j]? with | some m => acc.modify m (fun x => { x with place := (j : Int) + 1 }) | none => acc) men
def movedL (men : List Wi) (i p : Nat) : List Wi := movedTo men (ordAt men i p) men.length
def winsAt (men : List Wi) (list : List Zi) (i p : Nat) : Bool := (dueL (movedL men i p) list).any fun o => decide (o = some i)
/-- the greatest place at which somebody gets a prize -/
def forL (men : List Wi) (list : List Zi) (i : Nat) : Option Nat := ((List.range men.length).find? fun (t : Nat) => winsAt men list i (men.length - t)).map fun t => men.length - t
theorem movedTo_succ (men : List Wi) (o : List Nat) (k : Nat) : movedTo men o (k + 1) = match o[k]? with | some m => (movedTo men o k).modify m (fun x => { x with place := (k : Int) + 1 }) | none => movedTo men o k := by
  unfold movedTo
  rw [List.range_succ, List.foldl_append]
  rfl
theorem movedTo_len (men : List Wi) (o : List Nat) (k : Nat) : (movedTo men o k).length = men.length := by
  induction k with
  | zero => rfl
  | succ k ih =>
    rw [movedTo_succ]
    split
    · rw [List.length_modify, ih]
    · exact ih

theorem mem_ord {men : List Wi} {list : List Zi} (hv : Valid men list) {m : Nat} (hm : m < men.length) : m ∈ ord men := by
  have hmi := List.getElem?_eq_getElem hm
  generalize men[m] = mi at hmi
  have hp := hv.place mi (List.mem_of_getElem? hmi)
  obtain ⟨m2, mi2, h1, h2, h3, h4, h5⟩ := hv.ord_at (k := mi.place.toNat - 1) (by omega)
  have he : mi2.place = mi.place := by omega
  have hmm : m2 = m := by
    have hnd := hv.nd
    have a := List.getElem?_map (f := (·.place)) (l := men) (i := m2)
    have b := List.getElem?_map (f := (·.place)) (l := men) (i := m)
    rw [h4] at a
    rw [hmi] at b
    simp only [Option.map_some] at a b
    rw [he] at a
    exact (List.getElem?_inj (by rw [List.length_map]; exact h3) hnd).1 (a.trans b.symm)
  rw [← hmm]
  exact List.mem_of_getElem? h1
theorem ord_nodup {men : List Wi} {list : List Zi} (hv : Valid men list) : (ord men).Nodup := by
  refine List.pairwise_iff_getElem.2 ?_
  intro a b ha hb hab e
  have hb' := hb
  rw [ord_length] at hb'
  obtain ⟨m, mi, h1, _, _, h4, h5⟩ := hv.ord_at (k := a) (by omega)
  obtain ⟨m2, mi2, h6, _, _, h9, h10⟩ := hv.ord_at (k := b) hb'
  rw [List.getElem?_eq_getElem ha] at h1
  rw [List.getElem?_eq_getElem hb] at h6
  rw [e] at h1
  rw [h1] at h6
  simp only [Option.some.injEq] at h6
  subst h6
  rw [h4] at h9
  simp only [Option.some.injEq] at h9
  subst h9
  omega

theorem othersL_eq {men : List Wi} {list : List Zi} (hv : Valid men list) (i : Nat) : othersL men i = (ord men).erase i := by
  rw [(ord_nodup hv).erase_eq_filter, othersL]
  apply List.filter_congr
  intro x _
  by_cases h : x = i
  · simp [h]
  · have : ¬ (x : Int) = (i : Int) := by omega
    simp [h, this]
theorem ordAt_perm {men : List Wi} {list : List Zi} (hv : Valid men list) {i : Nat} (hi : i < men.length) (p : Nat) : (ordAt men i p).Perm (ord men) := by
  have h1 : (ordAt men i p).Perm (i :: othersL men i) := by
    rw [ordAt, List.append_assoc, List.singleton_append]
    refine List.perm_middle.trans ?_
    rw [List.take_append_drop]
  refine h1.trans ?_
  rw [othersL_eq hv]
  exact (List.perm_cons_erase (mem_ord hv hi)).symm
theorem ordAt_len {men : List Wi} {list : List Zi} (hv : Valid men list) {i : Nat} (hi : i < men.length) (p : Nat) : (ordAt men i p).length = men.length := by
  rw [(ordAt_perm hv hi p).length_eq, ord_length]
theorem othersL_len {men : List Wi} {list : List Zi} (hv : Valid men list) {i : Nat} (hi : i < men.length) : (othersL men i).length = men.length - 1 := by
  rw [othersL_eq hv, List.length_erase_of_mem (mem_ord hv hi), ord_length]

/-- what the places have become behind k of them -/
theorem movedTo_at (men : List Wi) (o : List Nat) (hnd : o.Nodup) (k : Nat) (hk : k ≤ o.length) (m : Nat) :
    (movedTo men o k)[m]? = (men[m]?).map fun x => if o.idxOf m < k then { x with place := (o.idxOf m : Int) + 1 } else x := by
  induction k with
  | zero => simp [movedTo]
  | succ k ih =>
    have ih := ih (by omega)
    have hok := List.getElem?_eq_getElem (l := o) (show k < o.length by omega)
    generalize hx : o[k] = x at hok
    rw [movedTo_succ, hok]
    simp only
    rw [List.getElem?_modify, ih]
    have hidx : o.idxOf x = k := by rw [← hx]; exact hnd.idxOf_getElem _ _
    by_cases hxm : x = m
    · subst hxm
      cases men[x]? with
      | none => simp
      | some y => simp [hidx]
    · have hne : o.idxOf m ≠ k := by
        intro e
        have hmo : m ∈ o := by
          rw [← List.idxOf_lt_length_iff]; omega
        have := List.getElem_idxOf (xs := o) (x := m) (by omega)
        simp only [e] at this
        exact hxm (hx.symm.trans this)
      simp only [hxm, if_false]
      cases men[m]? with
      | none => simp
      | some y =>
        by_cases h1 : o.idxOf m < k
        · simp [h1, show o.idxOf m < k + 1 by omega]
        · simp [h1, show ¬ o.idxOf m < k + 1 by omega]

theorem movedL_at {men : List Wi} {list : List Zi} (hv : Valid men list) {i : Nat} (hi : i < men.length) (p : Nat) {m : Nat} {x : Wi} (hm : men[m]? = some x) :
    (movedL men i p)[m]? = some { x with place := ((ordAt men i p).idxOf m : Int) + 1 } ∧ (ordAt men i p).idxOf m < men.length := by
  have hperm := ordAt_perm hv hi p
  have hl := ordAt_len hv hi p
  have hmo : m ∈ ordAt men i p := hperm.mem_iff.2 (mem_ord hv (List.getElem?_eq_some_iff.1 hm).1)
  have hlt : (ordAt men i p).idxOf m < men.length := by rw [← hl]; exact List.idxOf_lt_length_iff.2 hmo
  refine ⟨?_, hlt⟩
  rw [movedL, movedTo_at men _ (hperm.nodup_iff.2 (ord_nodup hv)) _ (by omega), hm]
  simp [hlt]
theorem Valid.moved {men : List Wi} {list : List Zi} (hv : Valid men list) {i : Nat} (hi : i < men.length) (p : Nat) : Valid (movedL men i p) list := by
  have hl : (movedL men i p).length = men.length := movedTo_len _ _ _
  have key : ∀ (m : Nat) (y : Wi), (movedL men i p)[m]? = some y → ∃ x, men[m]? = some x ∧ y = { x with place := ((ordAt men i p).idxOf m : Int) + 1 } ∧ (ordAt men i p).idxOf m < men.length := by
    intro m y hy
    have hlt := (List.getElem?_eq_some_iff.1 hy).1
    rw [hl] at hlt
    obtain ⟨h1, h2⟩ := movedL_at hv hi p (List.getElem?_eq_getElem hlt)
    rw [h1] at hy
    exact ⟨_, List.getElem?_eq_getElem hlt, (Option.some.inj hy).symm, h2⟩
  refine ⟨by rw [hl]; exact hv.n1, by rw [hl]; exact hv.n8, hv.l6, ?_, ?_, ?_, hv.prize⟩
  · intro y hy
    obtain ⟨m, hm⟩ := List.mem_iff_getElem?.1 hy
    obtain ⟨x, _, rfl, h3⟩ := key m y hm
    rw [hl]
    simp only
    omega
  · intro y hy
    obtain ⟨m, hm⟩ := List.mem_iff_getElem?.1 hy
    obtain ⟨x, h1, rfl, _⟩ := key m y hm
    exact hv.club x (List.mem_of_getElem? h1)
  · refine List.pairwise_iff_getElem.2 ?_
    intro a b ha hb hab e
    rw [List.length_map] at ha hb
    have hya := List.getElem?_eq_getElem ha
    have hyb := List.getElem?_eq_getElem hb
    rw [List.getElem_map, List.getElem_map] at e
    obtain ⟨x, h1, h2, h3⟩ := key a _ hya
    obtain ⟨x', h1', h2', h3'⟩ := key b _ hyb
    rw [h2, h2'] at e
    simp only at e
    have hidx : (ordAt men i p).idxOf a = (ordAt men i p).idxOf b := by omega
    have hperm := ordAt_perm hv hi p
    have hma : a ∈ ordAt men i p := hperm.mem_iff.2 (mem_ord hv (by omega))
    have hmb : b ∈ ordAt men i p := hperm.mem_iff.2 (mem_ord hv (by omega))
    have e1 := List.getElem_idxOf (xs := ordAt men i p) (x := a) (List.idxOf_lt_length_iff.2 hma)
    have e2 := List.getElem_idxOf (xs := ordAt men i p) (x := b) (List.idxOf_lt_length_iff.2 hmb)
    simp only [hidx] at e1
    have : a = b := e1.symm.trans e2
    omega

theorem modify_set {α : Type} {l : List α} {m : Nat} {x : α} (f : α → α) (h : l[m]? = some x) : l.modify m f = l.set m (f x) := by
  apply List.ext_getElem?
  intro j
  rw [List.getElem?_modify, List.getElem?_set]
  by_cases hj : m = j
  · subst hj
    have h2 := (List.getElem?_eq_some_iff.1 h)
    simp [h2.1, h2.2]
  · simp [hj]
theorem map_orNone_flat (l : List (Option Nat)) : (l.map orNone).flatMap encI = l.flatMap encO := by
  rw [flat_encI, flat_encO, List.map_map]; rfl
end Go.Proofs.Pz
end
section
namespace Go.Proofs.Pz
open Go.Sx Go.RowKit
set_option linter.unusedVariables false
namespace AH
theorem fa25_0 (a : Addr) (w : World) : (Instr.fieldAt 25 (.pointer (some a)) 0).run Try.prog w = .ok (.pointer (some (a.add 0))) w := by simp [go_sem]
theorem fa59_0 (a : Addr) (w : World) : (Instr.fieldAt 59 (.pointer (some a)) 0).run Try.prog w = .ok (.pointer (some (a.add 0))) w := by simp [go_sem]
end AH
open AH
theorem intV_one (l : List Nat) : (intV l).all (·.oneCell') = true := by
  rw [List.all_eq_true]
  intro u hu
  obtain ⟨m, _, rfl⟩ := List.mem_map.1 hu
  rfl
theorem intV_ins (l : List Nat) (i k : Nat) : (intV l).take k ++ [.int .i64 (i : Int)] ++ (intV l).drop k = intV (l.take k ++ [i] ++ l.drop k) := by
  simp [intV, List.map_take, List.map_drop]
theorem indexI_wins (l : List (Option Nat)) (i : Nat) : (0 ≤ indexI (l.map orNone) (i : Int)) ↔ (l.any fun o => decide (o = some i)) = true := by
  have hex : (∃ j : Nat, (l.map orNone)[j]? = some (i : Int)) ↔ (l.any fun o => decide (o = some i)) = true := by
    rw [List.any_eq_true]
    constructor
    · rintro ⟨j, hj⟩
      rw [List.getElem?_map, Option.map_eq_some_iff] at hj
      obtain ⟨o, h1, h2⟩ := hj
      exact ⟨o, List.mem_of_getElem? h1, by simpa using orNone_inj.1 (show orNone o = orNone (some i) from h2)⟩
    · rintro ⟨o, h1, h2⟩
      obtain rfl : o = some i := by simpa using h2
      obtain ⟨j, hj⟩ := List.mem_iff_getElem?.1 h1
      exact ⟨j, by rw [List.getElem?_map, hj]; rfl⟩
  rw [← hex]
  unfold indexI
  cases hf : (List.range (l.map orNone).length).find? (fun j => (l.map orNone)[j]? = some (i : Int)) with
  | none =>
    simp only
    constructor
    · intro h; omega
    · rintro ⟨j, hj⟩
      rw [List.find?_eq_none] at hf
      exact absurd (by simpa using hj) (hf j (List.mem_range.2 (List.getElem?_eq_some_iff.1 hj).1))
  | some j =>
    simp only
    have h2 := List.find?_some hf
    exact ⟨fun _ => ⟨j, by simpa using h2⟩, fun _ => by omega⟩
theorem openN {AM AL : Option Addr} {cM bM oM cL bL oL n : Nat} {men : List Wi} {list : List Zi} {w0 : World} (hn : men.length = n) (hM : SlP encW 4 w0 AM cM bM oM men) (hL : SlP encZ 2 w0 AL cL bL oL list) (hv : Valid men list) :
    Calls Try.prog 31 #[.agg #[.slice AM n cM, (.slice AL list.length cL)]] w0 (RetG w0 fun v E _ => ∃ b mw, v = .pointer (some ⟨b, 0, none⟩) ∧ E = [.blk b (Eo (.cells (pzCells AM n cM AL list.length cL mw (atL men)).toArray 80 (0, 0))), .blk mw (Eo whoObj)]) := by
  subst hn; exact openV hM hL hv
theorem Op.mkN {AM AL : Option Addr} {cM bM oM cL bL oL n : Nat} {men : List Wi} {list : List Zi} {bp mw : Nat} {w : World} (hn : men.length = n) (h1 : w.heap[bp]? = some (.cells (pzCells AM n cM AL list.length cL mw (atL men)).toArray 80 (0, 0))) (h2 : w.heap[mw]? = some whoObj)
    (hM : SlP encW 4 w AM cM bM oM men) (hL : SlP encZ 2 w AL cL bL oL list) : Op w bp men list := by subst hn; exact ⟨AM, cM, bM, oM, AL, cL, bL, oL, mw, h1, h2, hM, hL⟩
theorem For {AM AL : Option Addr} {cM bM oM cL bL oL : Nat} {men : List Wi} {list : List Zi} {w0 : World} (hM : SlP encW 4 w0 AM cM bM oM men) (hL : SlP encZ 2 w0 AL cL bL oL list) (hv : Valid men list) {i : Nat} (hi : i < men.length) : Calls Try.prog 22 #[(.agg #[(.slice AM men.length cM), (.slice AL list.length cL)]), .int .i64 (i : Int)] w0 (Ret w0 fun v _ => v = match forL men list i with | some p => .tuple #[.int .i64 (p : Int), .int .i64 0] | none => .tuple #[.int .i64 0, .int .i64 4]) := by
  have hl6 := hv.l6
  have hn8 := hv.n8
  have hne : men ≠ [] := fun e => by simp [e] at hi
  have hol := othersL_len hv hi
  refine enter (args := [(.agg #[(.slice AM men.length cM), (.slice AL list.length cL)]), .int .i64 (i : Int)]) (S := []) Try.func22 rfl Try.ntmps22 rfl fun cs T H => ?_
  refine At.seq ?_
  refine At.region' (l := [0, 1, 2, 3]) rfl ?_
  refine At.new H rfl (wN rfl) rfl rfl rfl (x_box (H.r 0 rfl) rfl) ?_; clear H; intro b2 T w _ _ H
  refine At.new H rfl (wN rfl) rfl rfl rfl (x_box (H.r 1 rfl) rfl) ?_; clear H; intro b3 T w _ _ H
  refine At.v H rfl (wN rfl) rfl rfl rfl (x_assign evC) ?_; clear H; intro T H
  refine At.new H rfl (wN rfl) rfl rfl rfl (x_alloc Try.zeroValue32 rfl) ?_; clear H; intro b5 T w _ _ H
  refine At.regionEnd ?_
  refine At.seq ?_
  refine At.region' (l := [0]) rfl ?_
  refine At.defer rfl rfl (wN rfl) rfl (x_defer evF (args1 (H.r 5 rfl))) ?_
  refine At.regionEnd ?_
  refine At.seq ?_
  refine At.region' (l := [0, 1, 2]) rfl ?_
  refine At.v H rfl (wN rfl) rfl rfl rfl (x_loadA (H.r 2 rfl) Try.isAgg25 Try.sizeOf25 (H.cellsAt (n := 2) (by repeat (first | exact List.mem_cons_self | apply List.mem_cons_of_mem)) rfl) rfl) ?_; clear H; intro T H
  refine At.fG H rfl (wN rfl) rfl rfl rfl (args1 (H.r 12 rfl)) Try.call31 (openV (hM.fr0 H.fr) (hL.fr0 H.fr) hv) ?_; clear H; rintro v13 E13 T w ⟨bp, mw, rfl, rfl⟩ _ H
  refine At.v H rfl (wN rfl) rfl rfl rfl (x_assign (H.r 13 rfl)) ?_; clear H; intro T H
  refine At.regionEnd ?_
  refine At.seq ?_
  refine At.region' (l := [0, 1, 2, 3]) rfl ?_
  refine At.v H rfl (wN rfl) rfl rfl rfl (x_move (H.r 6 rfl)) ?_; clear H; intro T H
  refine At.v H rfl (wN rfl) rfl rfl rfl (x_load (H.r 3 rfl) Try.isAgg3 (by first | exact H.cell (by repeat (first | exact List.mem_cons_self | apply List.mem_cons_of_mem)) _ rfl | exact H.cellR (by repeat (first | exact List.mem_cons_self | apply List.mem_cons_of_mem)) _ rfl)) ?_; clear H; intro T H
  refine At.f0 H rfl (wN rfl) rfl rfl rfl (args2 (H.r 14 rfl) (H.r 15 rfl)) Try.call38 (isMan (Op.ofH H (bp := bp) (by repeat (first | exact List.mem_cons_self | apply List.mem_cons_of_mem)) (by repeat (first | exact List.mem_cons_self | apply List.mem_cons_of_mem)) hM hL) _ hv.n8) ?_; clear H; rintro v16 T w rfl _ H
  rw [decide_eq_true (show 0 ≤ (i : Int) ∧ (i : Int) ≤ (men.length : Int) - 1 from by omega)] at H
  refine At.f0 H rfl (wN rfl) rfl rfl rfl (args2 (H.r 16 rfl) evC) Try.call34 (must_ok 2 _) ?_; clear H; rintro v17 T w rfl _ H
  refine At.regionEnd ?_
  refine At.seq ?_
  refine At.region' (l := [0, 1, 2, 3, 4]) rfl ?_
  refine At.v H rfl (wN rfl) rfl rfl rfl (x_move (H.r 6 rfl)) ?_; clear H; intro T H
  refine At.v H rfl (wN rfl) rfl rfl rfl (x_makeFunc args0 (args1 (H.r 3 rfl))) ?_; clear H; intro T H
  refine At.fG H rfl (wN rfl) rfl rfl rfl (args2 (H.r 18 rfl) (H.r 19 rfl)) Try.call45 (order _ rfl) ?_; clear H; rintro v20 E20 T w ⟨bo, bi, rfl, rfl⟩ _ H
  refine At.fG H rfl (wN rfl) rfl rfl rfl (args1 (H.r 20 rfl)) Try.call44 (collect44 (xs := (othersL men i)) (order_it (b := bp) (isV := .func (.func 46) #[] #[.pointer (some ⟨b3, 0, none⟩)]) hv (p := fun m => decide ((m : Int) ≠ (i : Int)))) (fun w2 h2 => ⟨(Op.ofH H (bp := bp) (by repeat (first | exact List.mem_cons_self | apply List.mem_cons_of_mem)) (by repeat (first | exact List.mem_cons_self | apply List.mem_cons_of_mem)) hM hL).fr h2, h2.cell (H.cell (by repeat (first | exact List.mem_cons_self | apply List.mem_cons_of_mem)) 0 rfl) (by simp), h2.cell (H.cell (by repeat (first | exact List.mem_cons_self | apply List.mem_cons_of_mem)) 0 rfl) (by simp), fun m _ => CallsV.func ⟨_, Try.func46, rfl, rfl⟩ (for1 (h2.cell (H.cell (by repeat (first | exact List.mem_cons_self | apply List.mem_cons_of_mem)) 0 rfl) (by simp)) m)⟩) (by omega)) ?_; clear H; rintro v21 E21 T w ⟨A21, c21, rfl, rfl⟩ _ H
  refine At.v H rfl (wN rfl) rfl rfl rfl (x_assign (H.r 21 rfl)) ?_; clear H; intro T H
  refine At.regionEnd ?_
  refine At.seq ?_
  refine At.seq ?_
  refine At.region' (l := [0, 1, 2, 3]) rfl ?_
  refine At.v H rfl (wN rfl) rfl rfl rfl (x_fieldAddr (H.r 2 rfl) fa25_0) ?_; clear H; intro T H
  refine At.v H rfl (wN rfl) rfl rfl rfl (x_load (H.r 22 rfl) Try.isAgg22 (by first | exact H.cell (by repeat (first | exact List.mem_cons_self | apply List.mem_cons_of_mem)) _ rfl | exact H.cellR (by repeat (first | exact List.mem_cons_self | apply List.mem_cons_of_mem)) _ rfl)) ?_; clear H; intro T H
  refine At.v H rfl (wN rfl) rfl rfl rfl (x_len (H.r 23 rfl) Try.runUnderlying22) ?_; clear H; intro T H
  refine At.v H rfl (wN rfl) rfl rfl rfl (x_assign (H.r 24 rfl)) ?_; clear H; intro T H
  refine At.regionEnd ?_
  refine At.block ?_
  refine At.loopN (fun m T w => ∃ t : Nat, m = men.length - t ∧ t ≤ men.length ∧ ((List.range men.length).take t).find? (fun (t : Nat) => winsAt men list i (men.length - t)) = none ∧ Sx w0 [] 61 [(8, .int .i64 ((men.length - t) : Int)), (7, .slice A21 (othersL men i).length c21), (5, .pointer (some ⟨b5, 0, none⟩)), (3, .pointer (some ⟨b3, 0, none⟩)), (2, .pointer (some ⟨b2, 0, none⟩))] [.row (.slice A21 (othersL men i).length c21) 3 1 (othersL men i).length (intV (othersL men i)), .blk b5 (Eo (.cells [.int .i64 0].toArray 32 (0, 0))), .blk b3 (Eo (.cells [.int .i64 (i : Int)].toArray 3 (0, 0))), .blk b2 (Eo (.cells [(.slice AM men.length cM), (.slice AL list.length cL)].toArray 25 (0, 0)))] T w) (men.length) ?_ ?_
  · exact ⟨0, rfl, Nat.zero_le _, by simp, (H.pk (by repeat (first | exact Pk.nil | exact Pk.all | refine Pk.cons (by repeat (first | exact Take.here | apply Take.there)) ?_ | apply Pk.skip))).sub ⟨rfl, rfl, rfl, rfl, rfl, trivial⟩⟩
  · clear H
    rintro n T w ⟨t, rfl, ht, hN, H⟩ hnext
    refine At.seq ?_
    refine At.seq ?_
    refine At.region' (l := [0, 1]) rfl ?_
    refine At.v H rfl (wN rfl) rfl rfl rfl (x_move (H.r 8 rfl)) ?_; clear H; intro T H
    refine At.c H rfl (wN rfl) rfl rfl rfl (x_gtr (H.r 25 rfl) evC) ?_ ?_
    · clear H; intro h26 T H
      have ht1 : t < men.length := by omega
      refine At.regionEnd ?_
      refine At.condT (H.r 26 rfl) ?_
      refine At.skip ?_
      refine At.seq ?_
      refine At.block ?_
      refine At.seq ?_
      refine At.region' (l := [0, 1, 2]) rfl ?_
      refine At.v H rfl (wN rfl) rfl rfl rfl (x_loadA (H.r 2 rfl) Try.isAgg25 Try.sizeOf25 (H.cellsAt (n := 2) (by repeat (first | exact List.mem_cons_self | apply List.mem_cons_of_mem)) rfl) rfl) ?_; clear H; intro T H
      refine At.new H rfl (wN rfl) rfl rfl rfl (x_alloc Try.zeroValue25 rfl) ?_; clear H; intro b9 T w _ _ H
      refine At.storeA H rfl (wN rfl) rfl rfl (H.r 9 rfl) (H.r 29 rfl) Try.sizeOf25 (List.all_eq_true.1 rfl) (by repeat (first | exact Upd.here | apply Upd.there)) (by rfl) ?_; clear H; intro T w _ H
      refine At.regionEnd ?_
      refine At.seq ?_
      refine At.region' (l := [0, 1, 2, 3, 4]) rfl ?_
      refine At.v H rfl (wN rfl) rfl rfl rfl (x_fieldAddr (H.r 2 rfl) fa25_0) ?_; clear H; intro T H
      refine At.v H rfl (wN rfl) rfl rfl rfl (x_load (H.r 30 rfl) Try.isAgg22 (by first | exact H.cell (by repeat (first | exact List.mem_cons_self | apply List.mem_cons_of_mem)) _ rfl | exact H.cellR (by repeat (first | exact List.mem_cons_self | apply List.mem_cons_of_mem)) _ rfl)) ?_; clear H; intro T H
      refine At.fG H rfl (wN rfl) rfl rfl rfl (args1 (H.r 31 rfl)) Try.call43 (clone43 (hM.fr0 H.fr) hne (by omega)) ?_; clear H; rintro v32 E32 T w ⟨g32, c32, rfl, rfl⟩ _ H
      refine At.v H rfl (wN rfl) rfl rfl rfl (x_fieldAddr (H.r 9 rfl) fa25_0) ?_; clear H; intro T H
      refine At.store1 H rfl (wN rfl) rfl rfl (H.r 33 rfl) (H.r 32 rfl) Try.sizeOf22 rfl rfl (by repeat (first | exact Upd.here | apply Upd.there)) (by repeat (first | exact SetAt.z | apply SetAt.s)) ?_; clear H; intro T w _ H
      refine At.regionEnd ?_
      refine At.seq ?_
      refine At.seq ?_
      refine At.join (fun T w => ∃ A c, Sx w0 [] 61 [(42, .int .i64 0), (41, .int .i64 (men.length : Int)), (40, .slice A men.length c), (9, .pointer (some ⟨b9, 0, none⟩)), (8, .int .i64 ((men.length - t) : Int)), (7, .slice A21 (othersL men i).length c21), (5, .pointer (some ⟨b5, 0, none⟩)), (3, .pointer (some ⟨b3, 0, none⟩)), (2, .pointer (some ⟨b2, 0, none⟩))] [.row (.slice A men.length c) 3 1 men.length (intV (ordAt men i (men.length - t))), .row (.slice (some ⟨g32, 0, none⟩) men.length c32) 59 4 men.length (men.flatMap encW), .blk b9 (Eo (.cells [.slice (some ⟨g32, 0, none⟩) men.length c32, (.slice AL list.length cL)].toArray 25 (0, 0))), .row (.slice A21 (othersL men i).length c21) 3 1 (othersL men i).length (intV (othersL men i)), .blk b5 (Eo (.cells [.int .i64 0].toArray 32 (0, 0))), .blk b3 (Eo (.cells [.int .i64 (i : Int)].toArray 3 (0, 0))), .blk b2 (Eo (.cells [(.slice AM men.length cM), (.slice AL list.length cL)].toArray 25 (0, 0)))] T w) ?_ ?_
      rotate_left
      · intro J
        refine At.drawnM [47] (m := 9) (L := #[false, false, false, false, false, false, false, false, false]) H mixed rfl rfl ?_; clear H; intro w H
        refine GA.v (i := 0) (L' := #[true, false, false, false, false, false, false, false, false]) H rfl (wN rfl) rfl rfl rfl (by kernel_rfl) rfl (fun w H => x_move (H.r 7 rfl)) ?_; clear H; intro T H
        refine GA.v (i := 2) (L' := #[true, false, true, false, false, false, false, false, false]) H rfl (wN rfl) rfl rfl rfl (by kernel_rfl) rfl (fun w H => x_move (H.r 8 rfl)) ?_; clear H; intro T H
        refine GA.v (i := 3) (L' := #[true, false, true, true, false, false, false, false, false]) H rfl (wN rfl) rfl rfl rfl (by kernel_rfl) rfl (fun w H => x_sub (z := (((men.length - t) - 1 : Nat) : Int)) (H.r 36 rfl) evC (by rw [show ((men.length - t) : Int) - 1 = (((men.length - t) - 1 : Nat) : Int) by omega]; exact w64 (by omega) (by omega))) ?_; clear H; intro T H
        refine GA.v (i := 4) (L' := #[true, false, true, true, true, false, false, false, false]) H rfl (wN rfl) rfl rfl rfl (by kernel_rfl) rfl (fun w H => x_load (H.r 3 rfl) Try.isAgg3 (H.cell (by repeat (first | exact List.mem_cons_self | apply List.mem_cons_of_mem)) _ rfl)) ?_; clear H; intro T H
        refine GA.p (i := 8) (L' := #[true, false, true, true, true, false, false, false, true]) H rfl (wN rfl) rfl rfl rfl (by kernel_rfl) rfl (fun w => x_move evC) ?_; clear H; intro T H
        refine GA.two (i := 1) (j := 5) (by kernel_rfl) ?_ ?_
        · refine StG.fG H rfl (wN rfl) rfl rfl rfl (args1 (H.r 34 rfl)) Try.call48 (clone48 (H.rowAt (by repeat (first | exact List.mem_cons_self | apply List.mem_cons_of_mem))) (List.all_eq_true.1 (intV_one _)) (by omega)) ?_; clear H; rintro v35 E35 T w ⟨A35, c35, rfl, rfl⟩ _ H
          refine GA.bs (i := 5) (L' := #[true, true, true, true, true, true, false, false, true]) (m := 1) (C := ?l39a) (e := ?e39a) H rfl (wN rfl) rfl rfl rfl (by kernel_rfl) rfl (x_bs1 (H.r 38 rfl) ?r39a) ?_
          case r39a => (simp [go_sem]; rfl)
          clear H; intro b39 T w H
          refine GA.fI (i := 6) (L' := #[true, true, true, true, true, true, true, false, true]) H rfl (wN rfl) rfl rfl rfl (by kernel_rfl) rfl (args3 (H.r 35 rfl) (H.r 37 rfl) (H.r 39 rfl)) Try.call47 (by repeat (first | exact Take.here | apply Take.there)) rfl (insert47 (H.rowAt (by repeat (first | exact List.mem_cons_self | apply List.mem_cons_of_mem))) (H.heap (b := b39) (by repeat (first | exact List.mem_cons_self | apply List.mem_cons_of_mem))) (H.rowNe (by repeat (first | exact Take.here | apply Take.there)) (g1 := b39) (by repeat (first | exact List.mem_cons_self | apply List.mem_cons_of_mem))) (by omega) (by omega) (List.all_eq_true.1 (intV_one _)) rfl) ?_; clear H; intro A40 c40 T w H
          refine GA.v (i := 7) (L' := #[true, true, true, true, true, true, true, true, true]) H rfl (wN rfl) rfl rfl rfl (by kernel_rfl) rfl (fun w H => x_len (H.r 40 rfl) Try.runUnderlying30) ?_; clear H; intro T H
          refine GA.done (by kernel_rfl) (J _ _ ⟨A40, c40, ?_⟩)
          rw [show ((othersL men i).length + 1) = men.length by omega, show (intV (othersL men i)).take ((men.length - t) - 1) ++ [.int .i64 (i : Int)] ++ (intV (othersL men i)).drop ((men.length - t) - 1) = intV (ordAt men i (men.length - t)) from intV_ins _ _ _] at H
          exact (H.pk (by repeat (first | exact Pk.nil | exact Pk.all | refine Pk.cons (by repeat (first | exact Take.here | apply Take.there)) ?_ | apply Pk.skip))).sub ⟨rfl, rfl, rfl, rfl, rfl, rfl, rfl, rfl, rfl, trivial⟩
        · refine StG.bs (m := 1) (C := ?l39b) (e := ?e39b) H rfl (wN rfl) rfl rfl rfl (x_bs1 (H.r 38 rfl) ?r39b) ?_
          case r39b => (simp [go_sem]; rfl)
          clear H; intro b39 T w H
          refine GA.fG (i := 1) (L' := #[true, true, true, true, true, true, false, false, true]) H rfl (wN rfl) rfl rfl rfl (by kernel_rfl) rfl (args1 (H.r 34 rfl)) Try.call48 (clone48 (H.rowAt (by repeat (first | exact List.mem_cons_self | apply List.mem_cons_of_mem))) (List.all_eq_true.1 (intV_one _)) (by omega)) ?_; clear H; rintro v35 E35 T w ⟨A35, c35, rfl, rfl⟩ _ H
          refine GA.fI (i := 6) (L' := #[true, true, true, true, true, true, true, false, true]) H rfl (wN rfl) rfl rfl rfl (by kernel_rfl) rfl (args3 (H.r 35 rfl) (H.r 37 rfl) (H.r 39 rfl)) Try.call47 (by repeat (first | exact Take.here | apply Take.there)) rfl (insert47 (H.rowAt (by repeat (first | exact List.mem_cons_self | apply List.mem_cons_of_mem))) (H.heap (b := b39) (by repeat (first | exact List.mem_cons_self | apply List.mem_cons_of_mem))) (H.rowNe (by repeat (first | exact Take.here | apply Take.there)) (g1 := b39) (by repeat (first | exact List.mem_cons_self | apply List.mem_cons_of_mem))) (by omega) (by omega) (List.all_eq_true.1 (intV_one _)) rfl) ?_; clear H; intro A40 c40 T w H
          refine GA.v (i := 7) (L' := #[true, true, true, true, true, true, true, true, true]) H rfl (wN rfl) rfl rfl rfl (by kernel_rfl) rfl (fun w H => x_len (H.r 40 rfl) Try.runUnderlying30) ?_; clear H; intro T H
          refine GA.done (by kernel_rfl) (J _ _ ⟨A40, c40, ?_⟩)
          rw [show ((othersL men i).length + 1) = men.length by omega, show (intV (othersL men i)).take ((men.length - t) - 1) ++ [.int .i64 (i : Int)] ++ (intV (othersL men i)).drop ((men.length - t) - 1) = intV (ordAt men i (men.length - t)) from intV_ins _ _ _] at H
          exact (H.pk (by repeat (first | exact Pk.nil | exact Pk.all | refine Pk.cons (by repeat (first | exact Take.here | apply Take.there)) ?_ | apply Pk.skip))).sub ⟨rfl, rfl, rfl, rfl, rfl, rfl, rfl, rfl, rfl, trivial⟩
      clear H; rintro T w ⟨A40, c40, H⟩
      refine At.block ?_
      refine At.loopN (fun m T w => ∃ k : Nat, m = men.length - k ∧ k ≤ men.length ∧ Sx w0 [] 61 [(42, .int .i64 (k : Int)), (41, .int .i64 (men.length : Int)), (40, .slice A40 men.length c40), (9, .pointer (some ⟨b9, 0, none⟩)), (8, .int .i64 ((men.length - t) : Int)), (7, .slice A21 (othersL men i).length c21), (5, .pointer (some ⟨b5, 0, none⟩)), (3, .pointer (some ⟨b3, 0, none⟩)), (2, .pointer (some ⟨b2, 0, none⟩))] [.row (.slice A40 men.length c40) 3 1 men.length (intV (ordAt men i (men.length - t))), .row (.slice (some ⟨g32, 0, none⟩) men.length c32) 59 4 men.length (((movedTo men (ordAt men i (men.length - t)) k)).flatMap encW), .blk b9 (Eo (.cells [.slice (some ⟨g32, 0, none⟩) men.length c32, (.slice AL list.length cL)].toArray 25 (0, 0))), .row (.slice A21 (othersL men i).length c21) 3 1 (othersL men i).length (intV (othersL men i)), .blk b5 (Eo (.cells [.int .i64 0].toArray 32 (0, 0))), .blk b3 (Eo (.cells [.int .i64 (i : Int)].toArray 3 (0, 0))), .blk b2 (Eo (.cells [(.slice AM men.length cM), (.slice AL list.length cL)].toArray 25 (0, 0)))] T w) (men.length) ?_ ?_
      · exact ⟨0, rfl, Nat.zero_le _, H.sub ⟨rfl, rfl, rfl, rfl, rfl, rfl, rfl, rfl, rfl, trivial⟩⟩
      · clear H
        rintro n T w ⟨k, rfl, hk, H⟩ hnext1
        have hml := movedTo_len men (ordAt men i (men.length - t)) k
        refine At.seq ?_
        refine At.region' (l := [0]) rfl ?_
        refine At.c H rfl (wN rfl) rfl rfl rfl (x_lss (H.r 42 rfl) (H.r 41 rfl)) ?_ ?_
        · clear H; intro h43 T H
          have hk1 : k < men.length := by omega
          obtain ⟨om, hom⟩ := get_ex (l := (ordAt men i (men.length - t))) (k := k) (by rw [ordAt_len hv hi]; exact hk1)
          obtain ⟨omi, homl, homi⟩ := hv.ord_mem ((ordAt_perm hv hi (men.length - t)).mem_iff.1 (List.mem_of_getElem? hom))
          obtain ⟨x, hx⟩ := get_ex (l := (movedTo men (ordAt men i (men.length - t)) k)) (k := om) (by omega)
          have hmv : movedTo men (ordAt men i (men.length - t)) (k + 1) = ((movedTo men (ordAt men i (men.length - t)) k)).set om { x with place := (k : Int) + 1 } := by rw [movedTo_succ, hom]; exact modify_set _ hx
          obtain ⟨g40, rfl⟩ := H.rowAddr (A := A40) (by repeat (first | exact List.mem_cons_self | apply List.mem_cons_of_mem)) (by omega)
          refine At.regionEnd ?_
          refine At.seq ?_
          refine At.condT (H.r 43 rfl) ?_
          refine At.skip ?_
          refine At.seq ?_
          refine At.block ?_
          refine At.seq ?_
          refine At.region' (l := [0, 1, 2, 3, 4]) rfl ?_
          refine At.v H rfl (wN rfl) rfl rfl rfl (x_move (H.r 42 rfl)) ?_; clear H; intro T H
          refine At.v H rfl (wN rfl) rfl rfl rfl (x_ixSN (H.r 40 rfl) (H.r 42 rfl) Try.runUnderlying30 Try.sizeOf3 (by omega)) ?_; clear H; intro T H
          refine At.v H rfl (wN rfl) rfl rfl rfl (x_load (H.r 45 rfl) Try.isAgg3 (by rw [show 0 + k * 1 = k by omega]; exact H.rowCell (g := g40) (by repeat (first | exact List.mem_cons_self | apply List.mem_cons_of_mem)) k (intV_at hom))) ?_; clear H; intro T H
          refine At.v H rfl (wN rfl) rfl rfl rfl (x_assign (H.r 44 rfl)) ?_; clear H; intro T H
          refine At.v H rfl (wN rfl) rfl rfl rfl (x_assign (H.r 46 rfl)) ?_; clear H; intro T H
          refine At.regionEnd ?_
          refine At.region' (l := [0, 1, 2, 3, 4, 5, 6, 7]) rfl ?_
          refine At.v H rfl (wN rfl) rfl rfl rfl (x_fieldAddr (H.r 9 rfl) fa25_0) ?_; clear H; intro T H
          refine At.v H rfl (wN rfl) rfl rfl rfl (x_load (H.r 47 rfl) Try.isAgg22 (by first | exact H.cell (by repeat (first | exact List.mem_cons_self | apply List.mem_cons_of_mem)) _ rfl | exact H.cellR (by repeat (first | exact List.mem_cons_self | apply List.mem_cons_of_mem)) _ rfl)) ?_; clear H; intro T H
          refine At.v H rfl (wN rfl) rfl rfl rfl (x_move (H.r 11 rfl)) ?_; clear H; intro T H
          refine At.v H rfl (wN rfl) rfl rfl rfl (x_move (H.r 10 rfl)) ?_; clear H; intro T H
          refine At.v H rfl (wN rfl) rfl rfl rfl (x_add (H.r 50 rfl) evC (w64 (by omega) (by omega))) ?_; clear H; intro T H
          refine At.v H rfl (wN rfl) rfl rfl rfl (x_ixSN (n := om) (H.r 48 rfl) (H.r 49 rfl) Try.runUnderlying22 Try.sizeOf59 homl) ?_; clear H; intro T H
          refine At.v H rfl (wN rfl) rfl rfl rfl (x_fieldAddr (H.r 52 rfl) fa59_0) ?_; clear H; intro T H
          refine At.storeR (l' := (((movedTo men (ordAt men i (men.length - t)) k)).set om { x with place := (k : Int) + 1 }).flatMap encW) H rfl (wN rfl) rfl rfl (H.r 53 rfl) (H.r 51 rfl) Try.sizeOf3 rfl rfl (by repeat (first | exact Take.here | apply Take.there)) (by rw [flatW_len, hml]; omega) (by rw [show 0 + om * 4 + 0 = om * 4 by omega, flatW_set hx]) ?_; clear H; intro T w _ H
          refine At.regionEnd ?_
          refine At.inBlock ?_
          refine At.region' (l := [0, 1]) rfl ?_
          refine At.v H rfl (wN rfl) rfl rfl rfl (x_add (H.r 42 rfl) evC (w64 (by omega) (by omega))) ?_; clear H; intro T H
          refine At.v H rfl (wN rfl) rfl rfl rfl (x_move (H.r 54 rfl)) ?_; clear H; intro T H
          refine At.regionEnd ?_
          exact hnext1 (men.length - (k + 1)) _ _ (by omega) ⟨k + 1, rfl, by omega, by rw [hmv]; exact (H.pk (by repeat (first | exact Pk.nil | exact Pk.all | refine Pk.cons (by repeat (first | exact Take.here | apply Take.there)) ?_ | apply Pk.skip))).sub ⟨rfl, rfl, rfl, rfl, rfl, rfl, rfl, rfl, rfl, trivial⟩⟩
        · clear H; intro h43 T H
          obtain rfl : k = men.length := by omega
          have hwd : winsAt men list i (men.length - t) = ((dueL (movedTo men (ordAt men i (men.length - t)) men.length) list).any fun o => decide (o = some i)) := rfl
          have hv2 : Valid (movedTo men (ordAt men i (men.length - t)) men.length) list := hv.moved hi (men.length - t)
          refine At.regionEnd ?_
          refine At.seq ?_
          refine At.condF (H.r 43 rfl) ?_
          refine At.exit rfl ?_
          refine At.seq ?_
          refine At.drawnC (m := 5) (L := #[false, false, false, false, false]) H mixed rfl rfl ?_; clear H; intro w H
          refine GA.v (i := 0) (L' := #[true, false, false, false, false]) H rfl (wN rfl) rfl rfl rfl (by kernel_rfl) rfl (fun w H => x_loadA (H.r 9 rfl) Try.isAgg25 Try.sizeOf25 (H.cellsAt (n := 2) (by repeat (first | exact List.mem_cons_self | apply List.mem_cons_of_mem)) rfl) rfl) ?_; clear H; intro T H
          refine GA.v (i := 3) (L' := #[true, false, false, true, false]) H rfl (wN rfl) rfl rfl rfl (by kernel_rfl) rfl (fun w H => x_load (H.r 3 rfl) Try.isAgg3 (by first | exact H.cell (by repeat (first | exact List.mem_cons_self | apply List.mem_cons_of_mem)) _ rfl | exact H.cellR (by repeat (first | exact List.mem_cons_self | apply List.mem_cons_of_mem)) _ rfl)) ?_; clear H; intro T H
          refine GA.fG (i := 1) (L' := #[true, true, false, true, false]) H rfl (wN rfl) rfl rfl rfl (by kernel_rfl) rfl (args1 (H.r 55 rfl)) Try.call31 (openN hml (H.rowP (enc := encW) (by repeat (first | exact List.mem_cons_self | apply List.mem_cons_of_mem)) (fun _ => rfl) hml.symm rfl) (hL.fr0 H.fr) hv2) ?_; clear H; rintro v56 E56 T w ⟨bq, mq, rfl, rfl⟩ _ H
          refine GA.fG (i := 2) (L' := #[true, true, true, true, false]) H rfl (wN rfl) rfl rfl rfl (by kernel_rfl) rfl (args1 (H.r 56 rfl)) Try.call32 (due (Op.mkN hml (H.heap (b := bq) (by repeat (first | exact List.mem_cons_self | apply List.mem_cons_of_mem))) (H.heap (b := mq) (by repeat (first | exact List.mem_cons_self | apply List.mem_cons_of_mem))) (H.rowP (enc := encW) (g := g32) (by repeat (first | exact List.mem_cons_self | apply List.mem_cons_of_mem)) (fun _ => rfl) hml.symm rfl) (hL.fr0 H.fr)) hv2) ?_; clear H; rintro v57 E57 T w ⟨A57, c57, rfl, rfl⟩ _ H
          refine GA.f0 (i := 4) (L' := #[true, true, true, true, true]) H rfl (wN rfl) rfl rfl rfl (by kernel_rfl) rfl (args2 (H.r 57 rfl) (H.r 58 rfl)) Try.call49 (contains49 (xs := (dueL (movedTo men (ordAt men i (men.length - t)) men.length) list).map orNone) (H.rowSl (enc := encI) (by repeat (first | exact List.mem_cons_self | apply List.mem_cons_of_mem)) (fun _ => rfl) (by rw [List.length_map, dueL_len]) (map_orNone_flat _).symm) (i : Int) (by rw [List.length_map, dueL_len]; omega)) ?_; clear H; rintro v59 T w rfl _ H
          rw [show (decide (0 ≤ indexI ((dueL (movedTo men (ordAt men i (men.length - t)) men.length) list).map orNone) (i : Int))) = winsAt men list i (men.length - t) by rw [hwd, Bool.eq_iff_iff, decide_eq_true_iff, indexI_wins]] at H
          refine GA.done (by kernel_rfl) ?_
          refine At.condB (H.r 59 rfl) ?_ ?_
          · intro hwin
            have hG : forL men list i = some (men.length - t) := by rw [forL, find_some_of hN (range_at ht1) hwin]; rfl
            refine At.seq ?_
            refine At.region' (l := [0, 1, 2]) rfl ?_
            refine At.v H rfl (wN rfl) rfl rfl rfl (x_move (H.r 8 rfl)) ?_; clear H; intro T H
            refine At.v H rfl (wN rfl) rfl rfl rfl (x_assign (H.r 60 rfl)) ?_; clear H; intro T H
            refine At.store1 H rfl (wN rfl) rfl rfl (H.r 5 rfl) evC Try.sizeOf32 rfl rfl (by repeat (first | exact Upd.here | apply Upd.there)) (by repeat (first | exact SetAt.z | apply SetAt.s)) ?_; clear H; intro T w _ H
            refine At.regionEnd ?_
            refine At.ret rfl ?_
            exact leaT H (fun w H => lea Try.func22 (resL (rs := [.tmp 4, .cell 5 32]) Try.results22 (.tmp (H.r 4 rfl) (.cell (H.r 5 rfl) Try.isAgg32 (H.cell (by repeat (first | exact List.mem_cons_self | apply List.mem_cons_of_mem)) 0 rfl) .nil)) (by simp)) (Ret.mk H.fr (by first | (rw [hG]; rfl) | (rw [hG, show ((men.length : Int) - (t : Int)) = ((men.length - t : Nat) : Int) by omega]; rfl))))
          · intro hwin
            refine At.skip ?_
            refine At.inBlock ?_
            refine At.region' (l := [0, 1, 2]) rfl ?_
            refine At.v H rfl (wN rfl) rfl rfl rfl (x_move (H.r 8 rfl)) ?_; clear H; intro T H
            refine At.v H rfl (wN rfl) rfl rfl rfl (x_sub (H.r 27 rfl) evC (w64 (by omega) (by omega))) ?_; clear H; intro T H
            refine At.v H rfl (wN rfl) rfl rfl rfl (x_assign (H.r 28 rfl)) ?_; clear H; intro T H
            refine At.regionEnd ?_
            exact hnext (men.length - (t + 1)) _ _ (by omega) ⟨t + 1, rfl, by omega, find_none_succ hN (range_at ht1) hwin, by rw [show ((men.length : Int) - ((t + 1 : Nat) : Int)) = (men.length : Int) - (t : Int) - 1 by omega]; exact (H.pk (by repeat (first | exact Pk.nil | exact Pk.all | refine Pk.cons (by repeat (first | exact Take.here | apply Take.there)) ?_ | apply Pk.skip))).sub ⟨rfl, rfl, rfl, rfl, rfl, trivial⟩⟩
    · clear H; intro h26 T H
      obtain rfl : t = men.length := by omega
      rw [List.take_of_length_le (by simp)] at hN
      have hG : forL men list i = none := by rw [forL, hN]; rfl
      refine At.regionEnd ?_
      refine At.condF (H.r 26 rfl) ?_
      refine At.exit rfl ?_
      refine At.seq ?_
      refine At.region' (l := [0, 1]) rfl ?_
      refine At.v H rfl (wN rfl) rfl rfl rfl (x_assign evC) ?_; clear H; intro T H
      refine At.store1 H rfl (wN rfl) rfl rfl (H.r 5 rfl) evC Try.sizeOf32 rfl rfl (by repeat (first | exact Upd.here | apply Upd.there)) (by repeat (first | exact SetAt.z | apply SetAt.s)) ?_; clear H; intro T w _ H
      refine At.regionEnd ?_
      refine At.ret rfl ?_
      exact leaT H (fun w H => lea Try.func22 (resL (rs := [.tmp 4, .cell 5 32]) Try.results22 (.tmp (H.r 4 rfl) (.cell (H.r 5 rfl) Try.isAgg32 (H.cell (by repeat (first | exact List.mem_cons_self | apply List.mem_cons_of_mem)) 0 rfl) .nil)) (by simp)) (Ret.mk H.fr (by first | (rw [hG]; rfl) | (rw [hG, show ((men.length : Int) - (t : Int)) = ((men.length - t : Nat) : Int) by omega]; rfl))))
end Go.Proofs.Pz
end
section
namespace Go.Sx
open Go.RowKit
/-! ### Framed loops and joins: what does not change is named once -/
inductive PkS : List Ent → List Ent → List Ent → Prop where
  | nil {G : List Ent} : PkS G [] G
  | cons {x : Ent} {G G' G1 G0 : List Ent} : Take x G G' → PkS G' G1 G0 → PkS G (x :: G1) G0
theorem PkS.perm {G G1 G0 : List Ent} (h : PkS G G1 G0) : (G1 ++ G0).Perm G := by
  induction h with
  | nil => exact .refl _
  | cons ht _ ih => exact ((ih.cons _).trans ht.perm)
section
variable {P : Program} {Φ : Machine → Prop} {b : Frame} {cs : List Frame} {D : List Deferred} {k : List Item}
variable {ops : Array Oper} {Kf K' : Array Value → World → Prop} {Kp : KP}
variable {T : Array Value} {w : World} {w0 : World} {S : List Nat} {N : Nat} {R : List (Nat × Value)} {G : List Ent}
variable {i j q n : Nat} {o : Oper} {L L' : Array Bool}
theorem Sx.fore {G1 G0 : List Ent} (H : Sx w0 S N R G T w) (h : PkS G G1 G0) : Sx w0 S N R (G1 ++ G0) T w := H.perm h.perm
theorem At.loopF {c : Code} {R1 R0 : List (Nat × Value)} {G1 G0 : List Ent} (H : Sx w0 S N (R1 ++ R0) (G1 ++ G0) T w) (I : Nat → List (Nat × Value) → List Ent → Prop) (n : Nat) (h0 : I n R1 G1)
    (round : ∀ n R1 G1 T w, I n R1 G1 → Sx w0 S N (R1 ++ R0) (G1 ++ G0) T w → (∀ n' R1' G1' T' w', n' < n → I n' R1' G1' → Sx w0 S N (R1' ++ R0) (G1' ++ G0) T' w' → At P Φ b cs D (.inLoop c :: k) T' w') → At P Φ b cs D (.code c :: .inLoop c :: k) T w) :
    At P Φ b cs D (.code (.loop c) :: k) T w := by
  refine At.loopN (fun m T w => ∃ R1 G1, I m R1 G1 ∧ Sx w0 S N (R1 ++ R0) (G1 ++ G0) T w) n ⟨R1, G1, h0, H⟩ ?_
  rintro m T w ⟨R1, G1, hI, H⟩ hn
  exact round m R1 G1 T w hI H (fun n' R1' G1' T' w' hlt hI' H' => hn n' T' w' hlt ⟨R1', G1', hI', H'⟩)
/-- .. where the deferred calls may grow -/
theorem At.loopFD {c : Code} {R1 R0 : List (Nat × Value)} {G1 G0 : List Ent} (H : Sx w0 S N (R1 ++ R0) (G1 ++ G0) T w) (I : Nat → List Deferred → List (Nat × Value) → List Ent → Prop) (n : Nat) (h0 : I n D R1 G1)
    (round : ∀ n D R1 G1 T w, I n D R1 G1 → Sx w0 S N (R1 ++ R0) (G1 ++ G0) T w → (∀ n' D' R1' G1' T' w', n' < n → I n' D' R1' G1' → Sx w0 S N (R1' ++ R0) (G1' ++ G0) T' w' → At P Φ b cs D' (.inLoop c :: k) T' w') → At P Φ b cs D (.code c :: .inLoop c :: k) T w) :
    At P Φ b cs D (.code (.loop c) :: k) T w := by
  refine At.loopD (fun m D T w => ∃ R1 G1, I m D R1 G1 ∧ Sx w0 S N (R1 ++ R0) (G1 ++ G0) T w) n ⟨R1, G1, h0, H⟩ ?_
  rintro m D T w ⟨R1, G1, hI, H⟩ hn
  exact round m D R1 G1 T w hI H (fun n' D' R1' G1' T' w' hlt hI' H' => hn n' D' T' w' hlt ⟨R1', G1', hI', H'⟩)
theorem At.joinF {c : Item} {R1 R0 : List (Nat × Value)} {G1 G0 : List Ent} (_H : Sx w0 S N (R1 ++ R0) (G1 ++ G0) T w) (I : List (Nat × Value) → List Ent → Prop)
    (h : (∀ R1 G1 T w, I R1 G1 → Sx w0 S N (R1 ++ R0) (G1 ++ G0) T w → At P Φ b cs D k T w) → At P Φ b cs D (c :: k) T w)
    (hJ : ∀ R1 G1 T w, I R1 G1 → Sx w0 S N (R1 ++ R0) (G1 ++ G0) T w → At P Φ b cs D k T w) : At P Φ b cs D (c :: k) T w := h hJ

theorem GA.one (hq : Region.ready .any ops L = [i]) (hL : L.setIfInBounds i true = L') (hi : StG P ops i (GA P ops Kf Kp n L') Kp T w) : GA P ops Kf Kp (n + 1) L T w := by
  subst hL
  refine ⟨fun h0 => (by rw [hq] at h0; cases h0), fun k hk => ?_⟩
  rw [hq] at hk
  obtain rfl : k = i := by simpa using hk
  exact hi
theorem GA.two' {L2 : Array Bool} (hq : Region.ready .any ops L = [i, j]) (hL : L.setIfInBounds i true = L') (hL2 : L.setIfInBounds j true = L2) (hi : StG P ops i (GA P ops Kf Kp n L') Kp T w) (hj : StG P ops j (GA P ops Kf Kp n L2) Kp T w) : GA P ops Kf Kp (n + 1) L T w := by
  subst hL hL2; exact GA.two hq hi hj
theorem GA.three {L2 L3 : Array Bool} (hq : Region.ready .any ops L = [i, j, q]) (hL : L.setIfInBounds i true = L') (hL2 : L.setIfInBounds j true = L2) (hL3 : L.setIfInBounds q true = L3)
    (hi : StG P ops i (GA P ops Kf Kp n L') Kp T w) (hj : StG P ops j (GA P ops Kf Kp n L2) Kp T w) (hk : StG P ops q (GA P ops Kf Kp n L3) Kp T w) : GA P ops Kf Kp (n + 1) L T w := by
  subst hL hL2 hL3
  refine ⟨fun h0 => (by rw [hq] at h0; cases h0), fun k hk' => ?_⟩
  rw [hq] at hk'
  rcases List.mem_cons.1 hk' with rfl | hk'
  · exact hi
  · rcases List.mem_cons.1 hk' with rfl | hk'
    · exact hj
    · obtain rfl : k = q := by simpa using hk'
      exact hk

theorem StG.new {d : Tmp} {cells : List Value} {t : TypeId} (H : Sx w0 S N R G T w) (ho : ops[i]? = some o) (hw : Region.wanted o (yielded ops T) = true) (hn : noDefer o.op = true) (hd : o.dst = some d) (hN : Nat.blt d N = true)
    
    {f : Nat → Value} (hr : (execOp (evT T) o).run P w = .ok (.value (f w.heap.size)) (w.alloc (.cells cells.toArray t)))
    (K : ∀ m T' w', Sx w0 S N ((d, f m) :: R) (.blk m (Eo (.cells cells.toArray t (0, 0))) :: G) T' w' → K' T' w') : StG P ops i K' Kp T w := by
  refine StG.of ho hw ⟨hn, ?_⟩
  rw [hr]
  refine ⟨fun _ => Fr.alloc _ _, ?_⟩
  rw [hd]
  refine K w.heap.size _ _ (Sx.put ?_ d _ (lt_of_blt hN))
  exact H.new (Fr.alloc _ _) _ ⟨_, heap_alloc_new w _, rfl⟩ (by simp [Ent.keys]) (by simp [Ent.keys])
theorem StG.f0 {f : FuncId} {xs : Array Operand} {ts : Array TypeId} {args : Array Value} {Q : Value → World → Prop} {d : Tmp} (H : Sx w0 S N R G T w) (ho : ops[i]? = some o) (hw : Region.wanted o (yielded ops T) = true)
    (hop : o.op = .call { callee := .value (.func f), args := xs, argTypes := ts }) (hd : o.dst = some d) (hN : Nat.blt d N = true) 
    (ha : xs.map (evT T) = args) (hf : ∀ (args : Array Value) w, (callFunc f args).run P w = .ok (.enter f args) w)
    (hc : Calls P f args w (Ret w Q)) (K : ∀ v T' w', Q v w' → Fr [] w w' → Sx w0 S N ((d, v) :: R) G T' w' → K' T' w') : StG P ops i K' Kp T w := by
  have hr : (execOp (evT T) o).run P w = .ok (.enter f args) w := by
    subst ha
    unfold execOp
    rw [hop]
    simp [resolve, evT, Deferred.ofValue, invoke, hf]
  refine StG.of ho hw ⟨by rw [hop]; rfl, ?_⟩
  rw [hr]
  refine hc.mono ?_
  rintro e w2 ⟨v, rfl, hfr, hQ⟩
  refine .inl ⟨v, rfl, fun _ => hfr, ?_⟩
  rw [hd]
  exact K v _ w2 hQ hfr ((H.world hfr).put d v (lt_of_blt hN))
theorem StG.fP {f : FuncId} {xs : Array Operand} {ts : Array TypeId} {args : Array Value} {v : Value} (H : Sx w0 S N R G T w) (ho : ops[i]? = some o) (hw : Region.wanted o (yielded ops T) = true)
    (hop : o.op = .call { callee := .value (.func f), args := xs, argTypes := ts }) 
    (ha : xs.map (evT T) = args) (hf : ∀ (args : Array Value) w, (callFunc f args).run P w = .ok (.enter f args) w)
    (hc : Calls P f args w (Pans w v)) (K : ∀ w', Fr [] w w' → Sx w0 S N R G T w' → Kp.k w' [{ v, recovered := false }]) : StG P ops i K' Kp T w := by
  have hr : (execOp (evT T) o).run P w = .ok (.enter f args) w := by
    subst ha
    unfold execOp
    rw [hop]
    simp [resolve, evT, Deferred.ofValue, invoke, hf]
  refine StG.of ho hw ⟨by rw [hop]; rfl, ?_⟩
  rw [hr]
  refine hc.mono ?_
  rintro e w2 ⟨rfl, hfr⟩
  exact .inr ⟨_, rfl, K w2 hfr (H.world hfr)⟩
theorem StG.fV {x : Operand} {xs : Array Operand} {ts : Array TypeId} {fv : Value} {args : Array Value} {Q : Value → World → Prop} {d : Tmp} (H : Sx w0 S N R G T w) (ho : ops[i]? = some o) (hw : Region.wanted o (yielded ops T) = true)
    (hop : o.op = .call { callee := .value x, args := xs, argTypes := ts }) (hd : o.dst = some d) (hN : Nat.blt d N = true) 
    (hx : evT T x = fv) (ha : xs.map (evT T) = args)
    (hc : CallsV P fv args w (Ret w Q)) (K : ∀ v T' w', Q v w' → Fr [] w w' → Sx w0 S N ((d, v) :: R) G T' w' → K' T' w') : StG P ops i K' Kp T w := by
  have hr : (execOp (evT T) o).run P w = (Sx.callV fv args).run P w := by
    subst hx ha
    unfold execOp
    rw [hop]
    rfl
  refine StG.of ho hw ⟨by rw [hop]; rfl, ?_⟩
  rw [hr]
  unfold CallsV at hc
  have key : ∀ v w2, Fr [] w w2 → Q v w2 → K' (putT T o.dst v) w2 := fun v w2 hfr hQ => by
    rw [hd]; exact K v _ w2 hQ hfr ((H.world hfr).put d v (lt_of_blt hN))
  split at hc
  · rename_i g a w1 hrun
    rw [hrun]
    refine Calls.mono hc ?_
    rintro e w2 ⟨v, rfl, hfr, hQ⟩
    exact .inl ⟨v, rfl, fun _ => hfr, key v w2 hfr hQ⟩
  · rename_i l g tmps assign body w1 hrun
    rw [hrun]
    refine Rounds.mono hc ?_
    rintro e w2 ⟨v, rfl, hfr, hQ⟩
    exact ⟨v, rfl, fun _ => hfr, key v w2 hfr hQ⟩
  · exact hc.elim
theorem StG.store1 {x y : Operand} {t ty : TypeId} {g off : Nat} {v : Value} {C C' : List Value} {G' : List Ent} (H : Sx w0 S N R G T w) (ho : ops[i]? = some o) (hw : Region.wanted o (yielded ops T) = true)
    (hop : o.op = .store t x y) (hd : o.dst = none) 
    (hx : evT T x = .pointer (some ⟨g, off, none⟩)) (hy : evT T y = v) (hs : ∀ w, (sizeOf t).run P w = .ok 1 w) (hv : v.cells = #[v]) (h1 : v.oneCell' = true)
    (hu : Upd (.blk g (Eo (.cells C'.toArray ty (0, 0)))) (.blk g (Eo (.cells C.toArray ty (0, 0)))) G G') (hC : off < C.length) (hC' : C.set off v = C')
    (K : ∀ T' w', Sx w0 S N R G' T' w' → K' T' w') : StG P ops i K' Kp T w := by
  have hg := H.heap hu.mem
  have hr := run_store_cells (P := P) (w := w) (t := t) hg hs (v := v) (l := [v]) (by rw [hv]) rfl (by simp [h1]) (off := off) (by simp only [List.length_singleton]; omega) (L' := C') (by
    rw [← hC', List.set_eq_take_append_cons_drop, if_pos hC]; simp)
  refine StG.of ho hw ⟨by rw [hop]; rfl, ?_⟩
  have hrun : (execOp (evT T) o).run P w = .ok .skip (w.setRow g C'.toArray) := by
    unfold execOp
    rw [hop]
    simp only [hx, hy, Sem.run_bind, hr, Result.andThen_ok]
    rfl
  rw [hrun]
  refine ⟨fun h => by simp [extK, hop] at h, ?_⟩
  rw [hd]
  exact K _ _ (H.upd hu (Fr.setRow _ _ _) ⟨_, setRow_heap w g _ _ ty _ hg, rfl⟩ (by simp [Ent.keys, Ent.w]) (by simp [Ent.keys]))
theorem StG.op {v : Value} {w' : World} (ho : ops[i]? = some o) (hw : Region.wanted o (yielded ops T) = true) (hn : noDefer o.op = true) 
    (hr : (execOp (evT T) o).run P w = .ok (.value v) w') (hx : extK Kp.m o = true → Fr [] w w') (K : K' (putT T o.dst v) w') : StG P ops i K' Kp T w := by
  refine StG.of ho hw ⟨hn, ?_⟩
  rw [hr]
  exact ⟨hx, K⟩
theorem StG.append {s x : Operand} {t e : TypeId} {sz bytes q m c g off : Nat} {z v : Value} {l news : List Value} {G0 : List Ent} {d : Tmp}
    (H : Sx w0 S N R G T w) (ho : ops[i]? = some o) (hw : Region.wanted o (yielded ops T) = true) (hop : o.op = .call { callee := .builtin .append, args := #[s, x], argTypes := #[t, t] }) (hd : o.dst = some d) (hN : Nat.blt d N = true)
    
    (E : ET P t e sz bytes z) (hx : evT T s = v) (hy : evT T x = .slice (some ⟨g, off, none⟩) m c) (ht : Take (.row v e sz q l) G G0)
    (hnews : CellsAt w g off news) (hl : news.length = m * sz) (h1 : ∀ u ∈ news, u.oneCell' = true) (hsm : q + m ≤ 1048576)
    (K : ∀ A cap T' w', q + m ≤ cap → (0 < q + m → ∃ g, A = some ⟨g, 0, none⟩) → Sx w0 S N ((d, .slice A (q + m) cap) :: R) (.row (.slice A (q + m) cap) e sz (q + m) (l ++ news) :: G0) T' w' → K' T' w') :
    StG P ops i K' Kp T w := by
  have hown := H.ent _ ht.mem
  obtain ⟨i0, hi, hz1, hz2, hz3⟩ := E.hi
  have hb := E.hb
  have h63 : q + m ≤ maxLen := by unfold maxLen; omega
  have hby : (q + m) * bytes ≤ 140737488355328 := Nat.le_trans (Nat.mul_le_mul hsm hb) (by decide)
  obtain ⟨v', w', hr, hown', hg, _, hat⟩ := run_append_own_at (P := P) w 0 t o.type e i0 z sz bytes E.ht hi hz1 hz2 hz3 E.hz E.h0 v q l hown ⟨g, off, none⟩ m c news hl (fun j u hj => by rw [add_plain']; exact hnews j u hj) h1 h63 hby (Nat.zero_le _)
  obtain ⟨A, cap, rfl, hle, hA⟩ := row_slice hown'
  refine StG.op (v := .slice A (q + m) cap) (w' := w') ho hw (by rw [hop]; rfl) ?_ (fun h => by simp [extK, hop] at h) ?_
  · unfold execOp
    rw [hop]
    simp [resolve, invoke, builtin, hx, hy, hr]
  · rw [hd]
    refine K A cap _ w' hle hA (Sx.put ?_ d _ (lt_of_blt hN))
    have hu : Upd (.row (.slice A (q + m) cap) e sz (q + m) (l ++ news)) (.row v e sz q l) (.row v e sz q l :: G0) (.row (.slice A (q + m) cap) e sz (q + m) (l ++ news) :: G0) := .here
    refine (H.front ht).upd hu (Fr.grown hg) hown' ?_ ?_
    · intro k hk
      simp only [Ent.keys, Ent.w, Option.mem_toList] at hk ⊢
      rcases hat with h | h
      · exact .inl (by rw [← h]; exact hk)
      · rw [h] at hk
        simp only [Option.some.injEq] at hk
        exact .inr (by omega)
    · simp only [Ent.keys]
      cases (Value.slice A (q + m) cap).ownBlock with
      | none => exact List.nodup_nil
      | some x => simp
theorem StG.opS {w' : World} (ho : ops[i]? = some o) (hw : Region.wanted o (yielded ops T) = true) (hn : noDefer o.op = true)
    (hr : (execOp (evT T) o).run P w = .ok .skip w') (hx : extK Kp.m o = true → Fr [] w w') (K : K' (putT T o.dst undef) w') : StG P ops i K' Kp T w := by
  refine StG.of ho hw ⟨hn, ?_⟩
  rw [hr]
  exact ⟨hx, K⟩
theorem StG.storeR {x y : Operand} {t e : TypeId} {g j n cap sz : Nat} {u : Value} {l l' : List Value} {G0 : List Ent} (H : Sx w0 S N R G T w) (ho : ops[i]? = some o) (hw : Region.wanted o (yielded ops T) = true)
    (hop : o.op = .store t x y) (hd : o.dst = none)
    (hx : evT T x = .pointer (some ⟨g, j, none⟩)) (hy : evT T y = u) (hs : ∀ w, (sizeOf t).run P w = .ok 1 w) (hv : u.cells = #[u]) (h1 : u.oneCell' = true)
    (ht : Take (.row (.slice (some ⟨g, 0, none⟩) n cap) e sz n l) G G0) (hj : j < l.length) (hl : l.set j u = l')
    (K : ∀ T' w', Fr [g] w w' → Sx w0 S N R (.row (.slice (some ⟨g, 0, none⟩) n cap) e sz n l' :: G0) T' w' → K' T' w') :
    StG P ops i K' Kp T w := by
  have hown := H.ent _ ht.mem
  obtain ⟨hown', hg⟩ := World.ownsRow.stored hown j u
  have hc : w.cell? ⟨g, j, none⟩ = some l[j] := H.rowCell ht.mem j (by simp)
  have hfz : w.frozen? ⟨g, j, none⟩ = false := World.ownsRow.frozenAt hown j
  subst hl
  refine StG.opS (w' := w.setCell ⟨g, j, none⟩ u) ho hw (by rw [hop]; rfl) ?_ (fun h => by simp [extK, hop] at h) ?_
  · unfold execOp
    rw [hop]
    simp [hx, hy, Instr.storeAt, Instr.sureAddr, storeVar, hs, hv, storeCells, run_store, h1, hc, hfz, Addr.add]
  · rw [hd]
    have hu : Upd (.row (.slice (some ⟨g, 0, none⟩) n cap) e sz n (l.set j u)) (.row (.slice (some ⟨g, 0, none⟩) n cap) e sz n l) (.row (.slice (some ⟨g, 0, none⟩) n cap) e sz n l :: G0) (.row (.slice (some ⟨g, 0, none⟩) n cap) e sz n (l.set j u) :: G0) := .here
    refine K _ _ (by simpa using Fr.grown hg) ((H.front ht).upd hu (by simpa [Ent.w, Value.ownBlock] using Fr.grown hg) hown' (fun k hk => .inl hk) ?_)
    simp [Ent.keys, Value.ownBlock]
theorem StG.make0 {x y : Operand} {t e : TypeId} {sz bytes c : Nat} {z : Value} {d : Tmp} {q q' : IntKind}
    (H : Sx w0 S N R G T w) (ho : ops[i]? = some o) (hw : Region.wanted o (yielded ops T) = true) (hop : o.op = .makeSlice t x y) (hd : o.dst = some d) (hN : Nat.blt d N = true)
    (E : ET P t e sz bytes z) (hx : evT T x = .int q 0) (hy : evT T y = .int q' (c : Int)) (hc : c ≤ 1048576)
    (K : ∀ g T' w', Sx w0 S N ((d, .slice (some ⟨g, 0, none⟩) 0 c) :: R) (.row (.slice (some ⟨g, 0, none⟩) 0 c) e sz 0 [] :: G) T' w' → K' T' w') :
    StG P ops i K' Kp T w := by
  obtain ⟨i0, hi, hz1, hz2, hz3⟩ := E.hi
  have hb : i0.bytes * c ≤ 281474976710656 := by
    rw [hz3]; exact Nat.le_trans (Nat.mul_le_mul E.hb hc) (by decide)
  obtain ⟨w', hr, hown, hg⟩ := run_make_own (P := P) w 0 t e i0 z sz E.ht hi hz1 hz2 q q' c hb (by unfold maxLen; omega) (Nat.zero_le _)
  refine StG.op (v := .slice (some ⟨w.heap.size, 0, none⟩) 0 c) (w' := w') ho hw (by rw [hop]; rfl) ?_ (fun _ => by simpa using Fr.grown hg) ?_
  · unfold execOp
    rw [hop]
    simp [hx, hy, hr]
  · rw [hd]
    refine K w.heap.size _ w' (Sx.put ?_ d _ (lt_of_blt hN))
    exact H.new (by simpa using Fr.grown hg) _ hown (by simp [Ent.keys, Value.ownBlock]) (by simp [Ent.keys, Value.ownBlock])
theorem StG.makeN {x y : Operand} {t e : TypeId} {sz bytes c : Nat} {z : Value} {d : Tmp} {q q' : IntKind}
    (H : Sx w0 S N R G T w) (ho : ops[i]? = some o) (hw : Region.wanted o (yielded ops T) = true) (hop : o.op = .makeSlice t x y) (hd : o.dst = some d) (hN : Nat.blt d N = true)
    (E : ET P t e sz bytes z) (hx : evT T x = .int q (c : Int)) (hy : evT T y = .int q' (c : Int)) (hc : c ≤ 1048576) (hz : z.cells = #[z]) (h1 : sz = 1)
    (K : ∀ g T' w', Sx w0 S N ((d, .slice (some ⟨g, 0, none⟩) c c) :: R) (.row (.slice (some ⟨g, 0, none⟩) c c) e sz c (List.replicate c z) :: G) T' w' → K' T' w') :
    StG P ops i K' Kp T w := by
  obtain ⟨i0, hi, hz1, hz2, hz3⟩ := E.hi
  have hb : i0.bytes * c ≤ 281474976710656 := by
    rw [hz3]; exact Nat.le_trans (Nat.mul_le_mul E.hb hc) (by decide)
  obtain ⟨w', hr, hown, hg⟩ := run_make_full (P := P) w 0 t e i0 z sz E.ht hi hz1 hz2 q q' c hb (by unfold maxLen; omega) (Nat.zero_le _)
  rw [hz, h1, Nat.mul_one, toList_madeCells_one] at hown
  subst h1
  refine StG.op (v := .slice (some ⟨w.heap.size, 0, none⟩) c c) (w' := w') ho hw (by rw [hop]; rfl) ?_ (fun _ => by simpa using Fr.grown hg) ?_
  · unfold execOp
    rw [hop]
    simp [hx, hy, hr]
  · rw [hd]
    refine K w.heap.size _ w' (Sx.put ?_ d _ (lt_of_blt hN))
    exact H.new (by simpa using Fr.grown hg) _ hown (by simp [Ent.keys, Value.ownBlock]) (by simp [Ent.keys, Value.ownBlock])
theorem StG.u {d : Tmp} (H : Sx w0 S N R G T w) (ho : ops[i]? = some o) (hw : Region.wanted o (yielded ops T) = false) (hd : o.dst = some d) (hN : Nat.blt d N = true)
    (K : ∀ T', Sx w0 S N ((d, undef) :: R) G T' w → K' T' w) : StG P ops i K' Kp T w := by
  unfold StG
  rw [ho]
  simp only [hw, Bool.false_eq_true, if_false]
  rw [hd]
  exact K _ (H.put d undef (lt_of_blt hN))
theorem StG.v {v : Value} {d : Tmp} (H : Sx w0 S N R G T w) (ho : ops[i]? = some o) (hw : Region.wanted o (yielded ops T) = true) (hn : noDefer o.op = true) (hd : o.dst = some d) (hN : Nat.blt d N = true)
    (hr : (execOp (evT T) o).run P w = .ok (.value v) w) (K : ∀ T', Sx w0 S N ((d, v) :: R) G T' w → K' T' w) : StG P ops i K' Kp T w := by
  refine StG.of ho hw ⟨hn, ?_⟩
  rw [hr]
  refine ⟨fun _ => Fr.refl _ _, ?_⟩
  rw [hd]
  exact K _ (H.put d v (lt_of_blt hN))
end
end Go.Sx
end
section
namespace Go.Proofs.Pz
open Go.Sx Go.RowKit
set_option linter.unusedVariables false
namespace AI
theorem fa25_0 (a : Addr) (w : World) : (Instr.fieldAt 25 (.pointer (some a)) 0).run Try.prog w = .ok (.pointer (some (a.add 0))) w := by simp [go_sem]
theorem fa25_1 (a : Addr) (w : World) : (Instr.fieldAt 25 (.pointer (some a)) 1).run Try.prog w = .ok (.pointer (some (a.add 1))) w := by simp [go_sem]
theorem fa42_0 (a : Addr) (w : World) : (Instr.fieldAt 42 (.pointer (some a)) 0).run Try.prog w = .ok (.pointer (some (a.add 0))) w := by simp [go_sem]
end AI
open AI
theorem bT {p : Prop} [Decidable p] (h : p) : Value.bool true = .bool (decide p) := by rw [decide_eq_true h]
theorem bF {p : Prop} [Decidable p] (h : ¬ p) : Value.bool false = .bool (decide p) := by rw [decide_eq_false h]
theorem take_eq_succ {α : Type} {xs ys : List α} {k : Nat} {x : α} (hE : xs.take k = ys.take k) (hx : xs[k]? = some x) (hy : ys[k]? = some x) : xs.take (k + 1) = ys.take (k + 1) := by
  rw [List.take_add_one, List.take_add_one, hE, hx, hy]
theorem take_all_succ {α : Type} {xs : List α} {p : α → Prop} {k : Nat} {x : α} (hE : ∀ z ∈ xs.take k, p z) (hx : xs[k]? = some x) (hp : p x) : ∀ z ∈ xs.take (k + 1), p z := by
  intro z hz
  rw [List.take_add_one, hx, List.mem_append] at hz
  rcases hz with h | h
  · exact hE z h
  · obtain rfl : z = x := by simpa using h
    exact hp
theorem far {AM AL A : Option Addr} {nM cM nL cL n c : Nat} {w0 : World} : Calls Try.prog 9 #[.agg #[.slice AM nM cM, .slice AL nL cL], .slice A n c] w0 (Ret w0 fun v _ => v = .bool (decide (40 < nM ∨ 40 < nL ∨ 40 < n))) := by
  refine enter (args := [.agg #[.slice AM nM cM, .slice AL nL cL], .slice A n c]) (S := []) Try.func9 rfl Try.ntmps9 rfl fun cs T H => ?_
  refine At.seq ?_
  refine At.region' (l := [0, 1]) rfl ?_
  refine At.new H rfl (wN rfl) rfl rfl rfl (x_box (H.r 0 rfl) rfl) ?_; clear H; intro b2 T w _ _ H
  refine At.v H rfl (wN rfl) rfl rfl rfl (x_assign evC) ?_; clear H; intro T H
  refine At.regionEnd ?_
  refine At.seq ?_
  refine At.region' (l := [0, 1, 2, 3, 4, 5, 6, 7, 8, 9, 10, 11, 12, 13, 14, 15]) rfl ?_
  refine At.v H rfl (wN rfl) rfl rfl rfl (x_fieldAddr (H.r 2 rfl) fa25_0) ?_; clear H; intro T H
  refine At.v H rfl (wN rfl) rfl rfl rfl (x_load (H.r 5 rfl) Try.isAgg22 (by first | exact H.cell (by repeat (first | exact List.mem_cons_self | apply List.mem_cons_of_mem)) _ rfl | exact H.cellR (by repeat (first | exact List.mem_cons_self | apply List.mem_cons_of_mem)) _ rfl)) ?_; clear H; intro T H
  refine At.v H rfl (wN rfl) rfl rfl rfl (x_len (H.r 6 rfl) Try.runUnderlying22) ?_; clear H; intro T H
  refine At.c H rfl (wN rfl) rfl rfl rfl (x_gtr (H.r 7 rfl) evC) ?_ ?_
  · clear H; intro h8 T H
    refine At.v H rfl (wN rfl) rfl rfl rfl (x_move (H.r 8 rfl)) ?_; clear H; intro T H
    refine At.u H rfl (wU H rfl rfl rfl rfl) rfl rfl ?_; clear H; intro T H
    refine At.u H rfl (wU H rfl rfl rfl rfl) rfl rfl ?_; clear H; intro T H
    refine At.u H rfl (wU H rfl rfl rfl rfl) rfl rfl ?_; clear H; intro T H
    refine At.u H rfl (wU H rfl rfl rfl rfl) rfl rfl ?_; clear H; intro T H
    refine At.v H rfl (wN rfl) rfl rfl rfl (x_pickT (H.r 9 rfl) evC) ?_; clear H; intro T H
    refine At.v H rfl (wN rfl) rfl rfl rfl (x_move (H.r 14 rfl)) ?_; clear H; intro T H
    refine At.u H rfl (wU H rfl rfl rfl rfl) rfl rfl ?_; clear H; intro T H
    refine At.u H rfl (wU H rfl rfl rfl rfl) rfl rfl ?_; clear H; intro T H
    refine At.u H rfl (wU H rfl rfl rfl rfl) rfl rfl ?_; clear H; intro T H
    refine At.v H rfl (wN rfl) rfl rfl rfl (x_pickT (H.r 15 rfl) evC) ?_; clear H; intro T H
    refine At.v H rfl (wN rfl) rfl rfl rfl (x_assign (H.r 19 rfl)) ?_; clear H; intro T H
    refine At.regionEnd ?_
    refine At.ret rfl ?_
    exact lea Try.func9 (res1 Try.results9 (H.r 4 rfl)) (Ret.mk H.fr (by first | exact bT (by omega) | exact bF (by omega)))
  · clear H; intro h8 T H
    refine At.v H rfl (wN rfl) rfl rfl rfl (x_move (H.r 8 rfl)) ?_; clear H; intro T H
    refine At.v H rfl (wS H rfl rfl rfl) rfl rfl rfl (x_fieldAddr (H.r 2 rfl) fa25_1) ?_; clear H; intro T H
    refine At.v H rfl (wS H rfl rfl rfl) rfl rfl rfl (x_load (H.r 10 rfl) Try.isAgg23 (by first | exact H.cell (by repeat (first | exact List.mem_cons_self | apply List.mem_cons_of_mem)) _ rfl | exact H.cellR (by repeat (first | exact List.mem_cons_self | apply List.mem_cons_of_mem)) _ rfl)) ?_; clear H; intro T H
    refine At.v H rfl (wS H rfl rfl rfl) rfl rfl rfl (x_len (H.r 11 rfl) Try.runUnderlying23) ?_; clear H; intro T H
    refine At.c H rfl (wS H rfl rfl rfl) rfl rfl rfl (x_gtr (H.r 12 rfl) evC) ?_ ?_
    · clear H; intro h13 T H
      refine At.v H rfl (wN rfl) rfl rfl rfl (x_pickF (H.r 9 rfl) (H.r 13 rfl)) ?_; clear H; intro T H
      refine At.v H rfl (wN rfl) rfl rfl rfl (x_move (H.r 14 rfl)) ?_; clear H; intro T H
      refine At.u H rfl (wU H rfl rfl rfl rfl) rfl rfl ?_; clear H; intro T H
      refine At.u H rfl (wU H rfl rfl rfl rfl) rfl rfl ?_; clear H; intro T H
      refine At.u H rfl (wU H rfl rfl rfl rfl) rfl rfl ?_; clear H; intro T H
      refine At.v H rfl (wN rfl) rfl rfl rfl (x_pickT (H.r 15 rfl) evC) ?_; clear H; intro T H
      refine At.v H rfl (wN rfl) rfl rfl rfl (x_assign (H.r 19 rfl)) ?_; clear H; intro T H
      refine At.regionEnd ?_
      refine At.ret rfl ?_
      exact lea Try.func9 (res1 Try.results9 (H.r 4 rfl)) (Ret.mk H.fr (by first | exact bT (by omega) | exact bF (by omega)))
    · clear H; intro h13 T H
      refine At.v H rfl (wN rfl) rfl rfl rfl (x_pickF (H.r 9 rfl) (H.r 13 rfl)) ?_; clear H; intro T H
      refine At.v H rfl (wN rfl) rfl rfl rfl (x_move (H.r 14 rfl)) ?_; clear H; intro T H
      refine At.v H rfl (wS H rfl rfl rfl) rfl rfl rfl (x_move (H.r 1 rfl)) ?_; clear H; intro T H
      refine At.v H rfl (wS H rfl rfl rfl) rfl rfl rfl (x_len (H.r 16 rfl) Try.runUnderlying30) ?_; clear H; intro T H
      refine At.c H rfl (wS H rfl rfl rfl) rfl rfl rfl (x_gtr (H.r 17 rfl) evC) ?_ ?_
      · clear H; intro h18 T H
        refine At.v H rfl (wN rfl) rfl rfl rfl (x_pickF (H.r 15 rfl) (H.r 18 rfl)) ?_; clear H; intro T H
        refine At.v H rfl (wN rfl) rfl rfl rfl (x_assign (H.r 19 rfl)) ?_; clear H; intro T H
        refine At.regionEnd ?_
        refine At.ret rfl ?_
        exact lea Try.func9 (res1 Try.results9 (H.r 4 rfl)) (Ret.mk H.fr (by first | exact bT (by omega) | exact bF (by omega)))
      · clear H; intro h18 T H
        refine At.v H rfl (wN rfl) rfl rfl rfl (x_pickF (H.r 15 rfl) (H.r 18 rfl)) ?_; clear H; intro T H
        refine At.v H rfl (wN rfl) rfl rfl rfl (x_assign (H.r 19 rfl)) ?_; clear H; intro T H
        refine At.regionEnd ?_
        refine At.ret rfl ?_
        exact lea Try.func9 (res1 Try.results9 (H.r 4 rfl)) (Ret.mk H.fr (by first | exact bT (by omega) | exact bF (by omega)))
theorem inR (n lo hi : Int) (w : World) : Calls Try.prog 28 #[.int .i64 n, .int .i64 lo, .int .i64 hi] w (Ret w fun v _ => v = .bool (decide (lo ≤ n ∧ n ≤ hi))) := by
  refine enter (args := [.int .i64 n, .int .i64 lo, .int .i64 hi]) (S := []) Try.func28 rfl Try.ntmps28 rfl fun cs T H => ?_
  refine At.seq ?_
  refine At.region' (l := [0]) rfl ?_
  refine At.v H rfl (wN rfl) rfl rfl rfl (x_assign evC) ?_; clear H; intro T H
  refine At.regionEnd ?_
  refine At.seq ?_
  refine At.region' (l := [0, 1, 2, 3, 4, 5, 6, 7, 8]) rfl ?_
  refine At.v H rfl (wN rfl) rfl rfl rfl (x_move (H.r 1 rfl)) ?_; clear H; intro T H
  refine At.v H rfl (wN rfl) rfl rfl rfl (x_move (H.r 0 rfl)) ?_; clear H; intro T H
  refine At.c H rfl (wN rfl) rfl rfl rfl (x_leq (H.r 7 rfl) (H.r 8 rfl)) ?_ ?_
  · clear H; intro h9 T H
    refine At.v H rfl (wN rfl) rfl rfl rfl (x_move (H.r 9 rfl)) ?_; clear H; intro T H
    refine At.v H rfl (wS H rfl rfl rfl) rfl rfl rfl (x_move (H.r 0 rfl)) ?_; clear H; intro T H
    refine At.v H rfl (wS H rfl rfl rfl) rfl rfl rfl (x_move (H.r 2 rfl)) ?_; clear H; intro T H
    refine At.v H rfl (wS H rfl rfl rfl) rfl rfl rfl (x_leq (H.r 11 rfl) (H.r 12 rfl)) ?_; clear H; intro T H
    refine At.v H rfl (wN rfl) rfl rfl rfl (x_pickT (H.r 10 rfl) (H.r 13 rfl)) ?_; clear H; intro T H
    refine At.v H rfl (wN rfl) rfl rfl rfl (x_assign (H.r 14 rfl)) ?_; clear H; intro T H
    refine At.regionEnd ?_
    refine At.ret rfl ?_
    exact lea Try.func28 (res1 Try.results28 (H.r 6 rfl)) (Ret.mk H.fr (by simp [*]))
  · clear H; intro h9 T H
    refine At.v H rfl (wN rfl) rfl rfl rfl (x_move (H.r 9 rfl)) ?_; clear H; intro T H
    refine At.u H rfl (wU H rfl rfl rfl rfl) rfl rfl ?_; clear H; intro T H
    refine At.u H rfl (wU H rfl rfl rfl rfl) rfl rfl ?_; clear H; intro T H
    refine At.u H rfl (wU H rfl rfl rfl rfl) rfl rfl ?_; clear H; intro T H
    refine At.v H rfl (wN rfl) rfl rfl rfl (x_pickF (H.r 10 rfl) evC) ?_; clear H; intro T H
    refine At.v H rfl (wN rfl) rfl rfl rfl (x_assign (H.r 14 rfl)) ?_; clear H; intro T H
    refine At.regionEnd ?_
    refine At.ret rfl ?_
    exact lea Try.func28 (res1 Try.results28 (H.r 6 rfl)) (Ret.mk H.fr (by simp [*]))
def manyO (l : List (Option Nat)) : Nat := (l.filter (·.isSome)).length
theorem manyO_succ {l : List (Option Nat)} {k : Nat} {o : Option Nat} (h : l[k]? = some o) : manyO (l.take (k + 1)) = manyO (l.take k) + if o.isSome then 1 else 0 := by
  rw [List.take_add_one, h]
  cases o <;> simp [manyO]
theorem manyO_le (l : List (Option Nat)) : manyO l ≤ l.length := List.length_filter_le _ _
theorem orNone_ge (o : Option Nat) : (0 ≤ orNone o) ↔ o.isSome = true := by cases o <;> simp [orNone]
theorem Many {v : Value} {gv : List (Option Nat)} {w0 : World} (hS : Sl encO 1 w0 v gv) (hn : gv.length ≤ 1000) : Calls Try.prog 19 #[v] w0 (Ret w0 fun r _ => r = .int .i64 (manyO gv : Int)) := by
  obtain ⟨A, cap, bk, off, rfl, hP⟩ := hS
  refine enter (args := [.slice A gv.length cap]) (S := []) Try.func19 rfl Try.ntmps19 rfl fun cs T H => ?_
  refine At.seq ?_
  refine At.region' (l := [0]) rfl ?_
  refine At.v H rfl (wN rfl) rfl rfl rfl (x_assign evC) ?_; clear H; intro T H
  refine At.regionEnd ?_
  refine At.seq ?_
  refine At.region' (l := [0]) rfl ?_
  refine At.v H rfl (wN rfl) rfl rfl rfl (x_assign evC) ?_; clear H; intro T H
  refine At.regionEnd ?_
  refine At.seq ?_
  refine At.seq ?_
  refine At.region' (l := [0]) rfl ?_
  refine At.v H rfl (wN rfl) rfl rfl rfl (x_assign evC) ?_; clear H; intro T H
  refine At.regionEnd ?_
  refine At.block ?_
  replace H := ((H.fore PkS.nil).sub (R' := [(3, _), (4, _)] ++ [(0, _), (2, _)]) (by repeat' (first | exact trivial | refine And.intro rfl ?_)))
  refine At.loopF H (fun μ R1 G1 => ∃ k : Nat, μ = gv.length - k ∧ (k ≤ gv.length) ∧ R1 = [(3, .int .i64 (manyO (gv.take k) : Int)), (4, .int .i64 (k : Int))] ∧ G1 = []) (gv.length) ⟨0, by first | rfl | omega, by first | trivial | omega | exact ⟨by omega, by omega⟩, rfl, rfl⟩ ?_
  clear H; rintro _ _ _ T w ⟨k, rfl, hP0, rfl, rfl⟩ H hnext0
  simp only [List.cons_append, List.nil_append] at H
  have hml := manyO_le (gv.take k)
  rw [List.length_take] at hml
  refine At.seq ?_
  refine At.seq ?_
  refine At.region' (l := [0, 1, 2, 3]) rfl ?_
  refine At.v H rfl (wN rfl) rfl rfl rfl (x_move (H.r 4 rfl)) ?_; clear H; intro T H
  refine At.v H rfl (wN rfl) rfl rfl rfl (x_move (H.r 0 rfl)) ?_; clear H; intro T H
  refine At.v H rfl (wN rfl) rfl rfl rfl (x_len (H.r 6 rfl) Try.runUnderlying30) ?_; clear H; intro T H
  refine At.c H rfl (wN rfl) rfl rfl rfl (x_lss (H.r 5 rfl) (H.r 7 rfl)) ?_ ?_
  · clear H; intro h8 T H
    have hk1 : k < gv.length := by omega
    obtain rfl := hP.addr (fun e => by simp [e] at hk1)
    obtain ⟨o, ho⟩ := get_ex hk1
    have hms := manyO_succ ho
    have hcl := hP.cell k o ho 0 _ rfl
    refine At.regionEnd ?_
    refine At.condT (H.r 8 rfl) ?_
    refine At.skip ?_
    refine At.seq ?_
    refine At.block ?_
    refine At.seq ?_
    refine At.region' (l := [0, 1, 2, 3, 4]) rfl ?_
    refine At.v H rfl (wN rfl) rfl rfl rfl (x_move (H.r 0 rfl)) ?_; clear H; intro T H
    refine At.v H rfl (wN rfl) rfl rfl rfl (x_move (H.r 4 rfl)) ?_; clear H; intro T H
    refine At.v H rfl (wN rfl) rfl rfl rfl (x_ixSN (H.r 11 rfl) (H.r 12 rfl) Try.runUnderlying30 Try.sizeOf3 (by omega)) ?_; clear H; intro T H
    refine At.v H rfl (wN rfl) rfl rfl rfl (x_load (H.r 13 rfl) Try.isAgg3 (H.ext hcl (by simp))) ?_; clear H; intro T H
    refine At.c H rfl (wN rfl) rfl rfl rfl (x_geq (H.r 14 rfl) evC) ?_ ?_
    · clear H; intro h15 T H
      have hms2 : manyO (gv.take (k + 1)) = manyO (gv.take k) + 1 := by rw [hms, if_pos ((orNone_ge o).1 h15)]
      refine At.regionEnd ?_
      refine At.condT (H.r 15 rfl) ?_
      refine At.region' (l := [0, 1, 2]) rfl ?_
      refine At.v H rfl (wN rfl) rfl rfl rfl (x_move (H.r 3 rfl)) ?_; clear H; intro T H
      refine At.v H rfl (wN rfl) rfl rfl rfl (x_add (H.r 16 rfl) evC (w64 (by omega) (by omega))) ?_; clear H; intro T H
      refine At.v H rfl (wN rfl) rfl rfl rfl (x_assign (H.r 17 rfl)) ?_; clear H; intro T H
      refine At.regionEnd ?_
      refine At.inBlock ?_
      refine At.region' (l := [0, 1, 2]) rfl ?_
      refine At.v H rfl (wN rfl) rfl rfl rfl (x_move (H.r 4 rfl)) ?_; clear H; intro T H
      refine At.v H rfl (wN rfl) rfl rfl rfl (x_add (H.r 9 rfl) evC (w64 (by omega) (by omega))) ?_; clear H; intro T H
      refine At.v H rfl (wN rfl) rfl rfl rfl (x_assign (H.r 10 rfl)) ?_; clear H; intro T H
      refine At.regionEnd ?_
      exact hnext0 _ _ _ _ _ (by omega) ⟨k + 1, rfl, by first | trivial | omega | exact ⟨by omega, by omega⟩, rfl, rfl⟩ (by simp only [List.cons_append, List.nil_append]; rw [hms2]; exact (H.pk (by repeat (first | exact Pk.nil | exact Pk.all | refine Pk.cons (by repeat (first | exact Take.here | apply Take.there)) ?_ | apply Pk.skip))).sub (by repeat' (first | exact trivial | refine And.intro rfl ?_)))
    · clear H; intro h15 T H
      have hms2 : manyO (gv.take (k + 1)) = manyO (gv.take k) := by rw [hms, if_neg (fun e => h15 ((orNone_ge o).2 e))]; rfl
      refine At.regionEnd ?_
      refine At.condF (H.r 15 rfl) ?_
      refine At.skip ?_
      refine At.inBlock ?_
      refine At.region' (l := [0, 1, 2]) rfl ?_
      refine At.v H rfl (wN rfl) rfl rfl rfl (x_move (H.r 4 rfl)) ?_; clear H; intro T H
      refine At.v H rfl (wN rfl) rfl rfl rfl (x_add (H.r 9 rfl) evC (w64 (by omega) (by omega))) ?_; clear H; intro T H
      refine At.v H rfl (wN rfl) rfl rfl rfl (x_assign (H.r 10 rfl)) ?_; clear H; intro T H
      refine At.regionEnd ?_
      exact hnext0 _ _ _ _ _ (by omega) ⟨k + 1, rfl, by first | trivial | omega | exact ⟨by omega, by omega⟩, rfl, rfl⟩ (by simp only [List.cons_append, List.nil_append]; rw [hms2]; exact (H.pk (by repeat (first | exact Pk.nil | exact Pk.all | refine Pk.cons (by repeat (first | exact Take.here | apply Take.there)) ?_ | apply Pk.skip))).sub (by repeat' (first | exact trivial | refine And.intro rfl ?_)))
  · clear H; intro h8 T H
    obtain rfl : gv.length = k := by omega
    refine At.regionEnd ?_
    refine At.condF (H.r 8 rfl) ?_
    refine At.exit rfl ?_
    refine At.seq ?_
    refine At.region' (l := [0, 1]) rfl ?_
    refine At.v H rfl (wN rfl) rfl rfl rfl (x_move (H.r 3 rfl)) ?_; clear H; intro T H
    refine At.v H rfl (wN rfl) rfl rfl rfl (x_assign (H.r 18 rfl)) ?_; clear H; intro T H
    refine At.regionEnd ?_
    refine At.ret rfl ?_
    rw [List.take_length] at H
    exact lea Try.func19 (res1 Try.results19 (H.r 2 rfl)) (Ret.mk H.fr (rfl))
theorem Ints {v u : Value} {xs ys : List Int} {w0 : World} (hS : Sl encI 1 w0 v xs) (hS2 : Sl encI 1 w0 u ys) (hn : xs.length ≤ 1000) : Calls Try.prog 17 #[v, u] w0 (Ret w0 fun r _ => r = .bool (decide (xs = ys))) := by
  obtain ⟨A, cap, bk, off, rfl, hP⟩ := hS
  obtain ⟨A2, cap2, bk2, off2, rfl, hP2⟩ := hS2
  refine enter (args := [.slice A xs.length cap, .slice A2 ys.length cap2]) (S := []) Try.func17 rfl Try.ntmps17 rfl fun cs T H => ?_
  refine At.seq ?_
  refine At.region' (l := [0]) rfl ?_
  refine At.v H rfl (wN rfl) rfl rfl rfl (x_assign evC) ?_; clear H; intro T H
  refine At.regionEnd ?_
  refine At.seq ?_
  refine At.seq ?_
  refine At.region' (l := [0, 1, 2, 3, 4]) rfl ?_
  refine At.v H rfl (wN rfl) rfl rfl rfl (x_move (H.r 0 rfl)) ?_; clear H; intro T H
  refine At.v H rfl (wN rfl) rfl rfl rfl (x_len (H.r 6 rfl) Try.runUnderlying30) ?_; clear H; intro T H
  refine At.v H rfl (wN rfl) rfl rfl rfl (x_move (H.r 1 rfl)) ?_; clear H; intro T H
  refine At.v H rfl (wN rfl) rfl rfl rfl (x_len (H.r 8 rfl) Try.runUnderlying30) ?_; clear H; intro T H
  refine At.c H rfl (wN rfl) rfl rfl rfl (x_neq (H.r 7 rfl) (H.r 9 rfl)) ?_ ?_
  · clear H; intro h10 T H
    have hR : ¬ xs = ys := fun e => h10 (by rw [e])
    refine At.regionEnd ?_
    refine At.condT (H.r 10 rfl) ?_
    refine At.seq ?_
    refine At.region' (l := [0]) rfl ?_
    refine At.v H rfl (wN rfl) rfl rfl rfl (x_assign evC) ?_; clear H; intro T H
    refine At.regionEnd ?_
    refine At.ret rfl ?_
    exact lea Try.func17 (res1 Try.results17 (H.r 4 rfl)) (Ret.mk H.fr (by first | exact bT hR | exact bF hR))
  · clear H; intro h10 T H
    have hl : xs.length = ys.length := by omega
    refine At.regionEnd ?_
    refine At.condF (H.r 10 rfl) ?_
    refine At.skip ?_
    refine At.seq ?_
    refine At.seq ?_
    refine At.region' (l := [0]) rfl ?_
    refine At.v H rfl (wN rfl) rfl rfl rfl (x_assign evC) ?_; clear H; intro T H
    refine At.regionEnd ?_
    refine At.block ?_
    replace H := ((H.fore PkS.nil).sub (R' := [(5, _)] ++ [(0, _), (1, _)]) (by repeat' (first | exact trivial | refine And.intro rfl ?_)))
    refine At.loopF H (fun μ R1 G1 => ∃ k : Nat, μ = xs.length - k ∧ (k ≤ xs.length ∧ xs.take k = ys.take k) ∧ R1 = [(5, .int .i64 (k : Int))] ∧ G1 = []) (xs.length) ⟨0, by first | rfl | omega, ⟨by omega, rfl⟩, rfl, rfl⟩ ?_
    clear H; rintro _ _ _ T w ⟨k, rfl, ⟨hk, hE⟩, rfl, rfl⟩ H hnext0
    simp only [List.cons_append, List.nil_append] at H
    refine At.seq ?_
    refine At.seq ?_
    refine At.region' (l := [0, 1, 2, 3]) rfl ?_
    refine At.v H rfl (wN rfl) rfl rfl rfl (x_move (H.r 5 rfl)) ?_; clear H; intro T H
    refine At.v H rfl (wN rfl) rfl rfl rfl (x_move (H.r 0 rfl)) ?_; clear H; intro T H
    refine At.v H rfl (wN rfl) rfl rfl rfl (x_len (H.r 12 rfl) Try.runUnderlying30) ?_; clear H; intro T H
    refine At.c H rfl (wN rfl) rfl rfl rfl (x_lss (H.r 11 rfl) (H.r 13 rfl)) ?_ ?_
    · clear H; intro h14 T H
      have hk1 : k < xs.length := by omega
      obtain rfl := hP.addr (fun e => by simp [e] at hk1)
      obtain rfl := hP2.addr (fun e => by rw [e, List.length_nil] at hl; omega)
      obtain ⟨x, hx⟩ := get_ex hk1
      obtain ⟨y, hy⟩ := get_ex (show k < ys.length by omega)
      have hcl := hP.cell k x hx 0 _ rfl
      have hcl2 := hP2.cell k y hy 0 _ rfl
      refine At.regionEnd ?_
      refine At.condT (H.r 14 rfl) ?_
      refine At.skip ?_
      refine At.seq ?_
      refine At.block ?_
      refine At.seq ?_
      refine At.drawnC (m := 9) (L := #[false, false, false, false, false, false, false, false, false]) H mixed rfl rfl ?_; clear H; intro w H
      refine GA.v (i := 0) (L' := #[true, false, false, false, false, false, false, false, false]) H rfl (wN rfl) rfl rfl rfl (by kernel_rfl) rfl (fun w H => x_move (H.r 0 rfl)) ?_; clear H; intro T H
      refine GA.v (i := 1) (L' := #[true, true, false, false, false, false, false, false, false]) H rfl (wN rfl) rfl rfl rfl (by kernel_rfl) rfl (fun w H => x_move (H.r 5 rfl)) ?_; clear H; intro T H
      refine GA.v (i := 2) (L' := #[true, true, true, false, false, false, false, false, false]) H rfl (wN rfl) rfl rfl rfl (by kernel_rfl) rfl (fun w H => x_ixSN (H.r 17 rfl) (H.r 18 rfl) Try.runUnderlying30 Try.sizeOf3 (by omega)) ?_; clear H; intro T H
      refine GA.v (i := 3) (L' := #[true, true, true, true, false, false, false, false, false]) H rfl (wN rfl) rfl rfl rfl (by kernel_rfl) rfl (fun w H => x_load (H.r 19 rfl) Try.isAgg3 (H.ext hcl (by simp))) ?_; clear H; intro T H
      refine GA.v (i := 4) (L' := #[true, true, true, true, true, false, false, false, false]) H rfl (wN rfl) rfl rfl rfl (by kernel_rfl) rfl (fun w H => x_move (H.r 1 rfl)) ?_; clear H; intro T H
      refine GA.v (i := 5) (L' := #[true, true, true, true, true, true, false, false, false]) H rfl (wN rfl) rfl rfl rfl (by kernel_rfl) rfl (fun w H => x_move (H.r 5 rfl)) ?_; clear H; intro T H
      refine GA.v (i := 6) (L' := #[true, true, true, true, true, true, true, false, false]) H rfl (wN rfl) rfl rfl rfl (by kernel_rfl) rfl (fun w H => x_ixSN (H.r 21 rfl) (H.r 22 rfl) Try.runUnderlying30 Try.sizeOf3 (by omega)) ?_; clear H; intro T H
      refine GA.v (i := 7) (L' := #[true, true, true, true, true, true, true, true, false]) H rfl (wN rfl) rfl rfl rfl (by kernel_rfl) rfl (fun w H => x_load (H.r 23 rfl) Try.isAgg3 (H.ext hcl2 (by simp))) ?_; clear H; intro T H
      refine GA.c (i := 8) (L' := #[true, true, true, true, true, true, true, true, true]) H rfl (wN rfl) rfl rfl rfl (by kernel_rfl) rfl (fun w H => x_neq (H.r 20 rfl) (H.r 24 rfl)) ?_ ?_
      · clear H; intro h25 T H
        have hR : ¬ xs = ys := fun e => h25 (by rw [e, hy] at hx; simpa using hx.symm)
        refine GA.done (by kernel_rfl) ?_
        refine At.condT (H.r 25 rfl) ?_
        refine At.seq ?_
        refine At.region' (l := [0]) rfl ?_
        refine At.v H rfl (wN rfl) rfl rfl rfl (x_assign evC) ?_; clear H; intro T H
        refine At.regionEnd ?_
        refine At.ret rfl ?_
        exact lea Try.func17 (res1 Try.results17 (H.r 4 rfl)) (Ret.mk H.fr (by first | exact bT hR | exact bF hR))
      · clear H; intro h25 T H
        obtain rfl : x = y := Classical.byContradiction h25
        refine GA.done (by kernel_rfl) ?_
        refine At.condF (H.r 25 rfl) ?_
        refine At.skip ?_
        refine At.inBlock ?_
        refine At.region' (l := [0, 1, 2]) rfl ?_
        refine At.v H rfl (wN rfl) rfl rfl rfl (x_move (H.r 5 rfl)) ?_; clear H; intro T H
        refine At.v H rfl (wN rfl) rfl rfl rfl (x_add (H.r 15 rfl) evC (w64 (by omega) (by omega))) ?_; clear H; intro T H
        refine At.v H rfl (wN rfl) rfl rfl rfl (x_assign (H.r 16 rfl)) ?_; clear H; intro T H
        refine At.regionEnd ?_
        exact hnext0 _ _ _ _ _ (by omega) ⟨k + 1, rfl, ⟨by omega, take_eq_succ hE hx hy⟩, rfl, rfl⟩ (by simp only [List.cons_append, List.nil_append]; exact (H.pk (by repeat (first | exact Pk.nil | exact Pk.all | refine Pk.cons (by repeat (first | exact Take.here | apply Take.there)) ?_ | apply Pk.skip))).sub (by repeat' (first | exact trivial | refine And.intro rfl ?_)))
    · clear H; intro h14 T H
      obtain rfl : xs.length = k := by omega
      have hR : xs = ys := by rw [List.take_length, hl, List.take_length] at hE; exact hE
      refine At.regionEnd ?_
      refine At.condF (H.r 14 rfl) ?_
      refine At.exit rfl ?_
      refine At.seq ?_
      refine At.region' (l := [0]) rfl ?_
      refine At.v H rfl (wN rfl) rfl rfl rfl (x_assign evC) ?_; clear H; intro T H
      refine At.regionEnd ?_
      refine At.ret rfl ?_
      exact lea Try.func17 (res1 Try.results17 (H.r 4 rfl)) (Ret.mk H.fr (by first | exact bT hR | exact bF hR))
theorem hasClub {A A' : Option Addr} {n c c' bk off : Nat} {list : List Zi} {w0 : World} (hL : SlP encZ 2 w0 A c bk off list) (hn : list.length ≤ 1000) : Calls Try.prog 25 #[.agg #[.slice A' n c', .slice A list.length c]] w0 (Ret w0 fun r _ => r = .bool (list.any fun z => decide (z.for_ = 4))) := by
  refine enter (args := [.agg #[.slice A' n c', .slice A list.length c]]) (S := []) Try.func25 rfl Try.ntmps25 rfl fun cs T H => ?_
  refine At.seq ?_
  refine At.region' (l := [0, 1]) rfl ?_
  refine At.new H rfl (wN rfl) rfl rfl rfl (x_box (H.r 0 rfl) rfl) ?_; clear H; intro b1 T w _ _ H
  refine At.v H rfl (wN rfl) rfl rfl rfl (x_assign evC) ?_; clear H; intro T H
  refine At.regionEnd ?_
  refine At.seq ?_
  refine At.seq ?_
  refine At.region' (l := [0, 1, 2, 3]) rfl ?_
  refine At.v H rfl (wN rfl) rfl rfl rfl (x_fieldAddr (H.r 1 rfl) fa25_1) ?_; clear H; intro T H
  refine At.v H rfl (wN rfl) rfl rfl rfl (x_load (H.r 5 rfl) Try.isAgg23 (by first | exact H.cell (by repeat (first | exact List.mem_cons_self | apply List.mem_cons_of_mem)) _ rfl | exact H.cellR (by repeat (first | exact List.mem_cons_self | apply List.mem_cons_of_mem)) _ rfl)) ?_; clear H; intro T H
  refine At.v H rfl (wN rfl) rfl rfl rfl (x_len (H.r 6 rfl) Try.runUnderlying23) ?_; clear H; intro T H
  refine At.v H rfl (wN rfl) rfl rfl rfl (x_move evC) ?_; clear H; intro T H
  refine At.regionEnd ?_
  refine At.block ?_
  replace H := ((H.fore PkS.nil).sub (R' := [(8, _)] ++ [(6, _), (7, _)]) (by repeat' (first | exact trivial | refine And.intro rfl ?_)))
  refine At.loopF H (fun μ R1 G1 => ∃ k : Nat, μ = list.length - k ∧ (k ≤ list.length ∧ ∀ z ∈ list.take k, z.for_ ≠ 4) ∧ R1 = [(8, .int .i64 (k : Int))] ∧ G1 = []) (list.length) ⟨0, by first | rfl | omega, ⟨by omega, by simp⟩, rfl, rfl⟩ ?_
  clear H; rintro _ _ _ T w ⟨k, rfl, ⟨hk, hE⟩, rfl, rfl⟩ H hnext0
  simp only [List.cons_append, List.nil_append] at H
  refine At.seq ?_
  refine At.region' (l := [0]) rfl ?_
  refine At.c H rfl (wN rfl) rfl rfl rfl (x_lss (H.r 8 rfl) (H.r 7 rfl)) ?_ ?_
  · clear H; intro h9 T H
    have hk1 : k < list.length := by omega
    obtain rfl := hL.addr (fun e => by simp [e] at hk1)
    obtain ⟨z, hz⟩ := get_ex hk1
    have hcl := hL.cell k z hz
    refine At.regionEnd ?_
    refine At.seq ?_
    refine At.condT (H.r 9 rfl) ?_
    refine At.skip ?_
    refine At.seq ?_
    refine At.block ?_
    refine At.seq ?_
    refine At.region' (l := [0, 1, 2, 3]) rfl ?_
    refine At.v H rfl (wN rfl) rfl rfl rfl (x_ixSN (H.r 6 rfl) (H.r 8 rfl) Try.runUnderlying23 Try.sizeOf42 (by omega)) ?_; clear H; intro T H
    refine At.v H rfl (wN rfl) rfl rfl rfl (x_loadA (H.r 10 rfl) Try.isAgg42 Try.sizeOf42 (H.extA hcl (by simp)) rfl) ?_; clear H; intro T H
    refine At.new H rfl (wN rfl) rfl rfl rfl (x_alloc Try.zeroValue42 rfl) ?_; clear H; intro b4 T w _ _ H
    refine At.storeA H rfl (wN rfl) rfl rfl (H.r 4 rfl) (H.r 11 rfl) Try.sizeOf42 (List.all_eq_true.1 rfl) (by repeat (first | exact Upd.here | apply Upd.there)) (by rfl) ?_; clear H; intro T w _ H
    refine At.regionEnd ?_
    refine At.seq ?_
    refine At.region' (l := [0, 1, 2]) rfl ?_
    refine At.v H rfl (wN rfl) rfl rfl rfl (x_fieldAddr (H.r 4 rfl) fa42_0) ?_; clear H; intro T H
    refine At.v H rfl (wN rfl) rfl rfl rfl (x_load (H.r 12 rfl) Try.isAgg3 (by first | exact H.cell (by repeat (first | exact List.mem_cons_self | apply List.mem_cons_of_mem)) _ rfl | exact H.cellR (by repeat (first | exact List.mem_cons_self | apply List.mem_cons_of_mem)) _ rfl)) ?_; clear H; intro T H
    refine At.c H rfl (wN rfl) rfl rfl rfl (x_eql (H.r 13 rfl) evC) ?_ ?_
    · clear H; intro h14 T H
      have hR : (list.any fun z => decide (z.for_ = 4)) = true := List.any_eq_true.2 ⟨z, List.mem_of_getElem? hz, by simpa using h14⟩
      refine At.regionEnd ?_
      refine At.condT (H.r 14 rfl) ?_
      refine At.seq ?_
      refine At.region' (l := [0]) rfl ?_
      refine At.v H rfl (wN rfl) rfl rfl rfl (x_assign evC) ?_; clear H; intro T H
      refine At.regionEnd ?_
      refine At.ret rfl ?_
      exact lea Try.func25 (res1 Try.results25 (H.r 2 rfl)) (Ret.mk H.fr (by rw [hR]))
    · clear H; intro h14 T H
      refine At.regionEnd ?_
      refine At.condF (H.r 14 rfl) ?_
      refine At.skip ?_
      refine At.inBlock ?_
      refine At.region' (l := [0, 1]) rfl ?_
      refine At.v H rfl (wN rfl) rfl rfl rfl (x_add (H.r 8 rfl) evC (w64 (by omega) (by omega))) ?_; clear H; intro T H
      refine At.v H rfl (wN rfl) rfl rfl rfl (x_move (H.r 15 rfl)) ?_; clear H; intro T H
      refine At.regionEnd ?_
      exact hnext0 _ _ _ _ _ (by omega) ⟨k + 1, rfl, ⟨by omega, take_all_succ hE hz h14⟩, rfl, rfl⟩ (by simp only [List.cons_append, List.nil_append]; exact (H.pk (by repeat (first | exact Pk.nil | exact Pk.all | refine Pk.cons (by repeat (first | exact Take.here | apply Take.there)) ?_ | apply Pk.skip))).sub (by repeat' (first | exact trivial | refine And.intro rfl ?_)))
  · clear H; intro h9 T H
    obtain rfl : list.length = k := by omega
    have hR : (list.any fun z => decide (z.for_ = 4)) = false := by rw [List.take_length] at hE; simpa using hE
    refine At.regionEnd ?_
    refine At.seq ?_
    refine At.condF (H.r 9 rfl) ?_
    refine At.exit rfl ?_
    refine At.seq ?_
    refine At.region' (l := [0]) rfl ?_
    refine At.v H rfl (wN rfl) rfl rfl rfl (x_assign evC) ?_; clear H; intro T H
    refine At.regionEnd ?_
    refine At.ret rfl ?_
    exact lea Try.func25 (res1 Try.results25 (H.r 2 rfl)) (Ret.mk H.fr (by rw [hR]))
end Go.Proofs.Pz
end
section
namespace Go.Proofs.Pz
open Go.Sx Go.RowKit
set_option linter.unusedVariables false
namespace AJ
theorem fa25_0 (a : Addr) (w : World) : (Instr.fieldAt 25 (.pointer (some a)) 0).run Try.prog w = .ok (.pointer (some (a.add 0))) w := by simp [go_sem]
theorem fa25_1 (a : Addr) (w : World) : (Instr.fieldAt 25 (.pointer (some a)) 1).run Try.prog w = .ok (.pointer (some (a.add 1))) w := by simp [go_sem]
theorem fa42_0 (a : Addr) (w : World) : (Instr.fieldAt 42 (.pointer (some a)) 0).run Try.prog w = .ok (.pointer (some (a.add 0))) w := by simp [go_sem]
theorem fa42_1 (a : Addr) (w : World) : (Instr.fieldAt 42 (.pointer (some a)) 1).run Try.prog w = .ok (.pointer (some (a.add 1))) w := by simp [go_sem]
theorem fa59_0 (a : Addr) (w : World) : (Instr.fieldAt 59 (.pointer (some a)) 0).run Try.prog w = .ok (.pointer (some (a.add 0))) w := by simp [go_sem]
theorem fa59_1 (a : Addr) (w : World) : (Instr.fieldAt 59 (.pointer (some a)) 1).run Try.prog w = .ok (.pointer (some (a.add 1))) w := by simp [go_sem]
end AJ
open AJ
def PrizesQ (men : List Wi) (list : List Zi) (v : Value) : Prop := (v = .bool true ∧ Valid men list) ∨ (v = .bool false ∧ ¬ Valid men list)
theorem nd_snoc {n : Nat} {l : List Wi} {k : Nat} {m : Wi} (h : MenOK n (l.take k)) (hm : l[k]? = some m) (h1 : 1 ≤ m.place ∧ m.place ≤ n) (h3 : 0 ≤ m.club ∧ m.club ≤ 5) (hne : ∀ j x, j < k → l[j]? = some x → x.place ≠ m.place) : MenOK n (l.take (k + 1)) := by
  rw [List.take_add_one, hm]
  refine h.snoc h1 (atP_none.2 fun x hx => ?_) h3
  obtain ⟨j, hj⟩ := List.mem_iff_getElem?.1 hx
  rw [List.getElem?_take] at hj
  split at hj
  · exact hne j x (by assumption) hj
  · cases hj
theorem pl_succ {l : List Wi} {j : Nat} {p : Int} {y : Wi} (hF : ∀ i x, i < j → l[i]? = some x → x.place ≠ p) (hy : l[j]? = some y) (h : ¬ y.place = p) : ∀ i x, i < j + 1 → l[i]? = some x → x.place ≠ p := by
  intro i x hi hx
  by_cases e : i = j
  · rw [e, hy] at hx
    obtain rfl : y = x := by simpa using hx
    exact h
  · exact hF i x (by omega) hx
theorem Prizes {AM AL : Option Addr} {cM bM oM cL bL oL : Nat} {men : List Wi} {list : List Zi} {w0 : World} (hM : SlP encW 4 w0 AM cM bM oM men) (hL : SlP encZ 2 w0 AL cL bL oL list) (h40 : men.length ≤ 40) (hl40 : list.length ≤ 40) : Calls Try.prog 10 #[(.agg #[(.slice AM men.length cM), (.slice AL list.length cL)])] w0 (Ret w0 fun v _ => PrizesQ men list v) := by
  refine enter (args := [(.agg #[(.slice AM men.length cM), (.slice AL list.length cL)])]) (S := []) Try.func10 rfl Try.ntmps10 rfl fun cs T H => ?_
  refine At.seq ?_
  refine At.region' (l := [0, 1]) rfl ?_
  refine At.new H rfl (wN rfl) rfl rfl rfl (x_box (H.r 0 rfl) rfl) ?_; clear H; intro b1 T w _ _ H
  refine At.v H rfl (wN rfl) rfl rfl rfl (x_assign evC) ?_; clear H; intro T H
  refine At.regionEnd ?_
  refine At.seq ?_
  refine At.seq ?_
  refine At.region' (l := [0, 1, 2, 3, 4, 5, 6, 7, 8, 9, 10]) rfl ?_
  refine At.v H rfl (wN rfl) rfl rfl rfl (x_fieldAddr (H.r 1 rfl) fa25_0) ?_; clear H; intro T H
  refine At.v H rfl (wN rfl) rfl rfl rfl (x_load (H.r 7 rfl) Try.isAgg22 (by first | exact H.cell (by repeat (first | exact List.mem_cons_self | apply List.mem_cons_of_mem)) _ rfl | exact H.cellR (by repeat (first | exact List.mem_cons_self | apply List.mem_cons_of_mem)) _ rfl)) ?_; clear H; intro T H
  refine At.v H rfl (wN rfl) rfl rfl rfl (x_len (H.r 8 rfl) Try.runUnderlying22) ?_; clear H; intro T H
  refine At.f0 H rfl (wN rfl) rfl rfl rfl (args3 (H.r 9 rfl) evC evC) Try.call28 (inR _ _ _ _) ?_; clear H; rintro v10 T w rfl _ H
  by_cases hn : (1 : Int) ≤ (men.length : Int) ∧ (men.length : Int) ≤ 8
  · first | rw [decide_eq_true hn] at H | rw [decide_eq_false hn] at H
    refine At.v H rfl (wN rfl) rfl rfl rfl (x_notT (H.r 10 rfl)) ?_; clear H; intro T H
    refine At.v H rfl (wN rfl) rfl rfl rfl (x_move (H.r 11 rfl)) ?_; clear H; intro T H
    refine At.v H rfl (wS H rfl rfl rfl) rfl rfl rfl (x_fieldAddr (H.r 1 rfl) fa25_1) ?_; clear H; intro T H
    refine At.v H rfl (wS H rfl rfl rfl) rfl rfl rfl (x_load (H.r 13 rfl) Try.isAgg23 (by first | exact H.cell (by repeat (first | exact List.mem_cons_self | apply List.mem_cons_of_mem)) _ rfl | exact H.cellR (by repeat (first | exact List.mem_cons_self | apply List.mem_cons_of_mem)) _ rfl)) ?_; clear H; intro T H
    refine At.v H rfl (wS H rfl rfl rfl) rfl rfl rfl (x_len (H.r 14 rfl) Try.runUnderlying23) ?_; clear H; intro T H
    refine At.c H rfl (wS H rfl rfl rfl) rfl rfl rfl (x_gtr (H.r 15 rfl) evC) ?_ ?_
    · clear H; intro h16 T H
      have hR : ¬ Valid men list := fun hv => by have := hv.l6; omega
      refine At.v H rfl (wN rfl) rfl rfl rfl (x_pickF (H.r 12 rfl) (H.r 16 rfl)) ?_; clear H; intro T H
      refine At.regionEnd ?_
      refine At.condT (H.r 17 rfl) ?_
      refine At.seq ?_
      refine At.region' (l := [0]) rfl ?_
      refine At.v H rfl (wN rfl) rfl rfl rfl (x_assign evC) ?_; clear H; intro T H
      refine At.regionEnd ?_
      refine At.ret rfl ?_
      exact lea Try.func10 (res1 Try.results10 (H.r 2 rfl)) (Ret.mk H.fr (by first | exact .inl ⟨rfl, hR⟩ | exact .inr ⟨rfl, hR⟩))
    · clear H; intro h16 T H
      refine At.v H rfl (wN rfl) rfl rfl rfl (x_pickF (H.r 12 rfl) (H.r 16 rfl)) ?_; clear H; intro T H
      refine At.regionEnd ?_
      refine At.condF (H.r 17 rfl) ?_
      refine At.skip ?_
      refine At.seq ?_
      refine At.seq ?_
      refine At.region' (l := [0]) rfl ?_
      refine At.v H rfl (wN rfl) rfl rfl rfl (x_assign evC) ?_; clear H; intro T H
      refine At.regionEnd ?_
      refine At.block ?_
      replace H := ((H.fore PkS.nil).sub (R' := [(3, _)] ++ [(1, _)]) (by repeat' (first | exact trivial | refine And.intro rfl ?_)))
      refine At.loopF H (fun μ R1 G1 => ∃ k : Nat, μ = men.length - k ∧ (k ≤ men.length ∧ MenOK men.length (men.take k)) ∧ R1 = [(3, .int .i64 (k : Int))] ∧ G1 = []) (men.length) ⟨0, by first | rfl | omega, ⟨by omega, by exact MenOK.nil _⟩, rfl, rfl⟩ ?_
      clear H; rintro _ _ _ T w ⟨k, rfl, ⟨hk, hE⟩, rfl, rfl⟩ H hnext0
      simp only [List.cons_append, List.nil_append] at H
      refine At.seq ?_
      refine At.seq ?_
      refine At.region' (l := [0, 1, 2, 3, 4]) rfl ?_
      refine At.v H rfl (wN rfl) rfl rfl rfl (x_move (H.r 3 rfl)) ?_; clear H; intro T H
      refine At.v H rfl (wN rfl) rfl rfl rfl (x_fieldAddr (H.r 1 rfl) fa25_0) ?_; clear H; intro T H
      refine At.v H rfl (wN rfl) rfl rfl rfl (x_load (H.r 19 rfl) Try.isAgg22 (by first | exact H.cell (by repeat (first | exact List.mem_cons_self | apply List.mem_cons_of_mem)) _ rfl | exact H.cellR (by repeat (first | exact List.mem_cons_self | apply List.mem_cons_of_mem)) _ rfl)) ?_; clear H; intro T H
      refine At.v H rfl (wN rfl) rfl rfl rfl (x_len (H.r 20 rfl) Try.runUnderlying22) ?_; clear H; intro T H
      refine At.c H rfl (wN rfl) rfl rfl rfl (x_lss (H.r 18 rfl) (H.r 21 rfl)) ?_ ?_
      · clear H; intro h22 T H
        have hk1 : k < men.length := by omega
        obtain rfl := hM.addr (fun e => by simp [e] at hk1)
        obtain ⟨m, hm⟩ := get_ex hk1
        have hcl := hM.cell k m hm
        refine At.regionEnd ?_
        refine At.condT (H.r 22 rfl) ?_
        refine At.skip ?_
        refine At.seq ?_
        refine At.block ?_
        refine At.seq ?_
        refine At.region' (l := [0, 1, 2, 3, 4, 5, 6]) rfl ?_
        refine At.v H rfl (wN rfl) rfl rfl rfl (x_fieldAddr (H.r 1 rfl) fa25_0) ?_; clear H; intro T H
        refine At.v H rfl (wN rfl) rfl rfl rfl (x_load (H.r 25 rfl) Try.isAgg22 (by first | exact H.cell (by repeat (first | exact List.mem_cons_self | apply List.mem_cons_of_mem)) _ rfl | exact H.cellR (by repeat (first | exact List.mem_cons_self | apply List.mem_cons_of_mem)) _ rfl)) ?_; clear H; intro T H
        refine At.v H rfl (wN rfl) rfl rfl rfl (x_move (H.r 3 rfl)) ?_; clear H; intro T H
        refine At.v H rfl (wN rfl) rfl rfl rfl (x_ixSN (H.r 26 rfl) (H.r 27 rfl) Try.runUnderlying22 Try.sizeOf59 (by omega)) ?_; clear H; intro T H
        refine At.v H rfl (wN rfl) rfl rfl rfl (x_loadA (H.r 28 rfl) Try.isAgg59 Try.sizeOf59 (H.extA hcl (by simp)) rfl) ?_; clear H; intro T H
        refine At.new H rfl (wN rfl) rfl rfl rfl (x_alloc Try.zeroValue59 rfl) ?_; clear H; intro b4 T w _ _ H
        refine At.storeA H rfl (wN rfl) rfl rfl (H.r 4 rfl) (H.r 29 rfl) Try.sizeOf59 (List.all_eq_true.1 rfl) (by repeat (first | exact Upd.here | apply Upd.there)) (by rfl) ?_; clear H; intro T w _ H
        refine At.regionEnd ?_
        refine At.seq ?_
        refine At.seq ?_
        refine At.region' (l := [0, 1, 2, 3, 4, 5, 6, 7, 8, 9, 10, 11, 12]) rfl ?_
        refine At.v H rfl (wN rfl) rfl rfl rfl (x_fieldAddr (H.r 4 rfl) fa59_0) ?_; clear H; intro T H
        refine At.v H rfl (wN rfl) rfl rfl rfl (x_load (H.r 30 rfl) Try.isAgg3 (by first | exact H.cell (by repeat (first | exact List.mem_cons_self | apply List.mem_cons_of_mem)) _ rfl | exact H.cellR (by repeat (first | exact List.mem_cons_self | apply List.mem_cons_of_mem)) _ rfl)) ?_; clear H; intro T H
        refine At.v H rfl (wN rfl) rfl rfl rfl (x_fieldAddr (H.r 1 rfl) fa25_0) ?_; clear H; intro T H
        refine At.v H rfl (wN rfl) rfl rfl rfl (x_load (H.r 32 rfl) Try.isAgg22 (by first | exact H.cell (by repeat (first | exact List.mem_cons_self | apply List.mem_cons_of_mem)) _ rfl | exact H.cellR (by repeat (first | exact List.mem_cons_self | apply List.mem_cons_of_mem)) _ rfl)) ?_; clear H; intro T H
        refine At.v H rfl (wN rfl) rfl rfl rfl (x_len (H.r 33 rfl) Try.runUnderlying22) ?_; clear H; intro T H
        refine At.f0 H rfl (wN rfl) rfl rfl rfl (args3 (H.r 31 rfl) evC (H.r 34 rfl)) Try.call28 (inR _ _ _ _) ?_; clear H; rintro v35 T w rfl _ H
        by_cases hp1 : (1 : Int) ≤ m.place ∧ m.place ≤ (men.length : Int)
        · first | rw [decide_eq_true hp1] at H | rw [decide_eq_false hp1] at H
          refine At.v H rfl (wN rfl) rfl rfl rfl (x_notT (H.r 35 rfl)) ?_; clear H; intro T H
          refine At.v H rfl (wN rfl) rfl rfl rfl (x_move (H.r 36 rfl)) ?_; clear H; intro T H
          refine At.v H rfl (wS H rfl rfl rfl) rfl rfl rfl (x_fieldAddr (H.r 4 rfl) fa59_1) ?_; clear H; intro T H
          refine At.v H rfl (wS H rfl rfl rfl) rfl rfl rfl (x_load (H.r 38 rfl) Try.isAgg3 (by first | exact H.cell (by repeat (first | exact List.mem_cons_self | apply List.mem_cons_of_mem)) _ rfl | exact H.cellR (by repeat (first | exact List.mem_cons_self | apply List.mem_cons_of_mem)) _ rfl)) ?_; clear H; intro T H
          refine At.f0 H rfl (wS H rfl rfl rfl) rfl rfl rfl (args3 (H.r 39 rfl) evC evC) Try.call28 (inR _ _ _ _) ?_; clear H; rintro v40 T w rfl _ H
          by_cases hp2 : (0 : Int) ≤ m.club ∧ m.club ≤ (5 : Int)
          · first | rw [decide_eq_true hp2] at H | rw [decide_eq_false hp2] at H
            refine At.v H rfl (wS H rfl rfl rfl) rfl rfl rfl (x_notT (H.r 40 rfl)) ?_; clear H; intro T H
            refine At.v H rfl (wN rfl) rfl rfl rfl (x_pickF (H.r 37 rfl) (H.r 41 rfl)) ?_; clear H; intro T H
            refine At.regionEnd ?_
            refine At.condF (H.r 42 rfl) ?_
            refine At.skip ?_
            refine At.seq ?_
            refine At.region' (l := [0]) rfl ?_
            refine At.v H rfl (wN rfl) rfl rfl rfl (x_assign evC) ?_; clear H; intro T H
            refine At.regionEnd ?_
            refine At.block ?_
            replace H := ((H.fore PkS.nil).sub (R' := [(5, _)] ++ [(1, _), (3, _), (4, _), (18, _), (19, _), (20, _), (21, _), (22, _), (25, _), (26, _), (27, _), (28, _), (29, _), (30, _), (31, _), (32, _), (33, _), (34, _), (35, _), (36, _), (37, _), (38, _), (39, _), (40, _), (41, _), (42, _)]) (by repeat' (first | exact trivial | refine And.intro rfl ?_)))
            refine At.loopF H (fun μ R1 G1 => ∃ j : Nat, μ = k - j ∧ (j ≤ k ∧ ∀ i x, i < j → men[i]? = some x → x.place ≠ m.place) ∧ R1 = [(5, .int .i64 (j : Int))] ∧ G1 = []) (k) ⟨0, by first | rfl | omega, ⟨by omega, fun i x h => by omega⟩, rfl, rfl⟩ ?_
            clear H; rintro _ _ _ T w ⟨j, rfl, ⟨hj, hF⟩, rfl, rfl⟩ H hnext1
            simp only [List.cons_append, List.nil_append] at H
            refine At.seq ?_
            refine At.seq ?_
            refine At.region' (l := [0, 1, 2]) rfl ?_
            refine At.v H rfl (wN rfl) rfl rfl rfl (x_move (H.r 5 rfl)) ?_; clear H; intro T H
            refine At.v H rfl (wN rfl) rfl rfl rfl (x_move (H.r 3 rfl)) ?_; clear H; intro T H
            refine At.c H rfl (wN rfl) rfl rfl rfl (x_lss (H.r 43 rfl) (H.r 44 rfl)) ?_ ?_
            · clear H; intro h45 T H
              have hj1 : j < k := by omega
              obtain ⟨y, hy⟩ := get_ex (show j < men.length by omega)
              have hcl2 := hM.cell j y hy 0 _ rfl
              refine At.regionEnd ?_
              refine At.condT (H.r 45 rfl) ?_
              refine At.skip ?_
              refine At.seq ?_
              refine At.block ?_
              refine At.seq ?_
              refine At.drawnC (m := 9) (L := #[false, false, false, false, false, false, false, false, false]) H mixed rfl rfl ?_; clear H; intro w H
              refine GA.v (i := 0) (L' := #[true, false, false, false, false, false, false, false, false]) H rfl (wN rfl) rfl rfl rfl (by kernel_rfl) rfl (fun w H => x_fieldAddr (H.r 1 rfl) fa25_0) ?_; clear H; intro T H
              refine GA.v (i := 1) (L' := #[true, true, false, false, false, false, false, false, false]) H rfl (wN rfl) rfl rfl rfl (by kernel_rfl) rfl (fun w H => x_load (H.r 48 rfl) Try.isAgg22 (by first | exact H.cell (by repeat (first | exact List.mem_cons_self | apply List.mem_cons_of_mem)) _ rfl | exact H.cellR (by repeat (first | exact List.mem_cons_self | apply List.mem_cons_of_mem)) _ rfl)) ?_; clear H; intro T H
              refine GA.v (i := 2) (L' := #[true, true, true, false, false, false, false, false, false]) H rfl (wN rfl) rfl rfl rfl (by kernel_rfl) rfl (fun w H => x_move (H.r 5 rfl)) ?_; clear H; intro T H
              refine GA.v (i := 3) (L' := #[true, true, true, true, false, false, false, false, false]) H rfl (wN rfl) rfl rfl rfl (by kernel_rfl) rfl (fun w H => x_ixSN (H.r 49 rfl) (H.r 50 rfl) Try.runUnderlying22 Try.sizeOf59 (by omega)) ?_; clear H; intro T H
              refine GA.v (i := 4) (L' := #[true, true, true, true, true, false, false, false, false]) H rfl (wN rfl) rfl rfl rfl (by kernel_rfl) rfl (fun w H => x_fieldAddr (H.r 51 rfl) fa59_0) ?_; clear H; intro T H
              refine GA.v (i := 5) (L' := #[true, true, true, true, true, true, false, false, false]) H rfl (wN rfl) rfl rfl rfl (by kernel_rfl) rfl (fun w H => x_load (H.r 52 rfl) Try.isAgg3 (H.ext hcl2 (by simp))) ?_; clear H; intro T H
              refine GA.v (i := 6) (L' := #[true, true, true, true, true, true, true, false, false]) H rfl (wN rfl) rfl rfl rfl (by kernel_rfl) rfl (fun w H => x_fieldAddr (H.r 4 rfl) fa59_0) ?_; clear H; intro T H
              refine GA.v (i := 7) (L' := #[true, true, true, true, true, true, true, true, false]) H rfl (wN rfl) rfl rfl rfl (by kernel_rfl) rfl (fun w H => x_load (H.r 54 rfl) Try.isAgg3 (by first | exact H.cell (by repeat (first | exact List.mem_cons_self | apply List.mem_cons_of_mem)) _ rfl | exact H.cellR (by repeat (first | exact List.mem_cons_self | apply List.mem_cons_of_mem)) _ rfl)) ?_; clear H; intro T H
              refine GA.c (i := 8) (L' := #[true, true, true, true, true, true, true, true, true]) H rfl (wN rfl) rfl rfl rfl (by kernel_rfl) rfl (fun w H => x_eql (H.r 53 rfl) (H.r 55 rfl)) ?_ ?_
              · clear H; intro h56 T H
                have hR : ¬ Valid men list := fun hv => by
                  have a := List.getElem?_map (f := (·.place)) (l := men) (i := j)
                  have b := List.getElem?_map (f := (·.place)) (l := men) (i := k)
                  rw [hy] at a
                  rw [hm] at b
                  simp only [Option.map_some] at a b
                  rw [h56] at a
                  have := (List.getElem?_inj (by rw [List.length_map]; omega) hv.nd).1 (a.trans b.symm)
                  omega
                refine GA.done (by kernel_rfl) ?_
                refine At.condT (H.r 56 rfl) ?_
                refine At.seq ?_
                refine At.region' (l := [0]) rfl ?_
                refine At.v H rfl (wN rfl) rfl rfl rfl (x_assign evC) ?_; clear H; intro T H
                refine At.regionEnd ?_
                refine At.ret rfl ?_
                exact lea Try.func10 (res1 Try.results10 (H.r 2 rfl)) (Ret.mk H.fr (by first | exact .inl ⟨rfl, hR⟩ | exact .inr ⟨rfl, hR⟩))
              · clear H; intro h56 T H
                refine GA.done (by kernel_rfl) ?_
                refine At.condF (H.r 56 rfl) ?_
                refine At.skip ?_
                refine At.inBlock ?_
                refine At.region' (l := [0, 1, 2]) rfl ?_
                refine At.v H rfl (wN rfl) rfl rfl rfl (x_move (H.r 5 rfl)) ?_; clear H; intro T H
                refine At.v H rfl (wN rfl) rfl rfl rfl (x_add (H.r 46 rfl) evC (w64 (by omega) (by omega))) ?_; clear H; intro T H
                refine At.v H rfl (wN rfl) rfl rfl rfl (x_assign (H.r 47 rfl)) ?_; clear H; intro T H
                refine At.regionEnd ?_
                exact hnext1 _ _ _ _ _ (by omega) ⟨j + 1, rfl, ⟨by omega, pl_succ hF hy h56⟩, rfl, rfl⟩ (by simp only [List.cons_append, List.nil_append]; exact (H.pk (by repeat (first | exact Pk.nil | exact Pk.all | refine Pk.cons (by repeat (first | exact Take.here | apply Take.there)) ?_ | apply Pk.skip))).sub (by repeat' (first | exact trivial | refine And.intro rfl ?_)))
            · clear H; intro h45 T H
              obtain rfl : k = j := by omega
              have hne := hF
              refine At.regionEnd ?_
              refine At.condF (H.r 45 rfl) ?_
              refine At.exit rfl ?_
              refine At.inBlock ?_
              refine At.region' (l := [0, 1, 2]) rfl ?_
              refine At.v H rfl (wN rfl) rfl rfl rfl (x_move (H.r 3 rfl)) ?_; clear H; intro T H
              refine At.v H rfl (wN rfl) rfl rfl rfl (x_add (H.r 23 rfl) evC (w64 (by omega) (by omega))) ?_; clear H; intro T H
              refine At.v H rfl (wN rfl) rfl rfl rfl (x_assign (H.r 24 rfl)) ?_; clear H; intro T H
              refine At.regionEnd ?_
              exact hnext0 _ _ _ _ _ (by omega) ⟨k + 1, rfl, ⟨by omega, nd_snoc hE hm hp1 hp2 hne⟩, rfl, rfl⟩ (by simp only [List.cons_append, List.nil_append]; exact (H.pk (by repeat (first | exact Pk.nil | exact Pk.all | refine Pk.cons (by repeat (first | exact Take.here | apply Take.there)) ?_ | apply Pk.skip))).sub (by repeat' (first | exact trivial | refine And.intro rfl ?_)))
          · first | rw [decide_eq_true hp2] at H | rw [decide_eq_false hp2] at H
            have hR : ¬ Valid men list := fun hv => hp2 (hv.club m (List.mem_of_getElem? hm))
            refine At.v H rfl (wS H rfl rfl rfl) rfl rfl rfl (x_notF (H.r 40 rfl)) ?_; clear H; intro T H
            refine At.v H rfl (wN rfl) rfl rfl rfl (x_pickF (H.r 37 rfl) (H.r 41 rfl)) ?_; clear H; intro T H
            refine At.regionEnd ?_
            refine At.condT (H.r 42 rfl) ?_
            refine At.seq ?_
            refine At.region' (l := [0]) rfl ?_
            refine At.v H rfl (wN rfl) rfl rfl rfl (x_assign evC) ?_; clear H; intro T H
            refine At.regionEnd ?_
            refine At.ret rfl ?_
            exact lea Try.func10 (res1 Try.results10 (H.r 2 rfl)) (Ret.mk H.fr (by first | exact .inl ⟨rfl, hR⟩ | exact .inr ⟨rfl, hR⟩))
        · first | rw [decide_eq_true hp1] at H | rw [decide_eq_false hp1] at H
          have hR : ¬ Valid men list := fun hv => hp1 (hv.place m (List.mem_of_getElem? hm))
          refine At.v H rfl (wN rfl) rfl rfl rfl (x_notF (H.r 35 rfl)) ?_; clear H; intro T H
          refine At.v H rfl (wN rfl) rfl rfl rfl (x_move (H.r 36 rfl)) ?_; clear H; intro T H
          refine At.u H rfl (wU H rfl rfl rfl rfl) rfl rfl ?_; clear H; intro T H
          refine At.u H rfl (wU H rfl rfl rfl rfl) rfl rfl ?_; clear H; intro T H
          refine At.u H rfl (wU H rfl rfl rfl rfl) rfl rfl ?_; clear H; intro T H
          refine At.u H rfl (wU H rfl rfl rfl rfl) rfl rfl ?_; clear H; intro T H
          refine At.v H rfl (wN rfl) rfl rfl rfl (x_pickT (H.r 37 rfl) evC) ?_; clear H; intro T H
          refine At.regionEnd ?_
          refine At.condT (H.r 42 rfl) ?_
          refine At.seq ?_
          refine At.region' (l := [0]) rfl ?_
          refine At.v H rfl (wN rfl) rfl rfl rfl (x_assign evC) ?_; clear H; intro T H
          refine At.regionEnd ?_
          refine At.ret rfl ?_
          exact lea Try.func10 (res1 Try.results10 (H.r 2 rfl)) (Ret.mk H.fr (by first | exact .inl ⟨rfl, hR⟩ | exact .inr ⟨rfl, hR⟩))
      · clear H; intro h22 T H
        obtain rfl : men.length = k := by omega
        rw [List.take_length] at hE
        refine At.regionEnd ?_
        refine At.condF (H.r 22 rfl) ?_
        refine At.exit rfl ?_
        refine At.seq ?_
        refine At.seq ?_
        refine At.region' (l := [0]) rfl ?_
        refine At.v H rfl (wN rfl) rfl rfl rfl (x_assign evC) ?_; clear H; intro T H
        refine At.regionEnd ?_
        refine At.block ?_
        replace H := ((H.fore PkS.nil).sub (R' := [(6, _)] ++ [(1, _)]) (by repeat' (first | exact trivial | refine And.intro rfl ?_)))
        refine At.loopF H (fun μ R1 G1 => ∃ k : Nat, μ = list.length - k ∧ (k ≤ list.length ∧ ∀ z ∈ list.take k, 0 ≤ z.for_ ∧ z.for_ ≤ 4 ∧ 0 ≤ z.worth ∧ z.worth ≤ 1000) ∧ R1 = [(6, .int .i64 (k : Int))] ∧ G1 = []) (list.length) ⟨0, by first | rfl | omega, ⟨by omega, by simp⟩, rfl, rfl⟩ ?_
        clear H; rintro _ _ _ T w ⟨k, rfl, ⟨hk, hG⟩, rfl, rfl⟩ H hnext2
        simp only [List.cons_append, List.nil_append] at H
        refine At.seq ?_
        refine At.seq ?_
        refine At.region' (l := [0, 1, 2, 3, 4]) rfl ?_
        refine At.v H rfl (wN rfl) rfl rfl rfl (x_move (H.r 6 rfl)) ?_; clear H; intro T H
        refine At.v H rfl (wN rfl) rfl rfl rfl (x_fieldAddr (H.r 1 rfl) fa25_1) ?_; clear H; intro T H
        refine At.v H rfl (wN rfl) rfl rfl rfl (x_load (H.r 58 rfl) Try.isAgg23 (by first | exact H.cell (by repeat (first | exact List.mem_cons_self | apply List.mem_cons_of_mem)) _ rfl | exact H.cellR (by repeat (first | exact List.mem_cons_self | apply List.mem_cons_of_mem)) _ rfl)) ?_; clear H; intro T H
        refine At.v H rfl (wN rfl) rfl rfl rfl (x_len (H.r 59 rfl) Try.runUnderlying23) ?_; clear H; intro T H
        refine At.c H rfl (wN rfl) rfl rfl rfl (x_lss (H.r 57 rfl) (H.r 60 rfl)) ?_ ?_
        · clear H; intro h61 T H
          have hk1 : k < list.length := by omega
          obtain rfl := hL.addr (fun e => by simp [e] at hk1)
          obtain ⟨z, hz⟩ := get_ex hk1
          have hcl := hL.cell k z hz
          refine At.regionEnd ?_
          refine At.condT (H.r 61 rfl) ?_
          refine At.skip ?_
          refine At.seq ?_
          refine At.block ?_
          refine At.seq ?_
          refine At.region' (l := [0, 1, 2, 3, 4, 5, 6, 7, 8, 9, 10, 11, 12, 13, 14, 15, 16, 17]) rfl ?_
          refine At.v H rfl (wN rfl) rfl rfl rfl (x_fieldAddr (H.r 1 rfl) fa25_1) ?_; clear H; intro T H
          refine At.v H rfl (wN rfl) rfl rfl rfl (x_load (H.r 64 rfl) Try.isAgg23 (by first | exact H.cell (by repeat (first | exact List.mem_cons_self | apply List.mem_cons_of_mem)) _ rfl | exact H.cellR (by repeat (first | exact List.mem_cons_self | apply List.mem_cons_of_mem)) _ rfl)) ?_; clear H; intro T H
          refine At.v H rfl (wN rfl) rfl rfl rfl (x_move (H.r 6 rfl)) ?_; clear H; intro T H
          refine At.v H rfl (wN rfl) rfl rfl rfl (x_ixSN (H.r 65 rfl) (H.r 66 rfl) Try.runUnderlying23 Try.sizeOf42 (by omega)) ?_; clear H; intro T H
          refine At.v H rfl (wN rfl) rfl rfl rfl (x_fieldAddr (H.r 67 rfl) fa42_0) ?_; clear H; intro T H
          refine At.v H rfl (wN rfl) rfl rfl rfl (x_load (H.r 68 rfl) Try.isAgg3 (H.ext (hcl 0 _ rfl) (by simp))) ?_; clear H; intro T H
          refine At.f0 H rfl (wN rfl) rfl rfl rfl (args3 (H.r 69 rfl) evC evC) Try.call28 (inR _ _ _ _) ?_; clear H; rintro v70 T w rfl _ H
          by_cases hz1 : (0 : Int) ≤ z.for_ ∧ z.for_ ≤ (4 : Int)
          · first | rw [decide_eq_true hz1] at H | rw [decide_eq_false hz1] at H
            refine At.v H rfl (wN rfl) rfl rfl rfl (x_notT (H.r 70 rfl)) ?_; clear H; intro T H
            refine At.v H rfl (wN rfl) rfl rfl rfl (x_move (H.r 71 rfl)) ?_; clear H; intro T H
            refine At.v H rfl (wS H rfl rfl rfl) rfl rfl rfl (x_fieldAddr (H.r 1 rfl) fa25_1) ?_; clear H; intro T H
            refine At.v H rfl (wS H rfl rfl rfl) rfl rfl rfl (x_load (H.r 73 rfl) Try.isAgg23 (by first | exact H.cell (by repeat (first | exact List.mem_cons_self | apply List.mem_cons_of_mem)) _ rfl | exact H.cellR (by repeat (first | exact List.mem_cons_self | apply List.mem_cons_of_mem)) _ rfl)) ?_; clear H; intro T H
            refine At.v H rfl (wS H rfl rfl rfl) rfl rfl rfl (x_move (H.r 6 rfl)) ?_; clear H; intro T H
            refine At.v H rfl (wS H rfl rfl rfl) rfl rfl rfl (x_ixSN (H.r 74 rfl) (H.r 75 rfl) Try.runUnderlying23 Try.sizeOf42 (by omega)) ?_; clear H; intro T H
            refine At.v H rfl (wS H rfl rfl rfl) rfl rfl rfl (x_fieldAddr (H.r 76 rfl) fa42_1) ?_; clear H; intro T H
            refine At.v H rfl (wS H rfl rfl rfl) rfl rfl rfl (x_load (H.r 77 rfl) Try.isAgg3 (H.ext (hcl 1 _ rfl) (by simp))) ?_; clear H; intro T H
            refine At.f0 H rfl (wS H rfl rfl rfl) rfl rfl rfl (args3 (H.r 78 rfl) evC evC) Try.call28 (inR _ _ _ _) ?_; clear H; rintro v79 T w rfl _ H
            by_cases hz2 : (0 : Int) ≤ z.worth ∧ z.worth ≤ (1000 : Int)
            · first | rw [decide_eq_true hz2] at H | rw [decide_eq_false hz2] at H
              refine At.v H rfl (wS H rfl rfl rfl) rfl rfl rfl (x_notT (H.r 79 rfl)) ?_; clear H; intro T H
              refine At.v H rfl (wN rfl) rfl rfl rfl (x_pickF (H.r 72 rfl) (H.r 80 rfl)) ?_; clear H; intro T H
              refine At.regionEnd ?_
              refine At.condF (H.r 81 rfl) ?_
              refine At.skip ?_
              refine At.inBlock ?_
              refine At.region' (l := [0, 1, 2]) rfl ?_
              refine At.v H rfl (wN rfl) rfl rfl rfl (x_move (H.r 6 rfl)) ?_; clear H; intro T H
              refine At.v H rfl (wN rfl) rfl rfl rfl (x_add (H.r 62 rfl) evC (w64 (by omega) (by omega))) ?_; clear H; intro T H
              refine At.v H rfl (wN rfl) rfl rfl rfl (x_assign (H.r 63 rfl)) ?_; clear H; intro T H
              refine At.regionEnd ?_
              exact hnext2 _ _ _ _ _ (by omega) ⟨k + 1, rfl, ⟨by omega, take_all_succ hG hz ⟨hz1.1, hz1.2, hz2.1, hz2.2⟩⟩, rfl, rfl⟩ (by simp only [List.cons_append, List.nil_append]; exact (H.pk (by repeat (first | exact Pk.nil | exact Pk.all | refine Pk.cons (by repeat (first | exact Take.here | apply Take.there)) ?_ | apply Pk.skip))).sub (by repeat' (first | exact trivial | refine And.intro rfl ?_)))
            · first | rw [decide_eq_true hz2] at H | rw [decide_eq_false hz2] at H
              have hR : ¬ Valid men list := fun hv => hz2 (hv.prize z (List.mem_of_getElem? hz)).2.2
              refine At.v H rfl (wS H rfl rfl rfl) rfl rfl rfl (x_notF (H.r 79 rfl)) ?_; clear H; intro T H
              refine At.v H rfl (wN rfl) rfl rfl rfl (x_pickF (H.r 72 rfl) (H.r 80 rfl)) ?_; clear H; intro T H
              refine At.regionEnd ?_
              refine At.condT (H.r 81 rfl) ?_
              refine At.seq ?_
              refine At.region' (l := [0]) rfl ?_
              refine At.v H rfl (wN rfl) rfl rfl rfl (x_assign evC) ?_; clear H; intro T H
              refine At.regionEnd ?_
              refine At.ret rfl ?_
              exact lea Try.func10 (res1 Try.results10 (H.r 2 rfl)) (Ret.mk H.fr (by first | exact .inl ⟨rfl, hR⟩ | exact .inr ⟨rfl, hR⟩))
          · first | rw [decide_eq_true hz1] at H | rw [decide_eq_false hz1] at H
            have hR : ¬ Valid men list := fun hv => hz1 ⟨(hv.prize z (List.mem_of_getElem? hz)).1, (hv.prize z (List.mem_of_getElem? hz)).2.1⟩
            refine At.v H rfl (wN rfl) rfl rfl rfl (x_notF (H.r 70 rfl)) ?_; clear H; intro T H
            refine At.v H rfl (wN rfl) rfl rfl rfl (x_move (H.r 71 rfl)) ?_; clear H; intro T H
            refine At.u H rfl (wU H rfl rfl rfl rfl) rfl rfl ?_; clear H; intro T H
            refine At.u H rfl (wU H rfl rfl rfl rfl) rfl rfl ?_; clear H; intro T H
            refine At.u H rfl (wU H rfl rfl rfl rfl) rfl rfl ?_; clear H; intro T H
            refine At.u H rfl (wU H rfl rfl rfl rfl) rfl rfl ?_; clear H; intro T H
            refine At.u H rfl (wU H rfl rfl rfl rfl) rfl rfl ?_; clear H; intro T H
            refine At.u H rfl (wU H rfl rfl rfl rfl) rfl rfl ?_; clear H; intro T H
            refine At.u H rfl (wU H rfl rfl rfl rfl) rfl rfl ?_; clear H; intro T H
            refine At.u H rfl (wU H rfl rfl rfl rfl) rfl rfl ?_; clear H; intro T H
            refine At.v H rfl (wN rfl) rfl rfl rfl (x_pickT (H.r 72 rfl) evC) ?_; clear H; intro T H
            refine At.regionEnd ?_
            refine At.condT (H.r 81 rfl) ?_
            refine At.seq ?_
            refine At.region' (l := [0]) rfl ?_
            refine At.v H rfl (wN rfl) rfl rfl rfl (x_assign evC) ?_; clear H; intro T H
            refine At.regionEnd ?_
            refine At.ret rfl ?_
            exact lea Try.func10 (res1 Try.results10 (H.r 2 rfl)) (Ret.mk H.fr (by first | exact .inl ⟨rfl, hR⟩ | exact .inr ⟨rfl, hR⟩))
        · clear H; intro h61 T H
          obtain rfl : list.length = k := by omega
          rw [List.take_length] at hG
          have hR : Valid men list := ⟨by omega, by omega, by omega, hE.place, hE.club, hE.nd, hG⟩
          refine At.regionEnd ?_
          refine At.condF (H.r 61 rfl) ?_
          refine At.exit rfl ?_
          refine At.seq ?_
          refine At.region' (l := [0]) rfl ?_
          refine At.v H rfl (wN rfl) rfl rfl rfl (x_assign evC) ?_; clear H; intro T H
          refine At.regionEnd ?_
          refine At.ret rfl ?_
          exact lea Try.func10 (res1 Try.results10 (H.r 2 rfl)) (Ret.mk H.fr (by first | exact .inl ⟨rfl, hR⟩ | exact .inr ⟨rfl, hR⟩))
  · first | rw [decide_eq_true hn] at H | rw [decide_eq_false hn] at H
    have hR : ¬ Valid men list := fun hv => hn ⟨by have := hv.n1; omega, by have := hv.n8; omega⟩
    refine At.v H rfl (wN rfl) rfl rfl rfl (x_notF (H.r 10 rfl)) ?_; clear H; intro T H
    refine At.v H rfl (wN rfl) rfl rfl rfl (x_move (H.r 11 rfl)) ?_; clear H; intro T H
    refine At.u H rfl (wU H rfl rfl rfl rfl) rfl rfl ?_; clear H; intro T H
    refine At.u H rfl (wU H rfl rfl rfl rfl) rfl rfl ?_; clear H; intro T H
    refine At.u H rfl (wU H rfl rfl rfl rfl) rfl rfl ?_; clear H; intro T H
    refine At.u H rfl (wU H rfl rfl rfl rfl) rfl rfl ?_; clear H; intro T H
    refine At.v H rfl (wN rfl) rfl rfl rfl (x_pickT (H.r 12 rfl) evC) ?_; clear H; intro T H
    refine At.regionEnd ?_
    refine At.condT (H.r 17 rfl) ?_
    refine At.seq ?_
    refine At.region' (l := [0]) rfl ?_
    refine At.v H rfl (wN rfl) rfl rfl rfl (x_assign evC) ?_; clear H; intro T H
    refine At.regionEnd ?_
    refine At.ret rfl ?_
    exact lea Try.func10 (res1 Try.results10 (H.r 2 rfl)) (Ret.mk H.fr (by first | exact .inl ⟨rfl, hR⟩ | exact .inr ⟨rfl, hR⟩))
end Go.Proofs.Pz
end
section
namespace Go.Sx
open Go.RowKit
section
variable {P : Program} {w : World} {ρ : Operand → Value} {d : Option Tmp} {ty : TypeId} {pos : String} {af : Array Edge} {g : Option (Nat × Bool)}
theorem x_build3 {t : TypeId} {a0 a1 a2 : Nat} {x0 x1 x2 : Operand} {u0 u1 u2 v : Value} (h0 : ρ x0 = u0) (h1 : ρ x1 = u1) (h2 : ρ x2 = u2) (hr : (Instr.build t #[(a0, u0), (a1, u1), (a2, u2)]).run P w = .ok v w) : (execOp ρ ⟨d, .build t #[(a0, x0), (a1, x1), (a2, x2)], ty, pos, af, g⟩).run P w = .ok (.value v) w := by
  simp [execOp, h0, h1, h2, hr]
theorem x_build4 {t : TypeId} {a0 a1 a2 a3 : Nat} {x0 x1 x2 x3 : Operand} {u0 u1 u2 u3 v : Value} (h0 : ρ x0 = u0) (h1 : ρ x1 = u1) (h2 : ρ x2 = u2) (h3 : ρ x3 = u3) (hr : (Instr.build t #[(a0, u0), (a1, u1), (a2, u2), (a3, u3)]).run P w = .ok v w) : (execOp ρ ⟨d, .build t #[(a0, x0), (a1, x1), (a2, x2), (a3, x3)], ty, pos, af, g⟩).run P w = .ok (.value v) w := by
  simp [execOp, h0, h1, h2, h3, hr]
theorem x_build5 {t : TypeId} {a0 a1 a2 a3 a4 : Nat} {x0 x1 x2 x3 x4 : Operand} {u0 u1 u2 u3 u4 v : Value} (h0 : ρ x0 = u0) (h1 : ρ x1 = u1) (h2 : ρ x2 = u2) (h3 : ρ x3 = u3) (h4 : ρ x4 = u4) (hr : (Instr.build t #[(a0, u0), (a1, u1), (a2, u2), (a3, u3), (a4, u4)]).run P w = .ok v w) : (execOp ρ ⟨d, .build t #[(a0, x0), (a1, x1), (a2, x2), (a3, x3), (a4, x4)], ty, pos, af, g⟩).run P w = .ok (.value v) w := by
  simp [execOp, h0, h1, h2, h3, h4, hr]
theorem x_build6 {t : TypeId} {a0 a1 a2 a3 a4 a5 : Nat} {x0 x1 x2 x3 x4 x5 : Operand} {u0 u1 u2 u3 u4 u5 v : Value} (h0 : ρ x0 = u0) (h1 : ρ x1 = u1) (h2 : ρ x2 = u2) (h3 : ρ x3 = u3) (h4 : ρ x4 = u4) (h5 : ρ x5 = u5) (hr : (Instr.build t #[(a0, u0), (a1, u1), (a2, u2), (a3, u3), (a4, u4), (a5, u5)]).run P w = .ok v w) : (execOp ρ ⟨d, .build t #[(a0, x0), (a1, x1), (a2, x2), (a3, x3), (a4, x4), (a5, x5)], ty, pos, af, g⟩).run P w = .ok (.value v) w := by
  simp [execOp, h0, h1, h2, h3, h4, h5, hr]
theorem x_build7 {t : TypeId} {a0 a1 a2 a3 a4 a5 a6 : Nat} {x0 x1 x2 x3 x4 x5 x6 : Operand} {u0 u1 u2 u3 u4 u5 u6 v : Value} (h0 : ρ x0 = u0) (h1 : ρ x1 = u1) (h2 : ρ x2 = u2) (h3 : ρ x3 = u3) (h4 : ρ x4 = u4) (h5 : ρ x5 = u5) (h6 : ρ x6 = u6) (hr : (Instr.build t #[(a0, u0), (a1, u1), (a2, u2), (a3, u3), (a4, u4), (a5, u5), (a6, u6)]).run P w = .ok v w) : (execOp ρ ⟨d, .build t #[(a0, x0), (a1, x1), (a2, x2), (a3, x3), (a4, x4), (a5, x5), (a6, x6)], ty, pos, af, g⟩).run P w = .ok (.value v) w := by
  simp [execOp, h0, h1, h2, h3, h4, h5, h6, hr]
theorem x_build8 {t : TypeId} {a0 a1 a2 a3 a4 a5 a6 a7 : Nat} {x0 x1 x2 x3 x4 x5 x6 x7 : Operand} {u0 u1 u2 u3 u4 u5 u6 u7 v : Value} (h0 : ρ x0 = u0) (h1 : ρ x1 = u1) (h2 : ρ x2 = u2) (h3 : ρ x3 = u3) (h4 : ρ x4 = u4) (h5 : ρ x5 = u5) (h6 : ρ x6 = u6) (h7 : ρ x7 = u7) (hr : (Instr.build t #[(a0, u0), (a1, u1), (a2, u2), (a3, u3), (a4, u4), (a5, u5), (a6, u6), (a7, u7)]).run P w = .ok v w) : (execOp ρ ⟨d, .build t #[(a0, x0), (a1, x1), (a2, x2), (a3, x3), (a4, x4), (a5, x5), (a6, x6), (a7, x7)], ty, pos, af, g⟩).run P w = .ok (.value v) w := by
  simp [execOp, h0, h1, h2, h3, h4, h5, h6, h7, hr]
theorem x_build9 {t : TypeId} {a0 a1 a2 a3 a4 a5 a6 a7 a8 : Nat} {x0 x1 x2 x3 x4 x5 x6 x7 x8 : Operand} {u0 u1 u2 u3 u4 u5 u6 u7 u8 v : Value} (h0 : ρ x0 = u0) (h1 : ρ x1 = u1) (h2 : ρ x2 = u2) (h3 : ρ x3 = u3) (h4 : ρ x4 = u4) (h5 : ρ x5 = u5) (h6 : ρ x6 = u6) (h7 : ρ x7 = u7) (h8 : ρ x8 = u8) (hr : (Instr.build t #[(a0, u0), (a1, u1), (a2, u2), (a3, u3), (a4, u4), (a5, u5), (a6, u6), (a7, u7), (a8, u8)]).run P w = .ok v w) : (execOp ρ ⟨d, .build t #[(a0, x0), (a1, x1), (a2, x2), (a3, x3), (a4, x4), (a5, x5), (a6, x6), (a7, x7), (a8, x8)], ty, pos, af, g⟩).run P w = .ok (.value v) w := by
  simp [execOp, h0, h1, h2, h3, h4, h5, h6, h7, h8, hr]
theorem x_build10 {t : TypeId} {a0 a1 a2 a3 a4 a5 a6 a7 a8 a9 : Nat} {x0 x1 x2 x3 x4 x5 x6 x7 x8 x9 : Operand} {u0 u1 u2 u3 u4 u5 u6 u7 u8 u9 v : Value} (h0 : ρ x0 = u0) (h1 : ρ x1 = u1) (h2 : ρ x2 = u2) (h3 : ρ x3 = u3) (h4 : ρ x4 = u4) (h5 : ρ x5 = u5) (h6 : ρ x6 = u6) (h7 : ρ x7 = u7) (h8 : ρ x8 = u8) (h9 : ρ x9 = u9) (hr : (Instr.build t #[(a0, u0), (a1, u1), (a2, u2), (a3, u3), (a4, u4), (a5, u5), (a6, u6), (a7, u7), (a8, u8), (a9, u9)]).run P w = .ok v w) : (execOp ρ ⟨d, .build t #[(a0, x0), (a1, x1), (a2, x2), (a3, x3), (a4, x4), (a5, x5), (a6, x6), (a7, x7), (a8, x8), (a9, x9)], ty, pos, af, g⟩).run P w = .ok (.value v) w := by
  simp [execOp, h0, h1, h2, h3, h4, h5, h6, h7, h8, h9, hr]
theorem x_bs4 {t : TypeId} {n a0 a1 a2 a3 : Nat} {x0 x1 x2 x3 : Operand} {u0 u1 u2 u3 v : Value} {w' : World} (h0 : ρ x0 = u0) (h1 : ρ x1 = u1) (h2 : ρ x2 = u2) (h3 : ρ x3 = u3) (hr : (Instr.buildSlice t n #[(a0, u0), (a1, u1), (a2, u2), (a3, u3)]).run P w = .ok v w') : (execOp ρ ⟨d, .buildSlice t n #[(a0, x0), (a1, x1), (a2, x2), (a3, x3)], ty, pos, af, g⟩).run P w = .ok (.value v) w' := by
  simp [execOp, h0, h1, h2, h3, hr]
theorem x_bs5 {t : TypeId} {n a0 a1 a2 a3 a4 : Nat} {x0 x1 x2 x3 x4 : Operand} {u0 u1 u2 u3 u4 v : Value} {w' : World} (h0 : ρ x0 = u0) (h1 : ρ x1 = u1) (h2 : ρ x2 = u2) (h3 : ρ x3 = u3) (h4 : ρ x4 = u4) (hr : (Instr.buildSlice t n #[(a0, u0), (a1, u1), (a2, u2), (a3, u3), (a4, u4)]).run P w = .ok v w') : (execOp ρ ⟨d, .buildSlice t n #[(a0, x0), (a1, x1), (a2, x2), (a3, x3), (a4, x4)], ty, pos, af, g⟩).run P w = .ok (.value v) w' := by
  simp [execOp, h0, h1, h2, h3, h4, hr]
theorem x_bs6 {t : TypeId} {n a0 a1 a2 a3 a4 a5 : Nat} {x0 x1 x2 x3 x4 x5 : Operand} {u0 u1 u2 u3 u4 u5 v : Value} {w' : World} (h0 : ρ x0 = u0) (h1 : ρ x1 = u1) (h2 : ρ x2 = u2) (h3 : ρ x3 = u3) (h4 : ρ x4 = u4) (h5 : ρ x5 = u5) (hr : (Instr.buildSlice t n #[(a0, u0), (a1, u1), (a2, u2), (a3, u3), (a4, u4), (a5, u5)]).run P w = .ok v w') : (execOp ρ ⟨d, .buildSlice t n #[(a0, x0), (a1, x1), (a2, x2), (a3, x3), (a4, x4), (a5, x5)], ty, pos, af, g⟩).run P w = .ok (.value v) w' := by
  simp [execOp, h0, h1, h2, h3, h4, h5, hr]
theorem x_bs7 {t : TypeId} {n a0 a1 a2 a3 a4 a5 a6 : Nat} {x0 x1 x2 x3 x4 x5 x6 : Operand} {u0 u1 u2 u3 u4 u5 u6 v : Value} {w' : World} (h0 : ρ x0 = u0) (h1 : ρ x1 = u1) (h2 : ρ x2 = u2) (h3 : ρ x3 = u3) (h4 : ρ x4 = u4) (h5 : ρ x5 = u5) (h6 : ρ x6 = u6) (hr : (Instr.buildSlice t n #[(a0, u0), (a1, u1), (a2, u2), (a3, u3), (a4, u4), (a5, u5), (a6, u6)]).run P w = .ok v w') : (execOp ρ ⟨d, .buildSlice t n #[(a0, x0), (a1, x1), (a2, x2), (a3, x3), (a4, x4), (a5, x5), (a6, x6)], ty, pos, af, g⟩).run P w = .ok (.value v) w' := by
  simp [execOp, h0, h1, h2, h3, h4, h5, h6, hr]
theorem x_bs8 {t : TypeId} {n a0 a1 a2 a3 a4 a5 a6 a7 : Nat} {x0 x1 x2 x3 x4 x5 x6 x7 : Operand} {u0 u1 u2 u3 u4 u5 u6 u7 v : Value} {w' : World} (h0 : ρ x0 = u0) (h1 : ρ x1 = u1) (h2 : ρ x2 = u2) (h3 : ρ x3 = u3) (h4 : ρ x4 = u4) (h5 : ρ x5 = u5) (h6 : ρ x6 = u6) (h7 : ρ x7 = u7) (hr : (Instr.buildSlice t n #[(a0, u0), (a1, u1), (a2, u2), (a3, u3), (a4, u4), (a5, u5), (a6, u6), (a7, u7)]).run P w = .ok v w') : (execOp ρ ⟨d, .buildSlice t n #[(a0, x0), (a1, x1), (a2, x2), (a3, x3), (a4, x4), (a5, x5), (a6, x6), (a7, x7)], ty, pos, af, g⟩).run P w = .ok (.value v) w' := by
  simp [execOp, h0, h1, h2, h3, h4, h5, h6, h7, hr]
theorem x_addN {t u : TypeId} {x y : Operand} {a b : Nat} (hx : ρ x = .int .i64 (a : Int)) (hy : ρ y = .int .i64 (b : Int)) (hz : a + b < 9223372036854775808) : (execOp ρ ⟨d, .binOp .add t x y u, ty, pos, af, g⟩).run P w = .ok (.value (.int .i64 ((a + b : Nat) : Int))) w :=
  x_add hx hy (by rw [← Int.natCast_add]; exact wrapN hz)
theorem x_mulN {t u : TypeId} {x y : Operand} {a b : Nat} (hx : ρ x = .int .i64 (a : Int)) (hy : ρ y = .int .i64 (b : Int)) (hz : a * b < 9223372036854775808) : (execOp ρ ⟨d, .binOp .mul t x y u, ty, pos, af, g⟩).run P w = .ok (.value (.int .i64 ((a * b : Nat) : Int))) w :=
  x_mul hx hy (by rw [← Int.natCast_mul]; exact wrapN hz)
theorem x_subN {t u : TypeId} {x y : Operand} {a b : Nat} (hx : ρ x = .int .i64 (a : Int)) (hy : ρ y = .int .i64 (b : Int)) (hz : b ≤ a) (h2 : a < 9223372036854775808) : (execOp ρ ⟨d, .binOp .sub t x y u, ty, pos, af, g⟩).run P w = .ok (.value (.int .i64 ((a - b : Nat) : Int))) w :=
  x_sub hx hy (by rw [← Int.natCast_sub hz]; exact wrapN (by omega))
theorem x_divN {t u : TypeId} {x y : Operand} {a b : Nat} (hx : ρ x = .int .i64 (a : Int)) (hy : ρ y = .int .i64 (b : Int)) (hb : 0 < b) (ha : a < 9223372036854775808) : (execOp ρ ⟨d, .binOp .quo t x y u, ty, pos, af, g⟩).run P w = .ok (.value (.int .i64 ((a / b : Nat) : Int))) w := by
  have hm : Int.tdiv (a : Int) (b : Int) = ((a / b : Nat) : Int) := rfl
  have hw : IntKind.i64.wrap ((a / b : Nat) : Int) = ((a / b : Nat) : Int) := wrapN (Nat.lt_of_le_of_lt (Nat.div_le_self _ _) ha)
  simp only [execOp, hx, hy, eqGuard, binOp, Op.intDiv, hm, hw]
  simp [show ¬ b = 0 by omega, hm]
  try exact hw
end
section
variable {P : Program} {w : World} {ρ : Operand → Value} {d : Option Tmp} {ty : TypeId} {pos : String} {af : Array Edge} {g : Option (Nat × Bool)}
theorem x_conv {t t' : TypeId} {x : Operand} {q q' : IntKind} {n : Int} {z : Int} (hx : ρ x = .int q n) (hu : ∀ w, (underlying t).run P w = .ok (.int q) w) (hu' : ∀ w, (underlying t').run P w = .ok (.int q') w) (hz : q'.wrap n = z) :
    (execOp ρ ⟨d, .convert t t' x, ty, pos, af, g⟩).run P w = .ok (.value (.int q' z)) w := by
  subst hz
  simp [execOp, hx, Go.convert, hu, hu', Conv.intToInt]
theorem run_eqB' {t : TypeId} {a c : Bool} {n : Nat} (hu : ∀ w, (underlying t).run P w = .ok .bool w) : (Op.equalIn (n + 1) t (.bool a) (.bool c)).run P w = .ok (a == c) w := by
  simp only [Op.equalIn, Sem.run_bind, hu, Result.andThen_ok, Sem.run_pure]
theorem run_eqS' {t : TypeId} {a c : ByteArray} {n : Nat} (hu : ∀ w, (underlying t).run P w = .ok .string w) : (Op.equalIn (n + 1) t (.string a) (.string c)).run P w = .ok (a == c) w := by
  simp only [Op.equalIn, Sem.run_bind, hu, Result.andThen_ok, Sem.run_pure]
theorem x_eqlB {t u : TypeId} {x y : Operand} {a c : Bool} (hx : ρ x = .bool a) (hy : ρ y = .bool c) (hu : ∀ w, (underlying t).run P w = .ok .bool w) : (execOp ρ ⟨d, .binOp .eql t x y u, ty, pos, af, g⟩).run P w = .ok (.value (.bool (decide (a = c)))) w := by
  have h : (Op.equal t (.bool a) (.bool c)).run P w = .ok (a == c) w := run_eqB' (n := 9999) hu
  simp only [execOp, hx, hy, eqGuard, ite_self, binOp, Sem.run_bind, Sem.run_pure, Result.andThen_ok, h]
  cases a <;> cases c <;> rfl
theorem x_neqB {t u : TypeId} {x y : Operand} {a c : Bool} (hx : ρ x = .bool a) (hy : ρ y = .bool c) (hu : ∀ w, (underlying t).run P w = .ok .bool w) : (execOp ρ ⟨d, .binOp .neq t x y u, ty, pos, af, g⟩).run P w = .ok (.value (.bool (decide (a ≠ c)))) w := by
  have h : (Op.equal t (.bool a) (.bool c)).run P w = .ok (a == c) w := run_eqB' (n := 9999) hu
  simp only [execOp, hx, hy, eqGuard, ite_self, binOp, Sem.run_bind, Sem.run_pure, Result.andThen_ok, h]
  cases a <;> cases c <;> rfl
theorem x_max {x y : Operand} {q : IntKind} {a c z : Int} {ts : Array TypeId} (hx : ρ x = .int q a) (hy : ρ y = .int q c) (hz : (if c > a then c else a) = z) :
    (execOp ρ ⟨d, .call { callee := .builtin .max, args := #[x, y], argTypes := ts }, ty, pos, af, g⟩).run P w = .ok (.value (.int q z)) w := by
  subst hz
  simp [execOp, resolve, invoke, builtin, hx, hy, Builtin.max_, Builtin.max2]

end
/-- a slice of which just the cells are known -/
theorem Sl.intro {α : Type} {enc : α → List Value} {sz : Nat} {w : World} {A : Option Addr} {n cap bk off : Nat} {xs : List α} (hn : n = xs.length) (h : SlP enc sz w A cap bk off xs) : Sl enc sz w (.slice A n cap) xs := by subst hn; exact ⟨A, cap, bk, off, rfl, h⟩
theorem Sx.rowCells {w0 w : World} {S : List Nat} {N : Nat} {R : List (Nat × Value)} {G : List Ent} {T : Array Value} (H : Sx w0 S N R G T w) {g n cap : Nat} {e : TypeId} {sz : Nat} {l : List Value} (h : Ent.row (.slice (some ⟨g, 0, none⟩) n cap) e sz n l ∈ G) : CellsAt w g 0 l := by
  intro j u hj
  rw [Nat.zero_add]
  exact H.rowCell h j hj
end Go.Sx
end
