/- Proves PrizeFor: for every input the statement returns true and its arguments read as before. No conditions. -/
import Derived.Test.YtaogmipkcdhkjaaPrizeFor1
import Derived.Test.YtaogmipkcdhkjaaPrizeFor2
import Derived.Test.YtaogmipkcdhkjaaPrizeFor3
import Derived.Test.YtaogmipkcdhkjaaPrizeFor4
section
namespace Go.Proofs.Pz
open Go.Sx Go.RowKit
set_option linter.unusedVariables false
namespace AWF
theorem fa25_0 (a : Addr) (w : World) : (Instr.fieldAt 25 (.pointer (some a)) 0).run Try.prog w = .ok (.pointer (some (a.add 0))) w := by simp [go_sem]
theorem fa25_1 (a : Addr) (w : World) : (Instr.fieldAt 25 (.pointer (some a)) 1).run Try.prog w = .ok (.pointer (some (a.add 1))) w := by simp [go_sem]
theorem fa42_0 (a : Addr) (w : World) : (Instr.fieldAt 42 (.pointer (some a)) 0).run Try.prog w = .ok (.pointer (some (a.add 0))) w := by simp [go_sem]
end AWF
open AWF
theorem For2 {AM AL : Option Addr} {cM bM oM cL bL oL : Nat} {men : List Wi} {list : List Zi} {w0 : World} (hM : SlP encW 4 w0 AM cM bM oM men) (hL : SlP encZ 2 w0 AL cL bL oL list) (hv : Valid men list) {i : Nat} (hi : i < men.length) : Calls Try.prog 22 #[(.agg #[(.slice AM men.length cM), (.slice AL list.length cL)]), .int .i64 (i : Int)] w0 (Ret w0 fun v _ => v = .tuple #[.int .i64 (fz (forL men list i)), .int .i64 (fe (forL men list i))]) := by
  refine (For hM hL hv hi).mono ?_
  rintro e w' ⟨v', rfl, hf, hQ⟩
  refine ⟨v', rfl, hf, ?_⟩
  rw [hQ]
  cases forL men list i <;> rfl
theorem DueN {AM AL : Option Addr} {cM bM oM cL bL oL n : Nat} {men : List Wi} {list : List Zi} {w0 : World} (hn : men.length = n) (hM : SlP encW 4 w0 AM cM bM oM men) (hL : SlP encZ 2 w0 AL cL bL oL list) (hv : Valid men list) : Calls Try.prog 13 #[.agg #[.slice AM n cM, (.slice AL list.length cL)]] w0 (RetG w0 fun v E _ => ∃ A cap, v = .tuple #[.slice A list.length cap, .int .i64 0] ∧ E = [.row (.slice A list.length cap) 3 1 list.length ((dueL men list).flatMap encO)]) := by
  subst hn; exact Due hM hL hv
theorem gets {AM AL : Option Addr} {cM bM oM cL bL oL : Nat} {men : List Wi} {list : List Zi} {w0 : World} (hM : SlP encW 4 w0 AM cM bM oM men) (hL : SlP encZ 2 w0 AL cL bL oL list) (hv : Valid men list) {i b3 b7 q : Nat} (hi : i < men.length) (h3 : CellsAt w0 b3 0 [(.slice AM men.length cM), (.slice AL list.length cL)]) (h7 : w0.cell? ⟨b7, 0, none⟩ = some (.int .i64 (i : Int))) (h1 : 1 ≤ q) (h2 : q ≤ men.length) :
    CallsV Try.prog (.func (.func 23) #[] #[.pointer (some ⟨b3, 0, none⟩), .pointer (some ⟨b7, 0, none⟩)]) #[.int .i64 (q : Int)] w0 (Ret w0 fun v _ => v = .bool (winsAt men list i q)) := by
  refine CallsV.func ⟨_, Try.func23, rfl, rfl⟩ ?_
  have hl6 := hv.l6
  have hn8 := hv.n8
  have hmv := movedM_eq hv hi h1 h2
  have hvm := hv.moved hi q
  have hlm : (movedL men i q).length = men.length := movedTo_len _ _ _
  refine enter (args := [.int .i64 (q : Int), .pointer (some ⟨b3, 0, none⟩), .pointer (some ⟨b7, 0, none⟩)]) (S := []) Try.func23 rfl Try.ntmps23 rfl fun cs T H => ?_
  refine At.seq ?_
  refine At.region' (l := [0]) rfl ?_
  refine At.v H rfl (wN rfl) rfl rfl rfl (x_assign evC) ?_; clear H; intro T H
  refine At.regionEnd ?_
  refine At.seq ?_
  refine At.region' (l := [0, 1, 2, 3, 4, 5, 6, 7, 8, 9]) rfl ?_
  refine At.v H rfl (wN rfl) rfl rfl rfl (x_loadA (H.r 1 rfl) Try.isAgg25 Try.sizeOf25 (H.extA h3 (by simp)) rfl) ?_; clear H; intro T H
  refine At.v H rfl (wN rfl) rfl rfl rfl (x_load (H.r 2 rfl) Try.isAgg3 (H.ext h7 (by simp))) ?_; clear H; intro T H
  refine At.v H rfl (wN rfl) rfl rfl rfl (x_move (H.r 0 rfl)) ?_; clear H; intro T H
  refine At.fG H rfl (wN rfl) rfl rfl rfl (args3 (H.r 10 rfl) (H.r 11 rfl) (H.r 12 rfl)) Try.call24 (Moved (hM.fr0 H.fr) (hL.fr0 H.fr) hi (fun m hm => by have := hv.place m hm; omega) hn8) ?_; clear H; rintro v13 E13 T w ⟨A13, c13, rfl, rfl⟩ _ H
  obtain ⟨g13, rfl⟩ := H.rowAddr (A := A13) (by repeat (first | exact List.mem_cons_self | apply List.mem_cons_of_mem)) (by omega)
  rw [hmv] at H
  refine At.fG H rfl (wN rfl) rfl rfl rfl (args1 (H.r 13 rfl)) Try.call13 (DueN hlm (H.rowP (enc := encW) (g := g13) (by repeat (first | exact List.mem_cons_self | apply List.mem_cons_of_mem)) (fun _ => rfl) hlm.symm rfl) (hL.fr0 H.fr) hvm) ?_; clear H; rintro v14 E14 T w ⟨A14, c14, rfl, rfl⟩ _ H
  refine At.v H rfl (wN rfl) rfl rfl rfl (x_move (H.r 14 rfl)) ?_; clear H; intro T H
  refine At.v H rfl (wN rfl) rfl rfl rfl (x_extract (H.r 9 rfl) rfl) ?_; clear H; intro T H
  refine At.v H rfl (wN rfl) rfl rfl rfl (x_extract (H.r 9 rfl) rfl) ?_; clear H; intro T H
  refine At.v H rfl (wN rfl) rfl rfl rfl (x_assign (H.r 15 rfl)) ?_; clear H; intro T H
  refine At.v H rfl (wN rfl) rfl rfl rfl (x_assign (H.r 16 rfl)) ?_; clear H; intro T H
  refine At.regionEnd ?_
  refine At.seq ?_
  refine At.seq ?_
  refine At.region' (l := [0, 1, 2]) rfl ?_
  refine At.v H rfl (wN rfl) rfl rfl rfl (x_move (H.r 5 rfl)) ?_; clear H; intro T H
  refine At.v H rfl (wN rfl) rfl rfl rfl (x_len (H.r 17 rfl) Try.runUnderlying30) ?_; clear H; intro T H
  refine At.v H rfl (wN rfl) rfl rfl rfl (x_move evC) ?_; clear H; intro T H
  refine At.regionEnd ?_
  refine At.block ?_
  replace H := ((H.fore PkS.nil).sub (R' := [(19, _)] ++ [(2, _), (6, _), (17, _), (18, _)]) (by repeat' (first | exact trivial | refine And.intro rfl ?_)))
  refine At.loopF H (fun μ R1 G1 => ∃ k : Nat, μ = list.length - k ∧ (k ≤ list.length ∧ ((dueL (movedL men i q) list).take k).any (fun o => decide (o = some i)) = false) ∧ R1 = [(19, .int .i64 (k : Int))] ∧ G1 = []) (list.length) ⟨0, by first | rfl | omega, ⟨by omega, by simp⟩, rfl, rfl⟩ ?_
  clear H; rintro _ _ _ T w ⟨k, rfl, ⟨hk, hE⟩, rfl, rfl⟩ H hnext0
  simp only [List.cons_append, List.nil_append] at H
  refine At.seq ?_
  refine At.region' (l := [0]) rfl ?_
  refine At.c H rfl (wN rfl) rfl rfl rfl (x_lss (H.r 19 rfl) (H.r 18 rfl)) ?_ ?_
  · clear H; intro h20 T H
    have hk1 : k < list.length := by omega
    obtain ⟨o, ho⟩ := get_ex (l := dueL (movedL men i q) list) (k := k) (by rw [dueL_len]; exact hk1)
    obtain ⟨g14, rfl⟩ := H.rowAddr (A := A14) (by repeat (first | exact List.mem_cons_self | apply List.mem_cons_of_mem)) (by omega)
    refine At.regionEnd ?_
    refine At.seq ?_
    refine At.condT (H.r 20 rfl) ?_
    refine At.skip ?_
    refine At.seq ?_
    refine At.block ?_
    refine At.seq ?_
    refine At.region' (l := [0, 1, 2]) rfl ?_
    refine At.v H rfl (wN rfl) rfl rfl rfl (x_ixSN (H.r 17 rfl) (H.r 19 rfl) Try.runUnderlying30 Try.sizeOf3 (by omega)) ?_; clear H; intro T H
    refine At.v H rfl (wN rfl) rfl rfl rfl (x_load (H.r 21 rfl) Try.isAgg3 (by rw [show 0 + k * 1 = k by omega]; exact H.rowCell (g := g14) (by repeat (first | exact List.mem_cons_self | apply List.mem_cons_of_mem)) k (flatO_at ho))) ?_; clear H; intro T H
    refine At.v H rfl (wN rfl) rfl rfl rfl (x_assign (H.r 22 rfl)) ?_; clear H; intro T H
    refine At.regionEnd ?_
    refine At.seq ?_
    refine At.region' (l := [0, 1, 2]) rfl ?_
    refine At.v H rfl (wN rfl) rfl rfl rfl (x_move (H.r 8 rfl)) ?_; clear H; intro T H
    refine At.v H rfl (wN rfl) rfl rfl rfl (x_load (H.r 2 rfl) Try.isAgg3 (H.ext h7 (by simp))) ?_; clear H; intro T H
    refine At.c H rfl (wN rfl) rfl rfl rfl (x_eql (H.r 23 rfl) (H.r 24 rfl)) ?_ ?_
    · clear H; intro h25 T H
      have hR : winsAt men list i q = true := List.any_eq_true.2 ⟨o, List.mem_of_getElem? ho, decide_eq_true ((orNone_eq _ _).1 h25)⟩
      refine At.regionEnd ?_
      refine At.condT (H.r 25 rfl) ?_
      refine At.seq ?_
      refine At.region' (l := [0, 1, 2]) rfl ?_
      refine At.v H rfl (wN rfl) rfl rfl rfl (x_move (H.r 6 rfl)) ?_; clear H; intro T H
      refine At.v (v := .bool true) H rfl (wN rfl) rfl rfl rfl (x_eql (H.r 26 rfl) evC) ?_; clear H; intro T H
      refine At.v H rfl (wN rfl) rfl rfl rfl (x_assign (H.r 27 rfl)) ?_; clear H; intro T H
      refine At.regionEnd ?_
      refine At.ret rfl ?_
      exact lea Try.func23 (res1 Try.results23 (H.r 4 rfl)) (Ret.mk H.fr (by rw [hR]))
    · clear H; intro h25 T H
      refine At.regionEnd ?_
      refine At.condF (H.r 25 rfl) ?_
      refine At.skip ?_
      refine At.inBlock ?_
      refine At.region' (l := [0, 1]) rfl ?_
      refine At.v H rfl (wN rfl) rfl rfl rfl (x_add (H.r 19 rfl) evC (w64 (by omega) (by omega))) ?_; clear H; intro T H
      refine At.v H rfl (wN rfl) rfl rfl rfl (x_move (H.r 28 rfl)) ?_; clear H; intro T H
      refine At.regionEnd ?_
      exact hnext0 _ _ _ _ _ (by omega) ⟨k + 1, rfl, ⟨by omega, by rw [any_take ho, hE, decide_eq_false (fun e => h25 ((orNone_eq _ _).2 e))]; rfl⟩, rfl, rfl⟩ (by simp only [List.cons_append, List.nil_append]; exact (H.pk (by repeat (first | exact Pk.nil | exact Pk.all | refine Pk.cons (by repeat (first | exact Take.here | apply Take.there)) ?_ | apply Pk.skip))).sub (by repeat' (first | exact trivial | refine And.intro rfl ?_)))
  · clear H; intro h20 T H
    obtain rfl : list.length = k := by omega
    rw [← dueL_len (movedL men i q) list, List.take_length] at hE
    have hR : winsAt men list i q = false := hE
    refine At.regionEnd ?_
    refine At.seq ?_
    refine At.condF (H.r 20 rfl) ?_
    refine At.exit rfl ?_
    refine At.seq ?_
    refine At.region' (l := [0]) rfl ?_
    refine At.v H rfl (wN rfl) rfl rfl rfl (x_assign evC) ?_; clear H; intro T H
    refine At.regionEnd ?_
    refine At.ret rfl ?_
    exact lea Try.func23 (res1 Try.results23 (H.r 4 rfl)) (Ret.mk H.fr (by rw [hR]))
theorem PrizeFor {AM AL : Option Addr} {cM bM oM cL bL oL : Nat} {men : List Wi} {list : List Zi} {w0 : World} (hM : SlP encW 4 w0 AM cM bM oM men) (hL : SlP encZ 2 w0 AL cL bL oL list) (who : Nat) (hw : who < 256) (which : Nat) (hw2 : which < 256) : Calls Try.prog 6 #[(.agg #[(.slice AM men.length cM), (.slice AL list.length cL)]), .int .u8 (who : Int), .int .u8 (which : Int)] w0 (Ret w0 fun v _ => v = .bool true) := by
  refine enter (args := [(.agg #[(.slice AM men.length cM), (.slice AL list.length cL)]), .int .u8 (who : Int), .int .u8 (which : Int)]) (S := []) Try.func6 rfl Try.ntmps6 rfl fun cs T H => ?_
  refine At.seq ?_
  refine At.region' (l := [0, 1]) rfl ?_
  refine At.new H rfl (wN rfl) rfl rfl rfl (x_box (H.r 0 rfl) rfl) ?_; clear H; intro b3 T w _ _ H
  refine At.v H rfl (wN rfl) rfl rfl rfl (x_assign evC) ?_; clear H; intro T H
  refine At.regionEnd ?_
  refine At.seq ?_
  refine At.seq ?_
  refine At.region' (l := [0, 1, 2, 3, 4, 5, 6]) rfl ?_
  refine At.v H rfl (wN rfl) rfl rfl rfl (x_loadA (H.r 3 rfl) Try.isAgg25 Try.sizeOf25 (H.cellsAt (n := 2) (by repeat (first | exact List.mem_cons_self | apply List.mem_cons_of_mem)) rfl) rfl) ?_; clear H; intro T H
  refine At.f0 H rfl (wN rfl) rfl rfl rfl (args2 (H.r 15 rfl) evC) Try.call9 (far) ?_; clear H; rintro v16 T w rfl _ H
  by_cases hfar : 40 < men.length ∨ 40 < list.length ∨ 40 < 0
  · first | rw [decide_eq_true hfar] at H | rw [decide_eq_false hfar] at H
    refine At.v H rfl (wN rfl) rfl rfl rfl (x_move (H.r 16 rfl)) ?_; clear H; intro T H
    refine At.u H rfl (wU H rfl rfl rfl rfl) rfl rfl ?_; clear H; intro T H
    refine At.u H rfl (wU H rfl rfl rfl rfl) rfl rfl ?_; clear H; intro T H
    refine At.u H rfl (wU H rfl rfl rfl rfl) rfl rfl ?_; clear H; intro T H
    refine At.v H rfl (wN rfl) rfl rfl rfl (x_pickT (H.r 17 rfl) evC) ?_; clear H; intro T H
    refine At.regionEnd ?_
    refine At.condT (H.r 21 rfl) ?_
    refine At.seq ?_
    refine At.region' (l := [0, 1]) rfl ?_
    refine At.f0 H rfl (wN rfl) rfl rfl rfl args0 Try.call11 (awake _) ?_; clear H; rintro v22 T w rfl _ H
    refine At.v H rfl (wN rfl) rfl rfl rfl (x_assign (H.r 22 rfl)) ?_; clear H; intro T H
    refine At.regionEnd ?_
    refine At.ret rfl ?_
    exact lea Try.func6 (res1 Try.results6 (H.r 6 rfl)) (Ret.mk H.fr (rfl))
  · first | rw [decide_eq_true hfar] at H | rw [decide_eq_false hfar] at H
    refine At.v H rfl (wN rfl) rfl rfl rfl (x_move (H.r 16 rfl)) ?_; clear H; intro T H
    refine At.v H rfl (wS H rfl rfl rfl) rfl rfl rfl (x_loadA (H.r 3 rfl) Try.isAgg25 Try.sizeOf25 (H.cellsAt (n := 2) (by repeat (first | exact List.mem_cons_self | apply List.mem_cons_of_mem)) rfl) rfl) ?_; clear H; intro T H
    refine At.f0 H rfl (wS H rfl rfl rfl) rfl rfl rfl (args1 (H.r 18 rfl)) Try.call10 (Prizes (hM.fr0 H.fr) (hL.fr0 H.fr) (by omega) (by omega)) ?_; clear H; rintro v19 T w hQ36 _ H
    rcases hQ36 with ⟨rfl, hv⟩ | ⟨rfl, hv⟩
    · skip
      have hl6 := hv.l6
      have hn8 := hv.n8
      have hn1 := hv.n1
      refine At.v H rfl (wS H rfl rfl rfl) rfl rfl rfl (x_notT (H.r 19 rfl)) ?_; clear H; intro T H
      refine At.v H rfl (wN rfl) rfl rfl rfl (x_pickF (H.r 17 rfl) (H.r 20 rfl)) ?_; clear H; intro T H
      refine At.regionEnd ?_
      refine At.condF (H.r 21 rfl) ?_
      refine At.skip ?_
      refine At.seq ?_
      refine At.region' (l := [0, 1, 2, 3, 4, 5, 6, 7]) rfl ?_
      refine At.v H rfl (wN rfl) rfl rfl rfl (x_move (H.r 1 rfl)) ?_; clear H; intro T H
      refine At.v H rfl (wN rfl) rfl rfl rfl (x_conv (z := (who : Int)) (H.r 23 rfl) Try.runUnderlying5 Try.runUnderlying3 (wrapN (by omega))) ?_; clear H; intro T H
      refine At.v H rfl (wN rfl) rfl rfl rfl (x_fieldAddr (H.r 3 rfl) fa25_0) ?_; clear H; intro T H
      refine At.v H rfl (wN rfl) rfl rfl rfl (x_load (H.r 25 rfl) Try.isAgg22 (by first | exact H.cell (by repeat (first | exact List.mem_cons_self | apply List.mem_cons_of_mem)) _ rfl | exact H.cellR (by repeat (first | exact List.mem_cons_self | apply List.mem_cons_of_mem)) _ rfl)) ?_; clear H; intro T H
      refine At.v H rfl (wN rfl) rfl rfl rfl (x_len (H.r 26 rfl) Try.runUnderlying22) ?_; clear H; intro T H
      refine At.v H rfl (wN rfl) rfl rfl rfl (x_remN (a := who) (b := men.length) (H.r 24 rfl) (H.r 27 rfl) (by omega)) ?_; clear H; intro T H
      obtain ⟨i, hid⟩ : ∃ i, i = who % men.length := ⟨_, rfl⟩
      have hi : i < men.length := by rw [hid]; exact Nat.mod_lt _ (by omega)
      rw [← hid] at H
      refine At.new H rfl (wN rfl) rfl rfl rfl (x_alloc Try.zeroValue3 rfl) ?_; clear H; intro b7 T w _ _ H
      refine At.store1 H rfl (wN rfl) rfl rfl (H.r 7 rfl) (H.r 28 rfl) Try.sizeOf3 rfl rfl (by repeat (first | exact Upd.here | apply Upd.there)) (by repeat (first | exact SetAt.z | apply SetAt.s)) ?_; clear H; intro T w _ H
      refine At.regionEnd ?_
      refine At.seq ?_
      refine At.region' (l := [0, 1, 2, 3, 4, 5, 6, 7]) rfl ?_
      refine At.v H rfl (wN rfl) rfl rfl rfl (x_loadA (H.r 3 rfl) Try.isAgg25 Try.sizeOf25 (H.cellsAt (n := 2) (by repeat (first | exact List.mem_cons_self | apply List.mem_cons_of_mem)) rfl) rfl) ?_; clear H; intro T H
      refine At.v H rfl (wN rfl) rfl rfl rfl (x_load (H.r 7 rfl) Try.isAgg3 (by first | exact H.cell (by repeat (first | exact List.mem_cons_self | apply List.mem_cons_of_mem)) _ rfl | exact H.cellR (by repeat (first | exact List.mem_cons_self | apply List.mem_cons_of_mem)) _ rfl)) ?_; clear H; intro T H
      refine At.f0 H rfl (wN rfl) rfl rfl rfl (args2 (H.r 30 rfl) (H.r 31 rfl)) Try.call22 (For2 (hM.fr0 H.fr) (hL.fr0 H.fr) hv hi) ?_; clear H; rintro v32 T w rfl _ H
      rcases hfl : forL men list i with _ | p
      · rw [hfl] at H
        simp only [fz, fe] at H
        obtain ⟨pl, hpl⟩ : ∃ pl : Nat, pl = 0 := ⟨_, rfl⟩
        have hlo : ∀ q, pl < q → q ≤ men.length → winsAt men list i q = false := fun q h1 h2 => forL_none hfl q (by omega) h2
        refine At.v H rfl (wN rfl) rfl rfl rfl (x_move (H.r 32 rfl)) ?_; clear H; intro T H
        refine At.v H rfl (wN rfl) rfl rfl rfl (x_extract (H.r 29 rfl) rfl) ?_; clear H; intro T H
        refine At.v H rfl (wN rfl) rfl rfl rfl (x_extract (H.r 29 rfl) rfl) ?_; clear H; intro T H
        refine At.v H rfl (wN rfl) rfl rfl rfl (x_assign (H.r 33 rfl)) ?_; clear H; intro T H
        refine At.v H rfl (wN rfl) rfl rfl rfl (x_assign (H.r 34 rfl)) ?_; clear H; intro T H
        refine At.regionEnd ?_
        refine At.seq ?_
        refine At.seq ?_
        refine At.region' (l := [0, 1, 2, 3, 4, 5, 6, 7, 8, 9, 10, 11, 12, 13, 14, 15, 16, 17, 18, 19, 20, 21, 22, 23, 24]) rfl ?_
        refine At.v H rfl (wN rfl) rfl rfl rfl (x_move (H.r 9 rfl)) ?_; clear H; intro T H
        refine At.v (v := .bool true) H rfl (wN rfl) rfl rfl rfl (x_neq (H.r 35 rfl) evC) ?_; clear H; intro T H
        refine At.v H rfl (wN rfl) rfl rfl rfl (x_move (H.r 36 rfl)) ?_; clear H; intro T H
        refine At.v H rfl (wS H rfl rfl rfl) rfl rfl rfl (x_move (H.r 9 rfl)) ?_; clear H; intro T H
        refine At.v (v := .bool false) H rfl (wS H rfl rfl rfl) rfl rfl rfl (x_neq (H.r 38 rfl) evC) ?_; clear H; intro T H
        refine At.v H rfl (wS H rfl rfl rfl) rfl rfl rfl (x_move (H.r 39 rfl)) ?_; clear H; intro T H
        refine At.v H rfl (wS H rfl rfl rfl) rfl rfl rfl (x_move (H.r 8 rfl)) ?_; clear H; intro T H
        refine At.v (v := .bool false) H rfl (wS H rfl rfl rfl) rfl rfl rfl (x_neq (H.r 41 rfl) evC) ?_; clear H; intro T H
        refine At.v H rfl (wS H rfl rfl rfl) rfl rfl rfl (x_pickF (H.r 40 rfl) (H.r 42 rfl)) ?_; clear H; intro T H
        refine At.v H rfl (wN rfl) rfl rfl rfl (x_pickT (H.r 37 rfl) (H.r 43 rfl)) ?_; clear H; intro T H
        refine At.v H rfl (wN rfl) rfl rfl rfl (x_move (H.r 44 rfl)) ?_; clear H; intro T H
        refine At.v H rfl (wS H rfl rfl rfl) rfl rfl rfl (x_move (H.r 9 rfl)) ?_; clear H; intro T H
        refine At.v (v := .bool false) H rfl (wS H rfl rfl rfl) rfl rfl rfl (x_eql (H.r 46 rfl) evC) ?_; clear H; intro T H
        refine At.v H rfl (wS H rfl rfl rfl) rfl rfl rfl (x_move (H.r 47 rfl)) ?_; clear H; intro T H
        refine At.u H rfl (wU H rfl rfl rfl rfl) rfl rfl ?_; clear H; intro T H
        refine At.u H rfl (wU H rfl rfl rfl rfl) rfl rfl ?_; clear H; intro T H
        refine At.u H rfl (wU H rfl rfl rfl rfl) rfl rfl ?_; clear H; intro T H
        refine At.u H rfl (wUu H rfl rfl rfl) rfl rfl ?_; clear H; intro T H
        refine At.u H rfl (wUu H rfl rfl rfl) rfl rfl ?_; clear H; intro T H
        refine At.u H rfl (wUu H rfl rfl rfl) rfl rfl ?_; clear H; intro T H
        refine At.u H rfl (wUu H rfl rfl rfl) rfl rfl ?_; clear H; intro T H
        refine At.u H rfl (wUu H rfl rfl rfl) rfl rfl ?_; clear H; intro T H
        refine At.u H rfl (wU H rfl rfl rfl rfl) rfl rfl ?_; clear H; intro T H
        refine At.v H rfl (wS H rfl rfl rfl) rfl rfl rfl (x_pickF (H.r 48 rfl) evC) ?_; clear H; intro T H
        refine At.v H rfl (wN rfl) rfl rfl rfl (x_pickF (H.r 45 rfl) (H.r 58 rfl)) ?_; clear H; intro T H
        refine At.regionEnd ?_
        refine At.condF (H.r 59 rfl) ?_
        refine At.skip ?_
        refine At.seq ?_
        refine At.region' (l := [0, 1]) rfl ?_
        refine At.v H rfl (wN rfl) rfl rfl rfl (x_makeFunc args0 (args2 (H.r 3 rfl) (H.r 7 rfl))) ?_; clear H; intro T H
        refine At.v H rfl (wN rfl) rfl rfl rfl (x_assign (H.r 60 rfl)) ?_; clear H; intro T H
        refine At.regionEnd ?_
        refine At.seq ?_
        refine At.seq ?_
        refine At.region' (l := [0, 1, 2]) rfl ?_
        refine At.v H rfl (wN rfl) rfl rfl rfl (x_move (H.r 8 rfl)) ?_; clear H; intro T H
        refine At.v H rfl (wN rfl) rfl rfl rfl (x_add (H.r 61 rfl) evC (w64 (by omega) (by omega))) ?_; clear H; intro T H
        refine At.v H rfl (wN rfl) rfl rfl rfl (x_assign (H.r 62 rfl)) ?_; clear H; intro T H
        rw [show ((0 : Int) + 1) = ((pl + 1 : Nat) : Int) by omega] at H
        refine At.regionEnd ?_
        refine At.block ?_
        replace H := ((H.fore PkS.nil).sub (R' := [(11, _)] ++ [(2, _), (3, _), (8, _), (9, _), (10, _)]) (by repeat' (first | exact trivial | refine And.intro rfl ?_)))
        refine At.loopF H (fun μ R1 G1 => ∃ k : Nat, μ = men.length + 1 - k ∧ (pl + 1 ≤ k ∧ k ≤ men.length + 1) ∧ R1 = [(11, .int .i64 (k : Int))] ∧ G1 = []) (men.length + 1 - (pl + 1)) ⟨pl + 1, rfl, by first | trivial | omega | exact ⟨by omega, by omega⟩, rfl, rfl⟩ ?_
        clear H; rintro _ _ _ T w ⟨k, rfl, ⟨hk, hk2⟩, rfl, rfl⟩ H hnext0
        simp only [List.cons_append, List.nil_append] at H
        refine At.seq ?_
        refine At.seq ?_
        refine At.region' (l := [0, 1, 2, 3, 4]) rfl ?_
        refine At.v H rfl (wN rfl) rfl rfl rfl (x_move (H.r 11 rfl)) ?_; clear H; intro T H
        refine At.v H rfl (wN rfl) rfl rfl rfl (x_fieldAddr (H.r 3 rfl) fa25_0) ?_; clear H; intro T H
        refine At.v H rfl (wN rfl) rfl rfl rfl (x_load (H.r 64 rfl) Try.isAgg22 (by first | exact H.cell (by repeat (first | exact List.mem_cons_self | apply List.mem_cons_of_mem)) _ rfl | exact H.cellR (by repeat (first | exact List.mem_cons_self | apply List.mem_cons_of_mem)) _ rfl)) ?_; clear H; intro T H
        refine At.v H rfl (wN rfl) rfl rfl rfl (x_len (H.r 65 rfl) Try.runUnderlying22) ?_; clear H; intro T H
        refine At.c H rfl (wN rfl) rfl rfl rfl (x_leq (H.r 63 rfl) (H.r 66 rfl)) ?_ ?_
        · clear H; intro h67 T H
          have hk1 : k ≤ men.length := by omega
          refine At.regionEnd ?_
          refine At.condT (H.r 67 rfl) ?_
          refine At.skip ?_
          refine At.seq ?_
          refine At.block ?_
          refine At.seq ?_
          refine At.region' (l := [0, 1, 2]) rfl ?_
          refine At.v H rfl (wN rfl) rfl rfl rfl (x_move (H.r 10 rfl)) ?_; clear H; intro T H
          refine At.v H rfl (wN rfl) rfl rfl rfl (x_move (H.r 11 rfl)) ?_; clear H; intro T H
          refine At.fV H rfl (wN rfl) rfl rfl rfl (H.r 70 rfl) (args1 (H.r 71 rfl)) ((gets (hM.fr0 H.fr) (hL.fr0 H.fr) hv hi (H.cellsAt (n := 2) (by repeat (first | exact List.mem_cons_self | apply List.mem_cons_of_mem)) rfl) (H.cell (by repeat (first | exact List.mem_cons_self | apply List.mem_cons_of_mem)) 0 rfl) (q := k) (by omega) hk1)) ?_; clear H; rintro v72 T w rfl _ H
          rw [hlo k (by omega) hk1] at H
          refine At.regionEnd ?_
          refine At.condF (H.r 72 rfl) ?_
          refine At.skip ?_
          refine At.inBlock ?_
          refine At.region' (l := [0, 1, 2]) rfl ?_
          refine At.v H rfl (wN rfl) rfl rfl rfl (x_move (H.r 11 rfl)) ?_; clear H; intro T H
          refine At.v H rfl (wN rfl) rfl rfl rfl (x_add (H.r 68 rfl) evC (w64 (by omega) (by omega))) ?_; clear H; intro T H
          refine At.v H rfl (wN rfl) rfl rfl rfl (x_assign (H.r 69 rfl)) ?_; clear H; intro T H
          refine At.regionEnd ?_
          exact hnext0 _ _ _ _ _ (by omega) ⟨k + 1, rfl, by first | trivial | omega | exact ⟨by omega, by omega⟩, rfl, rfl⟩ (by simp only [List.cons_append, List.nil_append]; exact (H.pk (by repeat (first | exact Pk.nil | exact Pk.all | refine Pk.cons (by repeat (first | exact Take.here | apply Take.there)) ?_ | apply Pk.skip))).sub (by repeat' (first | exact trivial | refine And.intro rfl ?_)))
        · clear H; intro h67 T H
          refine At.regionEnd ?_
          refine At.condF (H.r 67 rfl) ?_
          refine At.exit rfl ?_
          refine At.seq ?_
          refine At.seq ?_
          refine At.region' (l := [0, 1]) rfl ?_
          refine At.v H rfl (wN rfl) rfl rfl rfl (x_move (H.r 9 rfl)) ?_; clear H; intro T H
          refine At.v (v := .bool true) H rfl (wN rfl) rfl rfl rfl (x_neq (H.r 73 rfl) evC) ?_; clear H; intro T H
          refine At.regionEnd ?_
          refine At.condT (H.r 74 rfl) ?_
          refine At.seq ?_
          refine At.region' (l := [0, 1]) rfl ?_
          refine At.f0 H rfl (wN rfl) rfl rfl rfl args0 Try.call11 (awake _) ?_; clear H; rintro v75 T w rfl _ H
          refine At.v H rfl (wN rfl) rfl rfl rfl (x_assign (H.r 75 rfl)) ?_; clear H; intro T H
          refine At.regionEnd ?_
          refine At.ret rfl ?_
          exact lea Try.func6 (res1 Try.results6 (H.r 6 rfl)) (Ret.mk H.fr (rfl))
      · rw [hfl] at H
        simp only [fz, fe] at H
        obtain ⟨hp1, hp2, hwin, hlo0⟩ := forL_some hfl
        obtain ⟨pl, hpl⟩ : ∃ pl : Nat, pl = p := ⟨_, rfl⟩
        have hlo : ∀ q, pl < q → q ≤ men.length → winsAt men list i q = false := fun q h1 h2 => hlo0 q (by omega) h2
        refine At.v H rfl (wN rfl) rfl rfl rfl (x_move (H.r 32 rfl)) ?_; clear H; intro T H
        refine At.v H rfl (wN rfl) rfl rfl rfl (x_extract (H.r 29 rfl) rfl) ?_; clear H; intro T H
        refine At.v H rfl (wN rfl) rfl rfl rfl (x_extract (H.r 29 rfl) rfl) ?_; clear H; intro T H
        refine At.v H rfl (wN rfl) rfl rfl rfl (x_assign (H.r 33 rfl)) ?_; clear H; intro T H
        refine At.v H rfl (wN rfl) rfl rfl rfl (x_assign (H.r 34 rfl)) ?_; clear H; intro T H
        refine At.regionEnd ?_
        refine At.seq ?_
        refine At.seq ?_
        refine At.region' (l := [0, 1, 2, 3, 4, 5, 6, 7, 8, 9, 10, 11, 12, 13, 14, 15, 16, 17, 18, 19, 20, 21, 22, 23, 24]) rfl ?_
        refine At.v H rfl (wN rfl) rfl rfl rfl (x_move (H.r 9 rfl)) ?_; clear H; intro T H
        refine At.v (v := .bool false) H rfl (wN rfl) rfl rfl rfl (x_neq (H.r 35 rfl) evC) ?_; clear H; intro T H
        refine At.v H rfl (wN rfl) rfl rfl rfl (x_move (H.r 36 rfl)) ?_; clear H; intro T H
        refine At.u H rfl (wU H rfl rfl rfl rfl) rfl rfl ?_; clear H; intro T H
        refine At.u H rfl (wU H rfl rfl rfl rfl) rfl rfl ?_; clear H; intro T H
        refine At.u H rfl (wU H rfl rfl rfl rfl) rfl rfl ?_; clear H; intro T H
        refine At.u H rfl (wUu H rfl rfl rfl) rfl rfl ?_; clear H; intro T H
        refine At.u H rfl (wUu H rfl rfl rfl) rfl rfl ?_; clear H; intro T H
        refine At.u H rfl (wU H rfl rfl rfl rfl) rfl rfl ?_; clear H; intro T H
        refine At.v H rfl (wN rfl) rfl rfl rfl (x_pickF (H.r 37 rfl) evC) ?_; clear H; intro T H
        refine At.v H rfl (wN rfl) rfl rfl rfl (x_move (H.r 44 rfl)) ?_; clear H; intro T H
        refine At.v H rfl (wS H rfl rfl rfl) rfl rfl rfl (x_move (H.r 9 rfl)) ?_; clear H; intro T H
        refine At.v (v := .bool true) H rfl (wS H rfl rfl rfl) rfl rfl rfl (x_eql (H.r 46 rfl) evC) ?_; clear H; intro T H
        refine At.v H rfl (wS H rfl rfl rfl) rfl rfl rfl (x_move (H.r 47 rfl)) ?_; clear H; intro T H
        refine At.v H rfl (wS H rfl rfl rfl) rfl rfl rfl (x_move (H.r 8 rfl)) ?_; clear H; intro T H
        refine At.v (v := .bool false) H rfl (wS H rfl rfl rfl) rfl rfl rfl ((x_lss (H.r 49 rfl) evC).trans (by rw [decide_eq_false (show ¬ ((p : Int) < 1) by omega)])) ?_; clear H; intro T H
        refine At.v H rfl (wS H rfl rfl rfl) rfl rfl rfl (x_move (H.r 50 rfl)) ?_; clear H; intro T H
        refine At.v H rfl (wS H rfl rfl rfl) rfl rfl rfl (x_move (H.r 8 rfl)) ?_; clear H; intro T H
        refine At.v H rfl (wS H rfl rfl rfl) rfl rfl rfl (x_fieldAddr (H.r 3 rfl) fa25_0) ?_; clear H; intro T H
        refine At.v H rfl (wS H rfl rfl rfl) rfl rfl rfl (x_load (H.r 53 rfl) Try.isAgg22 (by first | exact H.cell (by repeat (first | exact List.mem_cons_self | apply List.mem_cons_of_mem)) _ rfl | exact H.cellR (by repeat (first | exact List.mem_cons_self | apply List.mem_cons_of_mem)) _ rfl)) ?_; clear H; intro T H
        refine At.v H rfl (wS H rfl rfl rfl) rfl rfl rfl (x_len (H.r 54 rfl) Try.runUnderlying22) ?_; clear H; intro T H
        refine At.v (v := .bool false) H rfl (wS H rfl rfl rfl) rfl rfl rfl ((x_gtr (H.r 52 rfl) (H.r 55 rfl)).trans (by rw [decide_eq_false (show ¬ ((men.length : Int) < (p : Int)) by omega)])) ?_; clear H; intro T H
        refine At.v H rfl (wS H rfl rfl rfl) rfl rfl rfl (x_pickF (H.r 51 rfl) (H.r 56 rfl)) ?_; clear H; intro T H
        refine At.v H rfl (wS H rfl rfl rfl) rfl rfl rfl (x_pickT (H.r 48 rfl) (H.r 57 rfl)) ?_; clear H; intro T H
        refine At.v H rfl (wN rfl) rfl rfl rfl (x_pickF (H.r 45 rfl) (H.r 58 rfl)) ?_; clear H; intro T H
        refine At.regionEnd ?_
        refine At.condF (H.r 59 rfl) ?_
        refine At.skip ?_
        refine At.seq ?_
        refine At.region' (l := [0, 1]) rfl ?_
        refine At.v H rfl (wN rfl) rfl rfl rfl (x_makeFunc args0 (args2 (H.r 3 rfl) (H.r 7 rfl))) ?_; clear H; intro T H
        refine At.v H rfl (wN rfl) rfl rfl rfl (x_assign (H.r 60 rfl)) ?_; clear H; intro T H
        refine At.regionEnd ?_
        refine At.seq ?_
        refine At.seq ?_
        refine At.region' (l := [0, 1, 2]) rfl ?_
        refine At.v H rfl (wN rfl) rfl rfl rfl (x_move (H.r 8 rfl)) ?_; clear H; intro T H
        refine At.v H rfl (wN rfl) rfl rfl rfl (x_add (H.r 61 rfl) evC (w64 (by omega) (by omega))) ?_; clear H; intro T H
        refine At.v H rfl (wN rfl) rfl rfl rfl (x_assign (H.r 62 rfl)) ?_; clear H; intro T H
        rw [show ((p : Int) + 1) = ((pl + 1 : Nat) : Int) by omega] at H
        refine At.regionEnd ?_
        refine At.block ?_
        replace H := ((H.fore PkS.nil).sub (R' := [(11, _)] ++ [(2, _), (3, _), (8, _), (9, _), (10, _)]) (by repeat' (first | exact trivial | refine And.intro rfl ?_)))
        refine At.loopF H (fun μ R1 G1 => ∃ k : Nat, μ = men.length + 1 - k ∧ (pl + 1 ≤ k ∧ k ≤ men.length + 1) ∧ R1 = [(11, .int .i64 (k : Int))] ∧ G1 = []) (men.length + 1 - (pl + 1)) ⟨pl + 1, rfl, by first | trivial | omega | exact ⟨by omega, by omega⟩, rfl, rfl⟩ ?_
        clear H; rintro _ _ _ T w ⟨k, rfl, ⟨hk, hk2⟩, rfl, rfl⟩ H hnext0
        simp only [List.cons_append, List.nil_append] at H
        refine At.seq ?_
        refine At.seq ?_
        refine At.region' (l := [0, 1, 2, 3, 4]) rfl ?_
        refine At.v H rfl (wN rfl) rfl rfl rfl (x_move (H.r 11 rfl)) ?_; clear H; intro T H
        refine At.v H rfl (wN rfl) rfl rfl rfl (x_fieldAddr (H.r 3 rfl) fa25_0) ?_; clear H; intro T H
        refine At.v H rfl (wN rfl) rfl rfl rfl (x_load (H.r 64 rfl) Try.isAgg22 (by first | exact H.cell (by repeat (first | exact List.mem_cons_self | apply List.mem_cons_of_mem)) _ rfl | exact H.cellR (by repeat (first | exact List.mem_cons_self | apply List.mem_cons_of_mem)) _ rfl)) ?_; clear H; intro T H
        refine At.v H rfl (wN rfl) rfl rfl rfl (x_len (H.r 65 rfl) Try.runUnderlying22) ?_; clear H; intro T H
        refine At.c H rfl (wN rfl) rfl rfl rfl (x_leq (H.r 63 rfl) (H.r 66 rfl)) ?_ ?_
        · clear H; intro h67 T H
          have hk1 : k ≤ men.length := by omega
          refine At.regionEnd ?_
          refine At.condT (H.r 67 rfl) ?_
          refine At.skip ?_
          refine At.seq ?_
          refine At.block ?_
          refine At.seq ?_
          refine At.region' (l := [0, 1, 2]) rfl ?_
          refine At.v H rfl (wN rfl) rfl rfl rfl (x_move (H.r 10 rfl)) ?_; clear H; intro T H
          refine At.v H rfl (wN rfl) rfl rfl rfl (x_move (H.r 11 rfl)) ?_; clear H; intro T H
          refine At.fV H rfl (wN rfl) rfl rfl rfl (H.r 70 rfl) (args1 (H.r 71 rfl)) ((gets (hM.fr0 H.fr) (hL.fr0 H.fr) hv hi (H.cellsAt (n := 2) (by repeat (first | exact List.mem_cons_self | apply List.mem_cons_of_mem)) rfl) (H.cell (by repeat (first | exact List.mem_cons_self | apply List.mem_cons_of_mem)) 0 rfl) (q := k) (by omega) hk1)) ?_; clear H; rintro v72 T w rfl _ H
          rw [hlo k (by omega) hk1] at H
          refine At.regionEnd ?_
          refine At.condF (H.r 72 rfl) ?_
          refine At.skip ?_
          refine At.inBlock ?_
          refine At.region' (l := [0, 1, 2]) rfl ?_
          refine At.v H rfl (wN rfl) rfl rfl rfl (x_move (H.r 11 rfl)) ?_; clear H; intro T H
          refine At.v H rfl (wN rfl) rfl rfl rfl (x_add (H.r 68 rfl) evC (w64 (by omega) (by omega))) ?_; clear H; intro T H
          refine At.v H rfl (wN rfl) rfl rfl rfl (x_assign (H.r 69 rfl)) ?_; clear H; intro T H
          refine At.regionEnd ?_
          exact hnext0 _ _ _ _ _ (by omega) ⟨k + 1, rfl, by first | trivial | omega | exact ⟨by omega, by omega⟩, rfl, rfl⟩ (by simp only [List.cons_append, List.nil_append]; exact (H.pk (by repeat (first | exact Pk.nil | exact Pk.all | refine Pk.cons (by repeat (first | exact Take.here | apply Take.there)) ?_ | apply Pk.skip))).sub (by repeat' (first | exact trivial | refine And.intro rfl ?_)))
        · clear H; intro h67 T H
          refine At.regionEnd ?_
          refine At.condF (H.r 67 rfl) ?_
          refine At.exit rfl ?_
          refine At.seq ?_
          refine At.seq ?_
          refine At.region' (l := [0, 1]) rfl ?_
          refine At.v H rfl (wN rfl) rfl rfl rfl (x_move (H.r 9 rfl)) ?_; clear H; intro T H
          refine At.v (v := .bool false) H rfl (wN rfl) rfl rfl rfl (x_neq (H.r 73 rfl) evC) ?_; clear H; intro T H
          refine At.regionEnd ?_
          refine At.condF (H.r 74 rfl) ?_
          refine At.skip ?_
          refine At.seq ?_
          refine At.region' (l := [0]) rfl ?_
          refine At.v H rfl (wN rfl) rfl rfl rfl (x_assign evC) ?_; clear H; intro T H
          refine At.regionEnd ?_
          refine At.seq ?_
          refine At.seq ?_
          refine At.region' (l := [0, 1, 2, 3]) rfl ?_
          refine At.v H rfl (wN rfl) rfl rfl rfl (x_fieldAddr (H.r 3 rfl) fa25_1) ?_; clear H; intro T H
          refine At.v H rfl (wN rfl) rfl rfl rfl (x_load (H.r 76 rfl) Try.isAgg23 (by first | exact H.cell (by repeat (first | exact List.mem_cons_self | apply List.mem_cons_of_mem)) _ rfl | exact H.cellR (by repeat (first | exact List.mem_cons_self | apply List.mem_cons_of_mem)) _ rfl)) ?_; clear H; intro T H
          refine At.v H rfl (wN rfl) rfl rfl rfl (x_len (H.r 77 rfl) Try.runUnderlying23) ?_; clear H; intro T H
          refine At.v H rfl (wN rfl) rfl rfl rfl (x_move evC) ?_; clear H; intro T H
          refine At.regionEnd ?_
          refine At.block ?_
          replace H := ((H.fore PkS.nil).sub (R' := [(12, _), (79, _)] ++ [(2, _), (8, _), (10, _), (77, _), (78, _)]) (by repeat' (first | exact trivial | refine And.intro rfl ?_)))
          refine At.loopF H (fun μ R1 G1 => ∃ (k : Nat) (cb : Bool), μ = list.length - k ∧ (k ≤ list.length ∧ cb = (list.take k).any fun z => decide (z.for_ = 4)) ∧ R1 = [(12, .bool cb), (79, .int .i64 (k : Int))] ∧ G1 = []) (list.length) ⟨0, false, by first | rfl | omega, ⟨by omega, by simp⟩, rfl, rfl⟩ ?_
          clear H; rintro _ _ _ T w ⟨k, cb, rfl, ⟨hk, hcb⟩, rfl, rfl⟩ H hnext1
          simp only [List.cons_append, List.nil_append] at H
          refine At.seq ?_
          refine At.region' (l := [0]) rfl ?_
          refine At.c H rfl (wN rfl) rfl rfl rfl (x_lss (H.r 79 rfl) (H.r 78 rfl)) ?_ ?_
          · clear H; intro h80 T H
            have hk1 : k < list.length := by omega
            obtain ⟨z, hz⟩ := get_ex hk1
            obtain rfl := hL.addr (fun e => by simp [e] at hk1)
            have hzc := hL.cell k z hz
            refine At.regionEnd ?_
            refine At.seq ?_
            refine At.condT (H.r 80 rfl) ?_
            refine At.skip ?_
            refine At.seq ?_
            refine At.block ?_
            refine At.seq ?_
            refine At.region' (l := [0, 1, 2, 3]) rfl ?_
            refine At.v H rfl (wN rfl) rfl rfl rfl (x_ixSN (H.r 77 rfl) (H.r 79 rfl) Try.runUnderlying23 Try.sizeOf42 (by omega)) ?_; clear H; intro T H
            refine At.v H rfl (wN rfl) rfl rfl rfl (x_loadA (H.r 81 rfl) Try.isAgg42 Try.sizeOf42 (H.extA hzc (by simp)) rfl) ?_; clear H; intro T H
            refine At.new H rfl (wN rfl) rfl rfl rfl (x_alloc Try.zeroValue42 rfl) ?_; clear H; intro b14 T w _ _ H
            refine At.storeA H rfl (wN rfl) rfl rfl (H.r 14 rfl) (H.r 82 rfl) Try.sizeOf42 (List.all_eq_true.1 rfl) (by repeat (first | exact Upd.here | apply Upd.there)) (by rfl) ?_; clear H; intro T w _ H
            refine At.regionEnd ?_
            refine At.region' (l := [0, 1, 2, 3, 4, 5, 6]) rfl ?_
            refine At.v H rfl (wN rfl) rfl rfl rfl (x_move (H.r 12 rfl)) ?_; clear H; intro T H
            rcases Bool.eq_false_or_eq_true (cb) with hcv | hcv
            · rw [hcv] at H
              obtain ⟨cb2, hcb2⟩ : ∃ c, c = true := ⟨_, rfl⟩
              have hcb3 : cb2 = (list.take (k + 1)).any fun z => decide (z.for_ = 4) := by rw [any_take hz, ← hcb, hcv, hcb2]; rfl
              refine At.v H rfl (wN rfl) rfl rfl rfl (x_move (H.r 83 rfl)) ?_; clear H; intro T H
              refine At.u H rfl (wU H rfl rfl rfl rfl) rfl rfl ?_; clear H; intro T H
              refine At.u H rfl (wU H rfl rfl rfl rfl) rfl rfl ?_; clear H; intro T H
              refine At.u H rfl (wU H rfl rfl rfl rfl) rfl rfl ?_; clear H; intro T H
              refine At.v H rfl (wN rfl) rfl rfl rfl (x_pickT (H.r 84 rfl) evC) ?_; clear H; intro T H
              refine At.v H rfl (wN rfl) rfl rfl rfl (x_assign (H.r 88 rfl)) ?_; clear H; intro T H
              refine At.regionEnd ?_
              refine At.inBlock ?_
              refine At.region' (l := [0, 1]) rfl ?_
              refine At.v H rfl (wN rfl) rfl rfl rfl (x_add (H.r 79 rfl) evC (w64 (by omega) (by omega))) ?_; clear H; intro T H
              refine At.v H rfl (wN rfl) rfl rfl rfl (x_move (H.r 89 rfl)) ?_; clear H; intro T H
              refine At.regionEnd ?_
              exact hnext1 _ _ _ _ _ (by omega) ⟨k + 1, cb2, rfl, ⟨by omega, hcb3⟩, rfl, rfl⟩ (by simp only [List.cons_append, List.nil_append]; rw [hcb2]; exact (H.pk (by repeat (first | exact Pk.nil | exact Pk.all | refine Pk.cons (by repeat (first | exact Take.here | apply Take.there)) ?_ | apply Pk.skip))).sub (by repeat' (first | exact trivial | refine And.intro rfl ?_)))
            · rw [hcv] at H
              refine At.v H rfl (wN rfl) rfl rfl rfl (x_move (H.r 83 rfl)) ?_; clear H; intro T H
              refine At.v H rfl (wS H rfl rfl rfl) rfl rfl rfl (x_fieldAddr (H.r 14 rfl) fa42_0) ?_; clear H; intro T H
              refine At.v H rfl (wS H rfl rfl rfl) rfl rfl rfl (x_load (H.r 85 rfl) Try.isAgg3 (by first | exact H.cell (by repeat (first | exact List.mem_cons_self | apply List.mem_cons_of_mem)) _ rfl | exact H.cellR (by repeat (first | exact List.mem_cons_self | apply List.mem_cons_of_mem)) _ rfl)) ?_; clear H; intro T H
              refine At.c H rfl (wS H rfl rfl rfl) rfl rfl rfl (x_eql (H.r 86 rfl) evC) ?_ ?_
              · clear H; intro h87 T H
                obtain ⟨cb2, hcb2⟩ : ∃ c, c = true := ⟨_, rfl⟩
                have hcb3 : cb2 = (list.take (k + 1)).any fun z => decide (z.for_ = 4) := by rw [any_take hz, ← hcb, hcv, hcb2, decide_eq_true h87]; rfl
                refine At.v H rfl (wN rfl) rfl rfl rfl (x_pickF (H.r 84 rfl) (H.r 87 rfl)) ?_; clear H; intro T H
                refine At.v H rfl (wN rfl) rfl rfl rfl (x_assign (H.r 88 rfl)) ?_; clear H; intro T H
                refine At.regionEnd ?_
                refine At.inBlock ?_
                refine At.region' (l := [0, 1]) rfl ?_
                refine At.v H rfl (wN rfl) rfl rfl rfl (x_add (H.r 79 rfl) evC (w64 (by omega) (by omega))) ?_; clear H; intro T H
                refine At.v H rfl (wN rfl) rfl rfl rfl (x_move (H.r 89 rfl)) ?_; clear H; intro T H
                refine At.regionEnd ?_
                exact hnext1 _ _ _ _ _ (by omega) ⟨k + 1, cb2, rfl, ⟨by omega, hcb3⟩, rfl, rfl⟩ (by simp only [List.cons_append, List.nil_append]; rw [hcb2]; exact (H.pk (by repeat (first | exact Pk.nil | exact Pk.all | refine Pk.cons (by repeat (first | exact Take.here | apply Take.there)) ?_ | apply Pk.skip))).sub (by repeat' (first | exact trivial | refine And.intro rfl ?_)))
              · clear H; intro h87 T H
                obtain ⟨cb2, hcb2⟩ : ∃ c, c = false := ⟨_, rfl⟩
                have hcb3 : cb2 = (list.take (k + 1)).any fun z => decide (z.for_ = 4) := by rw [any_take hz, ← hcb, hcv, hcb2, decide_eq_false h87]; rfl
                refine At.v H rfl (wN rfl) rfl rfl rfl (x_pickF (H.r 84 rfl) (H.r 87 rfl)) ?_; clear H; intro T H
                refine At.v H rfl (wN rfl) rfl rfl rfl (x_assign (H.r 88 rfl)) ?_; clear H; intro T H
                refine At.regionEnd ?_
                refine At.inBlock ?_
                refine At.region' (l := [0, 1]) rfl ?_
                refine At.v H rfl (wN rfl) rfl rfl rfl (x_add (H.r 79 rfl) evC (w64 (by omega) (by omega))) ?_; clear H; intro T H
                refine At.v H rfl (wN rfl) rfl rfl rfl (x_move (H.r 89 rfl)) ?_; clear H; intro T H
                refine At.regionEnd ?_
                exact hnext1 _ _ _ _ _ (by omega) ⟨k + 1, cb2, rfl, ⟨by omega, hcb3⟩, rfl, rfl⟩ (by simp only [List.cons_append, List.nil_append]; rw [hcb2]; exact (H.pk (by repeat (first | exact Pk.nil | exact Pk.all | refine Pk.cons (by repeat (first | exact Take.here | apply Take.there)) ?_ | apply Pk.skip))).sub (by repeat' (first | exact trivial | refine And.intro rfl ?_)))
          · clear H; intro h80 T H
            obtain rfl : list.length = k := by omega
            rw [List.take_length] at hcb
            refine At.regionEnd ?_
            refine At.seq ?_
            refine At.condF (H.r 80 rfl) ?_
            refine At.exit rfl ?_
            refine At.seq ?_
            refine At.region' (l := [0, 1, 2, 3, 4, 5, 6, 7, 8, 9, 10, 11, 12, 13, 14, 15, 16, 17, 18]) rfl ?_
            refine At.v H rfl (wN rfl) rfl rfl rfl (x_move (H.r 10 rfl)) ?_; clear H; intro T H
            refine At.v H rfl (wN rfl) rfl rfl rfl (x_move (H.r 8 rfl)) ?_; clear H; intro T H
            refine At.fV H rfl (wN rfl) rfl rfl rfl (H.r 90 rfl) (args1 (H.r 91 rfl)) ((gets (hM.fr0 H.fr) (hL.fr0 H.fr) hv hi (H.cellsAt (n := 2) (by repeat (first | exact List.mem_cons_self | apply List.mem_cons_of_mem)) rfl) (H.cell (by repeat (first | exact List.mem_cons_self | apply List.mem_cons_of_mem)) 0 rfl) (q := p) hp1 hp2)) ?_; clear H; rintro v92 T w rfl _ H
            rw [hwin] at H
            refine At.v H rfl (wN rfl) rfl rfl rfl (x_move (H.r 92 rfl)) ?_; clear H; intro T H
            refine At.v H rfl (wS H rfl rfl rfl) rfl rfl rfl (x_move (H.r 12 rfl)) ?_; clear H; intro T H
            rcases Bool.eq_false_or_eq_true (cb) with hcv | hcv
            · rw [hcv] at H
              refine At.v H rfl (wS H rfl rfl rfl) rfl rfl rfl (x_move (H.r 94 rfl)) ?_; clear H; intro T H
              refine At.u H rfl (wU H rfl rfl rfl rfl) rfl rfl ?_; clear H; intro T H
              refine At.u H rfl (wU H rfl rfl rfl rfl) rfl rfl ?_; clear H; intro T H
              refine At.u H rfl (wU H rfl rfl rfl rfl) rfl rfl ?_; clear H; intro T H
              refine At.u H rfl (wU H rfl rfl rfl rfl) rfl rfl ?_; clear H; intro T H
              refine At.u H rfl (wU H rfl rfl rfl rfl) rfl rfl ?_; clear H; intro T H
              refine At.u H rfl (wU H rfl rfl rfl rfl) rfl rfl ?_; clear H; intro T H
              refine At.u H rfl (wU H rfl rfl rfl rfl) rfl rfl ?_; clear H; intro T H
              refine At.v H rfl (wS H rfl rfl rfl) rfl rfl rfl (x_pickT (H.r 95 rfl) evC) ?_; clear H; intro T H
              refine At.v H rfl (wN rfl) rfl rfl rfl (x_pickT (H.r 93 rfl) (H.r 103 rfl)) ?_; clear H; intro T H
              refine At.v H rfl (wN rfl) rfl rfl rfl (x_move (H.r 104 rfl)) ?_; clear H; intro T H
              refine At.f0 H rfl (wS H rfl rfl rfl) rfl rfl rfl args0 Try.call11 (awake _) ?_; clear H; rintro v106 T w rfl _ H
              refine At.v H rfl (wN rfl) rfl rfl rfl (x_pickT (H.r 105 rfl) (H.r 106 rfl)) ?_; clear H; intro T H
              refine At.v H rfl (wN rfl) rfl rfl rfl (x_assign (H.r 107 rfl)) ?_; clear H; intro T H
              refine At.regionEnd ?_
              refine At.ret rfl ?_
              exact lea Try.func6 (res1 Try.results6 (H.r 6 rfl)) (Ret.mk H.fr (rfl))
            · rw [hcv] at H
              rw [hcv] at hcb
              have hlt2 : which % p < p := Nat.mod_lt _ (by omega)
              have hw3 := mono_for hv hi (noClub_of hcb.symm) (show 1 + which % p ≤ p by omega) hwin
              refine At.v H rfl (wS H rfl rfl rfl) rfl rfl rfl (x_move (H.r 94 rfl)) ?_; clear H; intro T H
              refine At.v H rfl (wS H rfl rfl rfl) rfl rfl rfl (x_move (H.r 10 rfl)) ?_; clear H; intro T H
              refine At.v H rfl (wS H rfl rfl rfl) rfl rfl rfl (x_move (H.r 2 rfl)) ?_; clear H; intro T H
              refine At.v H rfl (wS H rfl rfl rfl) rfl rfl rfl (x_conv (z := (which : Int)) (H.r 97 rfl) Try.runUnderlying5 Try.runUnderlying3 (wrapN (by omega))) ?_; clear H; intro T H
              refine At.v H rfl (wS H rfl rfl rfl) rfl rfl rfl (x_move (H.r 8 rfl)) ?_; clear H; intro T H
              refine At.v H rfl (wS H rfl rfl rfl) rfl rfl rfl (x_remN (a := which) (b := p) (H.r 98 rfl) (H.r 99 rfl) (by omega)) ?_; clear H; intro T H
              refine At.v H rfl (wS H rfl rfl rfl) rfl rfl rfl (x_addN (a := 1) (b := which % p) evC (H.r 100 rfl) (by omega)) ?_; clear H; intro T H
              refine At.fV H rfl (wS H rfl rfl rfl) rfl rfl rfl (H.r 96 rfl) (args1 (H.r 101 rfl)) ((gets (hM.fr0 H.fr) (hL.fr0 H.fr) hv hi (H.cellsAt (n := 2) (by repeat (first | exact List.mem_cons_self | apply List.mem_cons_of_mem)) rfl) (H.cell (by repeat (first | exact List.mem_cons_self | apply List.mem_cons_of_mem)) 0 rfl) (q := 1 + which % p) (by omega) (by omega))) ?_; clear H; rintro v102 T w rfl _ H
              rw [hw3] at H
              refine At.v H rfl (wS H rfl rfl rfl) rfl rfl rfl (x_pickF (H.r 95 rfl) (H.r 102 rfl)) ?_; clear H; intro T H
              refine At.v H rfl (wN rfl) rfl rfl rfl (x_pickT (H.r 93 rfl) (H.r 103 rfl)) ?_; clear H; intro T H
              refine At.v H rfl (wN rfl) rfl rfl rfl (x_move (H.r 104 rfl)) ?_; clear H; intro T H
              refine At.f0 H rfl (wS H rfl rfl rfl) rfl rfl rfl args0 Try.call11 (awake _) ?_; clear H; rintro v106 T w rfl _ H
              refine At.v H rfl (wN rfl) rfl rfl rfl (x_pickT (H.r 105 rfl) (H.r 106 rfl)) ?_; clear H; intro T H
              refine At.v H rfl (wN rfl) rfl rfl rfl (x_assign (H.r 107 rfl)) ?_; clear H; intro T H
              refine At.regionEnd ?_
              refine At.ret rfl ?_
              exact lea Try.func6 (res1 Try.results6 (H.r 6 rfl)) (Ret.mk H.fr (rfl))
    · skip
      refine At.v H rfl (wS H rfl rfl rfl) rfl rfl rfl (x_notF (H.r 19 rfl)) ?_; clear H; intro T H
      refine At.v H rfl (wN rfl) rfl rfl rfl (x_pickF (H.r 17 rfl) (H.r 20 rfl)) ?_; clear H; intro T H
      refine At.regionEnd ?_
      refine At.condT (H.r 21 rfl) ?_
      refine At.seq ?_
      refine At.region' (l := [0, 1]) rfl ?_
      refine At.f0 H rfl (wN rfl) rfl rfl rfl args0 Try.call11 (awake _) ?_; clear H; rintro v22 T w rfl _ H
      refine At.v H rfl (wN rfl) rfl rfl rfl (x_assign (H.r 22 rfl)) ?_; clear H; intro T H
      refine At.regionEnd ?_
      refine At.ret rfl ?_
      exact lea Try.func6 (res1 Try.results6 (H.r 6 rfl)) (Ret.mk H.fr (rfl))
end Go.Proofs.Pz
end
section
set_option linter.unusedVariables false
set_option maxRecDepth 100000
namespace Go.Proofs.Ytaogmipkcdhkjaa
open Go.ChangeShapes Go.WideShapes Go.ChangeAt Go.RowKit Go.Sx
open Go.Proofs.Pz (encW encZ encB Wi Zi)
theorem prizeFor_lifted (os : Os) (started : os.Started) (H : Type) (enc : TypeId × Value → H) :
    ReturnsInHanded {} Try.checked os 6 .any (Rows.prizeForSpec.pre6 enc Try.prog Try.f6 Rows.prizeForRow.domain false) (Rows.prizeForSpec.post enc Try.prog Try.f6 false true false false) := by
  refine returnsInHanded_of_change (C := Try.checked) Try.own started (by kernel_rfl) Try.func6
    (ChangeSpec.witness6 (enc := enc) (C := Try.checked) false ⟨#[], #[.agg #[.slice none 0 0, .slice none 0 0], .int .u8 0, .int .u8 0], []⟩ 8 (by kernel_rfl) (by kernel_rfl) (by kernel_rfl) (by kernel_rfl)) ?_
  intro W base args ds gs before hval0 hW hcnd _
  have hval : ∀ (j : Nat) t v, Try.f6.params[j]? = some t → args[j]? = some v → Value.okWide Try.prog W .any base t v := hval0
  have hW' := hW
  obtain ⟨p, q, hA0, hV, rfl, hfz, hnd⟩ := hW
  have hA : DataW.TrodAll enc Try.prog W 0 (fun _ => true) true Try.f6.params.toList args.toList ds p := hA0
  rw [Try.params6] at hA hval
  obtain ⟨v0, v1, v2, d0, d1, d2, p0, p1, p2, rfl, rfl, hp, h0, h1, h2⟩ := trodAll_three hA
  obtain ⟨AM, AL, cM, bM, oM, cL, bL, oL, men, list, rfl, hM, hL⟩ := openP (hval 0 25 v0 rfl rfl) h0
  obtain ⟨y1, rfl, _, _, wf1⟩ := open_int Try.underlying5 (hval 1 5 v1 rfl rfl) h1
  have hb1 := bounds_u8 wf1
  obtain ⟨x1, rfl⟩ := Int.eq_ofNat_of_zero_le hb1.1
  obtain ⟨y2, rfl, _, _, wf2⟩ := open_int Try.underlying5 (hval 2 5 v2 rfl rfl) h2
  have hb2 := bounds_u8 wf2
  obtain ⟨x2, rfl⟩ := Int.eq_ofNat_of_zero_le hb2.1
  refine (Pz.PrizeFor hM hL x1 (by omega) x2 (by omega)).mono ?_
  rintro e W' ⟨v, rfl, hf, rfl⟩
  exact ⟨_, rfl, law_post Try.laidOut (by kernel_rfl) hW' rfl hf ⟨rfl, rfl, rfl⟩ rfl Try.underlying4⟩
theorem prizeFor_holds : Rows.PrizeForSaid :=
  OpenClaim.holds_of_wide 6 Try.f6 rfl rfl rfl rfl rfl rfl rfl ⟨rfl, rfl, rfl, rfl, rfl⟩ rfl rfl rfl rfl rfl (by kernel_rfl) Try.func6 (by kernel_rfl)
    (of_decide_eq_true (by kernel_rfl)) (by unfold Func.isWrapper; rw [if_neg (of_decide_eq_false (by kernel_rfl))]; exact ⟨rfl, rfl⟩)
    (fun os started H enc _ => prizeFor_lifted os started H enc)
end Go.Proofs.Ytaogmipkcdhkjaa
end
