/- Proves PrizeMost: for every input the statement returns true and its arguments read as before. No conditions. -/
import Derived.Test.YtaogmipkcdhkjaaPrizeMost1
import Derived.Test.YtaogmipkcdhkjaaPrizeMost2
import Derived.Test.YtaogmipkcdhkjaaPrizeMost3
import Derived.Test.YtaogmipkcdhkjaaPrizeMost4
section
set_option linter.unusedVariables false
namespace Go.Proofs.Pz
open Go.Sx
/-! ### as many as can be given: the search finds a giving, and none gives more -/
theorem nodup_sub_len : ∀ {l l' : List Nat}, l.Nodup → (∀ x ∈ l, x ∈ l') → l.length ≤ l'.length
  | [], _, _, _ => by simp
  | x :: r, l', hn, hs => by
    rw [List.nodup_cons] at hn
    have hx := hs x (by simp)
    have ih := nodup_sub_len (l := r) (l' := l'.erase x) hn.2 (fun y hy => (List.mem_erase_of_ne (fun e => hn.1 (by rw [← e]; exact hy))).2 (hs y (by simp [hy])))
    rw [List.length_erase_of_mem hx] at ih
    have : 0 < l'.length := List.length_pos_of_mem hx
    simp only [List.length_cons]; omega
theorem foldl_inv {α β : Type} {f : β → α → β} {P : β → Prop} : ∀ (l : List α) (b : β), P b → (∀ b a, a ∈ l → P b → P (f b a)) → P (l.foldl f b)
  | [], _, h, _ => h
  | x :: r, b, h, hs => foldl_inv r (f b x) (hs b x (by simp) h) (fun b a ha => hs b a (by simp [ha]))
section
variable {can : Nat → Nat → Bool} {xs : List Nat}
theorem placeS_seen : ∀ (n z : Nat) (seen : Nat → Bool) (mt : Nat → Option Nat) (m : Nat), seen m = true → (placeS can xs n z seen mt).seen m = true
  | 0, _, _, _, _, h => h
  | n + 1, z, seen, mt, m, h => by
    refine foldl_inv (P := fun (s : MSt) => s.seen m = true) xs _ h fun s x _ hs => ?_
    unfold stepM
    split
    · exact hs
    · split
      · exact hs
      · have hset : ∀ v, setF s.seen v true m = true := fun v => by unfold setF; split <;> simp [hs]
        split
        · exact hset x
        · simp only
          split <;> exact placeS_seen n _ _ _ m (hset x)
theorem placeS_mt : ∀ (n z : Nat) (seen : Nat → Bool) (mt : Nat → Option Nat), (placeS can xs n z seen mt).ok = false → (placeS can xs n z seen mt).mt = mt
  | 0, _, _, _, _ => rfl
  | n + 1, z, seen, mt, h => by
    revert h
    refine foldl_inv (P := fun (s : MSt) => s.ok = false → s.mt = mt) xs _ (fun _ => rfl) fun s x _ hs => ?_
    unfold stepM
    split
    · exact hs
    · rename_i hok
      have hmt := hs (by simpa using hok)
      split
      · exact hs
      · split
        · intro h; cases h
        · simp only
          split
          · intro h; cases h
          · rename_i ht
            intro _
            rw [placeS_mt n _ _ _ (by simpa using ht), hmt]
theorem stepM_seen (n z : Nat) (s : MSt) (x m : Nat) (h : s.seen m = true) : (stepM can (placeS can xs n) z s x).seen m = true := by
  unfold stepM
  split
  · exact h
  · split
    · exact h
    · have hset : ∀ v, setF s.seen v true m = true := fun v => by unfold setF; split <;> simp [h]
      split
      · exact hset x
      · simp only
        split <;> exact placeS_seen n _ _ _ m (hset x)
theorem foldM_seen (n z m : Nat) : ∀ (r : List Nat) (s : MSt), s.seen m = true → (r.foldl (stepM can (placeS can xs n) z) s).seen m = true
  | [], _, h => h
  | x :: r, s, h => foldM_seen n z m r _ (stepM_seen n z s x m h)
/-- what is known of those that a failed search has seen -/
def Clo (can : Nat → Nat → Bool) (xs : List Nat) (mt : Nat → Option Nat) (seen t : Nat → Bool) : Prop :=
  ∀ m, t m = true → seen m = true ∨ (m ∈ xs ∧ ∃ o, mt m = some o ∧ ∀ m' ∈ xs, can m' o = true → t m' = true)
theorem placeS_fail {N : Nat} (hx : ∀ m ∈ xs, m < N) : ∀ (n z : Nat) (seen : Nat → Bool) (mt : Nat → Option Nat), unseen N seen < n → (placeS can xs n z seen mt).ok = false →
    (∀ m ∈ xs, can m z = true → (placeS can xs n z seen mt).seen m = true) ∧ Clo can xs mt seen (placeS can xs n z seen mt).seen
  | 0, _, _, _, h, _ => by omega
  | n + 1, z, seen, mt, hu, hok => by
    have key : ∀ (r : List Nat) (s : MSt), (∀ m ∈ r, m ∈ xs) → (s.ok = false → s.mt = mt ∧ (∀ m, seen m = true → s.seen m = true) ∧ Clo can xs mt seen s.seen) → (r.foldl (stepM can (placeS can xs n) z) s).ok = false →
        (∀ m ∈ r, can m z = true → (r.foldl (stepM can (placeS can xs n) z) s).seen m = true) ∧ Clo can xs mt seen (r.foldl (stepM can (placeS can xs n) z) s).seen := by
      intro r
      induction r with
      | nil => intro s _ hI hf; exact ⟨by simp, (hI hf).2.2⟩
      | cons x r ih =>
        intro s hr hI hf
        rw [List.foldl_cons] at hf ⊢
        have hs1 : (stepM can (placeS can xs n) z s x).ok = false := by
          cases h1 : (stepM can (placeS can xs n) z s x).ok with
          | false => rfl
          | true => rw [foldM_ok r h1, h1] at hf; cases hf
        have hs0 : s.ok = false := by
          cases h1 : s.ok with
          | false => rfl
          | true =>
            have : stepM can (placeS can xs n) z s x = s := by simp [stepM, h1]
            rw [this, h1] at hs1; cases hs1
        obtain ⟨hmt, hmono, hclo⟩ := hI hs0
        have hstep : (stepM can (placeS can xs n) z s x).mt = mt ∧ (∀ m, seen m = true → (stepM can (placeS can xs n) z s x).seen m = true) ∧ Clo can xs mt seen (stepM can (placeS can xs n) z s x).seen ∧ (can x z = true → (stepM can (placeS can xs n) z s x).seen x = true) := by
          refine ⟨?_, fun m hm => stepM_seen n z s x m (hmono m hm), ?_⟩
          · revert hs1
            unfold stepM
            split
            · intro _; exact hmt
            · split
              · intro _; exact hmt
              · split
                · intro h; cases h
                · simp only
                  split
                  · intro h; cases h
                  · rename_i ht
                    intro _
                    rw [placeS_mt n _ _ _ (by simpa using ht), hmt]
          · revert hs1
            unfold stepM
            split
            · rename_i h; rw [hs0] at h; cases h
            · split
              · rename_i h
                intro _
                refine ⟨hclo, fun hc => ?_⟩
                simpa [hc] using h
              · rename_i hsx
                have hsx2 : s.seen x = false ∧ can x z = true := by simpa using hsx
                split
                · intro h; cases h
                · rename_i old hold
                  simp only
                  split
                  · intro h; cases h
                  · rename_i ht
                    intro _
                    have ht2 : (placeS can xs n old (setF s.seen x true) s.mt).ok = false := by simpa using ht
                    have hlt := unseen_set (n := N) (hx x (hr x (by simp))) hsx2.1
                    have hle := unseen_mono (n := N) hmono
                    obtain ⟨c1, c2⟩ := placeS_fail hx n old (setF s.seen x true) s.mt (by omega) ht2
                    have hxx : (placeS can xs n old (setF s.seen x true) s.mt).seen x = true := placeS_seen n _ _ _ x (by simp [setF])
                    refine ⟨fun m hm => ?_, fun _ => hxx⟩
                    rcases c2 m hm with h | ⟨h1, o, h2, h3⟩
                    · by_cases hmx : m = x
                      · subst hmx
                        exact .inr ⟨hr m (by simp), old, by rw [← hmt]; exact hold, c1⟩
                      · have hsm : s.seen m = true := by simpa [setF, hmx] using h
                        rcases hclo m hsm with h | ⟨h1, o, h2, h3⟩
                        · exact .inl h
                        · exact .inr ⟨h1, o, h2, fun m' hm' hc => placeS_seen n _ _ _ m' (by unfold setF; split <;> simp [h3 m' hm' hc])⟩
                    · exact .inr ⟨h1, o, by rw [← hmt]; exact h2, h3⟩
        obtain ⟨h1, h2⟩ := ih _ (fun m hm => hr m (by simp [hm])) (fun _ => ⟨hstep.1, hstep.2.1, hstep.2.2.1⟩) hf
        refine ⟨fun m hm hc => ?_, h2⟩
        rcases List.mem_cons.1 hm with rfl | hm
        · exact foldM_seen n z m r _ (hstep.2.2.2 hc)
        · exact h1 m hm hc
    exact key xs _ (fun _ h => h) (fun _ => ⟨rfl, fun _ h => h, fun m h => .inl h⟩) hok
/-- a matching on those that are not seen -/
structure Mok (can : Nat → Nat → Bool) (xs : List Nat) (seen : Nat → Bool) (mt : Nat → Option Nat) : Prop where
  fair : ∀ m o, seen m = false → mt m = some o → m ∈ xs ∧ can m o = true
  inj : ∀ m m' o, seen m = false → seen m' = false → mt m = some o → mt m' = some o → m = m'
structure Rs (can : Nat → Nat → Bool) (xs : List Nat) (seen : Nat → Bool) (z : Nat) (mt mt' : Nat → Option Nat) : Prop where
  old : ∀ m, seen m = true → mt' m = mt m
  mok : Mok can xs seen mt'
  pr : ∀ o, (∃ m, seen m = false ∧ mt' m = some o) ↔ (o = z ∨ ∃ m, seen m = false ∧ mt m = some o)
theorem setF_ne {α : Type} {f : Nat → α} {m k : Nat} {v : α} (h : k ≠ m) : setF f m v k = f k := by simp [setF, h]
theorem setF_eq {α : Type} {f : Nat → α} {m : Nat} {v : α} : setF f m v m = v := by simp [setF]
theorem placeS_succ : ∀ (n z : Nat) (seen : Nat → Bool) (mt : Nat → Option Nat), Mok can xs seen mt → (∀ m, seen m = false → mt m ≠ some z) → (placeS can xs n z seen mt).ok = true → Rs can xs seen z mt (placeS can xs n z seen mt).mt
  | 0, _, _, _, _, _, h => by cases h
  | n + 1, z, seen, mt, hM, hz, hok => by
    have key : (fun s : MSt => (s.ok = false → s.mt = mt ∧ ∀ m, seen m = true → s.seen m = true) ∧ (s.ok = true → Rs can xs seen z mt s.mt)) (xs.foldl (stepM can (placeS can xs n) z) ⟨false, seen, mt⟩) := by
      refine foldl_inv (P := fun (s : MSt) => (s.ok = false → s.mt = mt ∧ ∀ m, seen m = true → s.seen m = true) ∧ (s.ok = true → Rs can xs seen z mt s.mt)) xs _ ⟨fun _ => ⟨rfl, fun _ h => h⟩, fun h => by cases h⟩ fun s x hxm hP => ?_
      obtain ⟨h0, h1⟩ := hP
      unfold stepM
      split
      · exact ⟨h0, h1⟩
      · rename_i hso
        have hso : s.ok = false := by simpa using hso
        obtain ⟨hmt, hmono⟩ := h0 hso
        split
        · exact ⟨h0, h1⟩
        · rename_i hsx
          have hsx2 : s.seen x = false ∧ can x z = true := by simpa using hsx
          have hx0 : seen x = false := by
            cases h : seen x with
            | false => rfl
            | true => rw [hmono x h] at hsx2; cases hsx2.1
          split
          · rename_i hn
            rw [hmt] at hn
            refine ⟨(fun h => by cases h), fun _ => ⟨fun m hm => ?_, ⟨fun m o hm ho => ?_, fun m m' o hm hm' ho ho' => ?_⟩, fun o => ?_⟩⟩
            · have : m ≠ x := fun e => by rw [e, hx0] at hm; cases hm
              simp only [setF_ne this, hmt]
            · by_cases e : m = x
              · subst e
                simp only [setF_eq, Option.some.injEq] at ho
                subst ho
                exact ⟨hxm, hsx2.2⟩
              · simp only [setF_ne e, hmt] at ho
                exact hM.fair m o hm ho
            · by_cases e : m = x
              · by_cases e' : m' = x
                · rw [e, e']
                · subst e
                  simp only [setF_eq, Option.some.injEq] at ho
                  simp only [setF_ne e', hmt] at ho'
                  subst ho
                  exact absurd ho' (hz m' hm')
              · by_cases e' : m' = x
                · subst e'
                  simp only [setF_eq, Option.some.injEq] at ho'
                  simp only [setF_ne e, hmt] at ho
                  subst ho'
                  exact absurd ho (hz m hm)
                · simp only [setF_ne e, hmt] at ho
                  simp only [setF_ne e', hmt] at ho'
                  exact hM.inj m m' o hm hm' ho ho'
            · constructor
              · rintro ⟨m, hm, ho⟩
                by_cases e : m = x
                · subst e
                  simp only [setF_eq, Option.some.injEq] at ho
                  exact .inl ho.symm
                · simp only [setF_ne e, hmt] at ho
                  exact .inr ⟨m, hm, ho⟩
              · rintro (rfl | ⟨m, hm, ho⟩)
                · exact ⟨x, hx0, by simp only [setF_eq]⟩
                · have e : m ≠ x := fun e => by rw [e, hn] at ho; cases ho
                  exact ⟨m, hm, by simp only [setF_ne e, hmt]; exact ho⟩
          · rename_i old hold
            rw [hmt] at hold
            simp only
            split
            · rename_i ht
              have back : ∀ m, setF s.seen x true m = false → seen m = false ∧ m ≠ x := fun m hm => by
                by_cases e : m = x
                · subst e; simp [setF] at hm
                · rw [setF_ne e] at hm
                  refine ⟨?_, e⟩
                  cases h : seen m with
                  | false => rfl
                  | true => rw [hmono m h] at hm; cases hm
              have hM' : Mok can xs (setF s.seen x true) s.mt := by
                rw [hmt]
                exact ⟨fun m o hm ho => hM.fair m o (back m hm).1 ho, fun m m' o hm hm' ho ho' => hM.inj m m' o (back m hm).1 (back m' hm').1 ho ho'⟩
              have hR := placeS_succ n old (setF s.seen x true) s.mt hM' (fun m hm ho => (back m hm).2 (hM.inj m x old (back m hm).1 hx0 (by rw [← hmt]; exact ho) hold)) ht
              generalize placeS can xs n old (setF s.seen x true) s.mt = t at hR
              obtain ⟨r1, r2, r3⟩ := hR
              rw [hmt] at r1 r3
              have hxs : setF s.seen x true x = true := setF_eq
              refine ⟨(fun h => by cases h), fun _ => ⟨fun m hm => ?_, ⟨fun m o hm ho => ?_, fun m m' o hm hm' ho ho' => ?_⟩, fun o => ?_⟩⟩
              · have : m ≠ x := fun e => by rw [e, hx0] at hm; cases hm
                simp only [setF_ne this]
                exact r1 m (by rw [setF_ne this]; exact hmono m hm)
              · by_cases e : m = x
                · subst e
                  simp only [setF_eq, Option.some.injEq] at ho
                  subst ho
                  exact ⟨hxm, hsx2.2⟩
                · simp only [setF_ne e] at ho
                  cases hs' : setF s.seen x true m with
                  | true => rw [r1 m hs'] at ho; exact hM.fair m o hm ho
                  | false => exact r2.fair m o hs' ho
              · have zz : ∀ k, seen k = false → k ≠ x → t.mt k = some z → False := fun k hk e hko => by
                  cases hs' : setF s.seen x true k with
                  | true => rw [r1 k hs'] at hko; exact hz k hk hko
                  | false =>
                    rcases (r3 z).1 ⟨k, hs', hko⟩ with h | ⟨k2, h2, h3⟩
                    · rw [← h] at hold; exact hz x hx0 hold
                    · exact hz k2 (back k2 h2).1 h3
                have mix : ∀ a b, seen a = false → a ≠ x → setF s.seen x true a = true → setF s.seen x true b = false → t.mt a = some o → t.mt b = some o → False := fun a b ha ea hsa hsb h1 h2 => by
                  rw [r1 a hsa] at h1
                  rcases (r3 o).1 ⟨b, hsb, h2⟩ with h | ⟨k2, h3, h4⟩
                  · rw [h] at h1
                    exact ea (hM.inj a x old ha hx0 h1 hold)
                  · have := hM.inj a k2 o ha (back k2 h3).1 h1 h4
                    rw [this, h3] at hsa; cases hsa
                by_cases e : m = x
                · by_cases e' : m' = x
                  · rw [e, e']
                  · subst e
                    simp only [setF_eq, Option.some.injEq] at ho
                    simp only [setF_ne e'] at ho'
                    subst ho
                    exact (zz m' hm' e' ho').elim
                · by_cases e' : m' = x
                  · subst e'
                    simp only [setF_eq, Option.some.injEq] at ho'
                    simp only [setF_ne e] at ho
                    subst ho'
                    exact (zz m hm e ho).elim
                  · simp only [setF_ne e] at ho
                    simp only [setF_ne e'] at ho'
                    cases h1 : setF s.seen x true m with
                    | true =>
                      cases h2 : setF s.seen x true m' with
                      | true =>
                        rw [r1 m h1] at ho
                        rw [r1 m' h2] at ho'
                        exact hM.inj m m' o hm hm' ho ho'
                      | false => exact (mix m m' hm e h1 h2 ho ho').elim
                    | false =>
                      cases h2 : setF s.seen x true m' with
                      | true => exact (mix m' m hm' e' h2 h1 ho' ho).elim
                      | false => exact r2.inj m m' o h1 h2 ho ho'
              · constructor
                · rintro ⟨m, hm, ho⟩
                  by_cases e : m = x
                  · subst e
                    simp only [setF_eq, Option.some.injEq] at ho
                    exact .inl ho.symm
                  · simp only [setF_ne e] at ho
                    cases h1 : setF s.seen x true m with
                    | true => rw [r1 m h1] at ho; exact .inr ⟨m, hm, ho⟩
                    | false =>
                      rcases (r3 o).1 ⟨m, h1, ho⟩ with h | ⟨k2, h3, h4⟩
                      · exact .inr ⟨x, hx0, by rw [h]; exact hold⟩
                      · exact .inr ⟨k2, (back k2 h3).1, h4⟩
                · rintro (rfl | ⟨m, hm, ho⟩)
                  · exact ⟨x, hx0, by simp only [setF_eq]⟩
                  · by_cases e : m = x
                    · subst e
                      rw [hold] at ho
                      obtain ⟨k2, h3, h4⟩ := (r3 old).2 (.inl rfl)
                      exact ⟨k2, (back k2 h3).1, by simp only [setF_ne (back k2 h3).2]; rw [h4, ho]⟩
                    · cases h1 : setF s.seen x true m with
                      | true => exact ⟨m, hm, by simp only [setF_ne e]; rw [r1 m h1, ho]⟩
                      | false =>
                        obtain ⟨k2, h3, h4⟩ := (r3 o).2 (.inr ⟨m, h1, ho⟩)
                        exact ⟨k2, (back k2 h3).1, by simp only [setF_ne (back k2 h3).2]; exact h4⟩
            · rename_i ht
              have ht2 : (placeS can xs n old (setF s.seen x true) s.mt).ok = false := by simpa using ht
              refine ⟨fun _ => ⟨by rw [placeS_mt n _ _ _ ht2, hmt], fun m hm => placeS_seen n _ _ _ m (by unfold setF; split <;> simp [hmono m hm])⟩, fun h => by rw [ht2] at h; cases h⟩
    exact key.2 hok
end
end Go.Proofs.Pz
end
section
set_option linter.unusedVariables false
namespace Go.Proofs.Pz
open Go.Sx
theorem len_or (p q : Nat → Bool) : ∀ l : List Nat, (l.filter fun x => p x || q x).length ≤ (l.filter p).length + (l.filter q).length
  | [] => by simp
  | x :: r => by
    have ih := len_or p q r
    simp only [List.filter_cons]
    cases p x <;> cases q x <;> simp <;> omega
theorem len_add (p q : Nat → Bool) : ∀ l : List Nat, (l.filter p).length + (l.filter fun x => !p x && q x).length = (l.filter fun x => p x || q x).length
  | [] => by simp
  | x :: r => by
    have ih := len_add p q r
    simp only [List.filter_cons]
    cases p x <;> cases q x <;> simp <;> omega
theorem len_split (p : Nat → Bool) : ∀ l : List Nat, (l.filter p).length + (l.filter fun x => !p x).length = l.length
  | [] => by simp
  | x :: r => by
    have ih := len_split p r
    simp only [List.filter_cons]
    cases p x <;> simp <;> omega
theorem nodup_map_on {f : Nat → Nat} : ∀ {l : List Nat}, l.Nodup → (∀ a ∈ l, ∀ b ∈ l, f a = f b → a = b) → (l.map f).Nodup
  | [], _, _ => by simp
  | x :: r, hn, hi => by
    rw [List.nodup_cons] at hn
    rw [List.map_cons, List.nodup_cons]
    refine ⟨fun hm => ?_, nodup_map_on hn.2 (fun a ha b hb => hi a (by simp [ha]) b (by simp [hb]))⟩
    obtain ⟨y, hy, e⟩ := List.mem_map.1 hm
    have := hi y (by simp [hy]) x (by simp) e
    exact hn.1 (this ▸ hy)
theorem find_isSome {p : Nat → Bool} : ∀ l : List Nat, (l.find? p).isSome = l.any p
  | [] => rfl
  | x :: r => by
    rw [List.find?_cons, List.any_cons]
    cases p x
    · simpa using find_isSome r
    · rfl
structure Cert (can : Nat → Nat → Bool) (xs Z : List Nat) (c : Nat) (mt : Nat → Option Nat) : Prop where
  mok : Mok can xs (fun _ => false) mt
  sub : ∀ m o, mt m = some o → o ∈ Z
  cnt : c = (Z.filter fun z => xs.any fun m => decide (mt m = some z)).length
  T : ∃ T : Nat → Bool, (∀ z, T z = true → z ∈ Z) ∧ Z.length + (xs.filter fun m => Z.any fun z => T z && can m z).length ≤ c + (Z.filter T).length
section
variable {can : Nat → Nat → Bool} {xs : List Nat}
theorem Cert.nil : Cert can xs [] 0 (fun _ => none) :=
  ⟨⟨fun m o _ h => by simp at h, fun m m' o _ _ h => by simp at h⟩, fun m o h => by simp at h, rfl, fun _ => false, fun z h => by simp at h, by simp⟩
theorem cert_step (hn : xs.Nodup) (hx : ∀ m ∈ xs, m < 8) {Z : List Nat} {c z : Nat} {mt : Nat → Option Nat} (hz : z ∉ Z) (h : Cert can xs Z c mt) :
    Cert can xs (Z ++ [z]) (if (placeS can xs 9 z (fun _ => false) mt).ok then c + 1 else c) (placeS can xs 9 z (fun _ => false) mt).mt := by
  have hzm : ∀ m, mt m ≠ some z := fun m e => hz (h.sub m z e)
  obtain ⟨T, hT1, hT2⟩ := h.T
  have hTz : T z = false := by
    cases e : T z with
    | false => rfl
    | true => exact absurd (hT1 z e) hz
  cases hok : (placeS can xs 9 z (fun _ => false) mt).ok with
  | true =>
    obtain ⟨_, r2, r3⟩ := placeS_succ 9 z (fun _ => false) mt h.mok (fun m _ => hzm m) hok
    generalize (placeS can xs 9 z (fun _ => false) mt).mt = mt' at r2 r3
    simp only [if_true]
    refine ⟨r2, fun m o ho => ?_, ?_, T, fun o ho => by simp [hT1 o ho], ?_⟩
    · rcases (r3 o).1 ⟨m, rfl, ho⟩ with rfl | ⟨m2, _, h2⟩
      · simp
      · simp [h.sub m2 o h2]
    · have e1 : ∀ o, (xs.any fun m => decide (mt' m = some o)) = (decide (o = z) || xs.any fun m => decide (mt m = some o)) := by
        intro o
        rw [Bool.eq_iff_iff, Bool.or_eq_true, List.any_eq_true, List.any_eq_true, decide_eq_true_iff]
        constructor
        · rintro ⟨m, hm, ho⟩
          rcases (r3 o).1 ⟨m, rfl, by simpa using ho⟩ with e | ⟨m2, _, h2⟩
          · exact .inl e
          · exact .inr ⟨m2, (h.mok.fair m2 o rfl h2).1, by simpa using h2⟩
        · intro hh
          have : o = z ∨ ∃ m, (fun _ => false : Nat → Bool) m = false ∧ mt m = some o := by
            rcases hh with e | ⟨m, hm, ho⟩
            · exact .inl e
            · exact .inr ⟨m, rfl, by simpa using ho⟩
          obtain ⟨m, _, ho⟩ := (r3 o).2 this
          exact ⟨m, (r2.fair m o rfl ho).1, by simpa using ho⟩
      rw [List.filter_append, List.length_append, h.cnt]
      have e2 : (Z.filter fun o => xs.any fun m => decide (mt' m = some o)) = Z.filter fun o => xs.any fun m => decide (mt m = some o) := List.filter_congr fun o ho => by
        rw [e1]
        have : o ≠ z := fun e => hz (e ▸ ho)
        simp [this]
      rw [e2]
      simp [e1]
    · have e3 : (xs.filter fun m => (Z ++ [z]).any fun o => T o && can m o) = xs.filter fun m => Z.any fun o => T o && can m o := List.filter_congr fun m _ => by simp [hTz]
      rw [e3, List.filter_append, List.length_append, List.length_append]
      simp [hTz]
      omega
  | false =>
    have hmt := placeS_mt 9 z (fun _ => false) mt hok
    obtain ⟨c1, c2⟩ := placeS_fail (N := 8) hx 9 z (fun _ => false) mt (by have := unseen_le 8 (fun _ => false); omega) hok
    rw [hmt]
    generalize (placeS can xs 9 z (fun _ => false) mt).seen = S at c1 c2
    simp only [Bool.false_eq_true, if_false]
    have hS : ∀ m, S m = true → m ∈ xs ∧ ∃ o, mt m = some o ∧ ∀ m' ∈ xs, can m' o = true → S m' = true := fun m hm => by
      rcases c2 m hm with h | h
      · cases h
      · exact h
    let hit : Nat → Bool := fun o => xs.any fun m => S m && decide (mt m = some o)
    let adj : Nat → Bool := fun m => Z.any fun o => T o && can m o
    refine ⟨h.mok, fun m o ho => by simp [h.sub m o ho], ?_, fun o => decide (o = z) || (T o || hit o), ?_, ?_⟩
    · rw [List.filter_append, List.length_append, ← h.cnt]
      have : (xs.any fun m => decide (mt m = some z)) = false := by
        rw [List.any_eq_false]; intro m _; simp [hzm m]
      simp [this]
    · intro o ho
      simp only [Bool.or_eq_true, decide_eq_true_eq] at ho
      rcases ho with rfl | ho | ho
      · simp
      · simp [hT1 o ho]
      · obtain ⟨m, _, hm⟩ := List.any_eq_true.1 ho
        simp only [Bool.and_eq_true, decide_eq_true_eq] at hm
        simp [h.sub m o hm.2]
    · -- the ploughmen that are adjacent
      have n1 : (xs.filter fun m => (Z ++ [z]).any fun o => (decide (o = z) || (T o || hit o)) && can m o).length ≤ (xs.filter adj).length + (xs.filter fun m => !adj m && S m).length := by
        rw [len_add]
        refine filter_len_le fun m hm hh => ?_
        obtain ⟨o, ho, hc⟩ := List.any_eq_true.1 hh
        simp only [Bool.and_eq_true, Bool.or_eq_true, decide_eq_true_eq] at hc
        rw [Bool.or_eq_true]
        obtain ⟨ho2, hc2⟩ := hc
        rcases ho2 with rfl | ht | ht
        · exact .inr (c1 m hm hc2)
        · exact .inl (List.any_eq_true.2 ⟨o, hT1 o ht, by simp [ht, hc2]⟩)
        · obtain ⟨m0, _, hm0⟩ := List.any_eq_true.1 ht
          simp only [Bool.and_eq_true, decide_eq_true_eq] at hm0
          obtain ⟨_, o', h2, h3⟩ := hS m0 hm0.1
          rw [hm0.2] at h2
          obtain rfl := Option.some.inj h2
          exact .inr (h3 m hm hc2)
      have n2 : (xs.filter fun m => !adj m && S m).length ≤ (Z.filter fun o => !T o && hit o).length := by
        have hmem : ∀ m ∈ xs.filter (fun m => !adj m && S m), m ∈ xs ∧ adj m = false ∧ S m = true := fun m hm => by
          have := List.mem_filter.1 hm
          simp only [Bool.and_eq_true, Bool.not_eq_true'] at this
          exact ⟨this.1, this.2.1, this.2.2⟩
        have hlen := nodup_sub_len (l := (xs.filter fun m => !adj m && S m).map fun m => (mt m).getD 0) (l' := Z.filter fun o => !T o && hit o) (nodup_map_on (hn.filter _) (fun a ha b hb e => by
            obtain ⟨_, _, h1⟩ := hmem a ha
            obtain ⟨_, _, h2⟩ := hmem b hb
            obtain ⟨_, oa, ea, _⟩ := hS a h1
            obtain ⟨_, ob, eb, _⟩ := hS b h2
            rw [ea, eb] at e
            have e : oa = ob := e
            exact h.mok.inj a b oa rfl rfl ea (by rw [eb, e]))) (fun o ho => by
            obtain ⟨m, hm, rfl⟩ := List.mem_map.1 ho
            obtain ⟨h1, h2, h3⟩ := hmem m hm
            obtain ⟨_, o', e', _⟩ := hS m h3
            rw [e']
            show o' ∈ _
            have hoZ := h.sub m o' e'
            rw [List.mem_filter]
            refine ⟨hoZ, ?_⟩
            simp only [Bool.and_eq_true, Bool.not_eq_true']
            refine ⟨?_, List.any_eq_true.2 ⟨m, h1, by simp [h3, e']⟩⟩
            cases ht : T o' with
            | false => rfl
            | true =>
              have : adj m = true := List.any_eq_true.2 ⟨o', hoZ, by simp [ht, (h.mok.fair m o' rfl e').2]⟩
              rw [h2] at this; cases this)
        simpa using hlen
      have n3 : ((Z ++ [z]).filter fun o => decide (o = z) || (T o || hit o)).length = 1 + ((Z.filter T).length + (Z.filter fun o => !T o && hit o).length) := by
        rw [List.filter_append, List.length_append, len_add]
        have e4 : (Z.filter fun o => decide (o = z) || (T o || hit o)) = Z.filter fun o => T o || hit o := List.filter_congr fun o ho => by
          have : o ≠ z := fun e => hz (e ▸ ho)
          simp [this]
        rw [e4]
        simp; omega
      rw [n3, List.length_append]
      have : (xs.filter adj).length = (xs.filter fun m => Z.any fun z => T z && can m z).length := rfl
      simp only [List.length_singleton]
      omega
theorem mostS_cert (hn : xs.Nodup) (hx : ∀ m ∈ xs, m < 8) : ∀ (zs Z : List Nat) (c : Nat) (mt : Nat → Option Nat), (Z ++ zs).Nodup → Cert can xs Z c mt →
    ∃ mt', Cert can xs (Z ++ zs) (zs.foldl (fun (c : Nat × (Nat → Option Nat)) z => let t := placeS can xs 9 z (fun _ => false) c.2; (if t.ok then c.1 + 1 else c.1, t.mt)) (c, mt)).1 mt'
  | [], Z, c, mt, _, h => ⟨mt, by simpa using h⟩
  | z :: r, Z, c, mt, hd, h => by
    have hz : z ∉ Z := fun hm => (List.nodup_append.1 hd).2.2 z hm z (by simp) rfl
    have := mostS_cert hn hx r (Z ++ [z]) _ _ (by simpa using hd) (cert_step hn hx hz h)
    simpa using this
theorem mostS_spec (hn : xs.Nodup) (hx : ∀ m ∈ xs, m < 8) {zs : List Nat} (hd : zs.Nodup) :
    (∃ g : Nat → Option Nat, (∀ z ∈ zs, ∀ m, g z = some m → m ∈ xs ∧ can m z = true) ∧ (∀ z ∈ zs, ∀ z' ∈ zs, ∀ m, g z = some m → g z' = some m → z = z') ∧ (zs.filter fun z => (g z).isSome).length = (mostS can xs zs).1) ∧
    ∀ g : Nat → Option Nat, (∀ z ∈ zs, ∀ m, g z = some m → m ∈ xs ∧ can m z = true) → (∀ z ∈ zs, ∀ z' ∈ zs, ∀ m, g z = some m → g z' = some m → z = z') → (zs.filter fun z => (g z).isSome).length ≤ (mostS can xs zs).1 := by
  obtain ⟨mt, hC⟩ := mostS_cert hn hx zs [] 0 (fun _ => none) (by simpa using hd) Cert.nil
  rw [List.nil_append] at hC
  have hc : (mostS can xs zs).1 = (zs.foldl (fun (c : Nat × (Nat → Option Nat)) z => let t := placeS can xs 9 z (fun _ => false) c.2; (if t.ok then c.1 + 1 else c.1, t.mt)) (0, fun _ => none)).1 := rfl
  rw [← hc] at hC
  constructor
  · refine ⟨fun z => xs.find? fun m => decide (mt m = some z), fun z _ m h => ?_, fun z _ z' _ m h h' => ?_, ?_⟩
    · have h2 := List.find?_some h
      have h2 : mt m = some z := by simpa using h2
      exact hC.mok.fair m z rfl h2
    · have h1 := List.find?_some h
      have h2 := List.find?_some h'
      have h1 : mt m = some z := by simpa using h1
      have h2 : mt m = some z' := by simpa using h2
      rw [h1] at h2
      exact Option.some.inj h2
    · simp only [find_isSome]
      exact hC.cnt.symm
  · intro g hg hi
    obtain ⟨T, _, hT⟩ := hC.T
    generalize hA : (zs.filter fun z => (g z).isSome) = A
    have hAm : ∀ z ∈ A, z ∈ zs ∧ ∃ m, g z = some m := fun z hz => by
      rw [← hA, List.mem_filter] at hz
      exact ⟨hz.1, Option.isSome_iff_exists.1 hz.2⟩
    have hAn : A.Nodup := hA ▸ hd.filter _
    have s1 := len_split T A
    have s2 := len_split T zs
    have s3 : (A.filter fun x => !T x).length ≤ (zs.filter fun x => !T x).length := by
      have hs : A.Sublist zs := hA ▸ List.filter_sublist
      exact (hs.filter _).length_le
    have s4 : (A.filter T).length ≤ (xs.filter fun m => zs.any fun z => T z && can m z).length := by
      have := nodup_sub_len (l := (A.filter T).map fun z => (g z).getD 0) (l' := xs.filter fun m => zs.any fun z => T z && can m z) (nodup_map_on (hAn.filter _) (fun a ha b hb e => by
        obtain ⟨h1, m1, e1⟩ := hAm a (List.mem_filter.1 ha).1
        obtain ⟨h2, m2, e2⟩ := hAm b (List.mem_filter.1 hb).1
        rw [e1, e2] at e
        have e : m1 = m2 := e
        exact hi a h1 b h2 m1 e1 (by rw [e2, e]))) (fun m hm => by
        obtain ⟨z, hz, rfl⟩ := List.mem_map.1 hm
        have hz' := List.mem_filter.1 hz
        obtain ⟨h1, m1, e1⟩ := hAm z hz'.1
        rw [e1]
        show m1 ∈ _
        obtain ⟨g1, g2⟩ := hg z h1 m1 e1
        exact List.mem_filter.2 ⟨g1, List.any_eq_true.2 ⟨z, h1, by simp [hz'.2, g2]⟩⟩)
      simpa using this
    omega
end
end Go.Proofs.Pz
end
section
set_option linter.unusedVariables false
namespace Go.Proofs.Pz
open Go.Sx
/-! ### givings of prizes from one on -/
structure Gv (men : List Wi) (list : List Zi) (z : Nat) (has : Nat → Bool) (g : Nat → Option Nat) : Prop where
  ok : ∀ y m, z ≤ y → y < list.length → g y = some m → m < men.length ∧ has m = false ∧ canZ men list m y = true
  inj : ∀ y y' m, z ≤ y → y < list.length → z ≤ y' → y' < list.length → g y = some m → g y' = some m → y = y'
def szG (list : List Zi) (z : Nat) (g : Nat → Option Nat) : Nat := ((List.range' z (list.length - z)).filter fun y => (g y).isSome).length
theorem manyM_spec {men : List Wi} {list : List Zi} (hv : Valid men list) (list' : List Zi) (z : Nat) (has : Nat → Bool) :
    (∃ g, Gv men list' z has g ∧ szG list' z g = manyM men list' z has) ∧ ∀ g, Gv men list' z has g → szG list' z g ≤ manyM men list' z has := by
  have hn8 := hv.n8
  have hxs : ∀ m, m ∈ (ord men).filter (fun m => !has m) ↔ m < men.length ∧ has m = false := fun m => by
    rw [List.mem_filter]
    constructor
    · rintro ⟨h1, h2⟩; exact ⟨ord_lt hv h1, by simpa using h2⟩
    · rintro ⟨h1, h2⟩; exact ⟨mem_ord hv h1, by simpa using h2⟩
  have hzs : ∀ y, y ∈ List.range' z (list'.length - z) ↔ z ≤ y ∧ y < list'.length := fun y => by rw [List.mem_range'_1]; omega
  obtain ⟨⟨g, h1, h2, h3⟩, hmax⟩ := mostS_spec (can := canZ men list') (xs := (ord men).filter fun m => !has m) ((ord_nodup hv).filter _) (fun m hm => by have := ((hxs m).1 hm).1; omega) (zs := List.range' z (list'.length - z)) List.nodup_range'
  constructor
  · refine ⟨g, ⟨fun y m hy1 hy2 hm => ?_, fun y y' m a b c d e f => h2 y ((hzs y).2 ⟨a, b⟩) y' ((hzs y').2 ⟨c, d⟩) m e f⟩, h3⟩
    obtain ⟨k1, k2⟩ := h1 y ((hzs y).2 ⟨hy1, hy2⟩) m hm
    exact ⟨((hxs m).1 k1).1, ((hxs m).1 k1).2, k2⟩
  · intro g hg
    refine hmax g (fun y hy m hm => ?_) (fun y hy y' hy' m e f => hg.inj y y' m ((hzs y).1 hy).1 ((hzs y).1 hy).2 ((hzs y').1 hy').1 ((hzs y').1 hy').2 e f)
    obtain ⟨k1, k2, k3⟩ := hg.ok y m ((hzs y).1 hy).1 ((hzs y).1 hy).2 hm
    exact ⟨(hxs m).2 ⟨k1, k2⟩, k3⟩
theorem szG_succ {list : List Zi} {z : Nat} (hz : z < list.length) (g : Nat → Option Nat) : szG list z g = (if (g z).isSome then 1 else 0) + szG list (z + 1) g := by
  unfold szG
  rw [show list.length - z = (list.length - (z + 1)) + 1 by omega, List.range'_succ, List.filter_cons]
  split <;> simp <;> omega
theorem szG_congr {list : List Zi} {z : Nat} {g g' : Nat → Option Nat} (h : ∀ y, z ≤ y → y < list.length → g y = g' y) : szG list z g = szG list z g' := by
  unfold szG
  congr 1
  exact List.filter_congr fun y hy => by
    have := List.mem_range'_1.1 hy
    rw [h y this.1 (by omega)]
section
variable {men : List Wi} {list : List Zi}
theorem Gv.tail {z : Nat} {has : Nat → Bool} {g : Nat → Option Nat} (h : Gv men list z has g) : Gv men list (z + 1) has g :=
  ⟨fun y m h1 h2 h3 => h.ok y m (by omega) h2 h3, fun y y' m a b c d e f => h.inj y y' m (by omega) b (by omega) d e f⟩
theorem Gv.tailS {z k : Nat} {has : Nat → Bool} {g : Nat → Option Nat} (h : Gv men list z has g) (hz : z < list.length) (hk : g z = some k) : Gv men list (z + 1) (setF has k true) g :=
  ⟨fun y m h1 h2 h3 => by
    obtain ⟨k1, k2, k3⟩ := h.ok y m (by omega) h2 h3
    refine ⟨k1, ?_, k3⟩
    by_cases e : m = k
    · subst e
      have := h.inj z y m (Nat.le_refl _) hz (by omega) h2 hk h3
      omega
    · rw [setF_ne e]; exact k2, fun y y' m a b c d e f => h.inj y y' m (by omega) b (by omega) d e f⟩
theorem many_mono (hv : Valid men list) {z : Nat} (hz : z < list.length) (has : Nat → Bool) : manyM men list (z + 1) has ≤ manyM men list z has := by
  obtain ⟨⟨g, hg, hs⟩, _⟩ := manyM_spec hv list (z + 1) has
  have h2 := (manyM_spec hv list z has).2 (setF g z none) ⟨fun y m h1 h2 h3 => by
    by_cases e : y = z
    · subst e; rw [setF_eq] at h3; cases h3
    · rw [setF_ne e] at h3; exact hg.ok y m (by omega) h2 h3, fun y y' m a b c d e f => by
    by_cases e1 : y = z
    · subst e1; rw [setF_eq] at e; cases e
    · by_cases e2 : y' = z
      · subst e2; rw [setF_eq] at f; cases f
      · rw [setF_ne e1] at e; rw [setF_ne e2] at f; exact hg.inj y y' m (by omega) b (by omega) d e f⟩
  rw [szG_succ hz, setF_eq, szG_congr (g' := g) (fun y h1 _ => setF_ne (by omega)), hs] at h2
  simpa using h2
theorem many_set (hv : Valid men list) {z k : Nat} (hz : z < list.length) {has : Nat → Bool} (hk : k < men.length) (hh : has k = false) (hc : canZ men list k z = true) : manyM men list (z + 1) (setF has k true) + 1 ≤ manyM men list z has := by
  obtain ⟨⟨g, hg, hs⟩, _⟩ := manyM_spec hv list (z + 1) (setF has k true)
  have hgk : ∀ y m, z + 1 ≤ y → y < list.length → g y = some m → m ≠ k ∧ has m = false := fun y m h1 h2 h3 => by
    obtain ⟨_, k2, _⟩ := hg.ok y m h1 h2 h3
    by_cases e : m = k
    · subst e; rw [setF_eq] at k2; cases k2
    · rw [setF_ne e] at k2; exact ⟨e, k2⟩
  have h2 := (manyM_spec hv list z has).2 (setF g z (some k)) ⟨fun y m h1 h2 h3 => by
    by_cases e : y = z
    · subst e; rw [setF_eq] at h3; obtain rfl := Option.some.inj h3; exact ⟨hk, hh, hc⟩
    · rw [setF_ne e] at h3
      obtain ⟨k1, _, k3⟩ := hg.ok y m (by omega) h2 h3
      exact ⟨k1, (hgk y m (by omega) h2 h3).2, k3⟩, fun y y' m a b c d e f => by
    by_cases e1 : y = z
    · by_cases e2 : y' = z
      · omega
      · subst e1; rw [setF_eq] at e; rw [setF_ne e2] at f
        exact absurd (Option.some.inj e).symm (hgk y' m (by omega) d f).1
    · by_cases e2 : y' = z
      · subst e2; rw [setF_eq] at f; rw [setF_ne e1] at e
        exact absurd (Option.some.inj f).symm (hgk y m (by omega) b e).1
      · rw [setF_ne e1] at e; rw [setF_ne e2] at f; exact hg.inj y y' m (by omega) b (by omega) d e f⟩
  rw [szG_succ hz, setF_eq, szG_congr (g' := g) (fun y h1 _ => setF_ne (by omega)), hs] at h2
  simp at h2
  omega
theorem many_own (hv : Valid men list) {z k : Nat} (hz : z < list.length) {has : Nat → Bool} {g : Nat → Option Nat} (hg : Gv men list z has g) (hk : g z = some k) : szG list (z + 1) g ≤ manyM men list (z + 1) (setF has k true) :=
  (manyM_spec hv list (z + 1) _).2 g (hg.tailS hz hk)
theorem many_split (hv : Valid men list) {z : Nat} (hz : z < list.length) (has : Nat → Bool) (h : manyM men list (z + 1) has < manyM men list z has) :
    ∃ k, k < men.length ∧ has k = false ∧ canZ men list k z = true ∧ manyM men list (z + 1) (setF has k true) = manyM men list z has - 1 := by
  obtain ⟨⟨g, hg, hs⟩, _⟩ := manyM_spec hv list z has
  rw [szG_succ hz] at hs
  cases hgz : g z with
  | none =>
    have := (manyM_spec hv list (z + 1) has).2 g hg.tail
    rw [hgz] at hs; simp at hs; omega
  | some k =>
    obtain ⟨k1, k2, k3⟩ := hg.ok z k (Nat.le_refl _) hz hgz
    have h1 := many_own hv hz hg hgz
    have h2 := many_set hv hz k1 k2 k3
    rw [hgz] at hs; simp at hs
    exact ⟨k, k1, k2, k3, by omega⟩
/-! ### the giving with the most prizes -/
structure MoI (men : List Wi) (list : List Zi) (z : Nat) (s : MoSt) : Prop where
  len : s.acc.length = z
  rest : s.rest = manyM men list z s.has
  has : ∀ m, s.has m = true ↔ some m ∈ s.acc
  lt : ∀ m, some m ∈ s.acc → m < men.length
  nd : ∀ (k m : Nat), s.acc[k]? = some (some m) → hasI (s.acc.take k) (m : Int) = false
  fair : ∀ (i m : Nat) (zz : Zi), s.acc[i]? = some (some m) → list[i]? = some zz → canAt men zz.for_ m = true
  cnt : manyO s.acc + s.rest = manyM men list 0 (fun _ => false)
theorem manyO_snoc (l : List (Option Nat)) (o : Option Nat) : manyO (l ++ [o]) = manyO l + if o.isSome then 1 else 0 := by
  unfold manyO
  rw [List.filter_append, List.length_append]
  cases o <;> simp
theorem hasI_iff {l : List (Option Nat)} {m : Nat} : hasI l (m : Int) = false ↔ some m ∉ l := by
  constructor
  · intro h hm
    have : hasI l (m : Int) = true := by
      unfold hasI
      exact List.any_eq_true.2 ⟨_, hm, by simp⟩
    rw [h] at this; cases this
  · intro h
    cases hh : hasI l (m : Int) with
    | false => rfl
    | true =>
      unfold hasI at hh
      obtain ⟨o, h1, h2⟩ := List.any_eq_true.1 hh
      cases o with
      | none => simp at h2
      | some x =>
        simp only [decide_eq_true_eq] at h2
        obtain rfl : x = m := by omega
        exact absurd h1 h
theorem MoI.zero : MoI men list 0 ⟨fun _ => false, manyM men list 0 (fun _ => false), []⟩ := ⟨rfl, rfl, by simp, by simp, by simp, by simp, by simp [manyO]⟩
theorem MoI.none {z : Nat} {s : MoSt} (h : MoI men list z s) (he : manyM men list (z + 1) s.has = s.rest) : MoI men list (z + 1) ⟨s.has, s.rest, s.acc ++ [Option.none]⟩ := by
  refine ⟨by simp [h.len], he.symm, fun m => by rw [h.has]; simp, fun m hm => h.lt m (by simpa using hm), fun k m hk => ?_, fun i m zz hi hz => ?_, by rw [manyO_snoc]; simpa using h.cnt⟩
  · by_cases hkl : k < s.acc.length
    · rw [List.getElem?_append_left hkl] at hk
      rw [List.take_append_of_le_length (by omega)]
      exact h.nd k m hk
    · rw [List.getElem?_append_right (by omega)] at hk
      rcases hd : k - s.acc.length with _ | j <;> simp [hd] at hk
  · by_cases hil : i < s.acc.length
    · rw [List.getElem?_append_left hil] at hi
      exact h.fair i m zz hi hz
    · rw [List.getElem?_append_right (by omega)] at hi
      rcases hd : i - s.acc.length with _ | j <;> simp [hd] at hi
theorem MoI.some {z k : Nat} {s : MoSt} (h : MoI men list z s) (hk : k < men.length) (hh : s.has k = false) (hc : canZ men list k z = true) (he : manyM men list (z + 1) (setF s.has k true) = s.rest - 1) (h1 : 1 ≤ s.rest) :
    MoI men list (z + 1) ⟨setF s.has k true, s.rest - 1, s.acc ++ [Option.some k]⟩ := by
  have hnk : Option.some k ∉ s.acc := fun e => by rw [(h.has k).2 e] at hh; cases hh
  refine ⟨by simp [h.len], he.symm, fun m => ?_, fun m hm => ?_, fun j m hj => ?_, fun i m zz hi hz => ?_, ?_⟩
  · by_cases e : m = k
    · subst e; simp [setF]
    · simp only [setF_ne e]
      rw [h.has]
      simp [e]
  · rcases List.mem_append.1 hm with hm | hm
    · exact h.lt m hm
    · obtain rfl : m = k := by simpa using hm
      exact hk
  · by_cases hjl : j < s.acc.length
    · rw [List.getElem?_append_left hjl] at hj
      rw [List.take_append_of_le_length (by omega)]
      exact h.nd j m hj
    · rw [List.getElem?_append_right (by omega)] at hj
      rcases hd : j - s.acc.length with _ | j2
      · simp [hd] at hj
        subst hj
        rw [show j = s.acc.length by omega, List.take_left']
        · exact hasI_iff.2 hnk
        · rfl
      · simp [hd] at hj
  · by_cases hil : i < s.acc.length
    · rw [List.getElem?_append_left hil] at hi
      exact h.fair i m zz hi hz
    · rw [List.getElem?_append_right (by omega)] at hi
      rcases hd : i - s.acc.length with _ | j2
      · simp [hd] at hi
        subst hi
        have hiz : i = z := by have := h.len; omega
        subst hiz
        unfold canZ at hc
        rw [hz] at hc
        exact hc
      · simp [hd] at hi
  · rw [manyO_snoc]
    have := h.cnt
    simp
    omega
theorem mostTo_I (hv : Valid men list) : ∀ z, z ≤ list.length → MoI men list z (mostTo men list z)
  | 0, _ => MoI.zero
  | z + 1, hz => by
    have ih := mostTo_I hv z (by omega)
    rw [mostTo_succ]
    generalize mostTo men list z = s at ih
    unfold stepMo
    by_cases hlt : manyM men list (z + 1) s.has < s.rest
    · rw [if_pos hlt]
      rw [ih.rest] at hlt
      obtain ⟨k, k1, k2, k3, k4⟩ := many_split hv (by omega) s.has hlt
      cases hf : (List.range men.length).find? (pickM men list s.has s.rest z) with
      | none =>
        rw [List.find?_eq_none] at hf
        have := hf k (List.mem_range.2 k1)
        exact absurd (by simp [pickM, k2, k3, k4, ih.rest]) this
      | some j =>
        have h1 := List.find?_some hf
        have h2 := List.mem_range.1 (List.mem_of_find?_eq_some hf)
        simp only [pickM, Bool.and_eq_true, Bool.not_eq_true', decide_eq_true_eq] at h1
        exact ih.some h2 h1.1.1 h1.1.2 h1.2 (by rw [ih.rest]; omega)
    · rw [if_neg hlt]
      have := many_mono hv (z := z) (by omega) s.has
      exact ih.none (by rw [ih.rest] at hlt ⊢; omega)
theorem many_end (has : Nat → Bool) : manyM men list list.length has = 0 := by
  unfold manyM
  rw [Nat.sub_self]
  rfl
theorem mostL_I (hv : Valid men list) : MoI men list list.length (mostTo men list list.length) := mostTo_I hv _ (Nat.le_refl _)
theorem mostL_len' : (mostL men list).length = list.length := mostTo_len _ _ _
theorem mostL_fair (hv : Valid men list) : fairL men list (mostL men list) := fun i m z h1 h2 => (mostL_I hv).fair i m z h1 h2
theorem mostL_giv (hv : Valid men list) : GivOK men list (mostL men list) := ⟨mostL_len', (mostL_I hv).lt, (mostL_I hv).nd⟩
theorem mostL_many (hv : Valid men list) : manyO (mostL men list) = manyM men list 0 (fun _ => false) := by
  have h := (mostL_I hv)
  have h2 := h.rest
  rw [many_end] at h2
  have := h.cnt
  rw [h2] at this
  simpa [mostL] using this
def gOf (gv : List (Option Nat)) (y : Nat) : Option Nat := gv[y]?.getD none
theorem gOf_some {gv : List (Option Nat)} {y m : Nat} : gOf gv y = some m ↔ gv[y]? = some (some m) := by
  unfold gOf
  cases h : gv[y]? with
  | none => simp
  | some o => simp
theorem gv_Gv {gv : List (Option Nat)} (hg : GivOK men list gv) (hf : fairL men list gv) (z : Nat) (has : Nat → Bool) (hh : ∀ m, has m = true → some m ∈ gv.take z) : Gv men list z has (gOf gv) := by
  have key : ∀ y m, gOf gv y = some m → some m ∉ gv.take y := fun y m h => hasI_iff.1 (hg.nd y m (gOf_some.1 h))
  refine ⟨fun y m h1 h2 h3 => ?_, fun y y' m a b c d e f => ?_⟩
  · have h4 := gOf_some.1 h3
    refine ⟨hg.lt m (List.mem_of_getElem? h4), ?_, ?_⟩
    · cases h5 : has m with
      | false => rfl
      | true =>
        have h6 := hh m h5
        have hs : (gv.take z).Sublist (gv.take y) := by
          have : gv.take z = (gv.take y).take z := by rw [List.take_take, Nat.min_eq_left h1]
          rw [this]; exact List.take_sublist _ _
        exact absurd (hs.subset h6) (key y m h3)
    · obtain ⟨zz, hz⟩ := get_ex h2
      unfold canZ
      rw [hz]
      exact hf y m zz h4 hz
  · by_cases h : y < y'
    · exact absurd (by have := gOf_some.1 e; rw [List.mem_iff_getElem?]; exact ⟨y, by rw [List.getElem?_take, if_pos h, this]⟩) (key y' m f)
    · by_cases h' : y' < y
      · exact absurd (by have := gOf_some.1 f; rw [List.mem_iff_getElem?]; exact ⟨y', by rw [List.getElem?_take, if_pos h', this]⟩) (key y m e)
      · omega
theorem szG_gOf {gv : List (Option Nat)} (hl : gv.length = list.length) : ∀ j, j ≤ list.length → manyO (gv.take (list.length - j)) + szG list (list.length - j) (gOf gv) = manyO gv
  | 0, _ => by
    rw [Nat.sub_zero, ← hl, List.take_length, hl]
    simp [szG]
  | j + 1, hj => by
    have ih := szG_gOf hl j (by omega)
    obtain ⟨o, ho⟩ := get_ex (l := gv) (k := list.length - (j + 1)) (by omega)
    have hm := manyO_succ ho
    rw [show list.length - (j + 1) + 1 = list.length - j by omega] at hm
    rw [szG_succ (by omega), show list.length - (j + 1) + 1 = list.length - j by omega]
    have hg : gOf gv (list.length - (j + 1)) = o := by unfold gOf; rw [ho]; rfl
    rw [hg]
    rw [hm] at ih
    omega
theorem own_le (hv : Valid men list) {gv : List (Option Nat)} (hg : GivOK men list gv) (hf : fairL men list gv) : manyO gv ≤ manyM men list 0 (fun _ => false) := by
  have h := szG_gOf (list := list) hg.len list.length (Nat.le_refl _)
  rw [Nat.sub_self] at h
  have := (manyM_spec hv list 0 (fun _ => false)).2 _ (gv_Gv hg hf 0 (fun _ => false) (fun m h => by cases h))
  simp [manyO] at h ⊢
  omega
theorem many_men (hv : Valid men list) : manyM men list 0 (fun _ => false) ≤ men.length := by
  rw [← mostL_many hv]
  have hg := mostL_giv hv
  have : (mostL men list).filter (·.isSome) = ((mostL men list).filter (·.isSome)).map id := by simp
  have key : ∀ l : List (Option Nat), (∀ m, some m ∈ l → m < men.length) → (∀ (k m : Nat), l[k]? = some (some m) → hasI (l.take k) (m : Int) = false) → manyO l ≤ men.length := by
    intro l hlt hnd
    have hn : ∀ j, j ≤ l.length → ((l.take j).filterMap id).Nodup ∧ ((l.take j).filterMap id).length = manyO (l.take j) := by
      intro j
      induction j with
      | zero => intro _; simp [manyO]
      | succ j ih =>
        intro hj
        obtain ⟨ih1, ih2⟩ := ih (by omega)
        obtain ⟨o, ho⟩ := get_ex (l := l) (k := j) (by omega)
        rw [manyO_succ ho, List.take_add_one, ho]
        cases o with
        | none => simpa using ⟨ih1, ih2⟩
        | some m =>
          have hm := hasI_iff.1 (hnd j m ho)
          simp only [Option.toList_some, List.filterMap_append, List.filterMap_cons, List.filterMap_nil, id, Option.isSome_some, if_true, List.length_append, List.length_singleton, ih2, and_true]
          rw [List.nodup_append]
          refine ⟨ih1, by simp, fun a ha b hb e => ?_⟩
          simp only [List.mem_singleton] at hb
          subst hb e
          obtain ⟨x, hx, rfl⟩ := List.mem_filterMap.1 ha
          exact hm hx
    have := hn l.length (Nat.le_refl _)
    rw [List.take_length] at this
    rw [← this.2]
    have h2 := nodup_sub_len (l' := List.range men.length) this.1 (fun m hm => by
      obtain ⟨x, hx, e⟩ := List.mem_filterMap.1 hm
      rw [List.mem_range]
      exact hlt m (by rw [← e]; exact hx))
    simpa using h2
  exact key _ hg.lt hg.nd
theorem mostL_take (z j : Nat) : ∃ s, (mostTo men list (z + j)).acc = (mostTo men list z).acc ++ s := by
  induction j with
  | zero => exact ⟨[], by simp⟩
  | succ j ih =>
    obtain ⟨s, hs⟩ := ih
    rw [← Nat.add_assoc, mostTo_succ]
    unfold stepMo
    split
    · split <;> exact ⟨_, by rw [hs, List.append_assoc]⟩
    · exact ⟨_, by rw [hs, List.append_assoc]⟩
/-- no other one with as many comes before it -/
theorem mostL_first (hv : Valid men list) {gv : List (Option Nat)} (hg : GivOK men list gv) (hf : fairL men list gv) (hm : manyO gv = manyM men list 0 (fun _ => false)) {z : Nat} {o o' : Option Nat}
    (hz : z < list.length) (hpre : gv.take z = (mostL men list).take z) (ho : (mostL men list)[z]? = some o) (ho' : gv[z]? = some o') : ¬ orNone o' < orNone o := by
  have hI := mostTo_I hv z (by omega)
  obtain ⟨sfx, hs⟩ := mostL_take (men := men) (list := list) (z + 1) (list.length - (z + 1))
  rw [show z + 1 + (list.length - (z + 1)) = list.length by omega] at hs
  have hml : mostL men list = (mostTo men list (z + 1)).acc ++ sfx := hs
  have hacc : (mostL men list).take z = (mostTo men list z).acc ∧ (mostTo men list (z + 1)).acc = (mostTo men list z).acc ++ [o] := by
    obtain ⟨x, hx⟩ : ∃ x, (mostTo men list (z + 1)).acc = (mostTo men list z).acc ++ [x] := by
      rw [mostTo_succ]
      unfold stepMo
      split
      · split <;> exact ⟨_, rfl⟩
      · exact ⟨_, rfl⟩
    rw [hml, hx, List.append_assoc, List.getElem?_append_right (by rw [hI.len]; omega), hI.len, Nat.sub_self] at ho
    have hxo : x = o := by simpa using ho
    subst hxo
    refine ⟨?_, hx⟩
    rw [hml, hx, List.append_assoc, List.take_left']
    exact hI.len
  rw [hacc.1] at hpre
  have hgv := gv_Gv hg hf z (mostTo men list z).has (fun m h => by rw [hpre]; exact (hI.has m).1 h)
  have hsz := szG_gOf (list := list) hg.len (list.length - z) (by omega)
  rw [show list.length - (list.length - z) = z by omega, hpre, hm] at hsz
  have hcnt := hI.cnt
  have hszr : szG list z (gOf gv) = (mostTo men list z).rest := by omega
  have h2 := hacc.2
  rw [mostTo_succ] at h2
  generalize mostTo men list z = s at hI hgv hszr h2
  have hgz : gOf gv z = o' := by unfold gOf; rw [ho']; rfl
  rw [szG_succ hz, hgz] at hszr
  unfold stepMo at h2
  by_cases hlt : manyM men list (z + 1) s.has < s.rest
  · rw [if_pos hlt] at h2
    cases o' with
    | none =>
      have := (manyM_spec hv list (z + 1) s.has).2 _ hgv.tail
      simp at hszr
      omega
    | some k' =>
      obtain ⟨k1, k2, k3⟩ := hgv.ok z k' (Nat.le_refl _) hz hgz
      have b1 := many_own hv hz hgv hgz
      have b2 := many_set hv hz k1 k2 k3
      rw [← hI.rest] at b2
      simp at hszr
      have hp : pickM men list s.has s.rest z k' = true := by simp [pickM, k2, k3]; omega
      cases hfd : (List.range men.length).find? (pickM men list s.has s.rest z) with
      | none =>
        rw [List.find?_eq_none] at hfd
        exact absurd hp (hfd k' (List.mem_range.2 k1))
      | some k =>
        rw [hfd] at h2
        have : o = some k := by simpa using h2.symm
        subst this
        rw [List.find?_range_eq_some] at hfd
        intro hh
        simp only [orNone] at hh
        have := hfd.2.2 k' (by omega)
        rw [hp] at this
        cases this
  · rw [if_neg hlt] at h2
    have : o = none := by simpa using h2.symm
    subst this
    intro hh
    cases o' <;> simp only [orNone] at hh <;> omega
/-! ### a prize more -/
theorem canZ_app {m y : Nat} (zz : Zi) (h : y < list.length) : canZ men (list ++ [zz]) m y = canZ men list m y := by
  unfold canZ; rw [List.getElem?_append_left h]
theorem szG_app (zz : Zi) (g : Nat → Option Nat) : szG (list ++ [zz]) 0 g = szG list 0 g + if (g list.length).isSome then 1 else 0 := by
  unfold szG
  rw [List.length_append, List.length_singleton, Nat.sub_zero, Nat.sub_zero, List.range'_concat, List.filter_append, List.length_append, List.filter_cons]
  simp only [Nat.zero_add, Nat.one_mul]
  split <;> simp
theorem many_more (hv : Valid men list) (zz : Zi) : manyM men list 0 (fun _ => false) ≤ manyM men (list ++ [zz]) 0 (fun _ => false) ∧ manyM men (list ++ [zz]) 0 (fun _ => false) ≤ manyM men list 0 (fun _ => false) + 1 := by
  constructor
  · obtain ⟨⟨g, hg, hs⟩, _⟩ := manyM_spec hv list 0 (fun _ => false)
    have ne : ∀ {y : Nat}, y < (list ++ [zz]).length → y ≠ list.length → y < list.length := fun h1 h2 => by rw [List.length_append, List.length_singleton] at h1; omega
    have h2 := (manyM_spec hv (list ++ [zz]) 0 (fun _ => false)).2 (setF g list.length none) ⟨fun y m h1 h2 h3 => by
      by_cases e : y = list.length
      · subst e; rw [setF_eq] at h3; cases h3
      · rw [setF_ne e] at h3; rw [canZ_app zz (ne h2 e)]; exact hg.ok y m h1 (ne h2 e) h3, fun y y' m a b c d e f => by
      by_cases e1 : y = list.length
      · subst e1; rw [setF_eq] at e; cases e
      · by_cases e2 : y' = list.length
        · subst e2; rw [setF_eq] at f; cases f
        · rw [setF_ne e1] at e; rw [setF_ne e2] at f; exact hg.inj y y' m a (ne b e1) c (ne d e2) e f⟩
    rw [szG_app, setF_eq, szG_congr (g' := g) (fun y _ h => setF_ne (by omega)), hs] at h2
    simpa using h2
  · obtain ⟨⟨g, hg, hs⟩, _⟩ := manyM_spec hv (list ++ [zz]) 0 (fun _ => false)
    have up : ∀ {y : Nat}, y < list.length → y < (list ++ [zz]).length := fun h => by rw [List.length_append, List.length_singleton]; omega
    have h2 := (manyM_spec hv list 0 (fun _ => false)).2 g ⟨fun y m h1 h2 h3 => by rw [← canZ_app zz h2]; exact hg.ok y m h1 (up h2) h3, fun y y' m a b c d e f => hg.inj y y' m a (up b) c (up d) e f⟩
    rw [szG_app] at hs
    split at hs <;> omega
end
end Go.Proofs.Pz
end
section
namespace Go.Proofs.Pz
open Go.Sx Go.RowKit
set_option linter.unusedVariables false
namespace AWM
theorem fa25_0 (a : Addr) (w : World) : (Instr.fieldAt 25 (.pointer (some a)) 0).run Try.prog w = .ok (.pointer (some (a.add 0))) w := by simp [go_sem]
theorem fa25_1 (a : Addr) (w : World) : (Instr.fieldAt 25 (.pointer (some a)) 1).run Try.prog w = .ok (.pointer (some (a.add 1))) w := by simp [go_sem]
end AWM
open AWM
theorem PrizeMost {AM AL : Option Addr} {cM bM oM cL bL oL : Nat} {men : List Wi} {list : List Zi} {w0 : World} (hM : SlP encW 4 w0 AM cM bM oM men) (hL : SlP encZ 2 w0 AL cL bL oL list) {AB : Option Addr} {cB bB oB : Nat} {by_ : List Nat} (hB : SlP encB 1 w0 AB cB bB oB by_) (hbb : ∀ y ∈ by_, y < 256) : Calls Try.prog 4 #[(.agg #[(.slice AM men.length cM), (.slice AL list.length cL)]), .slice AB by_.length cB] w0 (Ret w0 fun v _ => v = .bool true) := by
  refine enter (args := [(.agg #[(.slice AM men.length cM), (.slice AL list.length cL)]), .slice AB by_.length cB]) (S := []) Try.func4 rfl Try.ntmps4 rfl fun cs T H => ?_
  refine At.seq ?_
  refine At.region' (l := [0, 1]) rfl ?_
  refine At.new H rfl (wN rfl) rfl rfl rfl (x_box (H.r 0 rfl) rfl) ?_; clear H; intro b2 T w _ _ H
  refine At.v H rfl (wN rfl) rfl rfl rfl (x_assign evC) ?_; clear H; intro T H
  refine At.regionEnd ?_
  refine At.seq ?_
  refine At.seq ?_
  refine At.region' (l := [0, 1]) rfl ?_
  refine At.v H rfl (wN rfl) rfl rfl rfl (x_loadA (H.r 2 rfl) Try.isAgg25 Try.sizeOf25 (H.cellsAt (n := 2) (by repeat (first | exact List.mem_cons_self | apply List.mem_cons_of_mem)) rfl) rfl) ?_; clear H; intro T H
  refine At.f0 H rfl (wN rfl) rfl rfl rfl (args2 (H.r 17 rfl) evC) Try.call9 (far) ?_; clear H; rintro v18 T w rfl _ H
  by_cases hfar : 40 < men.length ∨ 40 < list.length ∨ 40 < 0
  · first | rw [decide_eq_true hfar] at H | rw [decide_eq_false hfar] at H
    refine At.regionEnd ?_
    refine At.condT (H.r 18 rfl) ?_
    refine At.seq ?_
    refine At.region' (l := [0, 1]) rfl ?_
    refine At.f0 H rfl (wN rfl) rfl rfl rfl args0 Try.call11 (awake _) ?_; clear H; rintro v19 T w rfl _ H
    refine At.v H rfl (wN rfl) rfl rfl rfl (x_assign (H.r 19 rfl)) ?_; clear H; intro T H
    refine At.regionEnd ?_
    refine At.ret rfl ?_
    exact lea Try.func4 (res1 Try.results4 (H.r 4 rfl)) (Ret.mk H.fr (rfl))
  · first | rw [decide_eq_true hfar] at H | rw [decide_eq_false hfar] at H
    refine At.regionEnd ?_
    refine At.condF (H.r 18 rfl) ?_
    refine At.skip ?_
    refine At.seq ?_
    refine At.region' (l := [0, 1, 2, 3, 4, 5, 6, 7, 8]) rfl ?_
    refine At.v H rfl (wN rfl) rfl rfl rfl (x_loadA (H.r 2 rfl) Try.isAgg25 Try.sizeOf25 (H.cellsAt (n := 2) (by repeat (first | exact List.mem_cons_self | apply List.mem_cons_of_mem)) rfl) rfl) ?_; clear H; intro T H
    by_cases hv : Valid men list
    · skip
      have hl6 := hv.l6
      have hn8 := hv.n8
      have hmm := many_men hv
      have hml := manyM_le men list 0 (fun _ => false)
      refine At.fG H rfl (wN rfl) rfl rfl rfl (args1 (H.r 21 rfl)) Try.call18 (Most (hM.fr0 H.fr) (hL.fr0 H.fr) hv) ?_; clear H; rintro v22 E22 T w ⟨A22, c22, rfl, rfl⟩ _ H
      refine At.v H rfl (wN rfl) rfl rfl rfl (x_move (H.r 22 rfl)) ?_; clear H; intro T H
      refine At.v H rfl (wN rfl) rfl rfl rfl (x_extract (H.r 20 rfl) rfl) ?_; clear H; intro T H
      refine At.v H rfl (wN rfl) rfl rfl rfl (x_extract (H.r 20 rfl) rfl) ?_; clear H; intro T H
      refine At.v H rfl (wN rfl) rfl rfl rfl (x_extract (H.r 20 rfl) rfl) ?_; clear H; intro T H
      refine At.v H rfl (wN rfl) rfl rfl rfl (x_assign (H.r 23 rfl)) ?_; clear H; intro T H
      refine At.v H rfl (wN rfl) rfl rfl rfl (x_assign (H.r 24 rfl)) ?_; clear H; intro T H
      refine At.v H rfl (wN rfl) rfl rfl rfl (x_assign (H.r 25 rfl)) ?_; clear H; intro T H
      refine At.regionEnd ?_
      refine At.seq ?_
      refine At.seq ?_
      refine At.region' (l := [0, 1, 2]) rfl ?_
      refine At.v H rfl (wN rfl) rfl rfl rfl (x_loadA (H.r 2 rfl) Try.isAgg25 Try.sizeOf25 (H.cellsAt (n := 2) (by repeat (first | exact List.mem_cons_self | apply List.mem_cons_of_mem)) rfl) rfl) ?_; clear H; intro T H
      refine At.f0 H rfl (wN rfl) rfl rfl rfl (args1 (H.r 26 rfl)) Try.call10 (Prizes (hM.fr0 H.fr) (hL.fr0 H.fr) (by omega) (by omega)) ?_; clear H; rintro v27 T w hQ27 _ H
      rcases hQ27 with ⟨rfl, _⟩ | ⟨_, hno⟩
      rotate_left
      · exact absurd hv hno
      refine At.v H rfl (wN rfl) rfl rfl rfl (x_notT (H.r 27 rfl)) ?_; clear H; intro T H
      refine At.regionEnd ?_
      refine At.condF (H.r 28 rfl) ?_
      refine At.skip ?_
      refine At.seq ?_
      refine At.region' (l := [0, 1, 2, 3, 4, 5, 6, 7, 8, 9]) rfl ?_
      refine At.v H rfl (wN rfl) rfl rfl rfl (x_loadA (H.r 2 rfl) Try.isAgg25 Try.sizeOf25 (H.cellsAt (n := 2) (by repeat (first | exact List.mem_cons_self | apply List.mem_cons_of_mem)) rfl) rfl) ?_; clear H; intro T H
      refine At.v H rfl (wN rfl) rfl rfl rfl (x_move (H.r 6 rfl)) ?_; clear H; intro T H
      refine At.fG H rfl (wN rfl) rfl rfl rfl (args2 (H.r 44 rfl) (H.r 45 rfl)) Try.call14 (Worth2 (hM.fr0 H.fr) (hL.fr0 H.fr) hv (H.rowSl (enc := encO) (by repeat (first | exact List.mem_cons_self | apply List.mem_cons_of_mem)) (fun _ => rfl) mostL_len'.symm rfl) (mostL_giv hv)) ?_; clear H; rintro v46 E46 T w ⟨A46, n46, c46, xs46, s46, e46, rfl, rfl, hn46, hw46⟩ _ H
      obtain rfl : e46 = 0 := by
        rcases hw46 with h | h
        · exact h.2.2.2
        · exact absurd (mostL_fair hv) h.1
      refine At.v H rfl (wN rfl) rfl rfl rfl (x_move (H.r 46 rfl)) ?_; clear H; intro T H
      refine At.v H rfl (wN rfl) rfl rfl rfl (x_extract (H.r 43 rfl) rfl) ?_; clear H; intro T H
      refine At.v H rfl (wN rfl) rfl rfl rfl (x_extract (H.r 43 rfl) rfl) ?_; clear H; intro T H
      refine At.v H rfl (wN rfl) rfl rfl rfl (x_extract (H.r 43 rfl) rfl) ?_; clear H; intro T H
      refine At.v H rfl (wN rfl) rfl rfl rfl (x_assign (H.r 47 rfl)) ?_; clear H; intro T H
      refine At.v H rfl (wN rfl) rfl rfl rfl (x_assign (H.r 48 rfl)) ?_; clear H; intro T H
      refine At.v H rfl (wN rfl) rfl rfl rfl (x_assign (H.r 49 rfl)) ?_; clear H; intro T H
      refine At.regionEnd ?_
      refine At.seq ?_
      refine At.region' (l := [0, 1, 2, 3, 4, 5, 6]) rfl ?_
      refine At.v H rfl (wN rfl) rfl rfl rfl (x_loadA (H.r 2 rfl) Try.isAgg25 Try.sizeOf25 (H.cellsAt (n := 2) (by repeat (first | exact List.mem_cons_self | apply List.mem_cons_of_mem)) rfl) rfl) ?_; clear H; intro T H
      refine At.fG H rfl (wN rfl) rfl rfl rfl (args1 (H.r 51 rfl)) Try.call13 (Due (hM.fr0 H.fr) (hL.fr0 H.fr) hv) ?_; clear H; rintro v52 E52 T w ⟨A52, c52, rfl, rfl⟩ _ H
      refine At.v H rfl (wN rfl) rfl rfl rfl (x_move (H.r 52 rfl)) ?_; clear H; intro T H
      refine At.v H rfl (wN rfl) rfl rfl rfl (x_extract (H.r 50 rfl) rfl) ?_; clear H; intro T H
      refine At.v H rfl (wN rfl) rfl rfl rfl (x_extract (H.r 50 rfl) rfl) ?_; clear H; intro T H
      refine At.v H rfl (wN rfl) rfl rfl rfl (x_assign (H.r 53 rfl)) ?_; clear H; intro T H
      refine At.v H rfl (wN rfl) rfl rfl rfl (x_assign (H.r 54 rfl)) ?_; clear H; intro T H
      refine At.regionEnd ?_
      refine At.seq ?_
      refine At.seq ?_
      refine At.region' (l := [0, 1, 2, 3, 4, 5, 6, 7, 8, 9, 10, 11, 12, 13, 14, 15, 16, 17, 18, 19, 20, 21, 22, 23, 24, 25, 26, 27, 28, 29, 30, 31, 32, 33, 34, 35, 36, 37, 38, 39, 40, 41, 42, 43, 44, 45, 46, 47, 48, 49, 50, 51]) rfl ?_
      refine At.v H rfl (wN rfl) rfl rfl rfl (x_move (H.r 7 rfl)) ?_; clear H; intro T H
      refine At.v (v := .bool false) H rfl (wN rfl) rfl rfl rfl (x_neq (H.r 55 rfl) evC) ?_; clear H; intro T H
      refine At.v H rfl (wN rfl) rfl rfl rfl (x_move (H.r 56 rfl)) ?_; clear H; intro T H
      refine At.v H rfl (wS H rfl rfl rfl) rfl rfl rfl (x_move (H.r 10 rfl)) ?_; clear H; intro T H
      refine At.v (v := .bool false) H rfl (wS H rfl rfl rfl) rfl rfl rfl (x_neq (H.r 58 rfl) evC) ?_; clear H; intro T H
      refine At.v H rfl (wN rfl) rfl rfl rfl (x_pickF (H.r 57 rfl) (H.r 59 rfl)) ?_; clear H; intro T H
      refine At.v H rfl (wN rfl) rfl rfl rfl (x_move (H.r 60 rfl)) ?_; clear H; intro T H
      refine At.v H rfl (wS H rfl rfl rfl) rfl rfl rfl (x_move (H.r 12 rfl)) ?_; clear H; intro T H
      refine At.v (v := .bool false) H rfl (wS H rfl rfl rfl) rfl rfl rfl (x_neq (H.r 62 rfl) evC) ?_; clear H; intro T H
      refine At.v H rfl (wN rfl) rfl rfl rfl (x_pickF (H.r 61 rfl) (H.r 63 rfl)) ?_; clear H; intro T H
      refine At.v H rfl (wN rfl) rfl rfl rfl (x_move (H.r 64 rfl)) ?_; clear H; intro T H
      refine At.v H rfl (wS H rfl rfl rfl) rfl rfl rfl (x_move (H.r 6 rfl)) ?_; clear H; intro T H
      refine At.v H rfl (wS H rfl rfl rfl) rfl rfl rfl (x_len (H.r 66 rfl) Try.runUnderlying30) ?_; clear H; intro T H
      refine At.v H rfl (wS H rfl rfl rfl) rfl rfl rfl (x_fieldAddr (H.r 2 rfl) fa25_1) ?_; clear H; intro T H
      refine At.v H rfl (wS H rfl rfl rfl) rfl rfl rfl (x_load (H.r 68 rfl) Try.isAgg23 (by first | exact H.cell (by repeat (first | exact List.mem_cons_self | apply List.mem_cons_of_mem)) _ rfl | exact H.cellR (by repeat (first | exact List.mem_cons_self | apply List.mem_cons_of_mem)) _ rfl)) ?_; clear H; intro T H
      refine At.v H rfl (wS H rfl rfl rfl) rfl rfl rfl (x_len (H.r 69 rfl) Try.runUnderlying23) ?_; clear H; intro T H
      refine At.v (v := .bool false) H rfl (wS H rfl rfl rfl) rfl rfl rfl ((x_neq (H.r 67 rfl) (H.r 70 rfl)).trans (by rw [decide_eq_false (fun h => h rfl)])) ?_; clear H; intro T H
      refine At.v H rfl (wN rfl) rfl rfl rfl (x_pickF (H.r 65 rfl) (H.r 71 rfl)) ?_; clear H; intro T H
      refine At.v H rfl (wN rfl) rfl rfl rfl (x_move (H.r 72 rfl)) ?_; clear H; intro T H
      refine At.v H rfl (wS H rfl rfl rfl) rfl rfl rfl (x_move (H.r 11 rfl)) ?_; clear H; intro T H
      refine At.v H rfl (wS H rfl rfl rfl) rfl rfl rfl (x_len (H.r 74 rfl) Try.runUnderlying30) ?_; clear H; intro T H
      refine At.v H rfl (wS H rfl rfl rfl) rfl rfl rfl (x_fieldAddr (H.r 2 rfl) fa25_1) ?_; clear H; intro T H
      refine At.v H rfl (wS H rfl rfl rfl) rfl rfl rfl (x_load (H.r 76 rfl) Try.isAgg23 (by first | exact H.cell (by repeat (first | exact List.mem_cons_self | apply List.mem_cons_of_mem)) _ rfl | exact H.cellR (by repeat (first | exact List.mem_cons_self | apply List.mem_cons_of_mem)) _ rfl)) ?_; clear H; intro T H
      refine At.v H rfl (wS H rfl rfl rfl) rfl rfl rfl (x_len (H.r 77 rfl) Try.runUnderlying23) ?_; clear H; intro T H
      refine At.v (v := .bool false) H rfl (wS H rfl rfl rfl) rfl rfl rfl ((x_neq (H.r 75 rfl) (H.r 78 rfl)).trans (by rw [decide_eq_false (fun h => h rfl)])) ?_; clear H; intro T H
      refine At.v H rfl (wN rfl) rfl rfl rfl (x_pickF (H.r 73 rfl) (H.r 79 rfl)) ?_; clear H; intro T H
      refine At.v H rfl (wN rfl) rfl rfl rfl (x_move (H.r 80 rfl)) ?_; clear H; intro T H
      refine At.v H rfl (wS H rfl rfl rfl) rfl rfl rfl (x_move (H.r 6 rfl)) ?_; clear H; intro T H
      refine At.f0 H rfl (wS H rfl rfl rfl) rfl rfl rfl (args1 (H.r 82 rfl)) Try.call19 (Many (gv := (mostL men list)) (H.rowSl (enc := encO) (by repeat (first | exact List.mem_cons_self | apply List.mem_cons_of_mem)) (fun _ => rfl) mostL_len'.symm rfl) (by rw [mostL_len']; omega)) ?_; clear H; rintro v83 T w rfl _ H
      refine At.v H rfl (wS H rfl rfl rfl) rfl rfl rfl (x_move (H.r 5 rfl)) ?_; clear H; intro T H
      refine At.v (v := .bool false) H rfl (wS H rfl rfl rfl) rfl rfl rfl ((x_neq (H.r 83 rfl) (H.r 84 rfl)).trans (by rw [decide_eq_false (fun h => h (by rw [mostL_many hv]))])) ?_; clear H; intro T H
      refine At.v H rfl (wN rfl) rfl rfl rfl (x_pickF (H.r 81 rfl) (H.r 85 rfl)) ?_; clear H; intro T H
      refine At.v H rfl (wN rfl) rfl rfl rfl (x_move (H.r 86 rfl)) ?_; clear H; intro T H
      refine At.v H rfl (wS H rfl rfl rfl) rfl rfl rfl (x_move (H.r 11 rfl)) ?_; clear H; intro T H
      refine At.f0 H rfl (wS H rfl rfl rfl) rfl rfl rfl (args1 (H.r 88 rfl)) Try.call19 (Many (gv := (dueL men list)) (H.rowSl (enc := encO) (by repeat (first | exact List.mem_cons_self | apply List.mem_cons_of_mem)) (fun _ => rfl) (dueL_len _ _).symm rfl) (by rw [dueL_len]; omega)) ?_; clear H; rintro v89 T w rfl _ H
      refine At.v H rfl (wS H rfl rfl rfl) rfl rfl rfl (x_move (H.r 5 rfl)) ?_; clear H; intro T H
      refine At.v (v := .bool false) H rfl (wS H rfl rfl rfl) rfl rfl rfl ((x_gtr (H.r 89 rfl) (H.r 90 rfl)).trans (by rw [decide_eq_false (show ¬ (((manyM men list 0 (fun _ => false)) : Int) < (manyO (dueL men list) : Int)) by have := own_le hv (dueGiv hv) (dueFair men list); omega)])) ?_; clear H; intro T H
      refine At.v H rfl (wN rfl) rfl rfl rfl (x_pickF (H.r 87 rfl) (H.r 91 rfl)) ?_; clear H; intro T H
      refine At.v H rfl (wN rfl) rfl rfl rfl (x_move (H.r 92 rfl)) ?_; clear H; intro T H
      refine At.v H rfl (wS H rfl rfl rfl) rfl rfl rfl (x_move (H.r 5 rfl)) ?_; clear H; intro T H
      refine At.v H rfl (wS H rfl rfl rfl) rfl rfl rfl (x_fieldAddr (H.r 2 rfl) fa25_0) ?_; clear H; intro T H
      refine At.v H rfl (wS H rfl rfl rfl) rfl rfl rfl (x_load (H.r 95 rfl) Try.isAgg22 (by first | exact H.cell (by repeat (first | exact List.mem_cons_self | apply List.mem_cons_of_mem)) _ rfl | exact H.cellR (by repeat (first | exact List.mem_cons_self | apply List.mem_cons_of_mem)) _ rfl)) ?_; clear H; intro T H
      refine At.v H rfl (wS H rfl rfl rfl) rfl rfl rfl (x_len (H.r 96 rfl) Try.runUnderlying22) ?_; clear H; intro T H
      refine At.v (v := .bool false) H rfl (wS H rfl rfl rfl) rfl rfl rfl ((x_gtr (H.r 94 rfl) (H.r 97 rfl)).trans (by rw [decide_eq_false (show ¬ ((men.length : Int) < ((manyM men list 0 (fun _ => false)) : Int)) by omega)])) ?_; clear H; intro T H
      refine At.v H rfl (wN rfl) rfl rfl rfl (x_pickF (H.r 93 rfl) (H.r 98 rfl)) ?_; clear H; intro T H
      refine At.v H rfl (wN rfl) rfl rfl rfl (x_move (H.r 99 rfl)) ?_; clear H; intro T H
      refine At.v H rfl (wS H rfl rfl rfl) rfl rfl rfl (x_move (H.r 5 rfl)) ?_; clear H; intro T H
      refine At.v H rfl (wS H rfl rfl rfl) rfl rfl rfl (x_fieldAddr (H.r 2 rfl) fa25_1) ?_; clear H; intro T H
      refine At.v H rfl (wS H rfl rfl rfl) rfl rfl rfl (x_load (H.r 102 rfl) Try.isAgg23 (by first | exact H.cell (by repeat (first | exact List.mem_cons_self | apply List.mem_cons_of_mem)) _ rfl | exact H.cellR (by repeat (first | exact List.mem_cons_self | apply List.mem_cons_of_mem)) _ rfl)) ?_; clear H; intro T H
      refine At.v H rfl (wS H rfl rfl rfl) rfl rfl rfl (x_len (H.r 103 rfl) Try.runUnderlying23) ?_; clear H; intro T H
      refine At.v (v := .bool false) H rfl (wS H rfl rfl rfl) rfl rfl rfl ((x_gtr (H.r 101 rfl) (H.r 104 rfl)).trans (by rw [decide_eq_false (show ¬ ((list.length : Int) < ((manyM men list 0 (fun _ => false)) : Int)) by omega)])) ?_; clear H; intro T H
      refine At.v H rfl (wN rfl) rfl rfl rfl (x_pickF (H.r 100 rfl) (H.r 105 rfl)) ?_; clear H; intro T H
      refine At.regionEnd ?_
      refine At.condF (H.r 106 rfl) ?_
      refine At.skip ?_
      refine At.seq ?_
      refine At.seq ?_
      refine At.region' (l := [0, 1, 2, 3, 4, 5, 6]) rfl ?_
      refine At.v H rfl (wN rfl) rfl rfl rfl (x_loadA (H.r 2 rfl) Try.isAgg25 Try.sizeOf25 (H.cellsAt (n := 2) (by repeat (first | exact List.mem_cons_self | apply List.mem_cons_of_mem)) rfl) rfl) ?_; clear H; intro T H
      refine At.v H rfl (wN rfl) rfl rfl rfl (x_move (H.r 1 rfl)) ?_; clear H; intro T H
      refine At.fG H rfl (wN rfl) rfl rfl rfl (args3 (H.r 107 rfl) (H.r 108 rfl) evC) Try.call12 (made (hM.fr0 H.fr) (hL.fr0 H.fr) hv (hB.fr0 H.fr) hbb true) ?_; clear H; rintro v109 E109 T w ⟨g109, c109, lm, seen, rfl, rfl, hll, hI⟩ _ H
      have hgl : GivOK men list lm := ⟨hll, hI.lt, hI.nd⟩
      have hfl := hI.fair rfl
      have hdg := dueGiv hv
      have hdf := dueFair men list
      have hdl := dueL_len men list
      refine At.v H rfl (wN rfl) rfl rfl rfl (x_move (H.r 11 rfl)) ?_; clear H; intro T H
      refine At.bs (n := 2) (L := ?l111_1) (e := ?e111_1) H rfl (wN rfl) rfl rfl rfl (x_bs2 (H.r 109 rfl) (H.r 110 rfl) ?r111_1) ?_
      case r111_1 => (simp [go_sem] <;> rfl)
      clear H; intro b111 T w H
      refine At.v H rfl (wN rfl) rfl rfl rfl (x_len (H.r 111 rfl) Try.runUnderlying44) ?_; clear H; intro T H
      refine At.v H rfl (wN rfl) rfl rfl rfl (x_move evC) ?_; clear H; intro T H
      refine At.regionEnd ?_
      refine At.block ?_
      replace H := ((H.fore PkS.nil).sub (R' := [(113, _)] ++ [(5, _), (6, _), (111, _), (112, _)]) (by repeat' (first | exact trivial | refine And.intro rfl ?_)))
      refine At.loopF H (fun μ R1 G1 => ∃ k : Nat, μ = 2 - k ∧ (k ≤ 2) ∧ R1 = [(113, .int .i64 (k : Int))] ∧ G1 = []) (2) ⟨0, by first | rfl | omega, by first | trivial | omega | exact ⟨by omega, by omega⟩, rfl, rfl⟩ ?_
      clear H; rintro _ _ _ T w ⟨k, rfl, hP0, rfl, rfl⟩ H hnext0
      simp only [List.cons_append, List.nil_append] at H
      refine At.seq ?_
      refine At.region' (l := [0]) rfl ?_
      refine At.c H rfl (wN rfl) rfl rfl rfl (x_lss (H.r 113 rfl) (H.r 112 rfl)) ?_ ?_
      · clear H; intro h114 T H
        have hk1 : k < 2 := by omega
        refine At.regionEnd ?_
        refine At.seq ?_
        refine At.condT (H.r 114 rfl) ?_
        refine At.skip ?_
        refine At.seq ?_
        refine At.block ?_
        refine At.seq ?_
        refine At.region' (l := [0, 1, 2]) rfl ?_
        refine At.v H rfl (wN rfl) rfl rfl rfl (x_ixSN (n := k) (H.r 111 rfl) (H.r 113 rfl) Try.runUnderlying44 Try.sizeOf30 hk1) ?_; clear H; intro T H
        have hk01 : k = 0 ∨ k = 1 := by omega
        rcases hk01 with hk0 | hk0
        · skip
          refine At.v H rfl (wN rfl) rfl rfl rfl (x_load (H.r 115 rfl) Try.isAgg30 (H.cell (b := b111) (by repeat (first | exact List.mem_cons_self | apply List.mem_cons_of_mem)) (0 + k * 1) (by rw [hk0]; rfl))) ?_; clear H; intro T H
          refine At.v H rfl (wN rfl) rfl rfl rfl (x_assign (H.r 116 rfl)) ?_; clear H; intro T H
          refine At.regionEnd ?_
          refine At.seq ?_
          refine At.region' (l := [0, 1, 2]) rfl ?_
          refine At.v H rfl (wN rfl) rfl rfl rfl (x_move (H.r 14 rfl)) ?_; clear H; intro T H
          refine At.f0 H rfl (wN rfl) rfl rfl rfl (args1 (H.r 117 rfl)) Try.call19 (Many (gv := lm) (H.rowSl (enc := encO) (by repeat (first | exact List.mem_cons_self | apply List.mem_cons_of_mem)) (fun _ => rfl) hll.symm rfl) (by omega)) ?_; clear H; rintro v118 T w rfl _ H
          refine At.v H rfl (wN rfl) rfl rfl rfl (x_assign (H.r 118 rfl)) ?_; clear H; intro T H
          refine At.regionEnd ?_
          refine At.seq ?_
          refine At.seq ?_
          refine At.region' (l := [0, 1, 2]) rfl ?_
          refine At.v H rfl (wN rfl) rfl rfl rfl (x_move (H.r 15 rfl)) ?_; clear H; intro T H
          refine At.v H rfl (wN rfl) rfl rfl rfl (x_move (H.r 5 rfl)) ?_; clear H; intro T H
          refine At.v (v := .bool false) H rfl (wN rfl) rfl rfl rfl ((x_gtr (H.r 119 rfl) (H.r 120 rfl)).trans (by rw [decide_eq_false (show ¬ (((manyM men list 0 (fun _ => false)) : Int) < (manyO lm : Int)) by have := own_le hv hgl hfl; omega)])) ?_; clear H; intro T H
          refine At.regionEnd ?_
          refine At.condF (H.r 121 rfl) ?_
          refine At.skip ?_
          refine At.seq ?_
          refine At.region' (l := [0, 1, 2]) rfl ?_
          refine At.v H rfl (wN rfl) rfl rfl rfl (x_move (H.r 14 rfl)) ?_; clear H; intro T H
          refine At.v H rfl (wN rfl) rfl rfl rfl (x_len (H.r 122 rfl) Try.runUnderlying30) ?_; clear H; intro T H
          refine At.v H rfl (wN rfl) rfl rfl rfl (x_move evC) ?_; clear H; intro T H
          refine At.regionEnd ?_
          refine At.block ?_
          replace H := ((H.fore PkS.nil).sub (R' := [(124, _)] ++ [(5, _), (6, _), (14, _), (15, _), (111, _), (112, _), (113, _), (123, _)]) (by repeat' (first | exact trivial | refine And.intro rfl ?_)))
          refine At.loopF H (fun μ R1 G1 => ∃ j : Nat, μ = list.length - j ∧ (j ≤ list.length ∧ lm.take j = (mostL men list).take j) ∧ R1 = [(124, .int .i64 (j : Int))] ∧ G1 = []) (list.length) ⟨0, by first | rfl | omega, ⟨by omega, by simp⟩, rfl, rfl⟩ ?_
          clear H; rintro _ _ _ T w ⟨j, rfl, ⟨hj, hE⟩, rfl, rfl⟩ H hnext1
          simp only [List.cons_append, List.nil_append] at H
          refine At.seq ?_
          refine At.region' (l := [0]) rfl ?_
          refine At.c H rfl (wN rfl) rfl rfl rfl (x_lss (H.r 124 rfl) (H.r 123 rfl)) ?_ ?_
          · clear H; intro h125 T H
            have hj1 : j < list.length := by omega
            obtain ⟨o, ho⟩ := get_ex (l := lm) (k := j) (by omega)
            obtain ⟨o2, ho2⟩ := get_ex (l := (mostL men list)) (k := j) (by rw [mostL_len']; omega)
            obtain ⟨g22, rfl⟩ := H.rowAddr (A := A22) (by repeat (first | exact List.mem_cons_self | apply List.mem_cons_of_mem)) (by omega)
            refine At.regionEnd ?_
            refine At.seq ?_
            refine At.condT (H.r 125 rfl) ?_
            refine At.skip ?_
            refine At.seq ?_
            refine At.block ?_
            refine At.seq ?_
            refine At.region' (l := [0, 1]) rfl ?_
            refine At.v H rfl (wN rfl) rfl rfl rfl (x_move (H.r 124 rfl)) ?_; clear H; intro T H
            refine At.v H rfl (wN rfl) rfl rfl rfl (x_assign (H.r 126 rfl)) ?_; clear H; intro T H
            refine At.regionEnd ?_
            refine At.seq ?_
            refine At.drawnC (m := 9) (L := #[false, false, false, false, false, false, false, false, false]) H mixed rfl rfl ?_; clear H; intro w H
            refine GA.v (i := 0) (L' := #[true, false, false, false, false, false, false, false, false]) H rfl (wN rfl) rfl rfl rfl (by kernel_rfl) rfl (fun w H => x_move (H.r 14 rfl)) ?_; clear H; intro T H
            refine GA.v (i := 1) (L' := #[true, true, false, false, false, false, false, false, false]) H rfl (wN rfl) rfl rfl rfl (by kernel_rfl) rfl (fun w H => x_move (H.r 16 rfl)) ?_; clear H; intro T H
            refine GA.v (i := 2) (L' := #[true, true, true, false, false, false, false, false, false]) H rfl (wN rfl) rfl rfl rfl (by kernel_rfl) rfl (fun w H => x_ixSN (H.r 127 rfl) (H.r 128 rfl) Try.runUnderlying30 Try.sizeOf3 (by omega)) ?_; clear H; intro T H
            refine GA.v (i := 3) (L' := #[true, true, true, true, false, false, false, false, false]) H rfl (wN rfl) rfl rfl rfl (by kernel_rfl) rfl (fun w H => x_load (H.r 129 rfl) Try.isAgg3 (by rw [show 0 + j * 1 = j by omega]; exact H.rowCell (g := g109) (by repeat (first | exact List.mem_cons_self | apply List.mem_cons_of_mem)) j (flatO_at ho))) ?_; clear H; intro T H
            refine GA.v (i := 4) (L' := #[true, true, true, true, true, false, false, false, false]) H rfl (wN rfl) rfl rfl rfl (by kernel_rfl) rfl (fun w H => x_move (H.r 6 rfl)) ?_; clear H; intro T H
            refine GA.v (i := 5) (L' := #[true, true, true, true, true, true, false, false, false]) H rfl (wN rfl) rfl rfl rfl (by kernel_rfl) rfl (fun w H => x_move (H.r 16 rfl)) ?_; clear H; intro T H
            refine GA.v (i := 6) (L' := #[true, true, true, true, true, true, true, false, false]) H rfl (wN rfl) rfl rfl rfl (by kernel_rfl) rfl (fun w H => x_ixSN (H.r 131 rfl) (H.r 132 rfl) Try.runUnderlying30 Try.sizeOf3 (by omega)) ?_; clear H; intro T H
            refine GA.v (i := 7) (L' := #[true, true, true, true, true, true, true, true, false]) H rfl (wN rfl) rfl rfl rfl (by kernel_rfl) rfl (fun w H => x_load (H.r 133 rfl) Try.isAgg3 (by rw [show 0 + j * 1 = j by omega]; exact H.rowCell (g := g22) (by repeat (first | exact List.mem_cons_self | apply List.mem_cons_of_mem)) j (flatO_at ho2))) ?_; clear H; intro T H
            refine GA.c (i := 8) (L' := #[true, true, true, true, true, true, true, true, true]) H rfl (wN rfl) rfl rfl rfl (by kernel_rfl) rfl (fun w H => x_neq (H.r 130 rfl) (H.r 134 rfl)) ?_ ?_
            · clear H; intro h135 T H
              refine GA.done (by kernel_rfl) ?_
              refine At.condT (H.r 135 rfl) ?_
              refine At.seq ?_
              refine At.seq ?_
              refine At.drawnC (m := 14) (L := #[false, false, false, false, false, false, false, false, false, false, false, false, false, false]) H mixed rfl rfl ?_; clear H; intro w H
              refine GA.v (i := 0) (L' := #[true, false, false, false, false, false, false, false, false, false, false, false, false, false]) H rfl (wN rfl) rfl rfl rfl (by kernel_rfl) rfl (fun w H => x_move (H.r 15 rfl)) ?_; clear H; intro T H
              refine GA.v (i := 1) (L' := #[true, true, false, false, false, false, false, false, false, false, false, false, false, false]) H rfl (wN rfl) rfl rfl rfl (by kernel_rfl) rfl (fun w H => x_move (H.r 5 rfl)) ?_; clear H; intro T H
              refine GA.c (i := 2) (L' := #[true, true, true, false, false, false, false, false, false, false, false, false, false, false]) H rfl (wN rfl) rfl rfl rfl (by kernel_rfl) rfl (fun w H => x_eql (H.r 136 rfl) (H.r 137 rfl)) ?_ ?_
              · clear H; intro h138 T H
                have hmn : manyO lm = (manyM men list 0 (fun _ => false)) := by omega
                refine GA.v (i := 3) (L' := #[true, true, true, true, false, false, false, false, false, false, false, false, false, false]) H rfl (wN rfl) rfl rfl rfl (by kernel_rfl) rfl (fun w H => x_move (H.r 138 rfl)) ?_; clear H; intro T H
                refine GA.v (i := 4) (L' := #[true, true, true, true, true, false, false, false, false, false, false, false, false, false]) H rfl (wS H rfl rfl rfl) rfl rfl rfl (by kernel_rfl) rfl (fun w H => x_move (H.r 14 rfl)) ?_; clear H; intro T H
                refine GA.v (i := 5) (L' := #[true, true, true, true, true, true, false, false, false, false, false, false, false, false]) H rfl (wS H rfl rfl rfl) rfl rfl rfl (by kernel_rfl) rfl (fun w H => x_move (H.r 16 rfl)) ?_; clear H; intro T H
                refine GA.v (i := 6) (L' := #[true, true, true, true, true, true, true, false, false, false, false, false, false, false]) H rfl (wS H rfl rfl rfl) rfl rfl rfl (by kernel_rfl) rfl (fun w H => x_ixSN (H.r 140 rfl) (H.r 141 rfl) Try.runUnderlying30 Try.sizeOf3 (by omega)) ?_; clear H; intro T H
                refine GA.v (i := 7) (L' := #[true, true, true, true, true, true, true, true, false, false, false, false, false, false]) H rfl (wS H rfl rfl rfl) rfl rfl rfl (by kernel_rfl) rfl (fun w H => x_load (H.r 142 rfl) Try.isAgg3 (by rw [show 0 + j * 1 = j by omega]; exact H.rowCell (g := g109) (by repeat (first | exact List.mem_cons_self | apply List.mem_cons_of_mem)) j (flatO_at ho))) ?_; clear H; intro T H
                refine GA.v (i := 8) (L' := #[true, true, true, true, true, true, true, true, true, false, false, false, false, false]) H rfl (wS H rfl rfl rfl) rfl rfl rfl (by kernel_rfl) rfl (fun w H => x_move (H.r 6 rfl)) ?_; clear H; intro T H
                refine GA.v (i := 9) (L' := #[true, true, true, true, true, true, true, true, true, true, false, false, false, false]) H rfl (wS H rfl rfl rfl) rfl rfl rfl (by kernel_rfl) rfl (fun w H => x_move (H.r 16 rfl)) ?_; clear H; intro T H
                refine GA.v (i := 10) (L' := #[true, true, true, true, true, true, true, true, true, true, true, false, false, false]) H rfl (wS H rfl rfl rfl) rfl rfl rfl (by kernel_rfl) rfl (fun w H => x_ixSN (H.r 144 rfl) (H.r 145 rfl) Try.runUnderlying30 Try.sizeOf3 (by omega)) ?_; clear H; intro T H
                refine GA.v (i := 11) (L' := #[true, true, true, true, true, true, true, true, true, true, true, true, false, false]) H rfl (wS H rfl rfl rfl) rfl rfl rfl (by kernel_rfl) rfl (fun w H => x_load (H.r 146 rfl) Try.isAgg3 (by rw [show 0 + j * 1 = j by omega]; exact H.rowCell (g := g22) (by repeat (first | exact List.mem_cons_self | apply List.mem_cons_of_mem)) j (flatO_at ho2))) ?_; clear H; intro T H
                refine GA.v (v := .bool false) (i := 12) (L' := #[true, true, true, true, true, true, true, true, true, true, true, true, true, false]) H rfl (wS H rfl rfl rfl) rfl rfl rfl (by kernel_rfl) rfl (fun w H => (x_lss (H.r 143 rfl) (H.r 147 rfl)).trans (by rw [decide_eq_false (mostL_first hv hgl hfl hmn hj1 hE ho2 ho)])) ?_; clear H; intro T H
                refine GA.v (i := 13) (L' := #[true, true, true, true, true, true, true, true, true, true, true, true, true, true]) H rfl (wN rfl) rfl rfl rfl (by kernel_rfl) rfl (fun w H => x_pickT (H.r 139 rfl) (H.r 148 rfl)) ?_; clear H; intro T H
                refine GA.done (by kernel_rfl) ?_
                refine At.condF (H.r 149 rfl) ?_
                refine At.skip ?_
                refine At.exit rfl ?_
                refine At.inBlock ?_
                refine At.region' (l := [0, 1]) rfl ?_
                refine At.v H rfl (wN rfl) rfl rfl rfl (x_add (H.r 113 rfl) evC (w64 (by omega) (by omega))) ?_; clear H; intro T H
                refine At.v H rfl (wN rfl) rfl rfl rfl (x_move (H.r 151 rfl)) ?_; clear H; intro T H
                refine At.regionEnd ?_
                exact hnext0 _ _ _ _ _ (by omega) ⟨k + 1, rfl, by first | trivial | omega | exact ⟨by omega, by omega⟩, rfl, rfl⟩ (by simp only [List.cons_append, List.nil_append]; exact (H.pk (by repeat (first | exact Pk.nil | exact Pk.all | refine Pk.cons (by repeat (first | exact Take.here | apply Take.there)) ?_ | apply Pk.skip))).sub (by repeat' (first | exact trivial | refine And.intro rfl ?_)))
              · clear H; intro h138 T H
                refine GA.v (i := 3) (L' := #[true, true, true, true, false, false, false, false, false, false, false, false, false, false]) H rfl (wN rfl) rfl rfl rfl (by kernel_rfl) rfl (fun w H => x_move (H.r 138 rfl)) ?_; clear H; intro T H
                refine GA.u (i := 4) (L' := #[true, true, true, true, true, false, false, false, false, false, false, false, false, false]) H rfl (wU H rfl rfl rfl rfl) rfl rfl (by kernel_rfl) rfl ?_; clear H; intro T H
                refine GA.u (i := 5) (L' := #[true, true, true, true, true, true, false, false, false, false, false, false, false, false]) H rfl (wU H rfl rfl rfl rfl) rfl rfl (by kernel_rfl) rfl ?_; clear H; intro T H
                refine GA.u (i := 6) (L' := #[true, true, true, true, true, true, true, false, false, false, false, false, false, false]) H rfl (wU H rfl rfl rfl rfl) rfl rfl (by kernel_rfl) rfl ?_; clear H; intro T H
                refine GA.u (i := 7) (L' := #[true, true, true, true, true, true, true, true, false, false, false, false, false, false]) H rfl (wU H rfl rfl rfl rfl) rfl rfl (by kernel_rfl) rfl ?_; clear H; intro T H
                refine GA.u (i := 8) (L' := #[true, true, true, true, true, true, true, true, true, false, false, false, false, false]) H rfl (wU H rfl rfl rfl rfl) rfl rfl (by kernel_rfl) rfl ?_; clear H; intro T H
                refine GA.u (i := 9) (L' := #[true, true, true, true, true, true, true, true, true, true, false, false, false, false]) H rfl (wU H rfl rfl rfl rfl) rfl rfl (by kernel_rfl) rfl ?_; clear H; intro T H
                refine GA.u (i := 10) (L' := #[true, true, true, true, true, true, true, true, true, true, true, false, false, false]) H rfl (wU H rfl rfl rfl rfl) rfl rfl (by kernel_rfl) rfl ?_; clear H; intro T H
                refine GA.u (i := 11) (L' := #[true, true, true, true, true, true, true, true, true, true, true, true, false, false]) H rfl (wU H rfl rfl rfl rfl) rfl rfl (by kernel_rfl) rfl ?_; clear H; intro T H
                refine GA.u (i := 12) (L' := #[true, true, true, true, true, true, true, true, true, true, true, true, true, false]) H rfl (wU H rfl rfl rfl rfl) rfl rfl (by kernel_rfl) rfl ?_; clear H; intro T H
                refine GA.v (i := 13) (L' := #[true, true, true, true, true, true, true, true, true, true, true, true, true, true]) H rfl (wN rfl) rfl rfl rfl (by kernel_rfl) rfl (fun w H => x_pickF (H.r 139 rfl) evC) ?_; clear H; intro T H
                refine GA.done (by kernel_rfl) ?_
                refine At.condF (H.r 149 rfl) ?_
                refine At.skip ?_
                refine At.exit rfl ?_
                refine At.inBlock ?_
                refine At.region' (l := [0, 1]) rfl ?_
                refine At.v H rfl (wN rfl) rfl rfl rfl (x_add (H.r 113 rfl) evC (w64 (by omega) (by omega))) ?_; clear H; intro T H
                refine At.v H rfl (wN rfl) rfl rfl rfl (x_move (H.r 151 rfl)) ?_; clear H; intro T H
                refine At.regionEnd ?_
                exact hnext0 _ _ _ _ _ (by omega) ⟨k + 1, rfl, by first | trivial | omega | exact ⟨by omega, by omega⟩, rfl, rfl⟩ (by simp only [List.cons_append, List.nil_append]; exact (H.pk (by repeat (first | exact Pk.nil | exact Pk.all | refine Pk.cons (by repeat (first | exact Take.here | apply Take.there)) ?_ | apply Pk.skip))).sub (by repeat' (first | exact trivial | refine And.intro rfl ?_)))
            · clear H; intro h135 T H
              refine GA.done (by kernel_rfl) ?_
              refine At.condF (H.r 135 rfl) ?_
              refine At.skip ?_
              refine At.inBlock ?_
              refine At.region' (l := [0, 1]) rfl ?_
              refine At.v H rfl (wN rfl) rfl rfl rfl (x_add (H.r 124 rfl) evC (w64 (by omega) (by omega))) ?_; clear H; intro T H
              refine At.v H rfl (wN rfl) rfl rfl rfl (x_move (H.r 150 rfl)) ?_; clear H; intro T H
              refine At.regionEnd ?_
              exact hnext1 _ _ _ _ _ (by omega) ⟨j + 1, rfl, ⟨by omega, take_eq_succ hE ho (by rw [ho2, orNone_inj.1 (Classical.not_not.1 h135)])⟩, rfl, rfl⟩ (by simp only [List.cons_append, List.nil_append]; exact (H.pk (by repeat (first | exact Pk.nil | exact Pk.all | refine Pk.cons (by repeat (first | exact Take.here | apply Take.there)) ?_ | apply Pk.skip))).sub (by repeat' (first | exact trivial | refine And.intro rfl ?_)))
          · clear H; intro h125 T H
            obtain rfl : list.length = j := by omega
            refine At.regionEnd ?_
            refine At.seq ?_
            refine At.condF (H.r 125 rfl) ?_
            refine At.exit rfl ?_
            refine At.inBlock ?_
            refine At.region' (l := [0, 1]) rfl ?_
            refine At.v H rfl (wN rfl) rfl rfl rfl (x_add (H.r 113 rfl) evC (w64 (by omega) (by omega))) ?_; clear H; intro T H
            refine At.v H rfl (wN rfl) rfl rfl rfl (x_move (H.r 151 rfl)) ?_; clear H; intro T H
            refine At.regionEnd ?_
            exact hnext0 _ _ _ _ _ (by omega) ⟨k + 1, rfl, by first | trivial | omega | exact ⟨by omega, by omega⟩, rfl, rfl⟩ (by simp only [List.cons_append, List.nil_append]; exact (H.pk (by repeat (first | exact Pk.nil | exact Pk.all | refine Pk.cons (by repeat (first | exact Take.here | apply Take.there)) ?_ | apply Pk.skip))).sub (by repeat' (first | exact trivial | refine And.intro rfl ?_)))
        · skip
          refine At.v H rfl (wN rfl) rfl rfl rfl (x_load (H.r 115 rfl) Try.isAgg30 (H.cell (b := b111) (by repeat (first | exact List.mem_cons_self | apply List.mem_cons_of_mem)) (0 + k * 1) (by rw [hk0]; rfl))) ?_; clear H; intro T H
          refine At.v H rfl (wN rfl) rfl rfl rfl (x_assign (H.r 116 rfl)) ?_; clear H; intro T H
          refine At.regionEnd ?_
          refine At.seq ?_
          refine At.region' (l := [0, 1, 2]) rfl ?_
          refine At.v H rfl (wN rfl) rfl rfl rfl (x_move (H.r 14 rfl)) ?_; clear H; intro T H
          refine At.f0 H rfl (wN rfl) rfl rfl rfl (args1 (H.r 117 rfl)) Try.call19 (Many (gv := (dueL men list)) (H.rowSl (enc := encO) (by repeat (first | exact List.mem_cons_self | apply List.mem_cons_of_mem)) (fun _ => rfl) hdl.symm rfl) (by omega)) ?_; clear H; rintro v118 T w rfl _ H
          refine At.v H rfl (wN rfl) rfl rfl rfl (x_assign (H.r 118 rfl)) ?_; clear H; intro T H
          refine At.regionEnd ?_
          refine At.seq ?_
          refine At.seq ?_
          refine At.region' (l := [0, 1, 2]) rfl ?_
          refine At.v H rfl (wN rfl) rfl rfl rfl (x_move (H.r 15 rfl)) ?_; clear H; intro T H
          refine At.v H rfl (wN rfl) rfl rfl rfl (x_move (H.r 5 rfl)) ?_; clear H; intro T H
          refine At.v (v := .bool false) H rfl (wN rfl) rfl rfl rfl ((x_gtr (H.r 119 rfl) (H.r 120 rfl)).trans (by rw [decide_eq_false (show ¬ (((manyM men list 0 (fun _ => false)) : Int) < (manyO (dueL men list) : Int)) by have := own_le hv hdg hdf; omega)])) ?_; clear H; intro T H
          refine At.regionEnd ?_
          refine At.condF (H.r 121 rfl) ?_
          refine At.skip ?_
          refine At.seq ?_
          refine At.region' (l := [0, 1, 2]) rfl ?_
          refine At.v H rfl (wN rfl) rfl rfl rfl (x_move (H.r 14 rfl)) ?_; clear H; intro T H
          refine At.v H rfl (wN rfl) rfl rfl rfl (x_len (H.r 122 rfl) Try.runUnderlying30) ?_; clear H; intro T H
          refine At.v H rfl (wN rfl) rfl rfl rfl (x_move evC) ?_; clear H; intro T H
          refine At.regionEnd ?_
          refine At.block ?_
          replace H := ((H.fore PkS.nil).sub (R' := [(124, _)] ++ [(5, _), (6, _), (14, _), (15, _), (111, _), (112, _), (113, _), (123, _)]) (by repeat' (first | exact trivial | refine And.intro rfl ?_)))
          refine At.loopF H (fun μ R1 G1 => ∃ j : Nat, μ = list.length - j ∧ (j ≤ list.length ∧ (dueL men list).take j = (mostL men list).take j) ∧ R1 = [(124, .int .i64 (j : Int))] ∧ G1 = []) (list.length) ⟨0, by first | rfl | omega, ⟨by omega, by simp⟩, rfl, rfl⟩ ?_
          clear H; rintro _ _ _ T w ⟨j, rfl, ⟨hj, hE⟩, rfl, rfl⟩ H hnext1
          simp only [List.cons_append, List.nil_append] at H
          refine At.seq ?_
          refine At.region' (l := [0]) rfl ?_
          refine At.c H rfl (wN rfl) rfl rfl rfl (x_lss (H.r 124 rfl) (H.r 123 rfl)) ?_ ?_
          · clear H; intro h125 T H
            have hj1 : j < list.length := by omega
            obtain ⟨o, ho⟩ := get_ex (l := (dueL men list)) (k := j) (by omega)
            obtain ⟨o2, ho2⟩ := get_ex (l := (mostL men list)) (k := j) (by rw [mostL_len']; omega)
            obtain ⟨g22, rfl⟩ := H.rowAddr (A := A22) (by repeat (first | exact List.mem_cons_self | apply List.mem_cons_of_mem)) (by omega)
            obtain ⟨g52, rfl⟩ := H.rowAddr (A := A52) (by repeat (first | exact List.mem_cons_self | apply List.mem_cons_of_mem)) (by omega)
            refine At.regionEnd ?_
            refine At.seq ?_
            refine At.condT (H.r 125 rfl) ?_
            refine At.skip ?_
            refine At.seq ?_
            refine At.block ?_
            refine At.seq ?_
            refine At.region' (l := [0, 1]) rfl ?_
            refine At.v H rfl (wN rfl) rfl rfl rfl (x_move (H.r 124 rfl)) ?_; clear H; intro T H
            refine At.v H rfl (wN rfl) rfl rfl rfl (x_assign (H.r 126 rfl)) ?_; clear H; intro T H
            refine At.regionEnd ?_
            refine At.seq ?_
            refine At.drawnC (m := 9) (L := #[false, false, false, false, false, false, false, false, false]) H mixed rfl rfl ?_; clear H; intro w H
            refine GA.v (i := 0) (L' := #[true, false, false, false, false, false, false, false, false]) H rfl (wN rfl) rfl rfl rfl (by kernel_rfl) rfl (fun w H => x_move (H.r 14 rfl)) ?_; clear H; intro T H
            refine GA.v (i := 1) (L' := #[true, true, false, false, false, false, false, false, false]) H rfl (wN rfl) rfl rfl rfl (by kernel_rfl) rfl (fun w H => x_move (H.r 16 rfl)) ?_; clear H; intro T H
            refine GA.v (i := 2) (L' := #[true, true, true, false, false, false, false, false, false]) H rfl (wN rfl) rfl rfl rfl (by kernel_rfl) rfl (fun w H => x_ixSN (H.r 127 rfl) (H.r 128 rfl) Try.runUnderlying30 Try.sizeOf3 (by omega)) ?_; clear H; intro T H
            refine GA.v (i := 3) (L' := #[true, true, true, true, false, false, false, false, false]) H rfl (wN rfl) rfl rfl rfl (by kernel_rfl) rfl (fun w H => x_load (H.r 129 rfl) Try.isAgg3 (by rw [show 0 + j * 1 = j by omega]; exact H.rowCell (g := g52) (by repeat (first | exact List.mem_cons_self | apply List.mem_cons_of_mem)) j (flatO_at ho))) ?_; clear H; intro T H
            refine GA.v (i := 4) (L' := #[true, true, true, true, true, false, false, false, false]) H rfl (wN rfl) rfl rfl rfl (by kernel_rfl) rfl (fun w H => x_move (H.r 6 rfl)) ?_; clear H; intro T H
            refine GA.v (i := 5) (L' := #[true, true, true, true, true, true, false, false, false]) H rfl (wN rfl) rfl rfl rfl (by kernel_rfl) rfl (fun w H => x_move (H.r 16 rfl)) ?_; clear H; intro T H
            refine GA.v (i := 6) (L' := #[true, true, true, true, true, true, true, false, false]) H rfl (wN rfl) rfl rfl rfl (by kernel_rfl) rfl (fun w H => x_ixSN (H.r 131 rfl) (H.r 132 rfl) Try.runUnderlying30 Try.sizeOf3 (by omega)) ?_; clear H; intro T H
            refine GA.v (i := 7) (L' := #[true, true, true, true, true, true, true, true, false]) H rfl (wN rfl) rfl rfl rfl (by kernel_rfl) rfl (fun w H => x_load (H.r 133 rfl) Try.isAgg3 (by rw [show 0 + j * 1 = j by omega]; exact H.rowCell (g := g22) (by repeat (first | exact List.mem_cons_self | apply List.mem_cons_of_mem)) j (flatO_at ho2))) ?_; clear H; intro T H
            refine GA.c (i := 8) (L' := #[true, true, true, true, true, true, true, true, true]) H rfl (wN rfl) rfl rfl rfl (by kernel_rfl) rfl (fun w H => x_neq (H.r 130 rfl) (H.r 134 rfl)) ?_ ?_
            · clear H; intro h135 T H
              refine GA.done (by kernel_rfl) ?_
              refine At.condT (H.r 135 rfl) ?_
              refine At.seq ?_
              refine At.seq ?_
              refine At.drawnC (m := 14) (L := #[false, false, false, false, false, false, false, false, false, false, false, false, false, false]) H mixed rfl rfl ?_; clear H; intro w H
              refine GA.v (i := 0) (L' := #[true, false, false, false, false, false, false, false, false, false, false, false, false, false]) H rfl (wN rfl) rfl rfl rfl (by kernel_rfl) rfl (fun w H => x_move (H.r 15 rfl)) ?_; clear H; intro T H
              refine GA.v (i := 1) (L' := #[true, true, false, false, false, false, false, false, false, false, false, false, false, false]) H rfl (wN rfl) rfl rfl rfl (by kernel_rfl) rfl (fun w H => x_move (H.r 5 rfl)) ?_; clear H; intro T H
              refine GA.c (i := 2) (L' := #[true, true, true, false, false, false, false, false, false, false, false, false, false, false]) H rfl (wN rfl) rfl rfl rfl (by kernel_rfl) rfl (fun w H => x_eql (H.r 136 rfl) (H.r 137 rfl)) ?_ ?_
              · clear H; intro h138 T H
                have hmn : manyO (dueL men list) = (manyM men list 0 (fun _ => false)) := by omega
                refine GA.v (i := 3) (L' := #[true, true, true, true, false, false, false, false, false, false, false, false, false, false]) H rfl (wN rfl) rfl rfl rfl (by kernel_rfl) rfl (fun w H => x_move (H.r 138 rfl)) ?_; clear H; intro T H
                refine GA.v (i := 4) (L' := #[true, true, true, true, true, false, false, false, false, false, false, false, false, false]) H rfl (wS H rfl rfl rfl) rfl rfl rfl (by kernel_rfl) rfl (fun w H => x_move (H.r 14 rfl)) ?_; clear H; intro T H
                refine GA.v (i := 5) (L' := #[true, true, true, true, true, true, false, false, false, false, false, false, false, false]) H rfl (wS H rfl rfl rfl) rfl rfl rfl (by kernel_rfl) rfl (fun w H => x_move (H.r 16 rfl)) ?_; clear H; intro T H
                refine GA.v (i := 6) (L' := #[true, true, true, true, true, true, true, false, false, false, false, false, false, false]) H rfl (wS H rfl rfl rfl) rfl rfl rfl (by kernel_rfl) rfl (fun w H => x_ixSN (H.r 140 rfl) (H.r 141 rfl) Try.runUnderlying30 Try.sizeOf3 (by omega)) ?_; clear H; intro T H
                refine GA.v (i := 7) (L' := #[true, true, true, true, true, true, true, true, false, false, false, false, false, false]) H rfl (wS H rfl rfl rfl) rfl rfl rfl (by kernel_rfl) rfl (fun w H => x_load (H.r 142 rfl) Try.isAgg3 (by rw [show 0 + j * 1 = j by omega]; exact H.rowCell (g := g52) (by repeat (first | exact List.mem_cons_self | apply List.mem_cons_of_mem)) j (flatO_at ho))) ?_; clear H; intro T H
                refine GA.v (i := 8) (L' := #[true, true, true, true, true, true, true, true, true, false, false, false, false, false]) H rfl (wS H rfl rfl rfl) rfl rfl rfl (by kernel_rfl) rfl (fun w H => x_move (H.r 6 rfl)) ?_; clear H; intro T H
                refine GA.v (i := 9) (L' := #[true, true, true, true, true, true, true, true, true, true, false, false, false, false]) H rfl (wS H rfl rfl rfl) rfl rfl rfl (by kernel_rfl) rfl (fun w H => x_move (H.r 16 rfl)) ?_; clear H; intro T H
                refine GA.v (i := 10) (L' := #[true, true, true, true, true, true, true, true, true, true, true, false, false, false]) H rfl (wS H rfl rfl rfl) rfl rfl rfl (by kernel_rfl) rfl (fun w H => x_ixSN (H.r 144 rfl) (H.r 145 rfl) Try.runUnderlying30 Try.sizeOf3 (by omega)) ?_; clear H; intro T H
                refine GA.v (i := 11) (L' := #[true, true, true, true, true, true, true, true, true, true, true, true, false, false]) H rfl (wS H rfl rfl rfl) rfl rfl rfl (by kernel_rfl) rfl (fun w H => x_load (H.r 146 rfl) Try.isAgg3 (by rw [show 0 + j * 1 = j by omega]; exact H.rowCell (g := g22) (by repeat (first | exact List.mem_cons_self | apply List.mem_cons_of_mem)) j (flatO_at ho2))) ?_; clear H; intro T H
                refine GA.v (v := .bool false) (i := 12) (L' := #[true, true, true, true, true, true, true, true, true, true, true, true, true, false]) H rfl (wS H rfl rfl rfl) rfl rfl rfl (by kernel_rfl) rfl (fun w H => (x_lss (H.r 143 rfl) (H.r 147 rfl)).trans (by rw [decide_eq_false (mostL_first hv hdg hdf hmn hj1 hE ho2 ho)])) ?_; clear H; intro T H
                refine GA.v (i := 13) (L' := #[true, true, true, true, true, true, true, true, true, true, true, true, true, true]) H rfl (wN rfl) rfl rfl rfl (by kernel_rfl) rfl (fun w H => x_pickT (H.r 139 rfl) (H.r 148 rfl)) ?_; clear H; intro T H
                refine GA.done (by kernel_rfl) ?_
                refine At.condF (H.r 149 rfl) ?_
                refine At.skip ?_
                refine At.exit rfl ?_
                refine At.inBlock ?_
                refine At.region' (l := [0, 1]) rfl ?_
                refine At.v H rfl (wN rfl) rfl rfl rfl (x_add (H.r 113 rfl) evC (w64 (by omega) (by omega))) ?_; clear H; intro T H
                refine At.v H rfl (wN rfl) rfl rfl rfl (x_move (H.r 151 rfl)) ?_; clear H; intro T H
                refine At.regionEnd ?_
                exact hnext0 _ _ _ _ _ (by omega) ⟨k + 1, rfl, by first | trivial | omega | exact ⟨by omega, by omega⟩, rfl, rfl⟩ (by simp only [List.cons_append, List.nil_append]; exact (H.pk (by repeat (first | exact Pk.nil | exact Pk.all | refine Pk.cons (by repeat (first | exact Take.here | apply Take.there)) ?_ | apply Pk.skip))).sub (by repeat' (first | exact trivial | refine And.intro rfl ?_)))
              · clear H; intro h138 T H
                refine GA.v (i := 3) (L' := #[true, true, true, true, false, false, false, false, false, false, false, false, false, false]) H rfl (wN rfl) rfl rfl rfl (by kernel_rfl) rfl (fun w H => x_move (H.r 138 rfl)) ?_; clear H; intro T H
                refine GA.u (i := 4) (L' := #[true, true, true, true, true, false, false, false, false, false, false, false, false, false]) H rfl (wU H rfl rfl rfl rfl) rfl rfl (by kernel_rfl) rfl ?_; clear H; intro T H
                refine GA.u (i := 5) (L' := #[true, true, true, true, true, true, false, false, false, false, false, false, false, false]) H rfl (wU H rfl rfl rfl rfl) rfl rfl (by kernel_rfl) rfl ?_; clear H; intro T H
                refine GA.u (i := 6) (L' := #[true, true, true, true, true, true, true, false, false, false, false, false, false, false]) H rfl (wU H rfl rfl rfl rfl) rfl rfl (by kernel_rfl) rfl ?_; clear H; intro T H
                refine GA.u (i := 7) (L' := #[true, true, true, true, true, true, true, true, false, false, false, false, false, false]) H rfl (wU H rfl rfl rfl rfl) rfl rfl (by kernel_rfl) rfl ?_; clear H; intro T H
                refine GA.u (i := 8) (L' := #[true, true, true, true, true, true, true, true, true, false, false, false, false, false]) H rfl (wU H rfl rfl rfl rfl) rfl rfl (by kernel_rfl) rfl ?_; clear H; intro T H
                refine GA.u (i := 9) (L' := #[true, true, true, true, true, true, true, true, true, true, false, false, false, false]) H rfl (wU H rfl rfl rfl rfl) rfl rfl (by kernel_rfl) rfl ?_; clear H; intro T H
                refine GA.u (i := 10) (L' := #[true, true, true, true, true, true, true, true, true, true, true, false, false, false]) H rfl (wU H rfl rfl rfl rfl) rfl rfl (by kernel_rfl) rfl ?_; clear H; intro T H
                refine GA.u (i := 11) (L' := #[true, true, true, true, true, true, true, true, true, true, true, true, false, false]) H rfl (wU H rfl rfl rfl rfl) rfl rfl (by kernel_rfl) rfl ?_; clear H; intro T H
                refine GA.u (i := 12) (L' := #[true, true, true, true, true, true, true, true, true, true, true, true, true, false]) H rfl (wU H rfl rfl rfl rfl) rfl rfl (by kernel_rfl) rfl ?_; clear H; intro T H
                refine GA.v (i := 13) (L' := #[true, true, true, true, true, true, true, true, true, true, true, true, true, true]) H rfl (wN rfl) rfl rfl rfl (by kernel_rfl) rfl (fun w H => x_pickF (H.r 139 rfl) evC) ?_; clear H; intro T H
                refine GA.done (by kernel_rfl) ?_
                refine At.condF (H.r 149 rfl) ?_
                refine At.skip ?_
                refine At.exit rfl ?_
                refine At.inBlock ?_
                refine At.region' (l := [0, 1]) rfl ?_
                refine At.v H rfl (wN rfl) rfl rfl rfl (x_add (H.r 113 rfl) evC (w64 (by omega) (by omega))) ?_; clear H; intro T H
                refine At.v H rfl (wN rfl) rfl rfl rfl (x_move (H.r 151 rfl)) ?_; clear H; intro T H
                refine At.regionEnd ?_
                exact hnext0 _ _ _ _ _ (by omega) ⟨k + 1, rfl, by first | trivial | omega | exact ⟨by omega, by omega⟩, rfl, rfl⟩ (by simp only [List.cons_append, List.nil_append]; exact (H.pk (by repeat (first | exact Pk.nil | exact Pk.all | refine Pk.cons (by repeat (first | exact Take.here | apply Take.there)) ?_ | apply Pk.skip))).sub (by repeat' (first | exact trivial | refine And.intro rfl ?_)))
            · clear H; intro h135 T H
              refine GA.done (by kernel_rfl) ?_
              refine At.condF (H.r 135 rfl) ?_
              refine At.skip ?_
              refine At.inBlock ?_
              refine At.region' (l := [0, 1]) rfl ?_
              refine At.v H rfl (wN rfl) rfl rfl rfl (x_add (H.r 124 rfl) evC (w64 (by omega) (by omega))) ?_; clear H; intro T H
              refine At.v H rfl (wN rfl) rfl rfl rfl (x_move (H.r 150 rfl)) ?_; clear H; intro T H
              refine At.regionEnd ?_
              exact hnext1 _ _ _ _ _ (by omega) ⟨j + 1, rfl, ⟨by omega, take_eq_succ hE ho (by rw [ho2, orNone_inj.1 (Classical.not_not.1 h135)])⟩, rfl, rfl⟩ (by simp only [List.cons_append, List.nil_append]; exact (H.pk (by repeat (first | exact Pk.nil | exact Pk.all | refine Pk.cons (by repeat (first | exact Take.here | apply Take.there)) ?_ | apply Pk.skip))).sub (by repeat' (first | exact trivial | refine And.intro rfl ?_)))
          · clear H; intro h125 T H
            obtain rfl : list.length = j := by omega
            refine At.regionEnd ?_
            refine At.seq ?_
            refine At.condF (H.r 125 rfl) ?_
            refine At.exit rfl ?_
            refine At.inBlock ?_
            refine At.region' (l := [0, 1]) rfl ?_
            refine At.v H rfl (wN rfl) rfl rfl rfl (x_add (H.r 113 rfl) evC (w64 (by omega) (by omega))) ?_; clear H; intro T H
            refine At.v H rfl (wN rfl) rfl rfl rfl (x_move (H.r 151 rfl)) ?_; clear H; intro T H
            refine At.regionEnd ?_
            exact hnext0 _ _ _ _ _ (by omega) ⟨k + 1, rfl, by first | trivial | omega | exact ⟨by omega, by omega⟩, rfl, rfl⟩ (by simp only [List.cons_append, List.nil_append]; exact (H.pk (by repeat (first | exact Pk.nil | exact Pk.all | refine Pk.cons (by repeat (first | exact Take.here | apply Take.there)) ?_ | apply Pk.skip))).sub (by repeat' (first | exact trivial | refine And.intro rfl ?_)))
      · clear H; intro h114 T H
        obtain rfl : 2 = k := by omega
        refine At.regionEnd ?_
        refine At.seq ?_
        refine At.condF (H.r 114 rfl) ?_
        refine At.exit rfl ?_
        refine At.seq ?_
        refine At.region' (l := [0, 1]) rfl ?_
        refine At.f0 H rfl (wN rfl) rfl rfl rfl args0 Try.call11 (awake _) ?_; clear H; rintro v152 T w rfl _ H
        refine At.v H rfl (wN rfl) rfl rfl rfl (x_assign (H.r 152 rfl)) ?_; clear H; intro T H
        refine At.regionEnd ?_
        refine At.ret rfl ?_
        exact lea Try.func4 (res1 Try.results4 (H.r 4 rfl)) (Ret.mk H.fr (rfl))
    · skip
      refine At.f0 H rfl (wN rfl) rfl rfl rfl (args1 (H.r 21 rfl)) Try.call18 (Most_no (hM.fr0 H.fr) (hL.fr0 H.fr) hv (by omega) (by omega)) ?_; clear H; rintro v22 T w rfl _ H
      refine At.v H rfl (wN rfl) rfl rfl rfl (x_move (H.r 22 rfl)) ?_; clear H; intro T H
      refine At.v H rfl (wN rfl) rfl rfl rfl (x_extract (H.r 20 rfl) rfl) ?_; clear H; intro T H
      refine At.v H rfl (wN rfl) rfl rfl rfl (x_extract (H.r 20 rfl) rfl) ?_; clear H; intro T H
      refine At.v H rfl (wN rfl) rfl rfl rfl (x_extract (H.r 20 rfl) rfl) ?_; clear H; intro T H
      refine At.v H rfl (wN rfl) rfl rfl rfl (x_assign (H.r 23 rfl)) ?_; clear H; intro T H
      refine At.v H rfl (wN rfl) rfl rfl rfl (x_assign (H.r 24 rfl)) ?_; clear H; intro T H
      refine At.v H rfl (wN rfl) rfl rfl rfl (x_assign (H.r 25 rfl)) ?_; clear H; intro T H
      refine At.regionEnd ?_
      refine At.seq ?_
      refine At.seq ?_
      refine At.region' (l := [0, 1, 2]) rfl ?_
      refine At.v H rfl (wN rfl) rfl rfl rfl (x_loadA (H.r 2 rfl) Try.isAgg25 Try.sizeOf25 (H.cellsAt (n := 2) (by repeat (first | exact List.mem_cons_self | apply List.mem_cons_of_mem)) rfl) rfl) ?_; clear H; intro T H
      refine At.f0 H rfl (wN rfl) rfl rfl rfl (args1 (H.r 26 rfl)) Try.call10 (Prizes (hM.fr0 H.fr) (hL.fr0 H.fr) (by omega) (by omega)) ?_; clear H; rintro v27 T w hQ27 _ H
      rcases hQ27 with ⟨_, hno⟩ | ⟨rfl, _⟩
      · exact absurd hno hv
      refine At.v H rfl (wN rfl) rfl rfl rfl (x_notF (H.r 27 rfl)) ?_; clear H; intro T H
      refine At.regionEnd ?_
      refine At.condT (H.r 28 rfl) ?_
      refine At.seq ?_
      refine At.region' (l := [0, 1, 2, 3, 4, 5, 6, 7, 8, 9, 10, 11, 12, 13, 14]) rfl ?_
      refine At.v H rfl (wN rfl) rfl rfl rfl (x_move (H.r 7 rfl)) ?_; clear H; intro T H
      refine At.v (v := .bool true) H rfl (wN rfl) rfl rfl rfl (x_eql (H.r 29 rfl) evC) ?_; clear H; intro T H
      refine At.v H rfl (wN rfl) rfl rfl rfl (x_move (H.r 30 rfl)) ?_; clear H; intro T H
      refine At.v H rfl (wS H rfl rfl rfl) rfl rfl rfl (x_move (H.r 5 rfl)) ?_; clear H; intro T H
      refine At.v (v := .bool true) H rfl (wS H rfl rfl rfl) rfl rfl rfl (x_eql (H.r 32 rfl) evC) ?_; clear H; intro T H
      refine At.v H rfl (wN rfl) rfl rfl rfl (x_pickT (H.r 31 rfl) (H.r 33 rfl)) ?_; clear H; intro T H
      refine At.v H rfl (wN rfl) rfl rfl rfl (x_move (H.r 34 rfl)) ?_; clear H; intro T H
      refine At.v H rfl (wS H rfl rfl rfl) rfl rfl rfl (x_move (H.r 6 rfl)) ?_; clear H; intro T H
      refine At.v H rfl (wS H rfl rfl rfl) rfl rfl rfl (x_len (H.r 36 rfl) Try.runUnderlying30) ?_; clear H; intro T H
      refine At.v (v := .bool true) H rfl (wS H rfl rfl rfl) rfl rfl rfl (x_eql (H.r 37 rfl) evC) ?_; clear H; intro T H
      refine At.v H rfl (wN rfl) rfl rfl rfl (x_pickT (H.r 35 rfl) (H.r 38 rfl)) ?_; clear H; intro T H
      refine At.v H rfl (wN rfl) rfl rfl rfl (x_move (H.r 39 rfl)) ?_; clear H; intro T H
      refine At.f0 H rfl (wS H rfl rfl rfl) rfl rfl rfl args0 Try.call11 (awake _) ?_; clear H; rintro v41 T w rfl _ H
      refine At.v H rfl (wN rfl) rfl rfl rfl (x_pickT (H.r 40 rfl) (H.r 41 rfl)) ?_; clear H; intro T H
      refine At.v H rfl (wN rfl) rfl rfl rfl (x_assign (H.r 42 rfl)) ?_; clear H; intro T H
      refine At.regionEnd ?_
      refine At.ret rfl ?_
      exact lea Try.func4 (res1 Try.results4 (H.r 4 rfl)) (Ret.mk H.fr (rfl))
end Go.Proofs.Pz
end
section
set_option linter.unusedVariables false
set_option maxRecDepth 100000
namespace Go.Proofs.Ytaogmipkcdhkjaa
open Go.ChangeShapes Go.WideShapes Go.ChangeAt Go.RowKit Go.Sx
open Go.Proofs.Pz (encW encZ encB Wi Zi)
theorem prizeMost_lifted (os : Os) (started : os.Started) (H : Type) (enc : TypeId × Value → H) :
    ReturnsInHanded {} Try.checked os 4 .any (Rows.prizeMostSpec.pre6 enc Try.prog Try.f4 Rows.prizeMostRow.domain false) (Rows.prizeMostSpec.post enc Try.prog Try.f4 false true false false) := by
  refine returnsInHanded_of_change (C := Try.checked) Try.own started (by kernel_rfl) Try.func4
    (ChangeSpec.witness6 (enc := enc) (C := Try.checked) false ⟨#[], #[.agg #[.slice none 0 0, .slice none 0 0], .slice none 0 0], []⟩ 8 (by kernel_rfl) (by kernel_rfl) (by kernel_rfl) (by kernel_rfl)) ?_
  intro W base args ds gs before hval0 hW hcnd _
  have hval : ∀ (j : Nat) t v, Try.f4.params[j]? = some t → args[j]? = some v → Value.okWide Try.prog W .any base t v := hval0
  have hW' := hW
  obtain ⟨p, q, hA0, hV, rfl, hfz, hnd⟩ := hW
  have hA : DataW.TrodAll enc Try.prog W 0 (fun _ => true) true Try.f4.params.toList args.toList ds p := hA0
  rw [Try.params4] at hA hval
  obtain ⟨v0, v1, d0, d1, p0, p1, rfl, rfl, hp, h0, h1⟩ := trodAll_two hA
  obtain ⟨AM, AL, cM, bM, oM, cL, bL, oL, men, list, rfl, hM, hL⟩ := openP (hval 0 25 v0 rfl rfl) h0
  obtain ⟨AB, cB, bB, oB, l, rfl, hB, hbb⟩ := openBs (hval 1 26 v1 rfl rfl) h1
  refine (Pz.PrizeMost hM hL hB hbb).mono ?_
  rintro e W' ⟨v, rfl, hf, rfl⟩
  exact ⟨_, rfl, law_post Try.laidOut (by kernel_rfl) hW' rfl hf ⟨rfl, rfl, rfl⟩ rfl Try.underlying4⟩
theorem prizeMost_holds : Rows.PrizeMostSaid :=
  OpenClaim.holds_of_wide 4 Try.f4 rfl rfl rfl rfl rfl rfl rfl ⟨rfl, rfl, rfl, rfl, rfl⟩ rfl rfl rfl rfl rfl (by kernel_rfl) Try.func4 (by kernel_rfl)
    (of_decide_eq_true (by kernel_rfl)) (by unfold Func.isWrapper; rw [if_neg (of_decide_eq_false (by kernel_rfl))]; exact ⟨rfl, rfl⟩)
    (fun os started H enc _ => prizeMost_lifted os started H enc)
end Go.Proofs.Ytaogmipkcdhkjaa
end
