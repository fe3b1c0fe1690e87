import PyProof.Rows.All
import Wide.All
import OpenK.AllK
import Wide.FinOn
import HandS.ForMost
import KE.GoesEnum
import HandS.SetFor
import KE.KDictPairs
import PyProof.IsRules
import HandS.SortKw
import HandS.Codes
import KE.SortKeyHeap
import KE.SortData
import PyProof.EqAt
import PyProof.NeKinds
import HandS.Flow
import HandS.Conv
import HandS.IsInst
import HandS.More
import HandS.Zip
import HandS.TupAny
import HandS.DictTup
import HandS.WideBits
import HandS.Style
import KE.BitLaws
import HandS.Defaults
import KE.OsRunLaw
import PySem.Challenge.RW_frontmeets_k52_whole_one_more_known_pers
set_option Elab.async false
set_option linter.all false
set_option maxRecDepth 100000
section
/-! M1: plans, trains, the count S and what it obeys. Plain Lean. -/
namespace FM
/-- a plan -/
inductive Pl (L : Type) where
  | ln (s : L)
  | jn (k : Bool) (ps : List (Pl L))

section
variable {L : Type}
mutual
/-- the lines of a plan, from the left -/
def Pl.lv : Pl L → List L
  | .ln s => [s]
  | .jn _ ps => lvs ps
def lvs : List (Pl L) → List L
  | [] => []
  | p :: r => p.lv ++ lvs r
end
theorem lv_ln (s : L) : (Pl.ln s).lv = [s] := by simp [Pl.lv]
theorem lv_jn (k : Bool) (ps : List (Pl L)) : (Pl.jn k ps).lv = lvs ps := by simp [Pl.lv]
theorem lvs_nil : lvs ([] : List (Pl L)) = [] := by simp [lvs]
theorem lvs_cons (p : Pl L) (r : List (Pl L)) : lvs (p :: r) = p.lv ++ lvs r := by simp [lvs]
theorem lvs_append (a b : List (Pl L)) : lvs (a ++ b) = lvs a ++ lvs b := by
  induction a with
  | nil => simp [lvs_nil]
  | cons p r ih => rw [List.cons_append, lvs_cons, lvs_cons, ih, List.append_assoc]
theorem mem_lvs {ps : List (Pl L)} {s : L} : s ∈ lvs ps ↔ ∃ p ∈ ps, s ∈ p.lv := by
  induction ps with
  | nil => simp [lvs_nil]
  | cons p r ih => rw [lvs_cons, List.mem_append, ih]; simp
mutual
theorem Pl.ind {P : Pl L → Prop} (h1 : ∀ s, P (.ln s)) (h2 : ∀ k ps, (∀ p ∈ ps, P p) → P (.jn k ps)) : ∀ p, P p
  | .ln s => h1 s
  | .jn k ps => h2 k ps (Pl.indL h1 h2 ps)
theorem Pl.indL {P : Pl L → Prop} (h1 : ∀ s, P (.ln s)) (h2 : ∀ k ps, (∀ p ∈ ps, P p) → P (.jn k ps)) : ∀ ps : List (Pl L), ∀ p ∈ ps, P p
  | [] => fun p h => by cases h
  | q :: r => fun p h => (List.mem_cons.mp h).elim (fun e => e ▸ Pl.ind h1 h2 q) (fun h' => Pl.indL h1 h2 r p h')
end
end

/-! ### sums over lists -/
def sumOf {α : Type} (l : List α) (f : α → Nat) : Nat := (l.map f).sum
section
variable {α β : Type}
theorem sumOf_nil (f : α → Nat) : sumOf [] f = 0 := rfl
theorem sumOf_cons (a : α) (l : List α) (f : α → Nat) : sumOf (a :: l) f = f a + sumOf l f := by simp [sumOf]
theorem sumOf_append (a b : List α) (f : α → Nat) : sumOf (a ++ b) f = sumOf a f + sumOf b f := by simp [sumOf]
theorem sumOf_map (l : List α) (g : α → β) (f : β → Nat) : sumOf (l.map g) f = sumOf l (fun a => f (g a)) := by
  unfold sumOf
  rw [List.map_map]
  rfl
theorem sumOf_congr {l : List α} {f g : α → Nat} (h : ∀ a ∈ l, f a = g a) : sumOf l f = sumOf l g := by
  unfold sumOf
  rw [List.map_congr_left h]
theorem sumOf_add (l : List α) (f g : α → Nat) : sumOf l (fun a => f a + g a) = sumOf l f + sumOf l g := by
  induction l with
  | nil => rfl
  | cons a r ih => rw [sumOf_cons, sumOf_cons, sumOf_cons, ih]; omega
theorem sumOf_mul (l : List α) (f : α → Nat) (c : Nat) : sumOf l (fun a => c * f a) = c * sumOf l f := by
  induction l with
  | nil => simp [sumOf]
  | cons a r ih => rw [sumOf_cons, sumOf_cons, ih, Nat.mul_add]
theorem sumOf_zero {l : List α} {f : α → Nat} (h : ∀ a ∈ l, f a = 0) : sumOf l f = 0 := by
  induction l with
  | nil => rfl
  | cons a r ih =>
    rw [sumOf_cons, h a List.mem_cons_self, ih fun b hb => h b (List.mem_cons_of_mem _ hb)]
theorem sumOf_swap (l : List α) (m : List β) (f : α → β → Nat) : sumOf l (fun a => sumOf m (fun b => f a b)) = sumOf m (fun b => sumOf l (fun a => f a b)) := by
  induction l with
  | nil => exact (sumOf_zero fun b _ => rfl).symm
  | cons a r ih =>
    rw [sumOf_cons, ih, ← sumOf_add]
    exact sumOf_congr fun b _ => (sumOf_cons a r (fun a => f a b)).symm
theorem sumOf_le {l : List α} {f : α → Nat} {c : Nat} (h : ∀ a ∈ l, f a ≤ c) : sumOf l f ≤ l.length * c := by
  induction l with
  | nil => simp [sumOf]
  | cons a r ih =>
    have h1 := h a List.mem_cons_self
    have h2 := ih fun b hb => h b (List.mem_cons_of_mem _ hb)
    rw [sumOf_cons, List.length_cons, Nat.add_mul]
    omega
theorem sumOf_pos {l : List α} {f : α → Nat} (h : sumOf l f ≠ 0) : ∃ a ∈ l, f a ≠ 0 := by
  induction l with
  | nil => exact absurd rfl h
  | cons a r ih =>
    by_cases h0 : f a = 0
    · rw [sumOf_cons, h0, Nat.zero_add] at h
      obtain ⟨b, hb, e⟩ := ih h
      exact ⟨b, List.mem_cons_of_mem _ hb, e⟩
    · exact ⟨a, List.mem_cons_self, h0⟩
end

/-! ### trains -/
/-- x is a head behind the head h: taller at a low junction (k = true), shorter at a high one -/
def beh (k : Bool) (h x : Int) : Bool := if k then decide (h < x) else decide (x < h)
theorem beh_trans {k : Bool} {a b c : Int} (h1 : beh k a b = true) (h2 : beh k b c = true) : beh k a c = true := by
  unfold beh at *
  cases k <;> simp at * <;> omega
/-- one more person: the loop's turn -/
def trStep (k : Bool) (ts : List (List Int)) (x : Int) : List (List Int) :=
  match ts.getLast? with
  | none => [[x]]
  | some t => if beh k (t.headD 0) x then ts ++ [[x]] else ts.dropLast ++ [t ++ [x]]
def trains (k : Bool) (ns : List Int) : List (List Int) := ns.foldl (trStep k) []
theorem trains_snoc (k : Bool) (ns : List Int) (x : Int) : trains k (ns ++ [x]) = trStep k (trains k ns) x := by
  unfold trains; rw [List.foldl_append]; rfl
theorem trStep_nil (k : Bool) (x : Int) : trStep k [] x = [[x]] := rfl
theorem trStep_snoc (k : Bool) (ts : List (List Int)) (t : List Int) (x : Int) : trStep k (ts ++ [t]) x = if beh k (t.headD 0) x then (ts ++ [t]) ++ [[x]] else ts ++ [t ++ [x]] := by
  unfold trStep
  rw [List.getLast?_concat]
  simp only [List.dropLast_concat]
/-- a list by its last item -/
theorem snoc_ind {α : Type} {P : List α → Prop} (h0 : P []) (h1 : ∀ l x, P l → P (l ++ [x])) (l : List α) : P l := by
  have h : ∀ m : List α, P m.reverse := by
    intro m
    induction m with
    | nil => exact h0
    | cons a r ih => rw [List.reverse_cons]; exact h1 _ _ ih
  have := h l.reverse
  rwa [List.reverse_reverse] at this
theorem snoc_cases {α : Type} (l : List α) : l = [] ∨ ∃ m x, l = m ++ [x] := by
  refine snoc_ind (P := fun l => l = [] ∨ ∃ m x, l = m ++ [x]) (.inl rfl) (fun m x _ => .inr ⟨m, x, rfl⟩) l
/-- what the trains are: their people in a row are the row; each has a head; each head beats all ahead of it -/
structure TrOk (k : Bool) (ts : List (List Int)) (ns : List Int) : Prop where
  flat : ts.flatten = ns
  ne : ∀ t ∈ ts, t ≠ []
  rec_ : ∀ a t b, ts = a ++ t :: b → ∀ z ∈ a.flatten, beh k z (t.headD 0) = true
  low : ∀ t ∈ ts, ∀ z ∈ t, beh k (t.headD 0) z = false
theorem headD_snoc {t : List Int} (h : t ≠ []) (x : Int) : (t ++ [x]).headD 0 = t.headD 0 := by
  cases t with
  | nil => exact absurd rfl h
  | cons a r => rfl
theorem beh_irrefl (k : Bool) (x : Int) : beh k x x = false := by
  unfold beh; cases k <;> simp
theorem split_snoc {α : Type} {ts a b : List α} {t u : α} (e : ts ++ [u] = a ++ t :: b) : (b = [] ∧ a = ts ∧ t = u) ∨ ∃ b', b = b' ++ [u] ∧ ts = a ++ t :: b' := by
  rcases snoc_cases b with rfl | ⟨m, y, rfl⟩
  · have e' : ts ++ [u] = a ++ [t] := e
    obtain ⟨e1, e2⟩ := List.append_inj' e' rfl
    exact .inl ⟨rfl, e1.symm, by injection e2 with e3; exact e3.symm⟩
  · right
    have e' : ts ++ [u] = (a ++ t :: m) ++ [y] := by rw [e]; simp
    obtain ⟨e1, e2⟩ := List.append_inj' e' rfl
    injection e2 with e3
    subst e3
    exact ⟨m, rfl, e1⟩
/-- z does not beat the head h, h is beaten by x: z is beaten by x -/
theorem beh_low {k : Bool} {h z x : Int} (h1 : beh k h z = false) (h2 : beh k h x = true) : beh k z x = true := by
  unfold beh at *
  cases k <;> simp at * <;> omega
theorem trOk (k : Bool) (ns : List Int) : TrOk k (trains k ns) ns := by
  have h0 : TrOk k (trains k []) [] := by
    show TrOk k [] []
    exact ⟨rfl, fun t h => absurd h (by simp), fun a t b e => absurd e (by simp), fun t h => absurd h (by simp)⟩
  refine snoc_ind (P := fun ns => TrOk k (trains k ns) ns) h0 (fun ns x ih => ?_) ns
  rw [trains_snoc]
  generalize hts : trains k ns = ts at ih
  obtain ⟨f, ne, rc, lw⟩ := ih
  rcases snoc_cases ts with rfl | ⟨m, t, rfl⟩
  · rw [trStep_nil]
    have e0 : ns = [] := by rw [← f]; rfl
    subst e0
    refine ⟨rfl, fun t h => ?_, fun a t b e => ?_, fun t h z hz => ?_⟩
    · rw [List.mem_singleton.mp h]; simp
    · cases a with
      | nil => intro z hz; simp at hz
      | cons a0 ar =>
        injection e with _ e2
        cases ar <;> simp at e2
    · rw [List.mem_singleton.mp h] at hz ⊢
      rw [List.mem_singleton.mp hz]
      exact beh_irrefl _ _
  · rw [trStep_snoc]
    have net : t ≠ [] := ne t (by simp)
    by_cases hb : beh k (t.headD 0) x = true
    · rw [if_pos hb]
      refine ⟨?_, fun u h => ?_, fun a u b e => ?_, fun u h z hz => ?_⟩
      · rw [List.flatten_append, f]; simp
      · rcases List.mem_append.mp h with h | h
        · exact ne u h
        · rw [List.mem_singleton.mp h]; simp
      · rcases split_snoc e with ⟨rfl, e1, e2⟩ | ⟨b', rfl, e1⟩
        · subst e1
          subst e2
          intro z hz
          show beh k z x = true
          rw [List.flatten_append] at hz
          rcases List.mem_append.mp hz with hz | hz
          · exact beh_trans (rc m t [] rfl z hz) hb
          · simp at hz
            exact beh_low (lw t (by simp) z hz) hb
        · exact rc a u b' e1
      · rcases List.mem_append.mp h with h | h
        · exact lw u h z hz
        · rw [List.mem_singleton.mp h] at hz ⊢
          rw [List.mem_singleton.mp hz]
          exact beh_irrefl _ _
    · rw [if_neg hb]
      have hb' : beh k (t.headD 0) x = false := by simpa using hb
      refine ⟨?_, fun u h => ?_, fun a u b e => ?_, fun u h z hz => ?_⟩
      · rw [← f]; simp
      · rcases List.mem_append.mp h with h | h
        · exact ne u (by simp [h])
        · rw [List.mem_singleton.mp h]; simp
      · rcases split_snoc e with ⟨rfl, e1, e2⟩ | ⟨b', rfl, e1⟩
        · subst e1
          subst e2
          rw [headD_snoc net]
          exact rc a t [] rfl
        · exact rc a u (b' ++ [t]) (by rw [e1]; simp)
      · rcases List.mem_append.mp h with h | h
        · exact lw u (by simp [h]) z hz
        · rw [List.mem_singleton.mp h] at hz ⊢
          rw [headD_snoc net]
          rcases List.mem_append.mp hz with hz | hz
          · exact lw t (by simp) z hz
          · rw [List.mem_singleton.mp hz]
            exact hb'
end FM
end
section
set_option maxHeartbeats 1000000
/-! M2: the count S, what it obeys. Plain Lean. -/
namespace FM
section
variable {α β : Type}
/-- all lists with one place changed -/
def mods (f : α → α) : List α → List (List α)
  | [] => []
  | g :: gs => (f g :: gs) :: (mods f gs).map (fun x => g :: x)
theorem mem_mods {f : α → α} : ∀ {gs hs : List α}, hs ∈ mods f gs → ∃ a g b, gs = a ++ g :: b ∧ hs = a ++ f g :: b
  | [], hs, h => by simp [mods] at h
  | g :: gs, hs, h => by
    unfold mods at h
    rcases List.mem_cons.mp h with e | h
    · exact ⟨[], g, gs, rfl, e⟩
    · obtain ⟨x, hx, e⟩ := List.mem_map.mp h
      obtain ⟨a, g', b, e1, e2⟩ := mem_mods hx
      exact ⟨g :: a, g', b, by rw [e1]; rfl, by rw [← e, e2]; rfl⟩
theorem mods_map {f : α → α} {g : β → β} {m : α → β} (h : ∀ a, m (f a) = g (m a)) : ∀ l : List α, mods g (l.map m) = (mods f l).map (fun x => x.map m)
  | [] => rfl
  | a :: r => by
    show mods g (m a :: r.map m) = _
    unfold mods
    rw [mods_map h r, List.map_cons, List.map_cons, h]
    congr 1
    rw [List.map_map, List.map_map]
    rfl
theorem mods_split (f : α → α) (e : α) (b : List α) : ∀ a : List α, mods f (a ++ e :: b) = (mods f a).map (fun x => x ++ e :: b) ++ (a ++ f e :: b) :: (mods f b).map (fun x => a ++ e :: x)
  | [] => rfl
  | g :: a => by
    show (f g :: (a ++ e :: b)) :: (mods f (a ++ e :: b)).map (fun x => g :: x) = ((f g :: a) :: (mods f a).map (fun x => g :: x)).map (fun x => x ++ e :: b) ++ (g :: (a ++ f e :: b)) :: (mods f b).map (fun x => g :: (a ++ e :: x))
    rw [mods_split f e b a, List.map_cons, List.cons_append, List.map_append, List.map_cons, List.map_map, List.map_map, List.map_map]
    rfl
end
/-- a part's function behind one more train -/
def sh (τ : List Int) (G : List Int → Nat) : List Int → Nat := fun A => G (τ ++ A)
def prodAt (A : List Int) : List (List Int → Nat) → Nat
  | [] => 1
  | G :: r => G A * prodAt A r
/-- over all ways to give each train to one part: the sum of the products -/
def tot : List (List Int) → List (List Int → Nat) → Nat
  | [], Gs => prodAt [] Gs
  | τ :: r, Gs => sumOf (mods (sh τ) Gs) (fun Hs => tot r Hs)
theorem prodAt_zero {A : List Int} : ∀ {Gs : List (List Int → Nat)}, (∃ G ∈ Gs, G A = 0) → prodAt A Gs = 0
  | [], h => by obtain ⟨G, h, _⟩ := h; cases h
  | G :: r, h => by
    obtain ⟨G', hm, e⟩ := h
    unfold prodAt
    rcases List.mem_cons.mp hm with e1 | hm
    · rw [← e1, e, Nat.zero_mul]
    · rw [prodAt_zero ⟨G', hm, e⟩, Nat.mul_zero]
theorem prodAt_append (A : List Int) (a b : List (List Int → Nat)) : prodAt A (a ++ b) = prodAt A a * prodAt A b := by
  induction a with
  | nil => simp [prodAt]
  | cons g r ih =>
    show g A * prodAt A (r ++ b) = g A * prodAt A r * prodAt A b
    rw [ih, Nat.mul_assoc]
theorem tot_nil (Gs : List (List Int → Nat)) : tot [] Gs = prodAt [] Gs := rfl
theorem tot_cons (τ : List Int) (r : List (List Int)) (Gs : List (List Int → Nat)) : tot (τ :: r) Gs = sumOf (mods (sh τ) Gs) (fun Hs => tot r Hs) := rfl
/-- one part's function is nought everywhere -/
theorem tot_zero : ∀ {r : List (List Int)} {Gs : List (List Int → Nat)}, (∃ G ∈ Gs, ∀ A, G A = 0) → tot r Gs = 0
  | [], Gs, ⟨G, h, e⟩ => prodAt_zero ⟨G, h, e []⟩
  | τ :: r, Gs, ⟨G, h, e⟩ => by
    unfold tot
    refine sumOf_zero fun Hs hm => tot_zero ?_
    obtain ⟨a, g, b, e1, e2⟩ := mem_mods hm
    subst e2
    rw [e1] at h
    rcases List.mem_append.mp h with h | h
    · exact ⟨G, by simp [h], e⟩
    · rcases List.mem_cons.mp h with h | h
      · subst h
        exact ⟨sh τ G, by simp, fun A => e _⟩
      · exact ⟨G, by simp [h], e⟩
/-- a train that no part takes -/
theorem tot_out {τ : List Int} : ∀ {r : List (List Int)} {Gs : List (List Int → Nat)}, τ ∈ r → (∀ G ∈ Gs, ∀ A B, G (A ++ τ ++ B) = 0) → tot r Gs = 0
  | [], _, h, _ => by cases h
  | σ :: r, Gs, h, e => by
    unfold tot
    refine sumOf_zero fun Hs hm => ?_
    obtain ⟨a, g, b, e1, e2⟩ := mem_mods hm
    by_cases hστ : τ = σ
    · subst hστ
      refine tot_zero ⟨sh τ g, by rw [e2]; simp, fun A => ?_⟩
      have := e g (by rw [e1]; simp) [] A
      simpa [sh] using this
    · have h' : τ ∈ r := (List.mem_cons.mp h).resolve_left hστ
      refine tot_out h' fun G hG A B => ?_
      rw [e2] at hG
      rcases List.mem_append.mp hG with hG | hG
      · exact e G (by rw [e1]; simp [hG]) A B
      · rcases List.mem_cons.mp hG with hG | hG
        · subst hG
          have := e g (by rw [e1]; simp) (σ ++ A) B
          simpa [sh] using this
        · exact e G (by rw [e1]; simp [hG]) A B
/-! ### equal where it matters -/
theorem tot_congr {es : List ((List Int → Nat) × (List Int → Nat))} : ∀ {r : List (List Int)}, (∀ e ∈ es, ∀ A, A.Sublist r.flatten → e.1 A = e.2 A) → tot r (es.map (·.1)) = tot r (es.map (·.2)) := by
  intro r
  induction r generalizing es with
  | nil =>
    intro h
    show prodAt [] _ = prodAt [] _
    induction es with
    | nil => rfl
    | cons e es ih =>
      show e.1 [] * prodAt [] _ = e.2 [] * prodAt [] _
      rw [h e List.mem_cons_self [] (List.Sublist.refl _), ih fun x hx => h x (List.mem_cons_of_mem _ hx)]
  | cons τ r ih =>
    intro h
    unfold tot
    rw [mods_map (f := fun e : (List Int → Nat) × (List Int → Nat) => (sh τ e.1, sh τ e.2)) (m := (·.1)) (fun _ => rfl), mods_map (f := fun e : (List Int → Nat) × (List Int → Nat) => (sh τ e.1, sh τ e.2)) (m := (·.2)) (fun _ => rfl), sumOf_map, sumOf_map]
    refine sumOf_congr fun es' hm => ih fun e he A hA => ?_
    obtain ⟨a, g, b, e1, e2⟩ := mem_mods hm
    have keep : ∀ x ∈ es, x.1 A = x.2 A := fun x hx => h x hx A (hA.trans (List.sublist_append_right _ _))
    rw [e2] at he
    rcases List.mem_append.mp he with he | he
    · exact keep e (by rw [e1]; simp [he])
    · rcases List.mem_cons.mp he with he | he
      · subst he
        exact h g (by rw [e1]; simp) (τ ++ A) (List.Sublist.append (List.Sublist.refl _) hA)
      · exact keep e (by rw [e1]; simp [he])
/-! ### a sum over families -/
inductive Mark {α : Type} (P Q : α → Prop) : List α → Prop
  | here {e b} : Q e → (∀ x ∈ b, P x) → Mark P Q (e :: b)
  | there {e b} : P e → Mark P Q b → Mark P Q (e :: b)
theorem Mark.mods {α : Type} {P Q P' Q' : α → Prop} {f : α → α} (h1 : ∀ x, P x → P' x ∧ P' (f x)) (h2 : ∀ x, Q x → Q' x ∧ Q' (f x)) : ∀ {es}, Mark P Q es → ∀ es' ∈ mods f es, Mark P' Q' es' := by
  intro es m
  induction m with
  | here q hp =>
    rename_i e b
    intro es' hm
    unfold FM.mods at hm
    rcases List.mem_cons.mp hm with e1 | hm
    · subst e1
      exact .here (h2 _ q).2 fun x hx => (h1 x (hp x hx)).1
    · obtain ⟨x, hx, e1⟩ := List.mem_map.mp hm
      subst e1
      refine .here (h2 _ q).1 fun y hy => ?_
      obtain ⟨a, g, c, e2, e3⟩ := mem_mods hx
      rw [e3] at hy
      rcases List.mem_append.mp hy with hy | hy
      · exact (h1 y (hp y (by rw [e2]; simp [hy]))).1
      · rcases List.mem_cons.mp hy with hy | hy
        · subst hy
          exact (h1 g (hp g (by rw [e2]; simp))).2
        · exact (h1 y (hp y (by rw [e2]; simp [hy]))).1
  | there p m ih =>
    intro es' hm
    unfold FM.mods at hm
    rcases List.mem_cons.mp hm with e1 | hm
    · subst e1
      refine .there (h1 _ p).2 ?_
      clear ih hm
      induction m with
      | here q hp => exact .here (h2 _ q).1 fun x hx => (h1 x (hp x hx)).1
      | there p' m' ih' => exact .there (h1 _ p').1 ih'
    · obtain ⟨x, hx, e1⟩ := List.mem_map.mp hm
      subst e1
      exact .there (h1 _ p).1 (ih x hx)
theorem Mark.of_mods {α : Type} {P P' Q' : α → Prop} {f : α → α} (h1 : ∀ x, P x → P' x) (h2 : ∀ x, P x → Q' (f x)) : ∀ {es : List α}, (∀ x ∈ es, P x) → ∀ es' ∈ FM.mods f es, Mark P' Q' es'
  | [], _, es', hm => by simp [FM.mods] at hm
  | e :: b, h, es', hm => by
    unfold FM.mods at hm
    rcases List.mem_cons.mp hm with e1 | hm
    · subst e1
      exact .here (h2 e (h e List.mem_cons_self)) fun x hx => h1 x (h x (List.mem_cons_of_mem _ hx))
    · obtain ⟨x, hx, e1⟩ := List.mem_map.mp hm
      subst e1
      exact .there (h1 e (h e List.mem_cons_self)) (Mark.of_mods h1 h2 (fun y hy => h y (List.mem_cons_of_mem _ hy)) x hx)
section
variable {L : Type}
/-- a family by lines, and its sum -/
abbrev Fam (L : Type) := (L → List Int → Nat) × (List Int → Nat)
def shF (τ : List Int) (e : Fam L) : Fam L := (fun l => sh τ (e.1 l), sh τ e.2)
theorem tot_lin (Ls : List L) : ∀ {r : List (List Int)} {es : List (Fam L)}, Mark (fun e : Fam L => ∀ l A, A.Sublist r.flatten → e.1 l A = e.2 A) (fun e : Fam L => ∀ A, A.Sublist r.flatten → sumOf Ls (fun l => e.1 l A) = e.2 A) es →
    sumOf Ls (fun l => tot r (es.map (fun e => e.1 l))) = tot r (es.map (·.2)) := by
  intro r
  induction r with
  | nil =>
    intro es m
    show sumOf Ls (fun l => prodAt [] (es.map (fun e => e.1 l))) = prodAt [] _
    induction m with
    | here q hp =>
      rename_i e b
      have hb : ∀ l, prodAt [] (b.map (fun e => e.1 l)) = prodAt [] (b.map (·.2)) := fun l => by
        clear q
        induction b with
        | nil => rfl
        | cons x b ih =>
          show x.1 l [] * prodAt [] _ = x.2 [] * prodAt [] _
          rw [hp x List.mem_cons_self l [] (List.Sublist.refl _), ih fun y hy => hp y (List.mem_cons_of_mem _ hy)]
      show sumOf Ls (fun l => e.1 l [] * prodAt [] (b.map (fun e => e.1 l))) = e.2 [] * prodAt [] (b.map (·.2))
      rw [← q [] (List.Sublist.refl _), Nat.mul_comm, ← sumOf_mul]
      exact sumOf_congr fun l _ => by rw [hb l, Nat.mul_comm]
    | there p m ih =>
      rename_i e b
      show sumOf Ls (fun l => e.1 l [] * prodAt [] (b.map (fun e => e.1 l))) = e.2 [] * prodAt [] (b.map (·.2))
      rw [← ih, ← sumOf_mul]
      exact sumOf_congr fun l _ => by rw [p l [] (List.Sublist.refl _)]
  | cons τ r ih =>
    intro es m
    have e1 : ∀ l, tot (τ :: r) (es.map (fun e => e.1 l)) = sumOf (mods (shF τ) es) (fun es' => tot r (es'.map (fun e => e.1 l))) := fun l => by
      rw [tot_cons, mods_map (f := shF τ) (m := fun e : Fam L => e.1 l) (fun _ => rfl), sumOf_map]
    have e2 : tot (τ :: r) (es.map (·.2)) = sumOf (mods (shF τ) es) (fun es' => tot r (es'.map (·.2))) := by
      rw [tot_cons, mods_map (f := shF τ) (m := fun e : Fam L => e.2) (fun _ => rfl), sumOf_map]
    rw [e2, sumOf_congr (fun l _ => e1 l), sumOf_swap]
    refine sumOf_congr fun es' hm => ih ?_
    refine m.mods (fun x hx => ⟨fun l A hA => hx l A (hA.trans (List.sublist_append_right _ _)), fun l A hA => hx l (τ ++ A) (List.Sublist.append (List.Sublist.refl _) hA)⟩) (fun x hx => ⟨fun A hA => hx A (hA.trans (List.sublist_append_right _ _)), fun A hA => hx (τ ++ A) (List.Sublist.append (List.Sublist.refl _) hA)⟩) es' hm
theorem tot_fam (Ls : List L) (h : Int) : ∀ {r : List (List Int)} {es : List (Fam L)}, r.flatten.Nodup → h ∈ r.flatten →
    (∀ e ∈ es, (∀ l A, A.Sublist r.flatten → h ∉ A → e.1 l A = e.2 A) ∧ ∀ A, A.Sublist r.flatten → h ∈ A → sumOf Ls (fun l => e.1 l A) = e.2 A) →
    sumOf Ls (fun l => tot r (es.map (fun e => e.1 l))) = tot r (es.map (·.2)) := by
  intro r
  induction r with
  | nil => intro es _ hh _; simp at hh
  | cons τ r ih =>
    intro es nd hh he
    have e1 : ∀ l, tot (τ :: r) (es.map (fun e => e.1 l)) = sumOf (mods (shF τ) es) (fun es' => tot r (es'.map (fun e => e.1 l))) := fun l => by
      rw [tot_cons, mods_map (f := shF τ) (m := fun e : Fam L => e.1 l) (fun _ => rfl), sumOf_map]
    have e2 : tot (τ :: r) (es.map (·.2)) = sumOf (mods (shF τ) es) (fun es' => tot r (es'.map (·.2))) := by
      rw [tot_cons, mods_map (f := shF τ) (m := fun e : Fam L => e.2) (fun _ => rfl), sumOf_map]
    rw [e2, sumOf_congr (fun l _ => e1 l), sumOf_swap]
    rw [List.flatten_cons] at nd hh
    have ndr : r.flatten.Nodup := (List.nodup_append.mp nd).2.1
    refine sumOf_congr fun es' hm => ?_
    by_cases ht : h ∈ τ
    · have hr : h ∉ r.flatten := fun z => (List.nodup_append.mp nd).2.2 h ht h z rfl
      refine tot_lin Ls (Mark.of_mods (P := fun e : Fam L => e ∈ es) (fun x hx l A hA => ?_) (fun x hx A hA => ?_) (fun x hx => hx) es' hm)
      · exact (he x hx).1 l A (hA.trans (List.sublist_append_right _ _)) fun z => hr (hA.subset z)
      · exact (he x hx).2 (τ ++ A) (List.Sublist.append (List.Sublist.refl _) hA) (by simp [ht])
    · have hr : h ∈ r.flatten := (List.mem_append.mp hh).resolve_left ht
      refine ih ndr hr fun e hem => ?_
      obtain ⟨a, g, b, e3, e4⟩ := mem_mods hm
      have keep : ∀ x ∈ es, (∀ l A, A.Sublist r.flatten → h ∉ A → x.1 l A = x.2 A) ∧ ∀ A, A.Sublist r.flatten → h ∈ A → sumOf Ls (fun l => x.1 l A) = x.2 A := fun x hx =>
        ⟨fun l A hA => (he x hx).1 l A (hA.trans (List.sublist_append_right _ _)), fun A hA => (he x hx).2 A (hA.trans (List.sublist_append_right _ _))⟩
      rw [e4] at hem
      rcases List.mem_append.mp hem with hem | hem
      · exact keep e (by rw [e3]; simp [hem])
      · rcases List.mem_cons.mp hem with hem | hem
        · subst hem
          have hg := he g (by rw [e3]; simp)
          refine ⟨fun l A hA hn => hg.1 l (τ ++ A) (List.Sublist.append (List.Sublist.refl _) hA) (by simp [ht, hn]), fun A hA hn => hg.2 (τ ++ A) (List.Sublist.append (List.Sublist.refl _) hA) (by simp [hn])⟩
        · exact keep e (by rw [e3]; simp [hem])
end
end FM
end
section
set_option maxHeartbeats 1000000
/-! M3: the count S of a plan. -/
namespace FM
section
variable {L : Type} [DecidableEq L]
mutual
/-- in how many ways the people of a row come from a plan's lines, by whom is known -/
def Sf (kn : Int → Option L) : Pl L → List Int → Nat
  | .ln s => fun ps => if ps.all (fun h => decide (kn h = none ∨ kn h = some s)) = true then 1 else 0
  | .jn k parts => fun ps => tot (trains k ps) (Sfs kn parts)
def Sfs (kn : Int → Option L) : List (Pl L) → List (List Int → Nat)
  | [] => []
  | p :: r => Sf kn p :: Sfs kn r
end
theorem Sf_ln (kn : Int → Option L) (s : L) (ps : List Int) : Sf kn (.ln s) ps = if ps.all (fun h => decide (kn h = none ∨ kn h = some s)) = true then 1 else 0 := by simp [Sf]
theorem Sf_jn (kn : Int → Option L) (k : Bool) (parts : List (Pl L)) (ps : List Int) : Sf kn (.jn k parts) ps = tot (trains k ps) (Sfs kn parts) := by simp [Sf]
theorem Sfs_map (kn : Int → Option L) (parts : List (Pl L)) : Sfs kn parts = parts.map (fun p => Sf kn p) := by
  induction parts with
  | nil => simp [Sfs]
  | cons p r ih => simp [Sfs, ih]
/-- only the people of the row matter -/
theorem Sf_indep {kn kn' : Int → Option L} : ∀ (t : Pl L) (ps : List Int), (∀ h ∈ ps, kn h = kn' h) → Sf kn t ps = Sf kn' t ps := by
  intro t
  induction t using Pl.ind with
  | h1 s =>
    intro ps h
    rw [Sf_ln, Sf_ln]
    have : ps.all (fun h => decide (kn h = none ∨ kn h = some s)) = ps.all (fun h => decide (kn' h = none ∨ kn' h = some s)) := by
      rw [Bool.eq_iff_iff, List.all_eq_true, List.all_eq_true]
      constructor
      · intro q x hx; rw [← h x hx]; exact q x hx
      · intro q x hx; rw [h x hx]; exact q x hx
    rw [this]
  | h2 k parts ih =>
    intro ps h
    rw [Sf_jn, Sf_jn, Sfs_map, Sfs_map]
    have := tot_congr (es := parts.map (fun p => (Sf kn p, Sf kn' p))) (r := trains k ps) (fun e he A hA => by
      obtain ⟨p, hp, rfl⟩ := List.mem_map.mp he
      rw [(trOk k ps).flat] at hA
      exact ih p hp A fun x hx => h x (hA.subset hx))
    rw [List.map_map, List.map_map] at this
    exact this
theorem mem_trains {k : Bool} {ps : List Int} {h : Int} (hh : h ∈ ps) : ∃ τ ∈ trains k ps, h ∈ τ := by
  rw [← (trOk k ps).flat] at hh
  exact List.mem_flatten.mp hh
/-- somebody is known to come from elsewhere -/
theorem Sf_out {kn : Int → Option L} : ∀ (t : Pl L) (ps : List Int), (∃ h ∈ ps, ∃ l, kn h = some l ∧ l ∉ t.lv) → Sf kn t ps = 0 := by
  intro t
  induction t using Pl.ind with
  | h1 s =>
    intro ps ⟨h, hh, l, e, n⟩
    rw [Sf_ln, if_neg]
    intro q
    have := of_decide_eq_true (List.all_eq_true.mp q h hh)
    rw [e] at this
    rcases this with z | z
    · cases z
    · injection z with z
      exact n (by rw [z, lv_ln]; simp)
  | h2 k parts ih =>
    intro ps ⟨h, hh, l, e, n⟩
    rw [Sf_jn, Sfs_map]
    obtain ⟨τ, ht, hτ⟩ := mem_trains (k := k) hh
    refine tot_out ht fun G hG A B => ?_
    obtain ⟨p, hp, rfl⟩ := List.mem_map.mp hG
    refine ih p hp _ ⟨h, by simp [hτ], l, e, fun z => n ?_⟩
    rw [lv_jn]
    exact mem_lvs.mpr ⟨p, hp, z⟩
/-- a train that no part takes -/
theorem Sf_noHome {kn : Int → Option L} {k : Bool} {parts : List (Pl L)} {ps : List Int} {τ : List Int} (ht : τ ∈ trains k ps) (h : ∀ p ∈ parts, ∃ x ∈ τ, ∃ l, kn x = some l ∧ l ∉ p.lv) : Sf kn (.jn k parts) ps = 0 := by
  rw [Sf_jn, Sfs_map]
  refine tot_out ht fun G hG A B => ?_
  obtain ⟨p, hp, rfl⟩ := List.mem_map.mp hG
  obtain ⟨x, hx, l, e, n⟩ := h p hp
  exact Sf_out p _ ⟨x, by simp [hx], l, e, n⟩
/-- one more person known -/
def put (kn : Int → Option L) (h : Int) (l : L) : Int → Option L := fun x => if x = h then some l else kn x
theorem put_same (kn : Int → Option L) (h : Int) (l : L) : put kn h l h = some l := by simp [put]
theorem put_ne {kn : Int → Option L} {h x : Int} {l : L} (e : x ≠ h) : put kn h l x = kn x := by simp [put, e]
theorem sum_one {Ls : List L} {s : L} (nd : Ls.Nodup) (hs : s ∈ Ls) (c : Nat) : sumOf Ls (fun l => if l = s then c else 0) = c := by
  induction Ls with
  | nil => cases hs
  | cons a r ih =>
    obtain ⟨n1, n2⟩ := List.nodup_cons.mp nd
    rw [sumOf_cons]
    by_cases e : a = s
    · subst e
      rw [if_pos rfl, sumOf_zero fun b hb => if_neg fun (z : b = a) => n1 (z ▸ hb)]
      rfl
    · rw [if_neg e, ih n2 ((List.mem_cons.mp hs).resolve_left fun z => e z.symm)]
      omega
/-- THE SUM: over all lines of one more person -/
theorem Sf_sum {Ls : List L} (nd : Ls.Nodup) {kn : Int → Option L} {h : Int} (hk : kn h = none) : ∀ (t : Pl L), (∀ s ∈ t.lv, s ∈ Ls) → ∀ ps : List Int, ps.Nodup → h ∈ ps → sumOf Ls (fun l => Sf (put kn h l) t ps) = Sf kn t ps := by
  intro t
  induction t using Pl.ind with
  | h1 s =>
    intro hL ps np hh
    have hs : s ∈ Ls := hL s (by rw [lv_ln]; simp)
    rw [Sf_ln]
    have e : ∀ l ∈ Ls, Sf (put kn h l) (.ln s) ps = if l = s then (if ps.all (fun h => decide (kn h = none ∨ kn h = some s)) = true then 1 else 0) else 0 := fun l _ => by
      rw [Sf_ln]
      by_cases e : l = s
      · rw [if_pos e]
        subst e
        have : ps.all (fun x => decide (put kn h l x = none ∨ put kn h l x = some l)) = ps.all (fun x => decide (kn x = none ∨ kn x = some l)) := by
          rw [Bool.eq_iff_iff, List.all_eq_true, List.all_eq_true]
          constructor
          · intro q x hx
            by_cases ex : x = h
            · subst ex; rw [hk]; simp
            · have := q x hx; rwa [put_ne ex] at this
          · intro q x hx
            by_cases ex : x = h
            · subst ex; rw [put_same]; simp
            · rw [put_ne ex]; exact q x hx
        rw [this]
      · rw [if_neg e, if_neg]
        intro q
        have := of_decide_eq_true (List.all_eq_true.mp q h hh)
        rw [put_same] at this
        rcases this with z | z
        · cases z
        · injection z with z; exact e z
    rw [sumOf_congr e]
    exact sum_one nd hs _
  | h2 k parts ih =>
    intro hL ps np hh
    rw [Sf_jn, Sfs_map]
    have fl := (trOk k ps).flat
    have := tot_fam Ls h (r := trains k ps) (es := parts.map (fun p => ((fun l => Sf (put kn h l) p, Sf kn p) : Fam L))) (by rw [fl]; exact np) (by rw [fl]; exact hh) (fun e he => by
      obtain ⟨p, hp, rfl⟩ := List.mem_map.mp he
      rw [fl]
      refine ⟨fun l A hA hn => ?_, fun A hA hn => ?_⟩
      · exact Sf_indep p A fun x hx => put_ne fun z => hn (z ▸ hx)
      · exact ih p hp (fun s hs => hL s (by rw [lv_jn]; exact mem_lvs.mpr ⟨p, hp, hs⟩)) A (hA.nodup np) hn)
    rw [List.map_map] at this
    have e1 : ∀ l ∈ Ls, Sf (put kn h l) (.jn k parts) ps = tot (trains k ps) ((parts.map (fun p => ((fun l => Sf (put kn h l) p, Sf kn p) : Fam L))).map (fun e => e.1 l)) := fun l _ => by
      rw [Sf_jn, Sfs_map, List.map_map]
      rfl
    rw [sumOf_congr e1, this]
    rfl
end
end FM
end
section
set_option maxHeartbeats 1000000
/-! M4: all people known: the count is nought or one, and one says that the row may come so. -/
namespace FM
/-- whoever comes from another class than the one ahead beats all ahead -/
def Cond (k : Bool) (R : Int → Int → Prop) (ns : List Int) : Prop := ∀ a x y b, ns = a ++ x :: y :: b → R x y ∨ ∀ z ∈ a ++ [x], beh k z y = true
section
variable {L : Type} [DecidableEq L]
/-- two people of one part -/
def SameP (ps : List (Pl L)) (f : Int → L) (x y : Int) : Prop := ∃ p ∈ ps, f x ∈ p.lv ∧ f y ∈ p.lv
def inP (p : Pl L) (f : Int → L) (x : Int) : Bool := decide (f x ∈ p.lv)
mutual
/-- the people ns may have come from the lines f at every junction of the plan -/
def Ok (f : Int → L) : Pl L → List Int → Prop
  | .ln s => fun ns => ∀ x ∈ ns, f x = s
  | .jn k ps => fun ns => (∀ x ∈ ns, f x ∈ lvs ps) ∧ Cond k (SameP ps f) ns ∧ Oks f ps ns
def Oks (f : Int → L) : List (Pl L) → List Int → Prop
  | [] => fun _ => True
  | p :: r => fun ns => Ok f p (ns.filter (inP p f)) ∧ Oks f r ns
end
theorem Ok_ln (f : Int → L) (s : L) (ns : List Int) : Ok f (.ln s) ns ↔ ∀ x ∈ ns, f x = s := by simp [Ok]
theorem Oks_all (f : Int → L) (ps : List (Pl L)) (ns : List Int) : Oks f ps ns ↔ ∀ p ∈ ps, Ok f p (ns.filter (inP p f)) := by
  induction ps with
  | nil => simp [Oks]
  | cons p r ih => simp [Oks, ih]
theorem Ok_jn (f : Int → L) (k : Bool) (ps : List (Pl L)) (ns : List Int) : Ok f (.jn k ps) ns ↔ (∀ x ∈ ns, f x ∈ lvs ps) ∧ Cond k (SameP ps f) ns ∧ ∀ p ∈ ps, Ok f p (ns.filter (inP p f)) := by
  rw [← Oks_all]; simp [Ok]
/-- in the trains of a row: two neighbours stand in one train, or the second beats all ahead -/
theorem trains_next {k : Bool} {ns a b : List Int} {x y : Int} (e : ns = a ++ x :: y :: b) : (∃ τ ∈ trains k ns, x ∈ τ ∧ y ∈ τ) ∨ ∀ z ∈ a ++ [x], beh k z y = true := by
  have T := trOk k ns
  generalize trains k ns = ts at T
  obtain ⟨fl, ne, rc, lw⟩ := T
  rw [← fl] at e
  clear fl
  -- the train in which y's place lies
  have main : ∀ (ts : List (List Int)) (a : List Int), (∀ t ∈ ts, t ≠ []) → ts.flatten = a ++ x :: y :: b → (∃ τ ∈ ts, x ∈ τ ∧ y ∈ τ) ∨ ∃ c t d, ts = c ++ t :: d ∧ t.headD 0 = y ∧ c.flatten = a ++ [x] := by
    intro ts
    induction ts with
    | nil => intro a _ e; simp at e
    | cons t r ih =>
      intro a ne e
      rw [List.flatten_cons] at e
      rcases List.append_eq_append_iff.mp e with ⟨a', e1, e2⟩ | ⟨c', e1, e2⟩
      · -- t ends ahead of x
        rcases ih a' (fun u hu => ne u (by simp [hu])) e2 with ⟨τ, h1, h2⟩ | ⟨c, t', d, h1, h2, h3⟩
        · exact .inl ⟨τ, by simp [h1], h2⟩
        · exact .inr ⟨t :: c, t', d, by rw [h1]; rfl, h2, by rw [List.flatten_cons, h3, e1]; simp⟩
      · -- x lies in t
        cases c' with
        | nil =>
          -- t ends ahead of x (exactly)
          have e2' : r.flatten = [] ++ x :: y :: b := by simpa using e2.symm
          rcases ih [] (fun u hu => ne u (by simp [hu])) e2' with ⟨τ, h1, h2⟩ | ⟨c, t', d, h1, h2, h3⟩
          · exact .inl ⟨τ, by simp [h1], h2⟩
          · exact .inr ⟨t :: c, t', d, by rw [h1]; rfl, h2, by rw [List.flatten_cons, h3, e1]; simp⟩
        | cons u c2 =>
          injection e2 with e3 e4
          subst e3
          cases c2 with
          | nil =>
            -- t ends with x; y heads the next train
            have e4' : r.flatten = y :: b := by simpa using e4.symm
            cases r with
            | nil => simp at e4'
            | cons t2 r2 =>
              have n2 := ne t2 (by simp)
              cases t2 with
              | nil => exact absurd rfl n2
              | cons v t3 =>
                rw [List.flatten_cons] at e4'
                injection e4' with e5 _
                subst e5
                exact .inr ⟨[t], v :: t3, r2, rfl, rfl, by rw [e1]; simp⟩
          | cons v c3 =>
            injection e4 with e5 _
            subst e5
            exact .inl ⟨t, by simp, by rw [e1]; simp, by rw [e1]; simp⟩
  rcases main ts a ne e with h | ⟨c, t, d, h1, h2, h3⟩
  · exact .inl h
  · refine .inr fun z hz => ?_
    rw [← h2]
    exact rc c t d h1 z (by rw [h3]; exact hz)
/-! ### the one way -/
/-- the state of the sum: the parts with what they have -/
abbrev Est (L : Type) := List (Pl L × List Int)
def fnOf (kn : Int → Option L) (es : Est L) : List (List Int → Nat) := es.map (fun e A => Sf kn e.1 (e.2 ++ A))
def give (τ : List Int) (e : Pl L × List Int) : Pl L × List Int := (e.1, e.2 ++ τ)
theorem fnOf_mods (kn : Int → Option L) (τ : List Int) (es : Est L) : mods (sh τ) (fnOf kn es) = (mods (give τ) es).map (fnOf kn) := by
  unfold fnOf
  refine mods_map (f := give τ) (fun e => ?_) es
  funext A
  show Sf kn e.1 ((e.2 ++ τ) ++ A) = Sf kn e.1 (e.2 ++ (τ ++ A))
  rw [List.append_assoc]
theorem tot_give (kn : Int → Option L) (τ : List Int) (r : List (List Int)) (es : Est L) : tot (τ :: r) (fnOf kn es) = sumOf (mods (give τ) es) (fun es' => tot r (fnOf kn es')) := by
  rw [tot_cons, fnOf_mods, sumOf_map]
/-- a part that has somebody from elsewhere: nought -/
theorem tot_bad {kn : Int → Option L} {r : List (List Int)} {es : Est L} (h : ∃ e ∈ es, ∃ x ∈ e.2, ∃ l, kn x = some l ∧ l ∉ e.1.lv) : tot r (fnOf kn es) = 0 := by
  obtain ⟨e, he, x, hx, l, q, n⟩ := h
  refine tot_zero ⟨_, List.mem_map.mpr ⟨e, he, rfl⟩, fun A => ?_⟩
  exact Sf_out e.1 _ ⟨x, by simp [hx], l, q, n⟩
/-- the parts have no line in common -/
def Apart (es : Est L) : Prop := ∀ a e b, es = a ++ e :: b → ∀ s ∈ e.1.lv, (∀ e' ∈ a, s ∉ e'.1.lv) ∧ ∀ e' ∈ b, s ∉ e'.1.lv
theorem sum_mods_one {τ : List Int} {a b : Est L} {e : Pl L × List Int} {F : Est L → Nat} (h : ∀ e' ∈ a ++ b, ∀ es', (∃ x y, es' = x ++ give τ e' :: y) → F es' = 0) : sumOf (mods (give τ) (a ++ e :: b)) F = F (a ++ give τ e :: b) := by
  rw [mods_split, sumOf_append, sumOf_cons, sumOf_map, sumOf_map]
  rw [sumOf_zero (l := mods (give τ) a), sumOf_zero (l := mods (give τ) b)]
  · omega
  · intro x hx
    obtain ⟨u, g, v, e1, e2⟩ := mem_mods hx
    exact h g (by rw [e1]; simp) _ ⟨a ++ e :: u, v, by rw [e2]; simp⟩
  · intro x hx
    obtain ⟨u, g, v, e1, e2⟩ := mem_mods hx
    exact h g (by rw [e1]; simp) _ ⟨u, v ++ e :: b, by rw [e2]; simp⟩
theorem prodAt_fnOf (kn : Int → Option L) (es : Est L) : prodAt [] (fnOf kn es) = (es.map (fun e => Sf kn e.1 e.2)).foldr (· * ·) 1 := by
  induction es with
  | nil => rfl
  | cons e r ih =>
    show Sf kn e.1 (e.2 ++ []) * prodAt [] (fnOf kn r) = _
    rw [ih, List.append_nil]
    rfl
theorem prod_congr {es es' : Est L} {F : Pl L × List Int → Nat} (h : es.map F = es'.map F) : (es.map F).foldr (· * ·) 1 = (es'.map F).foldr (· * ·) 1 := by rw [h]
theorem tot_known {kn : Int → Option L} {f : Int → L} : ∀ {r : List (List Int)} {es : Est L}, (∀ t ∈ r, t ≠ []) → (∀ x ∈ r.flatten, kn x = some (f x)) → Apart es → tot r (fnOf kn es) ≠ 0 →
    (∀ τ ∈ r, ∃ e ∈ es, ∀ x ∈ τ, f x ∈ e.1.lv) ∧ tot r (fnOf kn es) = (es.map (fun e => Sf kn e.1 (e.2 ++ r.flatten.filter (inP e.1 f)))).foldr (· * ·) 1 := by
  intro r
  induction r with
  | nil =>
    intro es _ _ _ _
    refine ⟨fun τ h => absurd h (by simp), ?_⟩
    rw [tot_nil, prodAt_fnOf]
    have : es.map (fun e => Sf kn e.1 e.2) = es.map (fun e => Sf kn e.1 (e.2 ++ ([] : List (List Int)).flatten.filter (inP e.1 f))) := by
      refine List.map_congr_left fun e _ => ?_
      simp
    rw [this]
  | cons τ r ih =>
    intro es ne hk ap hn
    rw [tot_give] at hn
    obtain ⟨es', hm, hn'⟩ := sumOf_pos hn
    obtain ⟨a, e, b, e1, e2⟩ := mem_mods hm
    subst e1
    subst e2
    -- all of τ come from lines of e
    have hall : ∀ x ∈ τ, f x ∈ e.1.lv := fun x hx => by
      by_cases q : f x ∈ e.1.lv
      · exact q
      · exact absurd (tot_bad ⟨give τ e, by simp, x, by simp [give, hx], f x, hk x (by simp [hx]), q⟩) hn'
    obtain ⟨x0, hx0⟩ : ∃ x0, x0 ∈ τ := by
      cases τ with
      | nil => exact absurd rfl (ne [] (by simp))
      | cons x0 _ => exact ⟨x0, by simp⟩
    have hother : ∀ e' ∈ a ++ b, ∀ x ∈ τ, f x ∉ e'.1.lv := fun e' he' x hx => by
      have := ap a e b rfl (f x) (hall x hx)
      rcases List.mem_append.mp he' with h | h
      · exact this.1 e' h
      · exact this.2 e' h
    have one : sumOf (mods (give τ) (a ++ e :: b)) (fun es' => tot r (fnOf kn es')) = tot r (fnOf kn (a ++ give τ e :: b)) := by
      refine sum_mods_one (F := fun es' => tot r (fnOf kn es')) fun e' he' es' ⟨u, v, eu⟩ => ?_
      refine tot_bad ⟨give τ e', by rw [eu]; simp, x0, by simp [give, hx0], f x0, hk x0 (by simp [hx0]), ?_⟩
      exact hother e' he' x0 hx0
    have ap' : Apart (a ++ give τ e :: b) := by
      intro a2 g b2 eg s hs
      -- the same plans in the same places
      have em : (a ++ e :: b).map (·.1) = (a2 ++ g :: b2).map (·.1) := by rw [← eg]; simp [give]
      rw [List.map_append (l₁ := a2), List.map_cons] at em
      obtain ⟨a3, r3, e3, e4, e5⟩ := List.map_eq_append_iff.mp em
      obtain ⟨g3, b3, e6, e7, e8⟩ := List.map_eq_cons_iff.mp e5
      have q := ap a3 g3 b3 (by rw [e3, e6]) s (by rw [e7]; exact hs)
      refine ⟨fun e' he' => ?_, fun e' he' => ?_⟩
      · have : e'.1 ∈ a3.map (·.1) := by rw [e4]; exact List.mem_map.mpr ⟨e', he', rfl⟩
        obtain ⟨w, hw, ew⟩ := List.mem_map.mp this
        rw [← ew]
        exact q.1 w hw
      · have : e'.1 ∈ b3.map (·.1) := by rw [e8]; exact List.mem_map.mpr ⟨e', he', rfl⟩
        obtain ⟨w, hw, ew⟩ := List.mem_map.mp this
        rw [← ew]
        exact q.2 w hw
    obtain ⟨h1, h2⟩ := ih (es := a ++ give τ e :: b) (fun t ht => ne t (by simp [ht])) (fun x hx => hk x (by rw [List.flatten_cons]; simp [hx])) ap' hn'
    refine ⟨fun σ hσ => ?_, ?_⟩
    · rcases List.mem_cons.mp hσ with q | q
      · subst q
        exact ⟨e, by simp, hall⟩
      · obtain ⟨g, hg, q2⟩ := h1 σ q
        rcases List.mem_append.mp hg with z | z
        · exact ⟨g, by simp [z], q2⟩
        · rcases List.mem_cons.mp z with z | z
          · subst z
            exact ⟨e, by simp, q2⟩
          · exact ⟨g, by simp [z], q2⟩
    · rw [tot_give, one, h2]
      have same : ∀ e' ∈ a ++ b, (τ :: r).flatten.filter (inP e'.1 f) = r.flatten.filter (inP e'.1 f) := fun e' he' => by
        rw [List.flatten_cons, List.filter_append]
        have : τ.filter (inP e'.1 f) = [] := by
          rw [List.filter_eq_nil_iff]
          intro x hx
          unfold inP
          rw [decide_eq_true_iff]
          exact hother e' he' x hx
        rw [this, List.nil_append]
      have mine : (τ :: r).flatten.filter (inP e.1 f) = τ ++ r.flatten.filter (inP e.1 f) := by
        rw [List.flatten_cons, List.filter_append]
        congr 1
        rw [List.filter_eq_self]
        intro x hx
        unfold inP
        exact decide_eq_true (hall x hx)
      have : (a ++ give τ e :: b).map (fun e => Sf kn e.1 (e.2 ++ r.flatten.filter (inP e.1 f))) = (a ++ e :: b).map (fun e => Sf kn e.1 (e.2 ++ (τ :: r).flatten.filter (inP e.1 f))) := by
        rw [List.map_append, List.map_append, List.map_cons, List.map_cons]
        congr 1
        · refine List.map_congr_left fun e' he' => ?_
          rw [same e' (by simp [he'])]
        · congr 1
          · rw [mine]
            show Sf kn e.1 ((e.2 ++ τ) ++ _) = _
            rw [List.append_assoc]
            rfl
          · refine List.map_congr_left fun e' he' => ?_
            rw [same e' (by simp [he'])]
      rw [this]
theorem foldr_ne {l : List Nat} (h : l.foldr (· * ·) 1 ≠ 0) : ∀ x ∈ l, x ≠ 0 := by
  induction l with
  | nil => intro x hx; cases hx
  | cons a r ih =>
    intro x hx e
    have h' : a * r.foldr (· * ·) 1 ≠ 0 := h
    rcases List.mem_cons.mp hx with q | q
    · subst q; rw [e, Nat.zero_mul] at h'; exact h' rfl
    · exact ih (fun z => h' (by rw [z, Nat.mul_zero])) x q e
theorem foldr_one {l : List Nat} (h : ∀ x ∈ l, x = 1) : l.foldr (· * ·) 1 = 1 := by
  induction l with
  | nil => rfl
  | cons a r ih =>
    show a * r.foldr (· * ·) 1 = 1
    rw [h a (by simp), ih fun x hx => h x (by simp [hx])]
theorem apart_of {ps : List (Pl L)} (nd : (lvs ps).Nodup) : Apart (ps.map (fun p => (p, ([] : List Int)))) := by
  intro a e b eq s hs
  obtain ⟨a3, r3, e3, e4, e5⟩ := List.map_eq_append_iff.mp eq
  obtain ⟨g3, b3, e6, e7, e8⟩ := List.map_eq_cons_iff.mp e5
  subst e4; subst e7; subst e8
  rw [e3, e6, lvs_append, lvs_cons] at nd
  obtain ⟨n1, n2, n3⟩ := List.nodup_append.mp nd
  obtain ⟨n4, n5, n6⟩ := List.nodup_append.mp n2
  refine ⟨fun e' he' z => ?_, fun e' he' z => ?_⟩
  · obtain ⟨p, hp, rfl⟩ := List.mem_map.mp he'
    exact n3 s (mem_lvs.mpr ⟨p, hp, z⟩) s (by simp [show s ∈ g3.lv from hs]) rfl
  · obtain ⟨p, hp, rfl⟩ := List.mem_map.mp he'
    exact n6 s hs s (mem_lvs.mpr ⟨p, hp, z⟩) rfl
theorem nodup_part {ps : List (Pl L)} (nd : (lvs ps).Nodup) {p : Pl L} (hp : p ∈ ps) : p.lv.Nodup := by
  obtain ⟨a, b, rfl⟩ := List.append_of_mem hp
  rw [lvs_append, lvs_cons] at nd
  exact (List.nodup_append.mp (List.nodup_append.mp nd).2.1).1
/-- ALL KNOWN: a count that is not nought is one, and the row may come so -/
theorem Sf_all {kn : Int → Option L} {f : Int → L} : ∀ (t : Pl L), t.lv.Nodup → ∀ ps : List Int, (∀ x ∈ ps, kn x = some (f x)) → Sf kn t ps ≠ 0 → Sf kn t ps = 1 ∧ Ok f t ps := by
  intro t
  induction t using Pl.ind with
  | h1 s =>
    intro _ ps hk hn
    rw [Sf_ln] at hn ⊢
    by_cases q : ps.all (fun h => decide (kn h = none ∨ kn h = some s)) = true
    · rw [if_pos q]
      refine ⟨rfl, (Ok_ln f s ps).mpr fun x hx => ?_⟩
      have := of_decide_eq_true (List.all_eq_true.mp q x hx)
      rw [hk x hx] at this
      rcases this with z | z
      · cases z
      · injection z
    · rw [if_neg q] at hn; exact absurd rfl hn
  | h2 k parts ih =>
    intro nd ps hk hn
    rw [lv_jn] at nd
    have e0 : Sfs kn parts = fnOf kn (parts.map (fun p => (p, ([] : List Int)))) := by
      rw [Sfs_map]
      unfold fnOf
      rw [List.map_map]
      rfl
    rw [Sf_jn, e0] at hn
    have T := trOk k ps
    obtain ⟨h1, h2⟩ := tot_known (kn := kn) (f := f) (r := trains k ps) T.ne (by rw [T.flat]; exact hk) (apart_of nd) hn
    rw [T.flat, List.map_map] at h2
    rw [h2] at hn
    have each : ∀ p ∈ parts, Sf kn p (ps.filter (inP p f)) = 1 ∧ Ok f p (ps.filter (inP p f)) := fun p hp =>
      ih p hp (nodup_part nd hp) _ (fun x hx => hk x (List.mem_filter.mp hx).1) (foldr_ne hn _ (List.mem_map.mpr ⟨p, hp, rfl⟩))
    refine ⟨?_, (Ok_jn f k parts ps).mpr ⟨fun x hx => ?_, fun a x y b e => ?_, fun p hp => (each p hp).2⟩⟩
    · rw [Sf_jn, e0, h2]
      refine foldr_one fun v hv => ?_
      obtain ⟨p, hp, rfl⟩ := List.mem_map.mp hv
      exact (each p hp).1
    · obtain ⟨τ, ht, hτ⟩ := mem_trains (k := k) hx
      obtain ⟨e, he, q⟩ := h1 τ ht
      obtain ⟨p, hp, rfl⟩ := List.mem_map.mp he
      exact mem_lvs.mpr ⟨p, hp, q x hτ⟩
    · rcases trains_next (k := k) e with ⟨τ, ht, h3, h4⟩ | h
      · obtain ⟨e, he, q⟩ := h1 τ ht
        obtain ⟨p, hp, rfl⟩ := List.mem_map.mp he
        exact .inl ⟨p, hp, q x h3, q y h4⟩
      · exact .inr h
/-! ### a bound -/
theorem filter_lt {α : Type} {p q : α → Bool} {x : α} : ∀ {l : List α}, x ∈ l → p x = true → q x = false → (∀ y ∈ l, q y = true → p y = true) → (l.filter q).length < (l.filter p).length
  | [], h, _, _, _ => by cases h
  | a :: r, h, hp, hq, himp => by
    have le : ∀ l : List α, (∀ y ∈ l, q y = true → p y = true) → (l.filter q).length ≤ (l.filter p).length := fun l => by
      induction l with
      | nil => intro _; exact Nat.le_refl _
      | cons c l ih =>
        intro hi
        have h1 := ih fun y hy => hi y (by simp [hy])
        rw [List.filter_cons, List.filter_cons]
        by_cases hc : q c = true
        · rw [if_pos hc, if_pos (hi c (by simp) hc)]
          simp only [List.length_cons]
          omega
        · rw [if_neg hc]
          split
          · simp only [List.length_cons]; omega
          · exact h1
    rw [List.filter_cons, List.filter_cons]
    rcases List.mem_cons.mp h with e | h
    · subst e
      rw [if_pos hp, if_neg (by rw [hq]; exact Bool.false_ne_true)]
      have := le r fun y hy => himp y (by simp [hy])
      simp only [List.length_cons]
      omega
    · have ih := filter_lt h hp hq fun y hy => himp y (by simp [hy])
      by_cases hc : q a = true
      · rw [if_pos hc, if_pos (himp a (by simp) hc)]
        simp only [List.length_cons]
        omega
      · rw [if_neg hc]
        split
        · simp only [List.length_cons]; omega
        · exact ih
theorem Sf_le [Inhabited L] {t : Pl L} (nd : t.lv.Nodup) {ps : List Int} (np : ps.Nodup) (h1 : 1 ≤ t.lv.length) : ∀ (n : Nat) (kn : Int → Option L), (ps.filter (fun x => (kn x).isNone)).length ≤ n → Sf kn t ps ≤ t.lv.length ^ n := by
  intro n
  induction n with
  | zero =>
    intro kn h
    have h0 : ps.filter (fun x => (kn x).isNone) = [] := List.eq_nil_of_length_eq_zero (by omega)
    rw [List.filter_eq_nil_iff] at h0
    by_cases q : Sf kn t ps = 0
    · rw [q]; exact Nat.zero_le _
    · have := (Sf_all (kn := kn) (f := fun x => (kn x).getD default) t nd ps (fun x hx => by
        have := h0 x hx
        cases e : kn x with
        | none => rw [e] at this; simp at this
        | some l => rfl) q).1
      rw [this]
      exact Nat.le_refl _
  | succ n ih =>
    intro kn h
    by_cases q : ∃ x ∈ ps, kn x = none
    · obtain ⟨x, hx, e⟩ := q
      rw [← Sf_sum nd e t (fun s hs => hs) ps np hx]
      refine Nat.le_trans (sumOf_le (c := t.lv.length ^ n) fun l hl => ih (put kn x l) ?_) ?_
      · have := filter_lt (p := fun y => (kn y).isNone) (q := fun y => (put kn x l y).isNone) hx (by simp [e]) (by simp [put_same]) (fun y hy z => by
          by_cases ey : y = x
          · subst ey; rw [e]; rfl
          · rw [put_ne ey] at z; exact z)
        omega
      · rw [Nat.pow_succ, Nat.mul_comm]
        exact Nat.le_refl _
    · refine Nat.le_trans (ih kn ?_) (Nat.pow_le_pow_right h1 (Nat.le_succ n))
      have : ps.filter (fun x => (kn x).isNone) = [] := by
        rw [List.filter_eq_nil_iff]
        intro x hx z
        refine q ⟨x, hx, ?_⟩
        cases e : kn x with
        | none => rfl
        | some l => rw [e] at z; simp at z
      rw [this]
      exact Nat.zero_le _
end
end FM
end
section
set_option maxHeartbeats 1000000
/-! M5: the flat plan says the same. -/
namespace FM
section
variable {L : Type} [DecidableEq L]
/-- a part among the parts of a junction of kind k: itself, or its parts where it is of that kind -/
def ex (k : Bool) : Pl L → List (Pl L)
  | .ln s => [.ln s]
  | .jn k' rs => if k' = k then rs else [.jn k' rs]
mutual
inductive Flat : Pl L → Pl L → Prop
  | ln (s : L) : Flat (.ln s) (.ln s)
  | jn {k : Bool} {ps ps' qs : List (Pl L)} : Flats ps ps' → qs.Perm (ps'.flatMap (ex k)) → Flat (.jn k ps) (.jn k qs)
inductive Flats : List (Pl L) → List (Pl L) → Prop
  | nil : Flats [] []
  | cons {p p' : Pl L} {r r' : List (Pl L)} : Flat p p' → Flats r r' → Flats (p :: r) (p' :: r')
end
theorem Flats.mem : ∀ {ps ps' : List (Pl L)}, Flats ps ps' → ∀ p ∈ ps, ∃ p' ∈ ps', Flat p p'
  | _, _, .nil, p, h => by cases h
  | _, _, .cons h1 h2, p, h => by
    rcases List.mem_cons.mp h with e | h
    · subst e; exact ⟨_, by simp, h1⟩
    · obtain ⟨p', hp, f⟩ := h2.mem p h
      exact ⟨p', by simp [hp], f⟩
theorem lvs_flatMap (ps : List (Pl L)) : lvs ps = ps.flatMap Pl.lv := by
  induction ps with
  | nil => rw [lvs_nil]; rfl
  | cons p r ih => rw [lvs_cons, ih]; rfl
theorem lvs_perm {ps qs : List (Pl L)} (h : ps.Perm qs) : (lvs ps).Perm (lvs qs) := by
  rw [lvs_flatMap, lvs_flatMap]
  exact h.flatMap_right _
theorem lvs_ex (k : Bool) (p : Pl L) : lvs (ex k p) = p.lv := by
  cases p with
  | ln s => simp [ex, lvs_cons, lvs_nil]
  | jn k' rs =>
    show lvs (if k' = k then rs else [.jn k' rs]) = _
    by_cases h : k' = k
    · rw [if_pos h, lv_jn]
    · rw [if_neg h, lvs_cons, lvs_nil, List.append_nil]
theorem lvs_flatEx (k : Bool) (ps : List (Pl L)) : lvs (ps.flatMap (ex k)) = lvs ps := by
  induction ps with
  | nil => rfl
  | cons p r ih => rw [List.flatMap_cons, lvs_append, lvs_ex, ih, lvs_cons]
mutual
theorem Flat.perm : ∀ {t t' : Pl L}, Flat t t' → t'.lv.Perm t.lv
  | _, _, .ln s => List.Perm.refl _
  | _, _, .jn (k := k) h1 h2 => by
    rw [lv_jn, lv_jn]
    refine (lvs_perm h2).trans ?_
    rw [lvs_flatEx]
    exact Flats.perm h1
theorem Flats.perm : ∀ {ps ps' : List (Pl L)}, Flats ps ps' → (lvs ps').Perm (lvs ps)
  | _, _, .nil => List.Perm.refl _
  | _, _, .cons h1 h2 => by
    rw [lvs_cons, lvs_cons]
    exact (Flat.perm h1).append (Flats.perm h2)
end
/-! ### the condition of a junction, carried over -/
theorem Cond.mono {k : Bool} {R R' : Int → Int → Prop} {ns : List Int} (h : Cond k R ns) (hr : ∀ x ∈ ns, ∀ y ∈ ns, R x y → R' x y) : Cond k R' ns := fun a x y b e => by
  rcases h a x y b e with q | q
  · exact .inl (hr x (by rw [e]; simp) y (by rw [e]; simp) q)
  · exact .inr q
/-- among some of the people, where a class is wholly among them or not at all -/
theorem Cond.filter {k : Bool} {R : Int → Int → Prop} {ns : List Int} {p : Int → Bool} (h : Cond k R ns) (hp : ∀ x ∈ ns, ∀ y ∈ ns, R x y → p y = true → p x = true) : Cond k R (ns.filter p) := fun a x y b e => by
  -- where x and y stand in the whole row
  have e' : ns.filter p = (a ++ [x]) ++ y :: b := by rw [e]; simp
  obtain ⟨l1, l2, e1, e2, e3⟩ := List.filter_eq_append_iff.mp e'
  obtain ⟨m1, m2, e4, e5, e6, e7⟩ := List.filter_eq_cons_iff.mp e3
  -- ns = l1 ++ m1 ++ y :: m2, nobody in m1 is among them
  have ens : ns = (l1 ++ m1) ++ y :: m2 := by rw [e1, e4]; simp
  have fl : (l1 ++ m1).filter p = a ++ [x] := by
    rw [List.filter_append, e2, List.filter_eq_nil_iff.mpr e5, List.append_nil]
  have all : ∀ z ∈ a ++ [x], z ∈ l1 ++ m1 := fun z hz => by
    rw [← fl] at hz
    exact (List.mem_filter.mp hz).1
  rcases snoc_cases (l1 ++ m1) with e0 | ⟨c, u, e0⟩
  · have := all x (by simp)
    rw [e0] at this; cases this
  · rw [e0] at ens
    rcases h c u y m2 (by rw [ens]; simp) with q | q
    · -- the one ahead of y is of y's class, so among them: it is x
      have hu : p u = true := hp u (by rw [ens]; simp) y (by rw [ens]; simp) q e6
      have : u = x := by
        rw [e0, List.filter_append] at fl
        have e8 : [u].filter p = [u] := by simp [hu]
        rw [e8] at fl
        have := (List.append_inj' fl rfl).2
        injection this
      subst this
      exact .inl q
    · exact .inr fun z hz => q z (by rw [← e0]; exact all z hz)
theorem inP_iff {p : Pl L} {f : Int → L} {x : Int} : inP p f x = true ↔ f x ∈ p.lv := by
  unfold inP; exact decide_eq_true_iff
theorem unique_part {ps : List (Pl L)} (nd : (lvs ps).Nodup) {s : L} : ∀ {p q : Pl L}, p ∈ ps → q ∈ ps → s ∈ p.lv → s ∈ q.lv → p = q := by
  induction ps with
  | nil => intro p q hp; cases hp
  | cons u r ih =>
    intro p q hp hq sp sq
    rw [lvs_cons] at nd
    obtain ⟨n1, n2, n3⟩ := List.nodup_append.mp nd
    rcases List.mem_cons.mp hp with e | hp'
    · rcases List.mem_cons.mp hq with e' | hq'
      · rw [e, e']
      · subst e
        exact absurd rfl (n3 s sp s (mem_lvs.mpr ⟨q, hq', sq⟩))
    · rcases List.mem_cons.mp hq with e' | hq'
      · subst e'
        exact absurd rfl (n3 s sq s (mem_lvs.mpr ⟨p, hp', sp⟩))
      · exact ih n2 hp' hq' sp sq
/-- a junction of some of the parts, of the same kind, over its people -/
theorem Ok_sub {f : Int → L} {k : Bool} {qs rs : List (Pl L)} {ns : List Int} (nd : (lvs qs).Nodup) (hs : ∀ r ∈ rs, r ∈ qs) (h : Ok f (.jn k qs) ns) : Ok f (.jn k rs) (ns.filter (fun x => decide (f x ∈ lvs rs))) := by
  obtain ⟨h1, h2, h3⟩ := (Ok_jn f k qs ns).mp h
  refine (Ok_jn f k rs _).mpr ⟨fun x hx => of_decide_eq_true (List.mem_filter.mp hx).2, ?_, fun r hr => ?_⟩
  · refine (h2.filter (p := fun x => decide (f x ∈ lvs rs)) fun x hx y hy ⟨q, hq, sx, sy⟩ py => ?_).mono fun x hx y hy ⟨q, hq, sx, sy⟩ => ?_
    · obtain ⟨r, hr, sr⟩ := mem_lvs.mp (of_decide_eq_true py)
      have := unique_part nd hq (hs r hr) sy sr
      subst this
      exact decide_eq_true (mem_lvs.mpr ⟨q, hr, sx⟩)
    · obtain ⟨r, hr, sr⟩ := mem_lvs.mp (of_decide_eq_true (List.mem_filter.mp hx).2)
      have := unique_part nd hq (hs r hr) sx sr
      subst this
      exact ⟨q, hr, sx, sy⟩
  · have : (ns.filter (fun x => decide (f x ∈ lvs rs))).filter (inP r f) = ns.filter (inP r f) := by
      rw [List.filter_filter]
      refine List.filter_congr fun x hx => ?_
      by_cases q : f x ∈ r.lv
      · have e1 : inP r f x = true := inP_iff.mpr q
        rw [e1, Bool.true_and]
        exact decide_eq_true (mem_lvs.mpr ⟨r, hr, q⟩)
      · have e1 : inP r f x = false := by
          rw [← Bool.not_eq_true]; exact fun z => q (inP_iff.mp z)
        rw [e1, Bool.false_and]
    rw [this]
    exact h3 r (hs r hr)
/-- WHAT MAY COME IN THE FLAT PLAN MAY COME IN THE PLAN -/
theorem Flat.ok {f : Int → L} : ∀ (t : Pl L), t.lv.Nodup → ∀ (t' : Pl L), Flat t t' → ∀ ns : List Int, Ok f t' ns → Ok f t ns := by
  intro t
  induction t using Pl.ind with
  | h1 s =>
    intro _ t' F ns h
    cases F
    exact h
  | h2 k ps ih =>
    intro nd t' F ns h
    cases F with
    | jn h1 h2 =>
      rename_i ps' qs
      rw [lv_jn] at nd
      have pq : (lvs qs).Perm (lvs ps) := by
        refine (lvs_perm h2).trans ?_
        rw [lvs_flatEx]
        exact Flats.perm h1
      have ndq : (lvs qs).Nodup := pq.symm.nodup nd
      obtain ⟨g1, g2, g3⟩ := (Ok_jn f k qs ns).mp h
      -- each fine part lies in one part
      have fine : ∀ {ps ps' : List (Pl L)}, Flats ps ps' → ∀ q ∈ ps'.flatMap (ex k), ∃ p ∈ ps, ∀ s ∈ q.lv, s ∈ p.lv := by
        intro ps ps' F
        induction ps generalizing ps' with
        | nil => cases F; intro q hq; simp at hq
        | cons p r ihr =>
          cases F with
          | cons f1 f2 =>
            rename_i p' r'
            intro q hq
            rw [List.flatMap_cons] at hq
            rcases List.mem_append.mp hq with hq | hq
            · refine ⟨p, by simp, fun s hs => ?_⟩
              refine (Flat.perm f1).mem_iff.mp ?_
              rw [← lvs_ex k p']
              exact mem_lvs.mpr ⟨q, hq, hs⟩
            · obtain ⟨p2, hp2, e⟩ := ihr f2 q hq
              exact ⟨p2, by simp [hp2], e⟩
      refine (Ok_jn f k ps ns).mpr ⟨fun x hx => pq.mem_iff.mp (g1 x hx), ?_, fun p hp => ?_⟩
      · refine g2.mono fun x _ y _ ⟨q, hq, sx, sy⟩ => ?_
        obtain ⟨p, hp, e⟩ := fine h1 q (h2.mem_iff.mp hq)
        exact ⟨p, hp, e _ sx, e _ sy⟩
      · obtain ⟨p', hp', fp⟩ := h1.mem p hp
        refine ih p hp (nodup_part nd hp) p' fp _ ?_
        have same : ns.filter (inP p f) = ns.filter (inP p' f) := by
          refine List.filter_congr fun x _ => ?_
          rw [Bool.eq_iff_iff, inP_iff, inP_iff]
          exact (Flat.perm fp).mem_iff.symm
        rw [same]
        have sub : ∀ r ∈ ex k p', r ∈ qs := fun r hr => h2.mem_iff.mpr (List.mem_flatMap.mpr ⟨p', hp', hr⟩)
        cases p' with
        | ln s => exact g3 _ (sub _ (by simp [ex]))
        | jn k' rs =>
          by_cases ek : k' = k
          · subst ek
            have := Ok_sub (rs := rs) ndq (fun r hr => sub r (by simp [ex, hr])) h
            have e2 : ns.filter (inP (.jn k' rs) f) = ns.filter (fun x => decide (f x ∈ lvs rs)) := by
              refine List.filter_congr fun x _ => ?_
              unfold inP
              rw [lv_jn]
            rw [e2]
            exact this
          · exact g3 _ (sub _ (by simp [ex, ek]))
end
end FM
end
section
set_option maxHeartbeats 1000000
/-! M6: masks and their parts, the sum over a mask's parts, the chain of sums over the junctions. -/
namespace FM
/-! ### bits -/
theorem and_bit (a b : Nat) (x y : Bool) : (2 * a + x.toNat) &&& (2 * b + y.toNat) = 2 * (a &&& b) + (x && y).toNat := by
  apply Nat.eq_of_testBit_eq
  intro i
  cases i with
  | zero => rw [Nat.testBit_and]; simp [Nat.testBit_zero, Nat.add_mod]; cases x <;> cases y <;> simp
  | succ i =>
    rw [Nat.testBit_and, Nat.testBit_succ, Nat.testBit_succ, Nat.testBit_succ]
    have e : ∀ (c : Nat) (z : Bool), (2 * c + z.toNat) / 2 = c := fun c z => by cases z <;> simp <;> omega
    rw [e, e, e, Nat.testBit_and]
theorem xor_bit (a b : Nat) (x y : Bool) : (2 * a + x.toNat) ^^^ (2 * b + y.toNat) = 2 * (a ^^^ b) + (x ^^ y).toNat := by
  apply Nat.eq_of_testBit_eq
  intro i
  cases i with
  | zero => rw [Nat.testBit_xor]; simp [Nat.testBit_zero, Nat.add_mod]; cases x <;> cases y <;> simp
  | succ i =>
    rw [Nat.testBit_xor, Nat.testBit_succ, Nat.testBit_succ, Nat.testBit_succ]
    have e : ∀ (c : Nat) (z : Bool), (2 * c + z.toNat) / 2 = c := fun c z => by cases z <;> simp <;> omega
    rw [e, e, e, Nat.testBit_xor]
theorem and_00 (a b : Nat) : (2 * a) &&& (2 * b) = 2 * (a &&& b) := by simpa using and_bit a b false false
theorem and_10 (a b : Nat) : (2 * a + 1) &&& (2 * b) = 2 * (a &&& b) := by simpa using and_bit a b true false
theorem and_01 (a b : Nat) : (2 * a) &&& (2 * b + 1) = 2 * (a &&& b) := by simpa using and_bit a b false true
theorem and_11 (a b : Nat) : (2 * a + 1) &&& (2 * b + 1) = 2 * (a &&& b) + 1 := by simpa using and_bit a b true true
theorem xor_00 (a b : Nat) : (2 * a) ^^^ (2 * b) = 2 * (a ^^^ b) := by simpa using xor_bit a b false false
theorem xor_10 (a b : Nat) : (2 * a + 1) ^^^ (2 * b) = 2 * (a ^^^ b) + 1 := by simpa using xor_bit a b true false
theorem xor_11 (a b : Nat) : (2 * a + 1) ^^^ (2 * b + 1) = 2 * (a ^^^ b) := by simpa using xor_bit a b true true
/-- all parts of a mask, descending -/
def subs (m : Nat) : List Nat :=
  if h : m = 0 then [0]
  else if m % 2 = 0 then (subs (m / 2)).map (fun s => 2 * s) else (subs (m / 2)).flatMap (fun s => [2 * s + 1, 2 * s])
termination_by m
decreasing_by all_goals omega
theorem subs_0 : subs 0 = [0] := by rw [subs]; simp
theorem subs_even {m : Nat} (h : m ≠ 0) : subs (2 * m) = (subs m).map (fun s => 2 * s) := by
  rw [subs]
  rw [dif_neg (by omega), if_pos (by omega)]
  have : 2 * m / 2 = m := by omega
  rw [this]
theorem subs_odd (m : Nat) : subs (2 * m + 1) = (subs m).flatMap (fun s => [2 * s + 1, 2 * s]) := by
  rw [subs]
  rw [dif_neg (by omega), if_neg (by omega)]
  have : (2 * m + 1) / 2 = m := by omega
  rw [this]
theorem bin_ind {P : Nat → Prop} (h0 : P 0) (h1 : ∀ m, m ≠ 0 → P m → P (2 * m)) (h2 : ∀ m, P m → P (2 * m + 1)) : ∀ m, P m := by
  intro m
  induction m using Nat.strongRecOn with
  | ind m ih =>
    by_cases e : m = 0
    · subst e; exact h0
    · by_cases ev : m % 2 = 0
      · have := h1 (m / 2) (by omega) (ih (m / 2) (by omega))
        have e2 : 2 * (m / 2) = m := by omega
        rwa [e2] at this
      · have := h2 (m / 2) (ih (m / 2) (by omega))
        have e2 : 2 * (m / 2) + 1 = m := by omega
        rwa [e2] at this
theorem subs_sub : ∀ (m : Nat), ∀ s ∈ subs m, s &&& m = s ∧ s ≤ m ∧ m ^^^ s ≤ m := by
  intro m
  induction m using bin_ind with
  | h0 => rw [subs_0]; intro s hs; rw [List.mem_singleton.mp hs]; decide
  | h1 m hm ih =>
    rw [subs_even hm]
    intro s hs
    obtain ⟨t, ht, rfl⟩ := List.mem_map.mp hs
    obtain ⟨h1, h2, h3⟩ := ih t ht
    rw [and_00, xor_00, h1]
    omega
  | h2 m ih =>
    rw [subs_odd]
    intro s hs
    obtain ⟨t, ht, hs⟩ := List.mem_flatMap.mp hs
    obtain ⟨h1, h2, h3⟩ := ih t ht
    rcases List.mem_cons.mp hs with e | hs
    · subst e; rw [and_11, xor_11, h1]; omega
    · rw [List.mem_singleton.mp hs, and_01, xor_10, h1]; omega
/-- how the loop goes down -/
def Desc (m : Nat) : List Nat → Prop
  | [] => False
  | [a] => a = 0
  | a :: b :: r => a ≠ 0 ∧ b = (a - 1) &&& m ∧ Desc m (b :: r)
theorem desc_even {m : Nat} : ∀ {l : List Nat}, Desc m l → Desc (2 * m) (l.map (fun s => 2 * s))
  | [], h => h
  | [a], h => by have h : a = 0 := h; subst h; rfl
  | a :: b :: r, h => by
    obtain ⟨h1, h2, h3⟩ := h
    refine ⟨fun z => h1 (by have : 2 * a = 0 := z; omega), ?_, desc_even h3⟩
    show 2 * b = (2 * a - 1) &&& (2 * m)
    have : 2 * a - 1 = 2 * (a - 1) + 1 := by omega
    rw [this, and_10, ← h2]
theorem desc_odd {m : Nat} : ∀ {l : List Nat}, Desc m l → (∀ s ∈ l, s &&& m = s) → Desc (2 * m + 1) (l.flatMap (fun s => [2 * s + 1, 2 * s]))
  | [], h, _ => h
  | [a], h, _ => by
    have h : a = 0 := h
    subst h
    exact ⟨by decide, by simp, rfl⟩
  | a :: b :: r, h, hs => by
    obtain ⟨h1, h2, h3⟩ := h
    have ih := desc_odd h3 fun s hs' => hs s (by simp [hs'])
    have ha := hs a (by simp)
    show Desc (2 * m + 1) ((2 * a + 1) :: (2 * a) :: (2 * b + 1) :: (2 * b) :: (r.flatMap (fun s => [2 * s + 1, 2 * s])))
    refine ⟨Nat.succ_ne_zero _, ?_, fun z => h1 (by omega), ?_, ih⟩
    · have : 2 * a + 1 - 1 = 2 * a := by omega
      rw [this, and_01, ha]
    · have : 2 * a - 1 = 2 * (a - 1) + 1 := by omega
      rw [this, and_11, ← h2]
theorem subs_desc (m : Nat) : Desc m (subs m) := by
  induction m using bin_ind with
  | h0 => rw [subs_0]; rfl
  | h1 m hm ih => rw [subs_even hm]; exact desc_even ih
  | h2 m ih => rw [subs_odd]; exact desc_odd ih fun s hs => (subs_sub m s hs).1
theorem subs_head (m : Nat) : ∃ r, subs m = m :: r := by
  induction m using bin_ind with
  | h0 => exact ⟨[], subs_0⟩
  | h1 m hm ih => obtain ⟨r, e⟩ := ih; rw [subs_even hm, e]; exact ⟨_, rfl⟩
  | h2 m ih => obtain ⟨r, e⟩ := ih; rw [subs_odd, e]; exact ⟨_, rfl⟩
/-- where the loop stands: behind pre comes p; nought is the last, else the next one is (p - 1) & m -/
theorem Desc.at {m : Nat} : ∀ {l : List Nat}, Desc m l → ∀ pre p post, l = pre ++ p :: post → (p = 0 ∧ post = []) ∨ (p ≠ 0 ∧ ∃ r, post = ((p - 1) &&& m) :: r)
  | [], h, _, _, _, _ => False.elim h
  | [a], h, pre, p, post, e => by
    have h : a = 0 := h
    subst h
    cases pre with
    | nil => injection e with e1 e2; exact .inl ⟨e1.symm, e2.symm⟩
    | cons c pre => injection e with e1 e2; simp at e2
  | a :: b :: r, h, pre, p, post, e => by
    obtain ⟨h1, h2, h3⟩ := h
    cases pre with
    | nil => injection e with e1 e2; subst e1; exact .inr ⟨h1, r, by rw [← e2, h2]⟩
    | cons c pre => injection e with e1 e2; exact Desc.at h3 pre p post e2
/-- the sum of the products over all ways to share a mask -/
def conv (f g : Nat → Nat) (m : Nat) : Nat := sumOf (subs m) (fun t => f (m ^^^ t) * g t)
theorem conv_0 (f g : Nat → Nat) : conv f g 0 = f 0 * g 0 := by
  unfold conv
  rw [subs_0]
  simp [sumOf]
def ev (f : Nat → Nat) : Nat → Nat := fun m => f (2 * m)
def od (f : Nat → Nat) : Nat → Nat := fun m => f (2 * m + 1)
theorem conv_even (f g : Nat → Nat) (m : Nat) : conv f g (2 * m) = conv (ev f) (ev g) m := by
  by_cases h : m = 0
  · subst h; rw [conv_0, conv_0]; rfl
  · unfold conv
    rw [subs_even h, sumOf_map]
    exact sumOf_congr fun t _ => by rw [xor_00]; rfl
theorem sumOf_two {l : List Nat} {F : Nat → Nat} : sumOf (l.flatMap (fun s => [2 * s + 1, 2 * s])) F = sumOf l (fun s => F (2 * s + 1)) + sumOf l (fun s => F (2 * s)) := by
  induction l with
  | nil => rfl
  | cons a r ih =>
    rw [List.flatMap_cons, sumOf_append, ih, sumOf_cons, sumOf_cons, sumOf_cons, sumOf_cons, sumOf_nil]
    omega
theorem conv_odd (f g : Nat → Nat) (m : Nat) : conv f g (2 * m + 1) = conv (od f) (ev g) m + conv (ev f) (od g) m := by
  unfold conv
  rw [subs_odd, sumOf_two, Nat.add_comm]
  congr 1
  · exact sumOf_congr fun t _ => by rw [xor_10]; rfl
  · exact sumOf_congr fun t _ => by rw [xor_11]; rfl
theorem conv_add (f f' g : Nat → Nat) (m : Nat) : conv (fun x => f x + f' x) g m = conv f g m + conv f' g m := by
  unfold conv
  rw [← sumOf_add]
  exact sumOf_congr fun t _ => Nat.add_mul _ _ _
theorem conv_scale (c : Nat) (f g : Nat → Nat) (m : Nat) : conv (fun x => c * f x) g m = c * conv f g m := by
  unfold conv
  rw [← sumOf_mul]
  exact sumOf_congr fun t _ => Nat.mul_assoc _ _ _
/-- one junction after another -/
def cv : List (Nat → Nat) → (Nat → Nat) → Nat → Nat
  | [], f => f
  | g :: gs, f => cv gs (conv f g)
theorem cv_add : ∀ (gs : List (Nat → Nat)) (f f' : Nat → Nat) (m : Nat), cv gs (fun x => f x + f' x) m = cv gs f m + cv gs f' m
  | [], _, _, _ => rfl
  | g :: gs, f, f', m => by
    show cv gs (conv (fun x => f x + f' x) g) m = cv gs (conv f g) m + cv gs (conv f' g) m
    rw [← cv_add gs]
    congr 1
    funext x
    exact conv_add f f' g x
theorem cv_scale (c : Nat) : ∀ (gs : List (Nat → Nat)) (f : Nat → Nat) (m : Nat), cv gs (fun x => c * f x) m = c * cv gs f m
  | [], _, _ => rfl
  | g :: gs, f, m => by
    show cv gs (conv (fun x => c * f x) g) m = c * cv gs (conv f g) m
    rw [← cv_scale c gs]
    congr 1
    funext x
    exact conv_scale c f g x
def omods : List (Nat → Nat) → List (List (Nat → Nat))
  | [] => []
  | g :: gs => (od g :: gs.map ev) :: (omods gs).map (fun x => ev g :: x)
theorem cv_even : ∀ (gs : List (Nat → Nat)) (f : Nat → Nat) (m : Nat), cv gs f (2 * m) = cv (gs.map ev) (ev f) m
  | [], _, _ => rfl
  | g :: gs, f, m => by
    show cv gs (conv f g) (2 * m) = cv (gs.map ev) (conv (ev f) (ev g)) m
    rw [cv_even gs]
    congr 1
    funext x
    exact conv_even f g x
theorem cv_odd : ∀ (gs : List (Nat → Nat)) (f : Nat → Nat) (m : Nat), cv gs f (2 * m + 1) = cv (gs.map ev) (od f) m + sumOf (omods gs) (fun hs => cv hs (ev f) m)
  | [], f, m => by show f (2 * m + 1) = f (2 * m + 1) + 0; rfl
  | g :: gs, f, m => by
    show cv gs (conv f g) (2 * m + 1) = cv (gs.map ev) (conv (od f) (ev g)) m + sumOf (omods (g :: gs)) (fun hs => cv hs (ev f) m)
    rw [cv_odd gs]
    have e1 : od (conv f g) = fun x => conv (od f) (ev g) x + conv (ev f) (od g) x := by funext x; exact conv_odd f g x
    have e2 : ev (conv f g) = conv (ev f) (ev g) := by funext x; exact conv_even f g x
    rw [e1, e2, cv_add]
    show _ = _ + sumOf ((od g :: gs.map ev) :: (omods gs).map (fun x => ev g :: x)) (fun hs => cv hs (ev f) m)
    rw [sumOf_cons, sumOf_map]
    show _ = _ + (cv (gs.map ev) (conv (ev f) (od g)) m + sumOf (omods gs) (fun hs => cv hs (conv (ev f) (ev g)) m))
    omega
theorem cv_0 : ∀ (gs : List (Nat → Nat)) (f : Nat → Nat), cv gs f 0 = f 0 * (gs.map (fun g => g 0)).foldr (· * ·) 1
  | [], f => by show f 0 = f 0 * 1; omega
  | g :: gs, f => by
    show cv gs (conv f g) 0 = f 0 * (g 0 * (gs.map (fun g => g 0)).foldr (· * ·) 1)
    rw [cv_0 gs, conv_0, Nat.mul_assoc]
theorem omods_map {α : Type} {f : α → α} {G G' : α → Nat → Nat} (h1 : ∀ a, ev (G a) = G' a) (h2 : ∀ a, od (G a) = G' (f a)) : ∀ l : List α, omods (l.map G) = (mods f l).map (fun x => x.map G')
  | [] => rfl
  | a :: r => by
    show (od (G a) :: (r.map G).map ev) :: (omods (r.map G)).map (fun x => ev (G a) :: x) = (G' (f a) :: r.map G') :: ((mods f r).map (fun x => a :: x)).map (fun x => x.map G')
    rw [omods_map h1 h2 r, h2, h1, List.map_map, List.map_map, List.map_map]
    congr 2
    exact List.map_congr_left fun b _ => h1 b
/-- c to the number of a mask's ones -/
def pw (c : Nat) (m : Nat) : Nat := if h : m = 0 then 1 else if m % 2 = 0 then pw c (m / 2) else c * pw c (m / 2)
termination_by m
decreasing_by all_goals omega
theorem pw_0 (c : Nat) : pw c 0 = 1 := by rw [pw]; simp
theorem pw_even (c m : Nat) : pw c (2 * m) = pw c m := by
  by_cases h : m = 0
  · subst h; rfl
  · rw [pw, dif_neg (by omega), if_pos (by omega)]
    have : 2 * m / 2 = m := by omega
    rw [this]
theorem pw_odd (c m : Nat) : pw c (2 * m + 1) = c * pw c m := by
  rw [pw, dif_neg (by omega), if_neg (by omega)]
  have : (2 * m + 1) / 2 = m := by omega
  rw [this]
theorem pw_high (c : Nat) : ∀ (n x : Nat), x < 2 ^ n → pw c (2 ^ n + x) = c * pw c x := by
  intro n
  induction n with
  | zero =>
    intro x hx
    have : x = 0 := by simpa using hx
    subst this
    exact pw_odd c 0
  | succ n ih =>
    intro x hx
    have hp : 2 ^ (n + 1) = 2 * 2 ^ n := by rw [Nat.pow_succ, Nat.mul_comm]
    by_cases ev : x % 2 = 0
    · have e : x = 2 * (x / 2) := by omega
      have := ih (x / 2) (by omega)
      rw [e, hp, ← Nat.mul_add, pw_even, pw_even, this]
    · have e : x = 2 * (x / 2) + 1 := by omega
      have := ih (x / 2) (by omega)
      rw [e, hp, ← Nat.add_assoc, ← Nat.mul_add, pw_odd, pw_odd, this]
def full (n : Nat) : Nat := 2 ^ n - 1
theorem full_succ (n : Nat) : full (n + 1) = 2 * full n + 1 := by
  have := Nat.two_pow_pos n
  unfold full
  rw [Nat.pow_succ]
  omega
end FM
end
section
set_option maxHeartbeats 1000000
/-! M7: the chain over the junctions is the sum over all ways. -/
namespace FM
section
variable {L : Type} [DecidableEq L]
def isLn : Pl L → Bool
  | .ln _ => true
  | .jn _ _ => false
/-- the people of the part with the number idx: of its own trains and of the free trains in the mask, b the next bit -/
def pfl (idx mask : Nat) : List (List Int × Option Nat) → Nat → List Int
  | [], _ => []
  | (τ, some j) :: r, b => (if j = idx then τ else []) ++ pfl idx mask r b
  | (τ, none) :: r, b => (if mask.testBit b then τ else []) ++ pfl idx mask r (b + 1)
theorem pfl_half (idx m : Nat) (z : Bool) : ∀ (its : List (List Int × Option Nat)) (b : Nat), pfl idx (2 * m + z.toNat) its (b + 1) = pfl idx m its b
  | [], _ => rfl
  | (τ, some j) :: r, b => by unfold pfl; rw [pfl_half idx m z r b]
  | (τ, none) :: r, b => by
    unfold pfl
    rw [pfl_half idx m z r (b + 1), Nat.testBit_succ]
    have : (2 * m + z.toNat) / 2 = m := by cases z <;> simp <;> omega
    rw [this]
/-- the parts: plan, number, what it has -/
abbrev El (L : Type) := Pl L × Nat × List Int
def giveE (τ : List Int) (e : El L) : El L := (e.1, e.2.1, e.2.2 ++ τ)
def estOf (es : List (El L)) : Est L := es.map (fun e => (e.1, e.2.2))
def gOf (kn : Int → Option L) (its : List (List Int × Option Nat)) (e : El L) (mask : Nat) : Nat := Sf kn e.1 (e.2.2 ++ pfl e.2.1 mask its 0)
def js (es : List (El L)) : List (El L) := es.filter (fun e => !isLn e.1)
def nleaf (es : List (El L)) : Nat := (es.filter (fun e => isLn e.1)).length
def nfree (its : List (List Int × Option Nat)) : Nat := (its.filter (fun x => x.2.isNone)).length
structure InvC (kn : Int → Option L) (its : List (List Int × Option Nat)) (es : List (El L)) : Prop where
  leaf : ∀ e ∈ es, ∀ s, e.1 = .ln s → ∀ x ∈ e.2.2, kn x = none ∨ kn x = some s
  nd : (es.map (fun e => e.2.1)).Nodup
  home : ∀ τ j, (τ, some j) ∈ its → (∃ e ∈ es, e.2.1 = j ∧ ∀ x ∈ τ, ∀ l, kn x = some l → l ∈ e.1.lv) ∧ ∀ e ∈ es, e.2.1 ≠ j → ∃ x ∈ τ, ∃ l, kn x = some l ∧ l ∉ e.1.lv
  free : ∀ τ, (τ, none) ∈ its → ∀ x ∈ τ, kn x = none
theorem mods_est (τ : List Int) (es : List (El L)) : mods (give τ) (estOf es) = (mods (giveE τ) es).map estOf := by
  unfold estOf
  exact mods_map (f := giveE τ) (g := give τ) (m := fun e : El L => (e.1, e.2.2)) (fun e => rfl) es
theorem sum_split (τ : List Int) (F : List (El L) → Nat) : ∀ (es : List (El L)) (pre : List (El L)),
    sumOf (mods (giveE τ) es) (fun x => F (pre ++ js x)) = nleaf es * F (pre ++ js es) + sumOf (mods (giveE τ) (js es)) (fun x => F (pre ++ x))
  | [], pre => by simp [mods, js, nleaf, sumOf]
  | e :: r, pre => by
    have em : mods (giveE τ) (e :: r) = (giveE τ e :: r) :: (mods (giveE τ) r).map (fun x => e :: x) := rfl
    rw [em, sumOf_cons, sumOf_map]
    by_cases h : isLn e.1 = true
    · have h1 : js (giveE τ e :: r) = js r := by
        unfold js; rw [List.filter_cons, if_neg]
        show ¬ (!isLn e.1) = true
        rw [h]; decide
      have h2 : ∀ x, js (e :: x) = js x := fun x => by
        unfold js; rw [List.filter_cons, if_neg]
        rw [h]; decide
      have h3 : nleaf (e :: r) = nleaf r + 1 := by
        unfold nleaf; rw [List.filter_cons, if_pos h]; rfl
      rw [h1, h2, h3, sumOf_congr (g := fun x => F (pre ++ js x)) (fun x _ => by rw [h2]), sum_split τ F r pre, Nat.add_mul]
      omega
    · have h' : (!isLn e.1) = true := by simpa using h
      have h1 : js (giveE τ e :: r) = giveE τ e :: js r := by
        unfold js; rw [List.filter_cons, if_pos]
        exact h'
      have h2 : ∀ x, js (e :: x) = e :: js x := fun x => by
        unfold js; rw [List.filter_cons, if_pos h']
      have h3 : nleaf (e :: r) = nleaf r := by
        unfold nleaf; rw [List.filter_cons, if_neg h]
      have ih := sum_split τ F r (pre ++ [e])
      have e1 : ∀ x : List (El L), pre ++ e :: js x = (pre ++ [e]) ++ js x := fun x => by simp
      rw [h1, h3, h2, sumOf_congr (g := fun x => F ((pre ++ [e]) ++ js x)) (fun x _ => by rw [h2, e1]), ih]
      have em2 : mods (giveE τ) (e :: js r) = (giveE τ e :: js r) :: (mods (giveE τ) (js r)).map (fun x => e :: x) := rfl
      rw [em2, sumOf_cons, sumOf_map, ← e1]
      have e2 : sumOf (mods (giveE τ) (js r)) (fun x => F ((pre ++ [e]) ++ x)) = sumOf (mods (giveE τ) (js r)) (fun x => F (pre ++ e :: x)) := sumOf_congr fun x _ => by simp
      rw [e2]
      omega
theorem sum_split0 (τ : List Int) (F : List (El L) → Nat) (es : List (El L)) :
    sumOf (mods (giveE τ) es) (fun x => F (js x)) = nleaf es * F (js es) + sumOf (mods (giveE τ) (js es)) F := by
  have := sum_split τ F es []
  simpa using this
theorem nleaf_mods {τ : List Int} {es es' : List (El L)} (h : es' ∈ mods (giveE τ) es) : nleaf es' = nleaf es := by
  obtain ⟨a, g, b, e1, e2⟩ := mem_mods h
  subst e1; subst e2
  unfold nleaf
  rw [List.filter_append, List.filter_append, List.filter_cons, List.filter_cons]
  show (_ ++ if isLn g.1 = true then giveE τ g :: _ else _).length = _
  split <;> simp
theorem ids_mods {τ : List Int} {es es' : List (El L)} (h : es' ∈ mods (giveE τ) es) : es'.map (fun e => (e.1, e.2.1)) = es.map (fun e => (e.1, e.2.1)) := by
  obtain ⟨a, g, b, e1, e2⟩ := mem_mods h
  subst e1; subst e2
  simp [giveE]
theorem InvC.next {kn : Int → Option L} {τ : List Int} {o : Option Nat} {r : List (List Int × Option Nat)} {es es' : List (El L)} (I : InvC kn ((τ, o) :: r) es) (he : es'.map (fun e => (e.1, e.2.1)) = es.map (fun e => (e.1, e.2.1)))
    (hl : ∀ e ∈ es', ∀ s, e.1 = .ln s → ∀ x ∈ e.2.2, kn x = none ∨ kn x = some s) : InvC kn r es' := by
  have tr : ∀ e ∈ es, ∃ e' ∈ es', e'.1 = e.1 ∧ e'.2.1 = e.2.1 := fun e h => by
    have : (e.1, e.2.1) ∈ es'.map (fun e => (e.1, e.2.1)) := by rw [he]; exact List.mem_map.mpr ⟨e, h, rfl⟩
    obtain ⟨e', h', q⟩ := List.mem_map.mp this
    exact ⟨e', h', congrArg (·.1) q, congrArg (·.2) q⟩
  have rt : ∀ e ∈ es', ∃ e' ∈ es, e'.1 = e.1 ∧ e'.2.1 = e.2.1 := fun e h => by
    have : (e.1, e.2.1) ∈ es.map (fun e => (e.1, e.2.1)) := by rw [← he]; exact List.mem_map.mpr ⟨e, h, rfl⟩
    obtain ⟨e', h', q⟩ := List.mem_map.mp this
    exact ⟨e', h', congrArg (·.1) q, congrArg (·.2) q⟩
  refine ⟨hl, ?_, fun σ j hm => ?_, fun σ hm => I.free σ (by simp [hm])⟩
  · have : es'.map (fun e => e.2.1) = es.map (fun e => e.2.1) := by
      have := congrArg (List.map (·.2)) he
      rw [List.map_map, List.map_map] at this
      exact this
    rw [this]
    exact I.nd
  · obtain ⟨⟨e, h1, h2, h3⟩, h4⟩ := I.home σ j (by simp [hm])
    obtain ⟨e', q1, q2, q3⟩ := tr e h1
    refine ⟨⟨e', q1, by rw [q3, h2], fun x hx l q => by rw [q2]; exact h3 x hx l q⟩, fun e2 h5 h6 => ?_⟩
    obtain ⟨e3, q4, q5, q6⟩ := rt e2 h5
    rw [← q5]
    exact h4 e3 q4 (by rw [q6]; exact h6)
theorem prod_js {kn : Int → Option L} : ∀ {es : List (El L)}, (∀ e ∈ es, ∀ s, e.1 = .ln s → ∀ x ∈ e.2.2, kn x = none ∨ kn x = some s) →
    ((js es).map (fun e => Sf kn e.1 e.2.2)).foldr (· * ·) 1 = (es.map (fun e => Sf kn e.1 e.2.2)).foldr (· * ·) 1
  | [], _ => rfl
  | e :: r, h => by
    have ih := prod_js (es := r) fun e he => h e (by simp [he])
    show _ = Sf kn e.1 e.2.2 * (r.map (fun e => Sf kn e.1 e.2.2)).foldr (· * ·) 1
    cases hp : e.1 with
    | ln s =>
      have h1 : js (e :: r) = js r := by
        unfold js; rw [List.filter_cons, if_neg]
        rw [hp]; exact Bool.false_ne_true
      rw [h1, ih, Sf_ln, if_pos, Nat.one_mul]
      exact List.all_eq_true.mpr fun x hx => decide_eq_true (h e (by simp) s hp x hx)
    | jn k ps =>
      have h1 : js (e :: r) = e :: js r := by
        unfold js; rw [List.filter_cons, if_pos]
        rw [hp]; rfl
      rw [h1]
      show Sf kn e.1 e.2.2 * ((js r).map (fun e => Sf kn e.1 e.2.2)).foldr (· * ·) 1 = _
      rw [ih, hp]
/-- THE CHAIN -/
theorem chain {kn : Int → Option L} : ∀ (its : List (List Int × Option Nat)) (es : List (El L)), InvC kn its es →
    cv ((js es).map (gOf kn its)) (pw (nleaf es)) (full (nfree its)) = tot (its.map (·.1)) (fnOf kn (estOf es))
  | [], es, I => by
    show cv ((js es).map (gOf kn [])) (pw (nleaf es)) (full 0) = tot [] (fnOf kn (estOf es))
    have h0 : full 0 = 0 := rfl
    rw [h0, cv_0, pw_0, Nat.one_mul, tot_nil, prodAt_fnOf, List.map_map]
    unfold estOf
    rw [List.map_map]
    have := prod_js (kn := kn) I.leaf
    have e1 : (js es).map ((fun g => g 0) ∘ gOf kn []) = (js es).map (fun e => Sf kn e.1 e.2.2) := List.map_congr_left fun e _ => by
      show Sf kn e.1 (e.2.2 ++ []) = _
      rw [List.append_nil]
    rw [e1, this]
    rfl
  | (τ, some j) :: r, es, I => by
    obtain ⟨⟨e, he, hj, hin⟩, hout⟩ := I.home τ j (by simp)
    obtain ⟨a, b, e1⟩ := List.append_of_mem he
    have nd := I.nd
    rw [e1, List.map_append, List.map_cons] at nd
    have nd' := List.nodup_append.mp nd
    have nea : ∀ e' ∈ a, e'.2.1 ≠ j := fun e' h z => by
      refine nd'.2.2 e'.2.1 (List.mem_map.mpr ⟨e', h, rfl⟩) e.2.1 (by simp) ?_
      rw [z, hj]
    have neb : ∀ e' ∈ b, e'.2.1 ≠ j := fun e' h z => by
      have := (List.nodup_cons.mp nd'.2.1).1
      refine this (List.mem_map.mpr ⟨e', h, ?_⟩)
      show e'.2.1 = e.2.1
      rw [z, hj]
    -- behind this train
    have hids : (a ++ giveE τ e :: b).map (fun e => (e.1, e.2.1)) = es.map (fun e => (e.1, e.2.1)) := by rw [e1]; simp [giveE]
    have I' : InvC kn r (a ++ giveE τ e :: b) := I.next hids (fun e' h' s hs x hx => by
      rcases List.mem_append.mp h' with h' | h'
      · exact I.leaf e' (by rw [e1]; simp [h']) s hs x hx
      · rcases List.mem_cons.mp h' with h' | h'
        · subst h'
          have hs : e.1 = .ln s := hs
          rcases List.mem_append.mp hx with hx | hx
          · exact I.leaf e he s hs x hx
          · cases q : kn x with
            | none => exact .inl rfl
            | some l =>
              have := hin x hx l q
              rw [hs, lv_ln] at this
              rw [List.mem_singleton.mp this]
              exact .inr rfl
        · exact I.leaf e' (by rw [e1]; simp [h']) s hs x hx)
    have ih := chain r (a ++ giveE τ e :: b) I'
    have nl : nleaf (a ++ giveE τ e :: b) = nleaf es := by
      rw [e1]
      refine nleaf_mods (τ := τ) ?_
      rw [mods_split]
      simp
    have nf : nfree ((τ, some j) :: r) = nfree r := by simp [nfree]
    -- the functions are the same
    have fs : (js es).map (gOf kn ((τ, some j) :: r)) = (js (a ++ giveE τ e :: b)).map (gOf kn r) := by
      have ga : ∀ e' ∈ a ++ b, gOf kn ((τ, some j) :: r) e' = gOf kn r e' := fun e' h => by
        have ne : e'.2.1 ≠ j := by
          rcases List.mem_append.mp h with h | h
          · exact nea e' h
          · exact neb e' h
        funext m
        show Sf kn e'.1 (e'.2.2 ++ ((if j = e'.2.1 then τ else []) ++ pfl e'.2.1 m r 0)) = _
        rw [if_neg (fun z => ne z.symm)]
        rfl
      have ge : gOf kn ((τ, some j) :: r) e = gOf kn r (giveE τ e) := by
        funext m
        show Sf kn e.1 (e.2.2 ++ ((if j = e.2.1 then τ else []) ++ pfl e.2.1 m r 0)) = Sf kn e.1 ((e.2.2 ++ τ) ++ pfl e.2.1 m r 0)
        rw [if_pos hj.symm, List.append_assoc]
      rw [e1]
      unfold js
      rw [List.filter_append, List.filter_append, List.filter_cons, List.filter_cons, List.map_append, List.map_append]
      congr 1
      · exact List.map_congr_left fun e' h => ga e' (by simp [(List.mem_filter.mp h).1])
      · show _ = List.map _ (if (!isLn e.1) = true then _ else _)
        split
        · rw [List.map_cons, List.map_cons, ge]
          congr 1
          exact List.map_congr_left fun e' h => ga e' (by simp [(List.mem_filter.mp h).1])
        · exact List.map_congr_left fun e' h => ga e' (by simp [(List.mem_filter.mp h).1])
    rw [fs, nf, ← nl, ih]
    show _ = tot (τ :: r.map (·.1)) (fnOf kn (estOf es))
    rw [tot_give, e1]
    have es1 : estOf (a ++ e :: b) = estOf a ++ (e.1, e.2.2) :: estOf b := by simp [estOf]
    have es2 : estOf (a ++ giveE τ e :: b) = estOf a ++ give τ (e.1, e.2.2) :: estOf b := by simp [estOf, giveE, give]
    rw [es1, es2, sum_mods_one (F := fun es' => tot (r.map (·.1)) (fnOf kn es'))]
    intro e' he' es' ⟨x, y, q⟩
    have : ∃ e2 ∈ a ++ b, e' = (e2.1, e2.2.2) := by
      rcases List.mem_append.mp he' with h | h
      · obtain ⟨e2, h2, q2⟩ := List.mem_map.mp h
        exact ⟨e2, by simp [h2], q2.symm⟩
      · obtain ⟨e2, h2, q2⟩ := List.mem_map.mp h
        exact ⟨e2, by simp [h2], q2.symm⟩
    obtain ⟨e2, h2, q2⟩ := this
    have ne : e2.2.1 ≠ j := by
      rcases List.mem_append.mp h2 with h | h
      · exact nea e2 h
      · exact neb e2 h
    have h2' : e2 ∈ es := by
      rw [e1]
      rcases List.mem_append.mp h2 with h | h
      · simp [h]
      · simp [h]
    obtain ⟨z, hz, l, hl, nl⟩ := hout e2 h2' ne
    refine tot_bad ⟨give τ e', by rw [q]; simp, z, by simp [give, hz], l, hl, ?_⟩
    rw [q2]
    exact nl
  | (τ, none) :: r, es, I => by
    have hf := I.free τ (by simp)
    have nf : nfree ((τ, none) :: r) = nfree r + 1 := by simp [nfree]
    have hnext : ∀ es' ∈ mods (giveE τ) es, InvC kn r es' := fun es' hm => I.next (ids_mods hm) (fun e' h' s hs x hx => by
      obtain ⟨a, g, b, e1, e2⟩ := mem_mods hm
      rw [e2] at h'
      rcases List.mem_append.mp h' with h' | h'
      · exact I.leaf e' (by rw [e1]; simp [h']) s hs x hx
      · rcases List.mem_cons.mp h' with h' | h'
        · subst h'
          rcases List.mem_append.mp hx with hx | hx
          · exact I.leaf g (by rw [e1]; simp) s hs x hx
          · exact .inl (hf x hx)
        · exact I.leaf e' (by rw [e1]; simp [h']) s hs x hx)
    have I0 : InvC kn r es := I.next rfl I.leaf
    have ge : ∀ e : El L, ev (gOf kn ((τ, none) :: r) e) = gOf kn r e := fun e => by
      funext m
      show Sf kn e.1 (e.2.2 ++ ((if (2 * m).testBit 0 then τ else []) ++ pfl e.2.1 (2 * m) r 1)) = Sf kn e.1 (e.2.2 ++ pfl e.2.1 m r 0)
      have h1 : (2 * m).testBit 0 = false := by simp
      have h2 := pfl_half e.2.1 m false r 0
      have h2 : pfl e.2.1 (2 * m) r 1 = pfl e.2.1 m r 0 := h2
      rw [h1, h2]
      rfl
    have go : ∀ e : El L, od (gOf kn ((τ, none) :: r) e) = gOf kn r (giveE τ e) := fun e => by
      funext m
      show Sf kn e.1 (e.2.2 ++ ((if (2 * m + 1).testBit 0 then τ else []) ++ pfl e.2.1 (2 * m + 1) r 1)) = Sf kn e.1 ((e.2.2 ++ τ) ++ pfl e.2.1 m r 0)
      have h1 : (2 * m + 1).testBit 0 = true := by simp
      have h2 := pfl_half e.2.1 m true r 0
      have h2 : pfl e.2.1 (2 * m + 1) r 1 = pfl e.2.1 m r 0 := h2
      rw [h1, h2, List.append_assoc]
      rfl
    rw [nf, full_succ, cv_odd]
    have e1 : ((js es).map (gOf kn ((τ, none) :: r))).map ev = (js es).map (gOf kn r) := by
      rw [List.map_map]
      exact List.map_congr_left fun e _ => ge e
    have e2 : od (pw (nleaf es)) = fun m => nleaf es * pw (nleaf es) m := by funext m; exact pw_odd _ m
    have e3 : ev (pw (nleaf es)) = pw (nleaf es) := by funext m; exact pw_even _ m
    rw [e1, e2, e3, cv_scale, omods_map ge go, sumOf_map]
    show _ = tot (τ :: r.map (·.1)) (fnOf kn (estOf es))
    rw [tot_give, mods_est, sumOf_map]
    have e4 : sumOf (mods (giveE τ) es) (fun es' => tot (r.map (·.1)) (fnOf kn (estOf es'))) = sumOf (mods (giveE τ) es) (fun es' => cv ((js es').map (gOf kn r)) (pw (nleaf es)) (full (nfree r))) := sumOf_congr fun es' hm => by
      rw [← chain r es' (hnext es' hm), nleaf_mods hm]
    rw [e4, sum_split0 τ (fun x => cv (x.map (gOf kn r)) (pw (nleaf es)) (full (nfree r))) es]
/-- the parts at the start, numbered -/
def numbered (ps : List (Pl L)) (i : Nat) : List (El L) := match ps with
  | [] => []
  | p :: r => (p, i, []) :: numbered r (i + 1)
theorem mem_numbered : ∀ {ps : List (Pl L)} {i : Nat} {e : El L}, e ∈ numbered ps i → ∃ j, e.2.1 = i + j ∧ ps[j]? = some e.1 ∧ e.2.2 = []
  | [], _, _, h => by cases h
  | p :: r, i, e, h => by
    rcases List.mem_cons.mp h with q | h
    · subst q; exact ⟨0, rfl, rfl, rfl⟩
    · obtain ⟨j, h1, h2, h3⟩ := mem_numbered h
      exact ⟨j + 1, by omega, h2, h3⟩
theorem numbered_at : ∀ {ps : List (Pl L)} {i j : Nat} {p : Pl L}, ps[j]? = some p → (p, i + j, []) ∈ numbered ps i
  | [], _, _, _, h => by simp at h
  | q :: r, i, 0, p, h => by
    have : q = p := by simpa using h
    subst this
    exact List.mem_cons_self
  | q :: r, i, j + 1, p, h => by
    have := numbered_at (ps := r) (i := i + 1) (j := j) (p := p) (by simpa using h)
    have e : i + (j + 1) = i + 1 + j := by omega
    rw [e]
    exact List.mem_cons_of_mem _ this
theorem numbered_nd : ∀ (ps : List (Pl L)) (i : Nat), ((numbered ps i).map (fun e => e.2.1)).Nodup
  | [], _ => List.nodup_nil
  | p :: r, i => by
    refine List.nodup_cons.mpr ⟨fun h => ?_, numbered_nd r (i + 1)⟩
    obtain ⟨e, he, q⟩ := List.mem_map.mp h
    obtain ⟨j, h1, _⟩ := mem_numbered he
    have q : e.2.1 = i := q
    omega
theorem numbered_est (ps : List (Pl L)) (i : Nat) : estOf (numbered ps i) = ps.map (fun p => (p, ([] : List Int))) := by
  induction ps generalizing i with
  | nil => rfl
  | cons p r ih =>
    show (p, []) :: estOf (numbered r (i + 1)) = _
    rw [ih]
    rfl
/-- THE COUNT AS THE PROGRAM RECKONS IT -/
theorem Sf_chain {kn : Int → Option L} {k : Bool} {ps : List (Pl L)} {ns : List Int} {its : List (List Int × Option Nat)} (nd : (lvs ps).Nodup) (ht : its.map (·.1) = trains k ns)
    (hh : ∀ τ j, (τ, some j) ∈ its → (∃ x ∈ τ, ∃ l, kn x = some l) ∧ ∃ p, ps[j]? = some p ∧ ∀ x ∈ τ, ∀ l, kn x = some l → l ∈ p.lv) (hf : ∀ τ, (τ, none) ∈ its → ∀ x ∈ τ, kn x = none) :
    cv ((js (numbered ps 0)).map (gOf kn its)) (pw (nleaf (numbered ps 0))) (full (nfree its)) = Sf kn (.jn k ps) ns := by
  have I : InvC kn its (numbered ps 0) := by
    refine ⟨fun e he s _ x hx => ?_, numbered_nd ps 0, fun τ j hm => ?_, hf⟩
    · obtain ⟨j, _, _, h3⟩ := mem_numbered he
      rw [h3] at hx; cases hx
    · obtain ⟨⟨x, hx, l, hl⟩, p, hp, hin⟩ := hh τ j hm
      refine ⟨⟨(p, 0 + j, []), numbered_at hp, by simp, hin⟩, fun e he hne => ⟨x, hx, l, hl, fun z => hne ?_⟩⟩
      obtain ⟨j', h1, h2, h3⟩ := mem_numbered he
      -- one line in two parts: the same part; the same place
      have same : ∀ {ps : List (Pl L)} {a b : Nat} {u v : Pl L}, (lvs ps).Nodup → ps[a]? = some u → ps[b]? = some v → l ∈ u.lv → l ∈ v.lv → a = b := by
        intro ps
        induction ps with
        | nil => intro a b u v _ h; simp at h
        | cons q r ih =>
          intro a b u v nd ha hb hu hv
          rw [lvs_cons] at nd
          obtain ⟨n1, n2, n3⟩ := List.nodup_append.mp nd
          cases a with
          | zero =>
            have ha : q = u := by simpa using ha
            cases b with
            | zero => rfl
            | succ b =>
              have hb : r[b]? = some v := by simpa using hb
              exact absurd rfl (n3 l (ha ▸ hu) l (mem_lvs.mpr ⟨v, List.mem_of_getElem? hb, hv⟩))
          | succ a =>
            have ha : r[a]? = some u := by simpa using ha
            cases b with
            | zero =>
              have hb : q = v := by simpa using hb
              exact absurd rfl (n3 l (hb ▸ hv) l (mem_lvs.mpr ⟨u, List.mem_of_getElem? ha, hu⟩))
            | succ b =>
              have hb : r[b]? = some v := by simpa using hb
              rw [ih n2 ha hb hu hv]
      have := same nd h2 hp z (hin x hx l hl)
      omega
  rw [chain its _ I, ht, numbered_est, Sf_jn, Sfs_map]
  unfold fnOf
  rw [List.map_map]
  rfl
end
end FM
end
section
set_option maxHeartbeats 2000000
/-! R1: enumerate of a tuple. -/
namespace FR
open PySem PySem.Spec PyProof.Rows L2
theorem meets_enumerate_new1 {v : Value} {o : Obj} {H : Heap → Prop} (B : Begins v o H) :
    Meets (Builtin.«enumerate.__new__» ⟨[.type "enumerate", v], []⟩) (fun _ R s => H s.heap ∧
      R (.ok (.ret (.ref (s.heap.push o).objs.size))) { s with heap := (s.heap.push o).push { cls := .type "enumerate", data := .fields #[.none, .bool false, .ref s.heap.objs.size, rawInt 0, .none, .none] } }) :=
  .of_wp fun prog w A R s h => by
    obtain ⟨hp, g, d, tk, os⟩ := s; obtain ⟨h1, h⟩ := h
    have hsub := sub_enumerate
    have q1 : ∀ {A' : Around} {E : Value → Shared → Prop} {Q : Value → Shared → Prop}, Q (.ref hp.objs.size) ⟨hp.push o, g, d, tk, os⟩ → wpAny (model prog w) A' (pyIter v) Q E ⟨hp, g, d, tk, os⟩ :=
      fun q => B.iter prog w _ _ ⟨hp, g, d, tk, os⟩ _ h1 q
    wp_walk using q1
    refine wpAny_stack_any fun st => wpAny_pure ?_
    split
    · rename_i c _ _ _ _ _
      cases (c == Value.type "enumerate")
      · wp_walk using q1
        exact ⟨_, rfl, h⟩
      · wp_walk using q1
        exact ⟨_, rfl, h⟩
    · wp_walk using q1
      exact ⟨_, rfl, h⟩
theorem enum_begins1 {prog : Program} {w : World} {A : Around} {E : Value → Shared → Prop} {s : Shared} {v : Value} {o : Obj} {H : Heap → Prop} {Q : Value → Shared → Prop} (B : Begins v o H) (h1 : H s.heap)
    (h : ∀ h', IsEnum h' (s.heap.objs.size + 1) s.heap.objs.size 0 .none → h'.get? s.heap.objs.size = some o → h'.objs.size = s.heap.objs.size + 2 →
      (∀ b o, s.heap.get? b = some o → h'.get? b = some o) → Q (.ref (s.heap.objs.size + 1)) { s with heap := h' }) :
    wpAny (model prog w) A (call (.type "enumerate") [v]) Q E s := by
  refine callType_new F.called_enumerate (by decide) (F.typeCall_enumerate_1 _) (F.newCall_enumerate_1 _) (fun obj => F.args_object_init_2 obj _) F.entry_enumerate_new
    (meets_enumerate_new1 B) ⟨h1, ?_⟩
  have hz : (s.heap.push o).objs.size = s.heap.objs.size + 1 := Heap.size_push ..
  show _ ∧ _
  rw [hz]
  have he : IsEnum ((s.heap.push o).push { cls := .type "enumerate", data := .fields #[.none, .bool false, .ref s.heap.objs.size, rawInt 0, .none, .none] }) (s.heap.objs.size + 1) s.heap.objs.size 0 .none := by
    have := Heap.get?_push_size (s.heap.push o) (o := { cls := .type "enumerate", data := .fields #[.none, .bool false, .ref s.heap.objs.size, rawInt 0, .none, .none] }) rfl
    rw [hz] at this; exact this
  refine ⟨⟨_, he, rfl⟩, h _ he (Heap.get?_push_of_some _ (Heap.get?_push_size _ B.free)) (by rw [Heap.size_push, hz]) fun b o x => Heap.get?_push_of_some _ (Heap.get?_push_of_some _ x)⟩
/-- the tuple at a as it stands at each turn, each item in a new pair -/
def IteT (K : PySem.W.Frag) (a : Addr) : It :=
  ⟨fun i H => ∃ (xs : List V) (x : V), SqT K H a xs ∧ xs[i]? = some x, fun i H v H' => ∃ T x, v = .ref T ∧ H T = none ∧ H' = upd H T (.tup [.int (i : Nat), x]) ∧ ∀ xs, SqT K H a xs → xs[i]? = some x, fun i H => ∃ xs : List V, SqT K H a xs ∧ xs.length ≤ i⟩
theorem enum_ne {h : Heap} {e it a : Addr} {c : Int} {old : Value} {items : Array Value} (he : IsEnum h e it c old) (ht : IsTup h a items) : e ≠ a := by
  intro z
  subst z
  obtain ⟨o, ho, hc, _⟩ := ht
  have he' : h.get? e = some _ := he
  rw [ho] at he'
  cases he'
  injection hc with z
  exact absurd z (by decide)
theorem turn_enumT {P : Program} {w : World} {K : PySem.W.Frag} {elts : List Expr} {kk : Nat} {tpos : Pos} (a e it : Addr) :
    Turn P w K (.Tuple elts kk tpos) (IteT K a) [e, it] e (fun i h => (∃ old, IsEnum h e it ((i : Nat) : Int) old) ∧ h.IsTupleIter it a i ∧ e ≠ it ∧ a ≠ it) where
  mem := by simp
  obj := fun i h st b hb => by
    obtain ⟨⟨old, he⟩, ⟨o, ho, hc, hd⟩, _⟩ := st
    have e' : b = e ∨ b = it := by simpa using hb
    rcases e' with z | z
    · rw [z]; exact ⟨_, he, fun v q => nomatch q⟩
    · rw [z]; exact ⟨o, ho, fun v q => by rw [hd] at q; cases q⟩
  keep := fun i h h' st k => let ⟨⟨old, he⟩, hi, hne, hna⟩ := st; ⟨⟨old, k e (by simp) _ he⟩, hi.at fun o q => k it (by simp) o q, hne, hna⟩
  item := by
    intro X hP hw hK hc i pins s σ H E I hf st hg
    subst hP hw hK
    obtain ⟨⟨old, he⟩, hit, hne, hna⟩ := st
    obtain ⟨xs, x, hq, hx⟩ := hg
    obtain ⟨its, rv, p, hz⟩ := I.tuple hq
    obtain ⟨u, hu, ru⟩ := rv.get hx
    have hel : e < s.heap.objs.size := Heap.lt_size he
    have hil : it < s.heap.objs.size := by obtain ⟨_, q, _⟩ := hit; exact Heap.lt_size q
    have hea : e ≠ a := enum_ne he p
    have hlt : i < its.toArray.size := by
      have := (List.getElem?_eq_some_iff.mp hu).1
      simpa using this
    refine wpAny_pyNext_enum_itemD (Draws.tuple (A := X.A.in1) (by exact I.ok.hd hc) it a hna its.toArray) he (i := i) ⟨hit, p⟩ hlt hne (by simp [hne, hea]) fun y h' tk hP ho hst hT hsz hk => ?_
    have hy : y = u := by
      have h1 : its.toArray[i]? = some y := hP
      have h2 : its.toArray[i]? = some u := by simpa using hu
      rw [h2] at h1
      exact (Option.some.inj h1).symm
    subst hy
    have hit' := hst.1
    refine ⟨_, rfl, wpAny_letOwnedTupleGo_enum (s := { s with heap := h', toks := tk + 1 }) ho fun h'' he' sb => ?_⟩
    have hT2 : h''.get? s.heap.objs.size = some { cls := .type "tuple", data := .seq #[.int i tk, y] } := (sb.2 _ (Nat.ne_of_gt hel)).trans hT
    have new : ObjOk X.prog X.w (upd H s.heap.objs.size (.tup [.int (i : Nat), x])) h'' s.heap.objs.size (.tup [.int (i : Nat), x]) :=
      ⟨by show 2 ≤ sizeLine; decide, [.int i tk, y], .cons ⟨_, rfl⟩ (.cons ru .nil), ⟨_, hT2, rfl, _, rfl⟩⟩
    have I1 : Inv X pins σ (upd H s.heap.objs.size (.tup [.int (i : Nat), x])) { s with heap := h'', toks := tk + 1 } :=
      I.turnedNew (ch := [e, it]) (fun b ob hb q => (sb.2 b (fun z => hb (by simp [z]))).trans (hk b ob (fun z => hb (by simp [z])) (fun z => hb (by simp [z])) q)) hf (Nat.le_refl _) new
    refine ⟨.ref s.heap.objs.size, _, I1, rfl, ⟨_, x, rfl, I.hok.fresh (Nat.le_refl _), rfl, fun ys hy => by rw [I.tuple_inj hy hq]; exact hx⟩, ⟨⟨y, ?_⟩, hit'.at fun o q => (sb.2 it (Ne.symm hne)).trans q, hne, hna⟩, fun b hb => ?_⟩
    · have e1 : ((i + 1 : Nat) : Int) = (i : Int) + 1 := by omega
      rw [e1]; exact he'
    · have hb' : b < s.heap.objs.size := by
        have e' : b = e ∨ b = it := by simpa using hb
        rcases e' with z | z
        · rw [z]; exact hel
        · rw [z]; exact hil
      rw [upd_ne (Nat.ne_of_lt hb')]
      exact (hf b hb).1
  done := by
    intro X hP hw hK hc i pins s σ H E I hf st hg
    subst hP hw hK
    obtain ⟨⟨old, he⟩, hit, hne, hna⟩ := st
    obtain ⟨xs, hq, hx⟩ := hg
    obtain ⟨its, rv, p, hz⟩ := I.tuple hq
    obtain ⟨f0, f1, f2, f3, f4, f5⟩ := hf it (by simp)
    have hl := rv.length
    have hT : s.TypeIs (.ref e) "enumerate" := ⟨_, he, rfl⟩
    unfold pyNext
    refine wpAny_bind (wpAny_attempt (wpAny_callSpecial?_slot (name := Str.ofString "__next__") hT F.slot_enumerate_next
      (wpAny_call_entry F.slot_enumerate_next hT F.entry_enumerate_next ?_ (F.args_enumerate_next_1 _))))
    show wpAny _ _ (field (.ref e) 2 >>= _) _ _ _
    refine wpAny_bind (wpAny_field he rfl (x := .ref it) rfl ?_)
    refine wpAny_bind (wpAny_nextOf_tuple_end (I.ok.hd hc) hit p (by simp; omega) fun h' x he' hx' => ?_)
    obtain ⟨o, ho, hcc⟩ := hx'
    refine wpAny_bind (wpAny_isInstance (T := "StopIteration") (b := true) ⟨o, ho, hcc⟩ isSubtype_stop ?_)
    exact wpAny_pure ⟨rfl, I.turned (t' := s.toks) (fun b o hb q => he' b o hb q) f0 f1 f3 f4 f5⟩
  self := fun A i s Q E st h => let ⟨⟨_, he⟩, _⟩ := st; wpAny_pyIter_enum he h
def iEnumT (K : PySem.W.Frag) (ta : TA) : TI := fun σ H R => ta σ H fun vs H1 => ∃ a xs, vs = [.ref a] ∧ SqT K H1 a xs ∧ R (IteT K a) H1
theorem pi_enumT {X : Cx} {e : Expr} {ta : TA} {p pos tpos : Pos} {elts : List Expr} {kk : Nat} (hg : Gl X "enumerate") (hm : X.mg "enumerate" = none) (ha : PA X [e] ta) (hs : starEach [e] X.env = [(false, eval e X.env)] := by rfl) :
    PI X (.Tuple elts kk tpos) (.Call (.Name "enumerate" p) [e] [] pos) (iEnumT X.K ta) := by
  refine ⟨fun pins s σ H R I h => ?_⟩
  refine Call_ (ld_blt I hg hm boot_enumerate (PyProof.Rows.callWith_type1 (thn (ha.run pos pins s σ H _ I h) fun us s1 ⟨vs, H1, I1, r1, q1⟩ => ?_) hs rfl))
  obtain ⟨a, xs, ex, hq, q⟩ := q1
  subst ex
  cases r1 with
  | cons r rr =>
    cases rr
    cases r
    obtain ⟨its, rv, p', hz⟩ := I1.tuple hq
    have hal : a < s1.heap.objs.size := by obtain ⟨o, q, _⟩ := p'; exact Heap.lt_size q
    refine enum_begins1 (begins_tuple a its.toArray) p' fun h' he hit hsz hk => wpAny_pyIter_enum he ?_
    have I2 : Inv X pins σ H1 { s1 with heap := h' } := I1.kept (t' := s1.toks) hk
    refine ⟨s1.heap.objs.size + 1, [s1.heap.objs.size + 1, s1.heap.objs.size], _, _, H1, rfl, I2, turn_enumT a (s1.heap.objs.size + 1) s1.heap.objs.size, ⟨⟨.none, he⟩, ⟨_, hit, rfl, rfl⟩, Nat.succ_ne_self _, Nat.ne_of_lt hal⟩, fun b hb => ?_, q⟩
    have e' : b = s1.heap.objs.size + 1 ∨ b = s1.heap.objs.size := by simpa using hb
    have hle : s1.heap.objs.size ≤ b := by
      rcases e' with z | z
      · rw [z]; exact Nat.le_add_right _ _
      · rw [z]; exact Nat.le_refl _
    exact I1.fpOk hle (I1.hok.fresh hle)
end FR
end
section
set_option maxHeartbeats 2000000
/-! R2: tuples known to the object; extend by a tuple, count of texts, dict(tuple of pairs), int is False. -/
namespace FR
open PySem PySem.Spec PyProof.Rows L2
/-- the object of a tuple made by a display or by tuple(..) -/
abbrev tObj (its : List Value) : Obj := { cls := .type "tuple", data := .seq its.toArray }
/-- a tuple known to the object -/
def TF (H : Hp) (a : Addr) (xs : List V) : Prop := ∃ its : List Value, H a = some (.frz (tObj its) (.tup xs))
theorem TF.t {K : PySem.W.Frag} {H : Hp} {a : Addr} {xs : List V} (h : TF H a xs) : SqT K H a xs := let ⟨_, e⟩ := h; .inl (.inr ⟨_, e⟩)
theorem TF.same {H H' : Hp} {a : Addr} {xs : List V} (h : TF H a xs) (e : Same H H') : TF H' a xs := let ⟨its, q⟩ := h; ⟨its, e _ _ q⟩
theorem TF.inj {H : Hp} {a : Addr} {xs ys : List V} (h : TF H a xs) (h' : TF H a ys) : xs = ys := by
  obtain ⟨_, e⟩ := h
  obtain ⟨_, e'⟩ := h'
  rw [e] at e'
  cases e'
  rfl
section
variable {X : Cx} {pins : List (Addr × Obj)} {σ : L2.St} {H : Hp} {s : Shared} {a : Addr} {xs : List V}
theorem TF.have (I : Inv X pins σ H s) (h : TF H a xs) : xs.length ≤ sizeLine ∧ ∃ its : List Value, Vals xs its ∧ s.heap.get? a = some (tObj its) := by
  obtain ⟨its, e⟩ := h
  obtain ⟨h1, h2, its', r, o, ho, hc, n, hd⟩ := I.hok a _ e
  refine ⟨h2, its, ?_, h1⟩
  rw [h1] at ho
  cases ho
  have q : Data.seq its.toArray = Data.seq its'.toArray n := hd
  have q2 : its.toArray = its'.toArray := by injection q
  have q3 : its = its' := by injection q2
  rw [q3]
  exact r
def tTupF (t : TA) : TE := fun σ H Q => t σ H fun xs H1 => xs.length ≤ sizeLine ∧ ∀ p its, H1 p = none → Q (.ref p) (upd H1 p (.frz (tObj its) (.tup xs)))
theorem pe_tupF {es : List Expr} {t : TA} {x1} {pos : Pos} (h : PA X es t) : PE X (.Tuple es x1 pos) (tTupF t) := by
  refine ⟨fun pins s σ H Q I hq => ?_⟩
  refine wpAny_Tuple_spliced (thn (h.run pos pins s σ H _ I hq) fun us s1 ⟨xs, H1, I1, r, z, q⟩ => ⟨by rw [← r.length]; exact z, ?_⟩)
  have hf : H1 s1.heap.objs.size = none := I1.hok.fresh (Nat.le_refl _)
  refine ⟨.ref s1.heap.objs.size, upd H1 s1.heap.objs.size (.frz (tObj us) (.tup xs)), I1.laid (t' := s1.toks) (fun b u e => Heap.get?_push_of_some _ e) (Nat.le_refl _) ?_, rfl, q _ us hf⟩
  exact ⟨Heap.get?_push_size _ rfl, z, us, r, ⟨_, Heap.get?_push_size _ rfl, rfl, _, rfl⟩⟩
/-- tuple(a list), known to the object -/
theorem call_tupleF : CallR X (.type "tuple") (fun xs H Q => ∃ p ys, xs = [.ref p] ∧ SqL X.K H p ys ∧ ∀ l its, H l = none → Q (.ref l) (upd H l (.frz (tObj its) (.tup ys)))) := by
  intro pins s σ H xs us Q I r h
  obtain ⟨p, ys, rfl, hq, q⟩ := h
  obtain ⟨u, rfl, rx⟩ := vals1 r
  cases rx
  obtain ⟨its, r', pl, hz⟩ := I.list hq
  have hlen := r'.length
  refine call_tuple_list pl.isList (fun h' kp => ?_) (by simp only [List.size_toArray] <;> omega)
  have I1 : Inv X pins σ H { s with heap := h' } := I.kept (t' := s.toks) kp
  have I2 : Inv X pins σ (upd H h'.objs.size (.frz (tObj its) (.tup ys))) { s with heap := h'.push { cls := .type "tuple", data := .seq its.toArray } } :=
    I1.laid (t' := s.toks) (fun b o e => Heap.get?_push_of_some _ e) (Nat.le_refl _) (show ObjOk X.prog X.w _ _ _ (.frz (tObj its) (.tup ys)) from ⟨Heap.get?_push_size _ rfl, hz, its, r', IsTup.new _ _⟩)
  exact ⟨.ref h'.objs.size, _, I2, rfl, q _ its (I1.hok.fresh (Nat.le_refl _))⟩
/-- xs.extend(t), t a known tuple -/
def rExtendT : V → List V → Hp → VK → Prop := fun x vs H Q => ∃ l b xs zs, x = .ref l ∧ vs = [.ref b] ∧ H l = some (.lst xs) ∧ TF H b zs ∧ xs.length + zs.length ≤ sizeLine ∧ Q .non (upd H l (.lst (xs ++ zs)))
theorem mt_extendT : MtM X "list.extend" rExtendT := by
  intro pins s σ H x vs v us Q I rx rv h
  obtain ⟨l, b, xs, zs, rfl, rfl, hH, hB, hz, q⟩ := h
  cases rx
  obtain ⟨u, rfl, ru⟩ := rv.one
  cases ru
  obtain ⟨z, its, n, r, hl, e⟩ := I.lstM hH
  obtain ⟨z2, its2, r2, e2⟩ := TF.have I hB
  have hl2 := r2.length
  have hsz : its.toArray.size + its2.toArray.size ≤ sizeLine := by rw [List.size_toArray, List.size_toArray]; omega
  have hlong : ¬ (!its.toArray.isEmpty && Builtin.List.listTooLong (its.toArray.size + its2.toArray.size)) = true := by
    rw [notLongL hsz, Bool.and_false]
    exact Bool.false_ne_true
  refine call_meets F.slot_list_extend ⟨_, e, rfl⟩ F.entry_list_extend (F.args_list_extend_2 _ _)
    (AutoSeq1.list_extend_list_tuple_0 l its.toArray n b its2.toArray 0 hlong (by rw [List.size_toArray]; omega) (by omega)) ⟨e, e2, ?_⟩
  refine ⟨.non, _, I.lset (its' := its ++ its2) hH e (by simp) (r.append r2) ?_, rfl, q⟩
  rw [List.length_append]
  omega
/-- xs.count(t), texts -/
theorem count_eqU {x : Str} : ∀ {us : List Value} {ss : List Str}, Vals (ss.map V.str) us → us.countP (eqU (V.str x)) = ss.count x
  | _, [], .nil => rfl
  | _ :: us, y :: ss, .cons r t => by
    have e := count_eqU (x := x) t
    rw [List.countP_cons, List.count_cons, e, eqU_of r (by rfl)]
    have z : eqV (V.str y) (V.str x) = (y == x) := by
      show decide (y = x) = (y == x)
      by_cases q : y = x
      · subst q
        rw [decide_eq_true rfl]
        exact (beq_self_eq_true y).symm
      · rw [decide_eq_false q]
        exact (beq_eq_false_iff_ne.mpr q).symm
    rw [z]
def rCntS (K : PySem.W.Frag) : V → List V → Hp → VK → Prop := fun x xs H Q => ∃ (p : Addr) (ss : List Str) (k : Str), x = .ref p ∧ xs = [.str k] ∧ SqL K H p (ss.map V.str) ∧ Q (.int (ss.count k : Nat)) H
theorem mt_lcountS : MtR X "list.count" (rCntS X.K) := by
  intro pins s σ H x xs v us Q I rx rxs h
  obtain ⟨p, ss, k, rfl, rfl, hs, q⟩ := h
  cases rx
  obtain ⟨u, rfl, ru⟩ := rxs.one
  obtain ⟨its, rv, ⟨⟨cls, dd, data, sl⟩, n, ho, hc, hdn, hd⟩, hlen⟩ := I.list hs
  simp only at hc hd
  subst hc hd
  refine call_meets PySem.F.slot_list_count ⟨_, ho, rfl⟩ PySem.F.entry_list_count (PySem.F.args_list_count_2 _ _)
    (SeqAt.list_countAt p its.toArray n dd sl u (eqU (V.str k))) ⟨ho, fun y hy => ?_, ?_⟩
  · have hy' : y ∈ its := by simpa using hy
    obtain ⟨i, hi⟩ := List.getElem?_of_mem hy'
    have hl := rv.length
    obtain ⟨h1, h2⟩ := List.getElem?_eq_some_iff.mp hi
    have h3 : i < ss.length := by
      rw [List.length_map] at hl
      omega
    obtain ⟨w2, hw, rw2⟩ := rv.get (i := i) (x := V.str ss[i]) (by rw [List.getElem?_map, List.getElem?_eq_getElem h3]; rfl)
    rw [hi] at hw
    cases hw
    rw [eqU_of rw2 (by rfl)]
    exact eqAt_V rw2 ru rfl rfl
  · have ec : its.toArray.toList.countP (eqU (V.str k)) = ss.count k := count_eqU rv
    refine ⟨.int (ss.count k : Nat), H, I.tok _, ⟨s.toks, ?_⟩, q⟩
    show Value.int ((its.toArray.toList.countP (eqU (V.str k)) : Nat) : Int) s.toks = Value.int ((ss.count k : Nat) : Int) s.toks
    rw [ec]
/-- dict(t), t a known tuple of pairs (key, value) -/
theorem call_dictT (hcalm : X.calm = true) : CallR X (.type "dict") (fun xs H Q => ∃ (a : Addr) (ps : List Addr) (kvs : List (Key × V)), xs = [.ref a] ∧ TF H a (ps.map V.ref) ∧ Paired (fun p kv => SqT X.K H p [kV kv.1, kv.2]) ps kvs ∧
    ∀ p, H p = none → Q (.ref p) (upd H p (.dK (mergeK [] kvs)))) := by
  intro pins s σ H xs us Q I r q
  obtain ⟨a, ps, kvs, ex, hq, hp, q⟩ := q
  subst ex
  obtain ⟨u, eu, rx⟩ := vals1 r
  subst eu
  cases rx
  obtain ⟨hz, its, rv, ho⟩ := TF.have I hq
  have ei := refs_at rv
  subst ei
  rw [List.length_map] at hz
  obtain ⟨prs, rel, hl, hpr⟩ := pairs_of I hp
  -- the pairs as values
  let vps : List (Value × Value) := prs.map fun q => (match ps[0]? with | _ => Value.none, q.2)
  have hus : ∃ keys : List Value, keys.length = prs.length ∧ ∀ (j : Nat) (q : Key × Value) (u : Value), prs[j]? = some q → keys[j]? = some u → ∃ b : Addr, ps[j]? = some b ∧ IsTup s.heap b #[u, q.2] ∧ keyIs q.1 u = true := by
    have : ∀ (n : Nat), n ≤ prs.length → ∃ keys : List Value, keys.length = n ∧ ∀ (j : Nat) (q : Key × Value) (u : Value), prs[j]? = some q → keys[j]? = some u → ∃ b : Addr, ps[j]? = some b ∧ IsTup s.heap b #[u, q.2] ∧ keyIs q.1 u = true := by
      intro n
      induction n with
      | zero => exact fun _ => ⟨[], rfl, fun j q u _ h => by simp at h⟩
      | succ n ih =>
        intro hn
        obtain ⟨keys, hk, hk2⟩ := ih (by omega)
        obtain ⟨b, u, e1, e2, e3⟩ := hpr n prs[n] (List.getElem?_eq_getElem (by omega))
        refine ⟨keys ++ [u], by simp [hk], fun j q u' h1 h2 => ?_⟩
        by_cases hj : j < n
        · rw [List.getElem?_append_left (by omega)] at h2
          exact hk2 j q u' h1 h2
        · have hj2 : j = n := by
            have := (List.getElem?_eq_some_iff.mp h2).1
            simp at this
            omega
          subst hj2
          rw [List.getElem?_append_right (by omega), hk] at h2
          simp at h2
          subst h2
          rw [List.getElem?_eq_getElem (by omega)] at h1
          cases h1
          exact ⟨b, e1, e2, e3⟩
    exact this prs.length (Nat.le_refl _)
  obtain ⟨keys, hkl, hk⟩ := hus
  let pp : List (Value × Value) := keys.zip (prs.map Prod.snd)
  have hpl : pp.length = ps.length := by simp [pp, hkl, hl]
  have hpp : ∀ (j : Nat) (k v : Value), pp[j]? = some (k, v) → ∃ q : Key × Value, prs[j]? = some q ∧ q.2 = v ∧ keys[j]? = some k := by
    intro j k v e
    rw [List.getElem?_zip_eq_some] at e
    obtain ⟨e1, e2⟩ := e
    rw [List.getElem?_map] at e2
    cases hq2 : prs[j]? with
    | none => rw [hq2] at e2; simp at e2
    | some q =>
      rw [hq2] at e2
      simp at e2
      exact ⟨q, rfl, e2, e1⟩
  have hA : X.A.handled = none := I.ok.hd hcalm
  refine PySem.call_dict_pairs (knd := mixKind X.prog X.w) (kvs := prs) (PairArg.tuple a (ps.map Value.ref).toArray (fun j => ps.getD j 0) pp) hA ⟨⟨_, 0, ho, rfl, rfl, rfl⟩, ?_, ?_⟩ ⟨?_, ?_⟩ (by rw [hpl]; exact hz) fun h' tk hd' k => ?_
  · simp [hpl]
  · intro j k v e
    obtain ⟨q, e1, e2, e3⟩ := hpp j k v e
    obtain ⟨b, f1, f2, f3⟩ := hk j q k e1 e3
    have gd : ps.getD j 0 = b := by simp [List.getD, f1]
    refine ⟨?_, ?_⟩
    · show (ps.map Value.ref).toArray[j]? = some (Value.ref (ps.getD j 0))
      rw [gd]
      simp [f1]
    · show PairAt s.heap (ps.getD j 0) k v
      rw [gd, ← e2]
      exact .inl f2
  · rw [hpl, hl]
  · intro j k v e
    obtain ⟨q, e1, e2, e3⟩ := hpp j k v e
    obtain ⟨b, f1, f2, f3⟩ := hk j q k e1 e3
    exact ⟨q.1, by rw [e1, ← e2], f3⟩
  · have hm : (s.heap.objs.size == sysModules) = false := beq_eq_false_iff_ne.mpr (Nat.ne_of_gt I.big)
    have hlen : (mergeK [] kvs).length ≤ sizeLine := by
      refine Nat.le_trans (length_mergeK kvs []) ?_
      rw [List.length_nil, Nat.zero_add, rel.length, hl]
      exact hz
    have k' : ∀ b o, s.heap.get? b = some o → h'.get? b = some o := fun b o e => k b o (fun z => nomatch z) e
    exact ⟨.ref s.heap.objs.size, upd H s.heap.objs.size (.dK (mergeK [] kvs)), I.laid (t' := tk) k' (Nat.le_refl _) (show ObjOk X.prog X.w _ _ _ (.dK (mergeK [] kvs)) from ⟨hlen, hm, merged [] prs, KV.merge rel .nil, hd'⟩), rfl, q _ (I.hok.fresh (Nat.le_refl _))⟩
/-- i is False, i a whole number -/
theorem op_isF : OpR X (compareOp .Is) (fun x y H Q => ∃ (i : Int) (b : Bool), x = .int i ∧ y = .bl b ∧ Q (.bl false) H) := by
  intro pins s σ H x y v u Q I rx ry h
  obtain ⟨i, b, rfl, rfl, q⟩ := h
  obtain ⟨t, rfl⟩ := rx
  cases (show u = Value.bool b from ry)
  exact wpAny_is_other rfl (fun z => nomatch z) ⟨.bl false, H, I, rfl, q⟩
end
end FR
end
section
set_option maxHeartbeats 2000000
/-! R3: sorted(xs, key=a def of one's own whose answers are texts). -/
namespace FR
open PySem PySem.Spec PyProof.Rows L2
open PySem.W (EachIs copyHeap copyHeap_at copyHeap_old sortingHeap sorting_copy_old)
theorem each_of_vals : ∀ {xs : List V} {us : List Value}, Vals xs us → EachIs (fun v x => RelV x v) us xs
  | _, _, .nil => .nil
  | _, _, .cons r t => .cons r (each_of_vals t)
theorem vals_of_each : ∀ {xs : List V} {us : List Value}, EachIs (fun v x => RelV x v) us xs → Vals xs us
  | _, _, .nil => .nil
  | _, _, .cons r t => .cons r (vals_of_each t)
theorem each_snocR {α β : Type} {R : α → β → Prop} : ∀ {xs : List α} {ys : List β} {x : α} {y : β}, EachIs R xs ys → R x y → EachIs R (xs ++ [x]) (ys ++ [y])
  | _, _, _, _, .nil, r => .cons r .nil
  | _, _, _, _, .cons h t, r => .cons h (each_snocR t r)
section
variable {X : Cx} {pins : List (Addr × Obj)} {σ : L2.St} {H : Hp} {s : Shared}
/-- the state while the keys are made -/
structure Keying (X : Cx) (pins : List (Addr × Obj)) (σ : L2.St) (H : Hp) (n : Nat) (a kS : Addr) (e1 : Nat) (kz : List Str) (s' : Shared) (Hc : Hp) (kA : Array Value) (e : Nat) : Prop where
  inv : Inv X pins σ Hc s'
  same : Same H Hc
  nk : Hc kS = none
  na : Hc a = none
  gk : s'.heap.get? kS = some (seqObj "list" kA e)
  ga : s'.heap.get? a = some (seqObj "list" #[] e1)
  keys : EachIs (fun v z => ∃ t, v = Value.str z t) kA.toList kz
theorem fp_of {b : Addr} (I : Inv X pins σ H s) (hb : s.heap.objs.size ≤ b) : b ≠ X.env.locals ∧ b ∉ X.fs ∧ b ∉ frs X.stack ∧ (b ∈ X.ex ∨ X.s_0.heap.objs.size ≤ b) ∧ (∀ x c, X.env.cells.lookup x = some c → c ≠ b) ∧ ∀ p ∈ X.pn ++ pins, p.1 ≠ b := by
  obtain ⟨f0, f1, f2, f3, f4, f5⟩ := I.fpOk (H' := fun _ => none) hb rfl
  exact ⟨f1, f2, fun hm => (List.mem_cons.mp (I.stkSub b hm)).elim f1 f2, f3, f4, f5⟩
theorem cr_sortedK {k : Nat} {f : Addr} {fd : FuncData} {ps : List Str} {sp : Sp} (F : FnOk X.prog X.w X.K X.mg X.base CX0 k f fd ps sp) (hr : Room (k + 1) X.A) (hb : Binds X.K fd ps []) :
    CallRK X (.builtin "sorted") ["key"] (fun xs zs H Q => ∃ (a : Addr) (ys : List V) (g : V → Str), xs = [.ref a] ∧ zs = [.ref f] ∧ SqL X.K H a ys ∧
      (∀ y ∈ ys, ∀ H2, Same H H2 → sp [y] H2 (fun r H3 => Same H2 H3 ∧ r = .str (g y)) (fun _ _ _ => False)) ∧
      ∀ p H2, Same H H2 → H2 p = none → Q (.ref p) (upd H2 p (.lst (ys.mergeSort fun y z => decide ((g y).cps.toList ≤ (g z).cps.toList))))) := by
  intro pins s σ H xs zs us ws Q I rx rz h
  obtain ⟨a0, ys, g, rfl, rfl, hS, hsp, q⟩ := h
  obtain ⟨u, rfl, ru⟩ := vals1 rx
  obtain ⟨u2, rfl, ru2⟩ := vals1 rz
  cases ru
  cases ru2
  obtain ⟨its, rv, pl, hz⟩ := I.list hS
  have hlen := rv.length
  have hL : its.length ≤ sizeLine := by omega
  show wpAny (model X.prog X.w) X.A (call (.builtin "sorted") [.ref a0] [(Str.ofString "key", .ref f)]) (EP X pins σ Q) X.xe s
  refine PySem.W.sorted_of_sort pl.isList hL (ksk_s1 _ _) (fun x => by unfold argsOk; kernel_rfl) fun E' => ?_
  rw [ksk_t1]
  -- the sort's own objects
  have ho := copyHeap_at s.heap its
  obtain ⟨e1, ho1⟩ : ∃ e1, ((copyHeap s.heap its).update (s.heap.objs.size + 1) (Obj.mapSeq fun _ => (#[] : Array Value))).get? (s.heap.objs.size + 1) = some (seqObj "list" #[] e1) := ⟨_, get?_update_seq ho fun _ => #[]⟩
  have hkS : (((copyHeap s.heap its).update (s.heap.objs.size + 1) (Obj.mapSeq fun _ => (#[] : Array Value))).push (seqObj "tuple" its.toArray 0)).objs.size = (copyHeap s.heap its).objs.size + 1 := by rw [size_push', Heap.size_update]
  have hca : s.heap.objs.size + 1 < (copyHeap s.heap its).objs.size := Heap.lt_size ho
  unfold ksk_tree
  refine wpAny_bind (listItems_at ho rfl ?_)
  refine wpAny_bind (listUpdate_at ho rfl ?_ (by rw [List.size_toArray]; exact hL) (Nat.zero_le _))
  refine wpAny_bind (seqEpoch_at ho1 rfl ?_)
  refine wpAny_bind (wpAny_newTuple ?_ (by show its.length ≤ _; exact hL))
  refine wpAny_bind (wpAny_newList ?_ (Nat.zero_le _))
  refine wpAny_holding ?_
  rw [hkS]
  have hg0 : ∀ b o, s.heap.get? b = some o → (sortingHeap (copyHeap s.heap its) (s.heap.objs.size + 1) its).get? b = some o := fun b o e => sorting_copy_old e
  have I0 : Inv X pins σ H { s with heap := sortingHeap (copyHeap s.heap its) (s.heap.objs.size + 1) its } := I.kept (t' := s.toks) hg0
  have hge : s.heap.objs.size ≤ (copyHeap s.heap its).objs.size + 1 := by omega
  obtain ⟨ka1, ka2, ka3, ka4, ka5, ka6⟩ := fp_of (b := (copyHeap s.heap its).objs.size + 1) I hge
  obtain ⟨aa1, aa2, aa3, aa4, aa5, aa6⟩ := fp_of (b := s.heap.objs.size + 1) I (Nat.le_succ _)
  have hka : (copyHeap s.heap its).objs.size + 1 ≠ s.heap.objs.size + 1 := by omega
  -- names for the two addresses
  generalize hkd : (copyHeap s.heap its).objs.size + 1 = kS at *
  have gk0 : (sortingHeap (copyHeap s.heap its) (s.heap.objs.size + 1) its).get? kS = some (seqObj "list" #[] 0) := by
    show ((((copyHeap s.heap its).update (s.heap.objs.size + 1) (Obj.mapSeq fun _ => (#[] : Array Value))).push (seqObj "tuple" its.toArray 0)).push (seqObj "list" #[] 0)).get? kS = _
    rw [← hkS]
    exact Heap.get?_push_size _ rfl
  have ga0 : (sortingHeap (copyHeap s.heap its) (s.heap.objs.size + 1) its).get? (s.heap.objs.size + 1) = some (seqObj "list" #[] e1) :=
    Heap.get?_push_of_some _ (Heap.get?_push_of_some _ ho1)
  have hnk : H kS = none := I.hok.fresh hge
  have hna : H (s.heap.objs.size + 1) = none := I.hok.fresh (Nat.le_succ _)
  show wpAny (model X.prog X.w) X.A.in1.in1 (ksk_rest (s.heap.objs.size + 1) (.ref f) false its.toArray e1 (.ref kS)) _ _ { s with heap := sortingHeap (copyHeap s.heap its) (s.heap.objs.size + 1) its }
  generalize had : s.heap.objs.size + 1 = a at *
  have hS0 : s.heap.objs.size ≤ a := by omega
  unfold ksk_rest
  refine wpAny_bind (wpAny_rule ?_)
  first
    | rw [List.forIn_toArray]
    | (rw [← Array.forIn_toList]; simp only [List.toList_toArray])
    | rw [← Array.forIn_toList]
  refine wpAny_bind (ksk_fold (fun i s' => ∃ Hc kA e, Keying X pins σ H i a kS e1 ((ys.map g).take i) s' Hc kA e) its 0 { s with heap := sortingHeap (copyHeap s.heap its) a its }
    ⟨H, #[], 0, I0, Same.refl H, hnk, hna, gk0, ga0, by rw [List.take_zero]; exact EachIs.nil⟩ ?step ?done)
  case step =>
    rintro j x s' hx ⟨Hc, kA, e, Kk⟩
    have Kkeys := Kk.keys
    simp only [Nat.zero_add] at Kkeys ⊢
    have hj : j < its.length := (List.getElem?_eq_some_iff.mp hx).1
    have hjy : j < ys.length := by omega
    obtain ⟨y, hy⟩ : ∃ y, ys[j]? = some y := ⟨_, List.getElem?_eq_getElem hjy⟩
    obtain ⟨u, hu, ru⟩ := rv.get hy
    rw [hx] at hu
    cases hu
    have hym := List.mem_of_getElem? hy
    have hspy := hsp y hym Hc Kk.same
    have hl : ([x] ++ ([] : List Value)).length = ps.length := by
      rw [← F.len _ _ _ _ hspy]
      rfl
    have E2 : Env0 X.prog X.w X.K X.mg X.base X.A.in1.in1 X.stack s' Hc := Kk.inv.env0.in1.in1
    have hr2 : Room k X.A.in1.in1 := ⟨hr.hd, by have := hr.dp; show X.A.depth + 3 * k + 5 < _; omega, by have := hr.un; show X.A.units + 1 + 1 + 16 * k + 200 < _; omega⟩
    refine wpAny_bind (wpAny_attempt (wpAny_mono (Q := CE X.stack X.prog X.w Hc s' (fun r H3 => Same Hc H3 ∧ r = .str (g y))) (E := fun _ _ => False) (wpAny_call (codeAny_mono (F.run X.A.in1.in1 X.stack s' Hc ⟨[x], []⟩ ([x] ++ []) ([y] ++ []) (fun r H3 => Same Hc H3 ∧ r = .str (g y)) (fun _ _ _ => False) hr2 E2 (hb s' [x] Kk.inv.kIn hl) (.cons ru .nil) hspy) fun r s2 hq => ?_)) (fun v s2 he => ?_) fun e s2 hF => hF.elim))
    · cases r with
      | error e => exact hq
      | ok fl =>
        cases fl with
        | ret u => exact hq
        | next => exact False.elim hq
        | brk => exact False.elim hq
        | cont => exact False.elim hq
    · obtain ⟨r, H3, os, bare, un, hok, rr, hs3, rfl⟩ := he
      obtain ⟨tv, rfl⟩ := rr
      have gk2 : s2.heap.get? kS = some (seqObj "list" kA e) := un.keep kS _ Kk.gk Kk.nk ka3 (by simp)
      have ga2 : s2.heap.get? a = some (seqObj "list" #[] e1) := un.keep a _ Kk.ga Kk.na aa3 (by simp)
      have nk2 : H3 kS = none := un.free kS _ Kk.gk Kk.nk (by simp)
      have na2 : H3 a = none := un.free a _ Kk.ga Kk.na (by simp)
      have I3 : Inv X pins σ H3 s2 := Kk.inv.call' os un hok bare (fun b z => absurd z (by simp))
      have hkl : kA.size = ((ys.map g).take j).length := by
        have := Kkeys.length
        rw [Array.length_toList] at this
        exact this
      have hkz : kA.size ≤ its.length := by
        rw [hkl, List.length_take, List.length_map]
        omega
      have s1 := Heap.SameBut.update s2.heap kS (Obj.mapSeq (·.push (Value.str (g y) tv)))
      obtain ⟨c2, hc2⟩ : ∃ c2, (s2.heap.update kS (Obj.mapSeq (·.push (Value.str (g y) tv)))).get? kS = some (seqObj "list" (kA.push (Value.str (g y) tv)) c2) := ⟨_, get?_update_seq gk2 (·.push (Value.str (g y) tv))⟩
      refine wpAny_bind (listUpdate_at gk2 rfl ?_ (Nat.le_trans hkz hL) (Nat.le_trans (Nat.le_of_eq (Array.size_push ..)) (Nat.succ_le_succ (Nat.le_trans hkz hL))))
      have I4 : Inv X pins σ H3 { s2 with heap := s2.heap.update kS (Obj.mapSeq (·.push (Value.str (g y) tv))), toks := s2.toks } :=
        I3.turned (t' := s2.toks) (it := kS) (fun b o hb e => (s1.2 b hb).trans e) nk2 ka1 ka4 ka5 ka6
      refine wpAny_pure ⟨rfl, H3, kA.push (Value.str (g y) tv), c2, I4, Kk.same.trans hs3, nk2, na2, hc2, (s1.2 a hka.symm).trans ga2, ?_⟩
      have ek : (ys.map g).take (j + 1) = (ys.map g).take j ++ [g y] := by
        rw [List.take_add_one, List.getElem?_map, hy]
        rfl
      have ea : (kA.push (Value.str (g y) tv)).toList = kA.toList ++ [Value.str (g y) tv] := by simp
      rw [ea, ek]
      exact each_snocR Kkeys ⟨tv, rfl⟩
  case done =>
    rintro s' ⟨Hc, kA, e, Kk⟩
    have Kkeys := Kk.keys
    have e3 : (ys.map g).take (0 + its.length) = ys.map g := List.take_of_length_le (by rw [List.length_map]; omega)
    rw [e3] at Kkeys
    have hsz : kA.size = its.length := by
      have := Kkeys.length
      rw [Array.length_toList, List.length_map] at this
      omega
    try dsimp only
    refine wpAny_bind (listItems_at Kk.gk rfl ?_)
    have hk' : EachIs (fun v k => ∃ as, Reads s'.heap v k as) kA.toList (ys.map fun y => PyData.str (g y)) := by
      have : ∀ {vs : List Value} {zs : List V}, EachIs (fun v z => ∃ t, v = Value.str z t) vs (zs.map g) → EachIs (fun v k => ∃ as, Reads s'.heap v k as) vs (zs.map fun y => PyData.str (g y)) := by
        intro vs
        induction vs with
        | nil =>
          intro zs hh
          cases zs with
          | nil => exact .nil
          | cons z zs => cases hh
        | cons v vs ih =>
          intro zs hh
          cases zs with
          | nil => cases hh
          | cons z zs =>
            cases hh with
            | cons h1 h2 =>
              obtain ⟨t, rfl⟩ := h1
              exact .cons ⟨[], .str _ _⟩ (ih h2)
      exact this Kkeys
    have hal : PySem.W.AllAlike (ys.map fun y => PyData.str (g y)) := PySem.W.AllAlike.of (enc := fun y => PyData.str (g y)) fun b b' => by simp [PySem.W.alike]
    have hsk : PySem.W.Sortable (ys.map fun y => PyData.str (g y)) := PySem.W.Sortable.others (enc := fun y => PyData.str (g y)) fun b => ⟨fun z => (by cases z), fun xs z => (by cases z)⟩
    have hu : ∀ d, d ∈ (ys.map fun y => PyData.str (g y)) → X.A.in1.in1.units + d.depth < cLine := by
      intro d hd
      obtain ⟨y, _, rfl⟩ := List.mem_map.mp hd
      have := hr.un
      show X.A.units + 1 + 1 + 0 < cLine
      omega
    -- all but a and kS stands
    have hide : (PySem.W.hideAll s'.heap [kS]).get? kS = none := PySem.W.hideAll_none [kS] (by simp)
    refine PySem.W.keyH_end (κ := PySem.W.dataKind s'.heap (ys.map fun y => PyData.str (g y))) (h₁ := PySem.W.hideAll s'.heap [kS]) (fun b o _ e => PySem.W.of_hideAll [kS] e) hide Kk.gk Kk.ga hka
      (PySem.W.SortsAt.data (s := s') hk' hal hsk hu) hsz hL fun h3 tk3 c kp hD => ⟨rfl, ?_⟩
    have ko : PySem.W.KeyedOut false (ys.map fun y => PyData.str (g y)) its (PySem.W.sortVals (PySem.W.dataKind s'.heap (ys.map fun y => PyData.str (g y))) false kA.toList its) := ⟨s'.heap, kA.toList, hal, rfl, hk'⟩
    have ev := PySem.W.keyedOut_each (fun y => PyData.str (g y)) ko (each_of_vals rv)
    have hperm : (ys.mergeSort (PySem.W.dataLe false fun y => PyData.str (g y))).Perm ys := List.mergeSort_perm _ _
    rw [PySem.W.dataLe_str] at ev hperm
    generalize hws : (ys.mergeSort fun y z => decide ((g y).cps.toList ≤ (g z).cps.toList)) = ws at ev hperm q
    have kp2 : ∀ b o, b ≠ a → b ≠ kS → s'.heap.get? b = some o → h3.get? b = some o := fun b o hb hk e =>
      kp b o hb (PySem.W.hideAll_get _ e (by simpa using hk))
    have nin : ∀ b u, Hc b = some u → b ≠ a ∧ b ≠ kS := fun b u e => ⟨fun z => (by rw [z, Kk.na] at e; cases e), fun z => (by rw [z, Kk.nk] at e; cases e)⟩
    have hwl : ws.length ≤ sizeLine := by rw [hperm.length_eq]; exact hz
    have un : Un (frs X.stack) [a, kS] Hc (upd Hc a (.lst ws)) s'.heap h3 := by
      refine ⟨fun b o e n _ hx => ?_, fun b o e n _ hx => ⟨o.slots, ?_⟩, fun b o e n hx => ?_, fun b o e hx => ⟨o, ?_⟩, fun b xs e => ?_, fun b o u e => ?_, fun b ps e => ⟨#[], ?_⟩⟩
      · simp at hx; exact kp2 b o hx.1 hx.2 e
      · simp at hx; exact kp2 b o hx.1 hx.2 e
      · simp at hx; rw [upd_ne hx.1]; exact n
      · simp at hx; exact kp2 b o hx.1 hx.2 e
      · rw [upd_ne (nin _ _ e).1]; exact e
      · rw [upd_ne (nin _ _ e).1]; exact e
      · rw [upd_ne (nin _ _ e).1, e]; simp
    have hok : HOk X.prog X.w (upd Hc a (.lst ws)) h3 := fun b u e => by
      by_cases hb : b = a
      · subst hb
        rw [upd_same] at e
        cases e
        exact ⟨hwl, _, c, vals_of_each ev, hD⟩
      · rw [upd_ne hb] at e
        refine (Kk.inv.hok b u e).stay (fun b2 u2 hc2 q2 => ?_) (fun b2 q2 => by rw [upd_ne (nin _ _ q2).1]; exact q2) fun b2 xs q2 => by rw [upd_ne (nin _ _ q2).1]; exact q2
        rcases hc2 with rfl | hc2
        · exact kp2 _ _ (nin _ _ e).1 (nin _ _ e).2 q2
        · exact kp2 _ _ (nin _ _ hc2).1 (nin _ _ hc2).2 q2
    have I5 : Inv X pins σ (upd Hc a (.lst ws)) { s' with heap := h3, toks := tk3 } :=
      Kk.inv.call (g' := s'.gens) (t' := tk3) (d' := s'.drawn) (ch := [a, kS]) un hok Kk.inv.bare (fun b hb => by
        have e' : b = a ∨ b = kS := by simpa using hb
        rcases e' with rfl | rfl
        · exact ⟨aa4, aa1, aa5, aa6⟩
        · exact ⟨ka4, ka1, ka5, ka6⟩)
    exact ⟨.ref a, _, I5, rfl, q a Hc Kk.same Kk.na⟩
end
end FR
end
section
set_option maxHeartbeats 2000000
/-! R4: sorted(a tuple of ints), sorted(a list of pairs (int, text)). -/
namespace FR
open PySem PySem.Spec PyProof.Rows L2
open PySem.W (EachIs)
section
variable {prog : Program} {w : World} {A : Around} {E : Value → Shared → Prop} {s : Shared}
theorem collect_tuple {l : Addr} {vs : List Value} {Q : List Value → Shared → Prop} (hl : IsTup s.heap l vs.toArray)
    (h : Q vs { s with heap := (s.heap.push (seqObj "list" #[] 0)).update s.heap.objs.size (Obj.mapSeq (· ++ vs.toArray)) }) (hsz : vs.length ≤ sizeLine := by size_fits) :
    wpAny (model prog w) A (collect (.ref l)) Q E s := by
  obtain ⟨o, ho, hc, n, hd⟩ := id hl
  unfold collect
  refine wpAny_bind (wpAny_runValue (codeAny_builtin entry_proto_collect' ?_))
  show wpAny _ _ (do again (.builtin "list.__iadd__" ⟨[← newList [], .ref l], []⟩)) _ _ s
  refine wpAny_bind (wpAny_newList (wpAny_pure ⟨Code.quiet_builtin _ (by decide +kernel), codeAny_builtin entry_list_iadd' ?_⟩))
  show wpAny _ _ (Builtin.List.listExtendWith (.ref s.heap.objs.size) (.ref l) (.ref s.heap.objs.size)) _ _ { s with heap := s.heap.push (seqObj "list" #[] 0) }
  unfold Builtin.List.listExtendWith
  have ho' : (s.heap.push (seqObj "list" #[] 0)).get? l = some o := Heap.get?_push_of_some _ ho
  refine wpAny_bind (wpAny_typeOf (T := "tuple") ⟨o, ho', hc⟩ ?_)
  have ht : (Value.type "tuple" == Value.type "tuple") = true := by rfl
  rw [if_pos (by rw [ht]; simp)]
  refine wpAny_bind (listItems_at ho' hd ?_)
  refine wpAny_bind (listItems_at (xs := #[]) (n := 0) (Heap.get?_push_size _ rfl) rfl ?_)
  rw [if_neg (by simp)]
  refine wpAny_bind (listUpdate_at (xs := #[]) (n := 0) (Heap.get?_push_size _ rfl) rfl ?_ (Nat.zero_le _) (by show (#[] ++ vs.toArray).size ≤ sizeLine + 1; simp only [Array.size_append, List.size_toArray, List.length_nil]; omega))
  refine wpAny_pure ?_
  show wpAny (model prog w) A (do
      let o ← load s.heap.objs.size
      match o.data with
      | .seq xs _ => pure xs.toList
      | _ => unsupported "internal:collect") Q E { s with heap := (s.heap.push (seqObj "list" #[] 0)).update s.heap.objs.size (Obj.mapSeq (· ++ vs.toArray)) }
  refine wpAny_bind (wpAny_load (get?_update_seq (Heap.get?_push_size _ rfl) _) ?_)
  show wpAny _ _ (pure ((#[] : Array Value) ++ vs.toArray).toList) Q E _
  refine wpAny_pure ?_
  simpa using h
theorem sorted_intsT {l : Addr} {vs : List Value} {ns : List Int} {Q : Value → Shared → Prop} (hl : IsTup s.heap l vs.toArray) (hI : IntsAre vs ns) (h64 : vs.length < 64)
    (h : ∀ (out : Array Value) (ns' : List Int), IntsAre out.toList ns' → ns'.Perm ns → ns'.Pairwise (· ≤ ·) → Q (.ref (s.heap.objs.size + 1)) { s with heap := PyProof.Rows.sortedAll s.heap vs out }) :
    wpAny (model prog w) A (call (.builtin "sorted") [.ref l]) Q E s := by
  refine Calls.call_function_entry kind_sorted plain_sorted entry_sorted (args_sorted1 _) ?_
  unfold Builtin.«sorted»
  refine wpAny_bind (m := checkCount "sorted" 1 1 _) (wpAny_pure ?_)
  refine wpAny_bind (collect_tuple hl ?_)
  refine wpAny_bind (wpAny_newList ?_)
  have hsz : ((s.heap.push (seqObj "list" #[] 0)).update s.heap.objs.size (Obj.mapSeq (· ++ vs.toArray))).objs.size = s.heap.objs.size + 1 := by
    rw [Heap.size_update, size_push']
  have hoL : (((s.heap.push (seqObj "list" #[] 0)).update s.heap.objs.size (Obj.mapSeq (· ++ vs.toArray))).push (seqObj "list" vs.toArray 0)).get? (s.heap.objs.size + 1) = some (seqObj "list" vs.toArray 0) := by
    rw [← hsz]; exact Heap.get?_push_size _ rfl
  show wpAny _ _ _ _ _ { s with heap := ((s.heap.push (seqObj "list" #[] 0)).update s.heap.objs.size (Obj.mapSeq (· ++ vs.toArray))).push (seqObj "list" vs.toArray 0) }
  rw [hsz]
  refine wpAny_bind (wpAny_holding (wpAny_call_entry slot_list_sort ⟨_, hoL, rfl⟩ entry_list_sort (list_sort_tree hoL hI h64 fun out ns' a1 a2 a3 => ⟨_, rfl, ?_⟩) (args_list_sort _)))
  exact wpAny_pure ⟨_, rfl, h out ns' a1 a2 a3⟩
end
section
variable {X : Cx}
/-- sorted(t), t a tuple of fewer than 64 ints -/
def rSortedT (K : PySem.W.Frag) : List V → Hp → VK → Prop := fun vs H Q => ∃ (a : Addr) (ns : List Int), vs = [.ref a] ∧ SqT K H a (ns.map V.int) ∧ ns.length < 64 ∧
  ∀ (ns' : List Int) (p : Addr), ns'.Perm ns → ns'.Pairwise (· ≤ ·) → H p = none → Q (.ref p) (upd H p (.lst (ns'.map V.int)))
theorem cr_sortedT : CallR X (.builtin "sorted") (rSortedT X.K) := by
  intro pins s σ H vs us Q I r h
  obtain ⟨a, ns, rfl, hs, h64, q⟩ := h
  obtain ⟨its, rv, hl, _⟩ := I.tuple hs
  rw [Vals.ref1 r]
  have hi := rv.ints
  refine sorted_intsT hl hi (by rw [hi.length]; exact h64) fun out ns' h1 h2 h3 => ?_
  obtain ⟨ep, he'⟩ := PyProof.Rows.sortedAll_at s.heap its out
  have hlen : (ns'.map V.int).length ≤ sizeLine := by rw [List.length_map, h2.length_eq]; exact small64 h64
  exact ⟨.ref _, upd H (s.heap.objs.size + 1) (.lst (ns'.map V.int)), I.laid (t' := s.toks) (fun _ _ => PyProof.Rows.sortedAll_old) (Nat.le_succ _) ⟨hlen, out.toList, ep, vals_of_ints h1, he'⟩, rfl, q ns' _ h2 h3 (I.hok.fresh (Nat.le_succ _))⟩
/-- sorted(l), l a list of pairs (int, text) -/
abbrev PrT := Addr × Int × Str
def encP (t : PrT) : PyData := .tuple [.int t.2.1, .str t.2.2]
def leP (s t : PrT) : Bool := decide (s.2.1 < t.2.1 ∨ (s.2.1 = t.2.1 ∧ s.2.2.cps.toList ≤ t.2.2.cps.toList))
theorem dataLe_P : PySem.W.dataLe false encP = leP := by
  funext p q
  show (!PySem.W.dataLt (encP q) (encP p)) = _
  unfold encP leP
  rw [PySem.W.dataLt_pair (by simp [PySem.W.alike]) (by simp [PySem.W.alike]), PySem.W.dataLt_int, PySem.W.dataLt_str]
  simp only [PyData.eqv, beq_iff_eq]
  by_cases h1 : q.2.1 = p.2.1
  · rw [if_pos h1]
    by_cases h2 : q.2.2 = p.2.2
    · rw [if_pos h2]
      have : (p.2.1 < q.2.1 ∨ (p.2.1 = q.2.1 ∧ p.2.2.cps.toList ≤ q.2.2.cps.toList)) := .inr ⟨h1.symm, by rw [h2]; exact List.le_refl _⟩
      rw [decide_eq_true this]; rfl
    · rw [if_neg h2]
      by_cases h3 : q.2.2.cps.toList < p.2.2.cps.toList
      · have h4 : ¬ p.2.2.cps.toList ≤ q.2.2.cps.toList := fun z => List.not_lt.mpr z h3
        have h5 : ¬ (p.2.1 < q.2.1 ∨ (p.2.1 = q.2.1 ∧ p.2.2.cps.toList ≤ q.2.2.cps.toList)) := by
          rintro (z | z)
          · omega
          · exact h4 z.2
        rw [decide_eq_true h3, decide_eq_false h5]; rfl
      · have h4 : p.2.2.cps.toList ≤ q.2.2.cps.toList := List.not_lt.mp h3
        have h5 : (p.2.1 < q.2.1 ∨ (p.2.1 = q.2.1 ∧ p.2.2.cps.toList ≤ q.2.2.cps.toList)) := .inr ⟨h1.symm, h4⟩
        rw [decide_eq_false h3, decide_eq_true h5]; rfl
  · rw [if_neg h1]
    by_cases h3 : q.2.1 < p.2.1
    · have h5 : ¬ (p.2.1 < q.2.1 ∨ (p.2.1 = q.2.1 ∧ p.2.2.cps.toList ≤ q.2.2.cps.toList)) := by
        rintro (z | z)
        · omega
        · omega
      rw [decide_eq_true h3, decide_eq_false h5]; rfl
    · have h5 : (p.2.1 < q.2.1 ∨ (p.2.1 = q.2.1 ∧ p.2.2.cps.toList ≤ q.2.2.cps.toList)) := .inl (by omega)
      rw [decide_eq_false h3, decide_eq_true h5]; rfl
theorem leP_trans (a b c : PrT) (h : leP a b = true) (h' : leP b c = true) : leP a c = true := by
  unfold leP at *
  simp only [decide_eq_true_eq] at *
  rcases h with h | ⟨h, h1⟩
  · rcases h' with h' | ⟨h', _⟩
    · exact .inl (by omega)
    · exact .inl (by omega)
  · rcases h' with h' | ⟨h', h2⟩
    · exact .inl (by omega)
    · exact .inr ⟨by omega, List.le_trans h1 h2⟩
theorem leP_total (a b : PrT) : (leP a b || leP b a) = true := by
  unfold leP
  simp only [Bool.or_eq_true, decide_eq_true_eq]
  rcases List.le_total a.2.2.cps.toList b.2.2.cps.toList with z | z
  · by_cases h : a.2.1 < b.2.1
    · exact .inl (.inl h)
    · by_cases h2 : a.2.1 = b.2.1
      · exact .inl (.inr ⟨h2, z⟩)
      · exact .inr (.inl (by omega))
  · by_cases h : b.2.1 < a.2.1
    · exact .inr (.inl h)
    · by_cases h2 : a.2.1 = b.2.1
      · exact .inr (.inr ⟨h2.symm, z⟩)
      · exact .inl (.inl (by omega))
theorem leP_int {a b : PrT} (h : leP a b = true) : a.2.1 ≤ b.2.1 := by
  unfold leP at h
  simp only [decide_eq_true_eq] at h
  omega
theorem each_refs : ∀ {ts : List PrT} {us : List Value}, Vals (ts.map fun t => V.ref t.1) us → EachIs (fun v t => v = Value.ref t.1) us ts
  | [], _, r => by cases r; exact .nil
  | t :: ts, _, r => by
    cases r with
    | cons r1 r2 => exact .cons r1 (each_refs r2)
theorem refs_each : ∀ {ts : List PrT} {us : List Value}, EachIs (fun v t => v = Value.ref t.1) us ts → Vals (ts.map fun t => V.ref t.1) us
  | _, _, .nil => .nil
  | _, _, .cons h t => .cons h (refs_each t)
theorem each_memR {α β : Type} {R S : α → β → Prop} : ∀ {us : List α} {ts : List β}, EachIs R us ts → (∀ u t, t ∈ ts → R u t → S u t) → EachIs S us ts
  | _, _, .nil, _ => .nil
  | _, _, .cons h t, f => .cons (f _ _ (List.mem_cons_self ..) h) (each_memR t fun u b hb => f u b (List.mem_cons_of_mem _ hb))
def rSortedPr (K : PySem.W.Frag) : List V → Hp → VK → Prop := fun vs H Q => ∃ (a : Addr) (ts : List PrT), vs = [.ref a] ∧ SqL K H a (ts.map fun t => V.ref t.1) ∧ (∀ t ∈ ts, SqT K H t.1 [.int t.2.1, .str t.2.2]) ∧
  ∀ (ws : List PrT) (p : Addr), ws.Perm ts → ws.Pairwise (fun s t => s.2.1 ≤ t.2.1) → H p = none → Q (.ref p) (upd H p (.lst (ws.map fun t => V.ref t.1)))
theorem cr_sortedPr {k : Nat} (hr : Room k X.A) : CallR X (.builtin "sorted") (rSortedPr X.K) := by
  intro pins s σ H vs us Q I r h
  obtain ⟨a, ts, rfl, hs, hp, q⟩ := h
  obtain ⟨its, rv, hl, hz⟩ := I.list hs
  rw [Vals.ref1 r]
  rw [List.length_map] at hz
  have e := each_refs rv
  have er : EachIs (fun v b => ∃ as, Reads s.heap v (encP b) as) its ts := each_memR e fun u t ht hu => by
    subst hu
    obtain ⟨us2, r2, ⟨o, ho, hc, n, hd⟩, _⟩ := I.tuple (hp t ht)
    obtain ⟨u1, u2, eu, r3, r4⟩ := vals2 r2
    obtain ⟨t1, rfl⟩ := r3
    obtain ⟨t2, rfl⟩ := r4
    subst eu
    exact ⟨_, .tuple ho hc hd (.cons (.int _ _) (.cons (.str _ _) .nil))⟩
  refine PySem.W.sorted_data (enc := encP) (bs := ts) (R := fun v t => v = Value.ref t.1) hl.isList e er (PySem.W.AllAlike.of fun b b' => by simp [encP, PySem.W.alike, PySem.W.alikeAll]) (PySem.W.Sortable.tuples fun b => ⟨_, _, rfl⟩) hz (fun b _ => ?_) fun out hol eo => ?_
  · have := hr.un
    show X.A.units + 2 + (encP b).depth < cLine
    have : (encP b).depth ≤ 10 := by
      unfold encP
      simp [PyData.depth, PyData.depthAll]
    omega
  · rw [dataLe_P] at eo
    have hperm : (ts.mergeSort leP).Perm ts := List.mergeSort_perm _ _
    have hpw : (ts.mergeSort leP).Pairwise (fun a b => leP a b = true) := List.pairwise_mergeSort leP_trans leP_total ts
    obtain ⟨ep, he'⟩ := PyProof.Rows.sortedAll_at s.heap its out.toArray
    have hlen : ((ts.mergeSort leP).map fun t => V.ref t.1).length ≤ sizeLine := by rw [List.length_map, hperm.length_eq]; exact hz
    exact ⟨.ref _, upd H (s.heap.objs.size + 1) (.lst ((ts.mergeSort leP).map fun t => V.ref t.1)), I.laid (t' := s.toks) (fun _ _ => PyProof.Rows.sortedAll_old) (Nat.le_succ _) ⟨hlen, out, ep, refs_each eo, he'⟩, rfl, q _ _ hperm (hpw.imp fun h => leP_int h) (I.hok.fresh (Nat.le_succ _))⟩
end
end FR
end
section
set_option maxHeartbeats 2000000
/-! R5: == and != with an empty list or tuple. -/
namespace FR
open PySem PySem.Spec PyProof.Rows L2
section
variable {X : Cx}
theorem vals_nil {us : List Value} (r : Vals [] us) : us = [] := by cases r; rfl
theorem vals_size {xs : List V} {us : List Value} (r : Vals xs us) (h : xs ≠ []) : (us.toArray.size != (([] : List Value).toArray).size) = true := by
  have hl := r.length
  rw [List.size_toArray, List.size_toArray]
  cases xs with
  | nil => exact absurd rfl h
  | cons a b =>
    rw [List.length_cons] at hl
    simp
    intro z
    rw [z] at hl
    simp at hl
theorem op_eqE (hu : X.A.units < cLine) : OpR X (compareOp .Eq) (fun x y H Q => ∃ a b xs, x = .ref a ∧ y = .ref b ∧ SqL X.K H a xs ∧ SqL X.K H b [] ∧ Q (.bl (decide (xs = []))) H) := by
  intro pins s σ H x y v u Q I rx ry h
  obtain ⟨a, b, xs, rfl, rfl, h1, h2, q⟩ := h
  cases rx
  cases ry
  obtain ⟨its, r1, p1, _⟩ := I.list h1
  obtain ⟨its2, r2, p2, _⟩ := I.list h2
  have e2 := vals_nil r2
  subst e2
  by_cases hx : xs = []
  · subst hx
    have e1 := vals_nil r1
    subst e1
    exact SeqAt.RcAt.lists (e := fun _ => true) p1.isList p2.isList rfl hu (fun j h1 _ => by simp at h1) X.prog X.w X.xe _ ⟨.bl true, H, I, rfl, by simpa using q⟩
  · exact SeqAt.RcAt.lists_lengths p1.isList p2.isList (vals_size r1 hx) hu X.prog X.w X.xe _ ⟨.bl false, H, I, rfl, by simpa [hx] using q⟩
theorem op_neE (hu : X.A.units < cLine) : OpR X (compareOp .NotEq) (fun x y H Q => ∃ a b xs, x = .ref a ∧ y = .ref b ∧ SqL X.K H a xs ∧ SqL X.K H b [] ∧ Q (.bl (!decide (xs = []))) H) := by
  intro pins s σ H x y v u Q I rx ry h
  obtain ⟨a, b, xs, rfl, rfl, h1, h2, q⟩ := h
  cases rx
  cases ry
  obtain ⟨its, r1, p1, _⟩ := I.list h1
  obtain ⟨its2, r2, p2, _⟩ := I.list h2
  have e2 := vals_nil r2
  subst e2
  by_cases hx : xs = []
  · subst hx
    have e1 := vals_nil r1
    subst e1
    exact SeqAt.RcNeAt.lists (e := fun _ => true) p1.isList p2.isList rfl hu (fun j h1 _ => by simp at h1) X.prog X.w X.xe _ ⟨.bl false, H, I, rfl, by simpa using q⟩
  · exact SeqAt.RcNeAt.lists_lengths p1.isList p2.isList (vals_size r1 hx) hu X.prog X.w X.xe _ ⟨.bl true, H, I, rfl, by simpa [hx] using q⟩
theorem op_neET (hu : X.A.units < cLine) : OpR X (compareOp .NotEq) (fun x y H Q => ∃ a b xs, x = .ref a ∧ y = .ref b ∧ SqT X.K H a xs ∧ SqT X.K H b [] ∧ Q (.bl (!decide (xs = []))) H) := by
  intro pins s σ H x y v u Q I rx ry h
  obtain ⟨a, b, xs, rfl, rfl, h1, h2, q⟩ := h
  cases rx
  cases ry
  obtain ⟨its, r1, p1, _⟩ := I.tuple h1
  obtain ⟨its2, r2, p2, _⟩ := I.tuple h2
  have e2 := vals_nil r2
  subst e2
  have hl := r1.length
  refine SeqAt.RcNeAt.tuples (e := fun _ => true) p1 p2 hu (fun j _ h2 => by simp at h2) X.prog X.w X.xe _ ⟨.bl (!decide (xs = [])), H, I, ?_, q⟩
  show Value.bool _ = Value.bool _
  cases xs with
  | nil =>
    have e1 := vals_nil r1
    subst e1
    rfl
  | cons z r =>
    have : its ≠ [] := by
      intro e
      rw [e] at hl
      simp at hl
    simp [this]
end
end FR
end
section
set_option maxHeartbeats 2000000
/-! R6: == of a list of at most one int with a list of one. -/
namespace FR
open PySem PySem.Spec PyProof.Rows L2
section
variable {X : Cx}
theorem eq1_bool (c z : Int) : (List.range 1).all (fun _ => eqV (V.int c) (V.int z)) = decide ([c] = [z]) := by
  show (eqV (V.int c) (V.int z) && true) = decide ([c] = [z])
  rw [Bool.and_true]
  show (c == z) = decide ([c] = [z])
  by_cases e : c = z
  · subst e
    simp
  · have : ¬ [c] = [z] := fun q => e (List.cons.inj q).1
    rw [decide_eq_false this]
    simpa using e
theorem rc1 {A : Around} {s : Shared} {a b : Addr} {u1 u2 : Value} {c z : Int} (p1 : s.heap.IsList a #[u1]) (p2 : s.heap.IsList b #[u2]) (hu : A.units < cLine) (rv : RelV (V.int c) u1) (ru : RelV (V.int z) u2) : SeqAt.RcAt A s (.ref a) (.ref b) (decide ([c] = [z])) := by
  rw [← eq1_bool]
  refine SeqAt.RcAt.lists (items := #[u1]) (items2 := #[u2]) (e := fun _ => eqV (V.int c) (V.int z)) p1 p2 rfl hu (fun j h1 h2 => ?_)
  have hj : j = 0 := by
    have : j < 1 := h1
    omega
  subst hj
  exact eqAt_V rv ru rfl rfl
theorem op_eq1 (hu : X.A.units < cLine) : OpR X (compareOp .Eq) (fun x y H Q => ∃ (a b : Addr) (xs : List Int) (h : Int), x = .ref a ∧ y = .ref b ∧ SqL X.K H a (xs.map V.int) ∧ xs.length ≤ 1 ∧ SqL X.K H b [V.int h] ∧ Q (.bl (decide (xs = [h]))) H) := by
  intro pins s σ H x y v u Q I rx ry h
  obtain ⟨a, b, xs, z, rfl, rfl, h1, hl, h2, q⟩ := h
  cases rx
  cases ry
  obtain ⟨its, r1, p1, _⟩ := I.list h1
  obtain ⟨its2, r2, p2, _⟩ := I.list h2
  obtain ⟨u2, rfl, ru⟩ := vals1 r2
  have hc : xs = [] ∨ ∃ c, xs = [c] := by
    cases xs with
    | nil => exact .inl rfl
    | cons c r =>
      cases r with
      | nil => exact .inr ⟨c, rfl⟩
      | cons d r => simp at hl
  rcases hc with rfl | ⟨c, rfl⟩
  · have e1 := vals_nil r1
    subst e1
    exact SeqAt.RcAt.lists_lengths p1.isList p2.isList rfl hu X.prog X.w X.xe _ ⟨.bl false, H, I, rfl, q⟩
  · obtain ⟨u1, rfl, rv⟩ := vals1 r1
    exact rc1 p1.isList p2.isList hu rv ru X.prog X.w X.xe _ ⟨.bl (decide ([c] = [z])), H, I, rfl, q⟩
end
end FR
end
section
/-! W0: what the walks share. -/
namespace FW
open PySem PySem.Spec PyProof.Rows L2 FM FR
def topS (i : Nat) : Stmt := PySem.Challenge.pw_frontmeets_k52_whole_one_more_known_pers.main.body.getD i (.Pass ⟨0, 0, 0, 0⟩)
/-! ### heaps -/
theorem same_upd {H : Hp} {p : Addr} {o : HO} (h : H p = none) : Same H (upd H p o) := fun b x e => by
  rw [upd_ne (ne_of_none e h)]
  exact e
/-- all that was tracked but what stands at l is as it was -/
def Sb (l : Addr) (H H' : Hp) : Prop := ∀ b o, b ≠ l → H b = some o → H' b = some o
theorem Sb.refl (l : Addr) (H : Hp) : Sb l H H := fun _ _ _ h => h
theorem Sb.of {l : Addr} {H H' : Hp} (h : Same H H') : Sb l H H' := fun b o _ e => h b o e
theorem Sb.trans {l : Addr} {H H1 H2 : Hp} (a : Sb l H H1) (b : Sb l H1 H2) : Sb l H H2 := fun c o n h => b c o n (a c o n h)
theorem Sb.upd {l : Addr} {H : Hp} {o : HO} : Sb l H (upd H l o) := fun b u n e => by rw [upd_ne n]; exact e
theorem _root_.L2.Same.seqT {K : PySem.W.Frag} {H H' : Hp} {a : Addr} {xs : List V} (e : Same H H') (h : SqT K H a xs) : SqT K H' a xs := by
  rcases h with (h | ⟨o, h⟩) | h
  · exact .inl (.inl (e _ _ h))
  · exact .inl (.inr ⟨o, e _ _ h⟩)
  · exact .inr h
theorem map_get {α β : Type} {f : α → β} {l : List α} {i : Nat} {y : β} (h : (l.map f)[i]? = some y) : ∃ z, l[i]? = some z ∧ y = f z := by
  rw [List.getElem?_map] at h
  cases e : l[i]? with
  | none => rw [e] at h; cases h
  | some z => rw [e] at h; exact ⟨z, rfl, (Option.some.inj h).symm⟩
theorem get_map {α β : Type} {f : α → β} {l : List α} {i : Nat} {z : α} (h : l[i]? = some z) : (l.map f)[i]? = some (f z) := by
  rw [List.getElem?_map, h]; rfl
theorem small {n : Nat} (h : n ≤ 1000) : n ≤ sizeLine := Nat.le_of_lt (small1000 h)
theorem lt_of_get {α : Type} {l : List α} {i : Nat} {z : α} (h : l[i]? = some z) : i < l.length := (List.getElem?_eq_some_iff.mp h).1
theorem sortedZ_map {α β : Type} (f : α → β) (l : List α) : (l.map f).length = l.length := List.length_map _
/-! ### plans -/
/-- a kind's text -/
def kS (k : Bool) : Str := if k then "low" else "high"
abbrev Pn := Pl Str
mutual
def PlAt (H : Hp) : Pn → V → Prop
  | .ln s, v => v = .str s
  | .jn k ps, v => ∃ a b vs, v = .ref a ∧ H a = some (.tup [.str (kS k), .ref b]) ∧ TF H b vs ∧ PlsAt H ps vs
def PlsAt (H : Hp) : List Pn → List V → Prop
  | [], vs => vs = []
  | p :: r, vs => ∃ v vs', vs = v :: vs' ∧ PlAt H p v ∧ PlsAt H r vs'
end
theorem plAt_ln {H : Hp} {s : Str} {v : V} : PlAt H (.ln s) v ↔ v = .str s := by simp [PlAt]
theorem plAt_jn {H : Hp} {k : Bool} {ps : List Pn} {v : V} : PlAt H (.jn k ps) v ↔ ∃ a b vs, v = .ref a ∧ H a = some (.tup [.str (kS k), .ref b]) ∧ TF H b vs ∧ PlsAt H ps vs := by simp [PlAt]
theorem plsAt_nil {H : Hp} {vs : List V} : PlsAt H [] vs ↔ vs = [] := by simp [PlsAt]
theorem plsAt_cons {H : Hp} {p : Pn} {r : List Pn} {vs : List V} : PlsAt H (p :: r) vs ↔ ∃ v vs', vs = v :: vs' ∧ PlAt H p v ∧ PlsAt H r vs' := by simp [PlsAt]
theorem PlsAt.len {H : Hp} : ∀ {ps : List Pn} {vs : List V}, PlsAt H ps vs → vs.length = ps.length
  | [], vs, h => by rw [plsAt_nil.mp h]; rfl
  | p :: r, vs, h => by
    obtain ⟨v, vs', rfl, _, h2⟩ := plsAt_cons.mp h
    rw [List.length_cons, List.length_cons, PlsAt.len h2]
theorem PlsAt.get {H : Hp} : ∀ {ps : List Pn} {vs : List V} {i : Nat} {v : V}, PlsAt H ps vs → vs[i]? = some v → ∃ p, ps[i]? = some p ∧ PlAt H p v
  | [], vs, i, v, h, e => by rw [plsAt_nil.mp h] at e; simp at e
  | p :: r, vs, i, v, h, e => by
    obtain ⟨w, vs', rfl, h1, h2⟩ := plsAt_cons.mp h
    cases i with
    | zero =>
      have : w = v := by simpa using e
      subst this
      exact ⟨p, rfl, h1⟩
    | succ i =>
      obtain ⟨q, e1, e2⟩ := PlsAt.get (i := i) h2 (by simpa using e)
      exact ⟨q, by simpa using e1, e2⟩
theorem PlsAt.get' {H : Hp} {ps : List Pn} {vs : List V} {i : Nat} {p : Pn} (h : PlsAt H ps vs) (e : ps[i]? = some p) : ∃ v, vs[i]? = some v ∧ PlAt H p v := by
  have hl := h.len
  have hi := lt_of_get e
  obtain ⟨q, e1, e2⟩ := h.get (i := i) (v := vs[i]'(by omega)) (List.getElem?_eq_getElem (by omega))
  rw [e] at e1
  cases e1
  exact ⟨_, List.getElem?_eq_getElem (by omega), e2⟩
theorem PlsAt.of {H : Hp} : ∀ {ps : List Pn} {vs : List V}, vs.length = ps.length → (∀ (i : Nat) (v : V) (p : Pn), vs[i]? = some v → ps[i]? = some p → PlAt H p v) → PlsAt H ps vs
  | [], vs, hl, _ => plsAt_nil.mpr (List.length_eq_zero_iff.mp hl)
  | p :: r, [], hl, _ => by simp at hl
  | p :: r, v :: vs, hl, f => plsAt_cons.mpr ⟨v, vs, rfl, f 0 v p rfl rfl, PlsAt.of (by simpa using hl) fun i w q h1 h2 => f (i + 1) w q (by simpa using h1) (by simpa using h2)⟩
theorem PlsAt.append {H : Hp} : ∀ {ps qs : List Pn} {vs ws : List V}, PlsAt H ps vs → PlsAt H qs ws → PlsAt H (ps ++ qs) (vs ++ ws)
  | [], qs, vs, ws, h, h' => by rw [plsAt_nil.mp h]; exact h'
  | p :: r, qs, vs, ws, h, h' => by
    obtain ⟨v, vs', rfl, h1, h2⟩ := plsAt_cons.mp h
    exact plsAt_cons.mpr ⟨v, vs' ++ ws, rfl, h1, PlsAt.append h2 h'⟩
theorem PlsAt.one {H : Hp} {p : Pn} {v : V} (h : PlAt H p v) : PlsAt H [p] [v] := plsAt_cons.mpr ⟨v, [], rfl, h, plsAt_nil.mpr rfl⟩
/-- what a plan's reading leans on: tuples -/
theorem PlAt.mono {H H' : Hp} (h1 : ∀ a xs, H a = some (.tup xs) → H' a = some (.tup xs)) (h2 : ∀ a o xs, H a = some (.frz o (.tup xs)) → H' a = some (.frz o (.tup xs))) : ∀ (t : Pn) (v : V), PlAt H t v → PlAt H' t v := by
  refine Pl.ind (fun s v h => ?_) (fun k ps ih v h => ?_)
  · exact plAt_ln.mpr (plAt_ln.mp h)
  · obtain ⟨a, b, vs, e, ha, ⟨its, hb⟩, hp⟩ := plAt_jn.mp h
    refine plAt_jn.mpr ⟨a, b, vs, e, h1 _ _ ha, ⟨its, h2 _ _ _ hb⟩, PlsAt.of hp.len fun i v p e1 e2 => ?_⟩
    obtain ⟨q, e3, e4⟩ := hp.get e1
    rw [e2] at e3
    cases e3
    exact ih p (List.mem_of_getElem? e2) v e4
theorem PlAt.same {H H' : Hp} {t : Pn} {v : V} (h : PlAt H t v) (e : Same H H') : PlAt H' t v := PlAt.mono (fun a xs q => e _ _ q) (fun a o xs q => e _ _ q) t v h
theorem PlAt.sb {H H' : Hp} {t : Pn} {v : V} {l : Addr} {xs : List V} (h : PlAt H t v) (e : Sb l H H') (hl : H l = some (.lst xs)) : PlAt H' t v :=
  PlAt.mono (fun a ys q => e _ _ (ne_of q hl (by intro z; cases z)) q) (fun a o ys q => e _ _ (ne_of q hl (by intro z; cases z)) q) t v h
theorem PlsAt.same {H H' : Hp} {ps : List Pn} {vs : List V} (h : PlsAt H ps vs) (e : Same H H') : PlsAt H' ps vs :=
  PlsAt.of h.len fun i v p e1 e2 => by
    obtain ⟨q, e3, e4⟩ := h.get e1
    rw [e2] at e3
    cases e3
    exact e4.same e
mutual
/-- every junction has two parts at least -/
def Wf : Pn → Prop
  | .ln _ => True
  | .jn _ ps => 2 ≤ ps.length ∧ Wfs ps
def Wfs : List Pn → Prop
  | [] => True
  | p :: r => Wf p ∧ Wfs r
end
theorem wfs_all {ps : List Pn} : Wfs ps ↔ ∀ p ∈ ps, Wf p := by
  induction ps with
  | nil => simp [Wfs]
  | cons p r ih => simp [Wfs, ih]
theorem wf_jn {k : Bool} {ps : List Pn} : Wf (.jn k ps) ↔ 2 ≤ ps.length ∧ ∀ p ∈ ps, Wf p := by
  rw [Wf, wfs_all]
theorem wf_ln (s : Str) : Wf (.ln s) := by rw [Wf]; trivial
theorem Wf.pos : ∀ (t : Pn), Wf t → 0 < t.lv.length := by
  refine Pl.ind (fun s _ => by rw [lv_ln]; exact Nat.zero_lt_one) (fun k ps ih h => ?_)
  obtain ⟨h1, h2⟩ := wf_jn.mp h
  rw [lv_jn]
  match ps, h1 with
  | p :: r, _ =>
    rw [lvs_cons, List.length_append]
    have := ih p List.mem_cons_self (h2 p List.mem_cons_self)
    omega
theorem lvs_ge : ∀ {ps : List Pn}, (∀ p ∈ ps, Wf p) → ps.length ≤ (lvs ps).length
  | [], _ => Nat.le_refl _
  | p :: r, h => by
    rw [lvs_cons, List.length_append, List.length_cons]
    have h1 := Wf.pos p (h p List.mem_cons_self)
    have h2 := lvs_ge (ps := r) fun q hq => h q (List.mem_cons_of_mem _ hq)
    omega
/-- a part has fewer lines than its junction -/
theorem lv_part {k : Bool} {ps : List Pn} (h : Wf (.jn k ps)) {p : Pn} (hp : p ∈ ps) : p.lv.length < (Pl.jn k ps).lv.length := by
  obtain ⟨h1, h2⟩ := wf_jn.mp h
  rw [lv_jn]
  have key : ∀ {qs : List Pn}, 2 ≤ qs.length → (∀ q ∈ qs, Wf q) → p ∈ qs → p.lv.length < (lvs qs).length := by
    intro qs
    induction qs with
    | nil => intro hl; simp at hl
    | cons q r ih =>
      intro hl hw hm
      rw [lvs_cons, List.length_append]
      have hq := Wf.pos q (hw q List.mem_cons_self)
      have hr : ∀ x ∈ r, Wf x := fun x hx => hw x (List.mem_cons_of_mem _ hx)
      have hrl := lvs_ge hr
      rw [List.length_cons] at hl
      rcases List.mem_cons.mp hm with rfl | hm
      · omega
      · have : p.lv.length ≤ (lvs r).length := by
          have hs := List.append_of_mem hm
          obtain ⟨x, y, rfl⟩ := hs
          rw [lvs_append, lvs_cons, List.length_append, List.length_append]
          omega
        omega
  exact key h1 h2 hp
/-! ### lines -/
def letters : Str := "abcdefghijklmnopqrstuvwxyz"
/-- a line's text -/
def LnOk (s : Str) : Prop := 1 ≤ s.length ∧ s.length ≤ 6 ∧ ∀ c ∈ s.cps.toList, c ∈ letters.cps.toList
def leS (x y : Str) : Bool := decide (x.cps.toList ≤ y.cps.toList)
/-- the lines in order -/
def srt (l : List Str) : List Str := l.mergeSort leS
theorem leS_trans (a b c : Str) (h : leS a b = true) (h' : leS b c = true) : leS a c = true := by
  unfold leS at *
  simp only [decide_eq_true_eq] at *
  exact List.le_trans h h'
theorem leS_total (a b : Str) : (leS a b || leS b a) = true := by
  unfold leS
  simp only [Bool.or_eq_true, decide_eq_true_eq]
  exact List.le_total _ _
theorem leS_anti {a b : Str} (h : leS a b = true) (h' : leS b a = true) : a = b := by
  unfold leS at *
  simp only [decide_eq_true_eq] at *
  have e := List.le_antisymm h h'
  cases a with
  | mk x =>
    cases b with
    | mk y =>
      have e' : x.toList = y.toList := e
      have : x = y := Array.toList_inj.mp e'
      rw [this]
theorem srt_perm (l : List Str) : (srt l).Perm l := List.mergeSort_perm _ _
theorem srt_pw (l : List Str) : (srt l).Pairwise (fun a b => leS a b = true) := List.pairwise_mergeSort leS_trans leS_total l
theorem mem_srt {l : List Str} {s : Str} : s ∈ srt l ↔ s ∈ l := (srt_perm l).mem_iff
theorem srt_nd {l : List Str} (h : l.Nodup) : (srt l).Nodup := (srt_perm l).nodup_iff.mpr h
theorem ltCps_eq (x y : List Nat) : ltCps x y = decide (x < y) := by
  first
    | exact ltCps_lt x y
    | (induction x generalizing y with
       | nil => cases y <;> simp [ltCps]
       | cons a r ih =>
         cases y with
         | nil => simp [ltCps]
         | cons b t =>
           rw [ltCps, ih]
           by_cases h : a < b
           · simp [h, List.cons_lt_cons_iff]
           · by_cases h2 : a = b
             · simp [h2, List.cons_lt_cons_iff]
             · simp [h, h2, List.cons_lt_cons_iff])
theorem risingS_pw : ∀ {l : List Str} {p : Str}, risingS p l = true → (p :: l).Pairwise (fun a b => leS a b = true)
  | [], p, _ => by simp
  | x :: r, p, h => by
    rw [risingS, Bool.and_eq_true] at h
    have h2 := risingS_pw h.2
    have h1 : leS p x = true := by
      have h3 := h.1
      rw [ltCps_eq] at h3
      unfold leS
      simp only [decide_eq_true_eq]
      have : ¬ x.cps.toList < p.cps.toList := by
        intro z
        rw [decide_eq_true z] at h3
        exact Bool.false_ne_true h3
      exact List.not_lt.mp this
    refine List.pairwise_cons.mpr ⟨fun y hy => ?_, h2⟩
    rcases List.mem_cons.mp hy with rfl | hy
    · exact h1
    · exact leS_trans _ _ _ h1 ((List.pairwise_cons.mp h2).1 y hy)
theorem srt_eq {ys l : List Str} (hp : ys.Perm l) (hs : sortedS ys = true) : ys = srt l := by
  have h1 : ys.Pairwise (fun a b => leS a b = true) := by
    cases ys with
    | nil => exact .nil
    | cons x r => exact risingS_pw hs
  exact List.Perm.eq_of_pairwise (fun a b _ _ h h' => leS_anti h h') h1 (srt_pw l) (hp.trans (srt_perm l).symm)
/-! ### known people -/
/-- the line of a known person -/
def lk (kn : List (Int × Str)) (h : Int) : Option Str := (kn.find? fun p => decide (p.1 = h)).map (·.2)
end FW
end
section
/-! W0b: loops and comprehensions over enumerate(tuple), zip; facts of the module. -/
namespace FW
open PySem PySem.Spec PyProof.Rows L2 FM FR RZ
theorem for_enumT {K : PySem.W.Frag} {a : Addr} {xs : List V} {g : TG} {tb : TS} {D : Ends} {σ : L2.St} {H : Hp} (Pv : Nat → L2.St → Hp → Prop) (h0 : Pv 0 σ H) (hq : ∀ i σ H, Pv i σ H → SqT K H a xs)
    (hs : ∀ (i : Nat) (x : V) (T : Addr) (σ : L2.St) (H : Hp), xs[i]? = some x → Pv i σ H → H T = none → g (.ref T) σ (upd H T (.tup [.int (i : Nat), x])) fun σ2 H2 => tb { D with nx := Pv (i + 1), ct := Pv (i + 1), bk := D.nx } σ2 H2) (hd : ∀ σ H, Pv xs.length σ H → D.nx σ H) :
    ∃ W : Nat → Nat → L2.St → Hp → Prop, (∃ m, W 0 m σ H) ∧ ∀ i m σ H, W i m σ H →
      ((IteT K a).stop i H ∧ D.nx σ H) ∨ ((IteT K a).go i H ∧ ∃ N : L2.St → Hp → Prop, (∀ σ' H', N σ' H' → ∃ m', m' < m ∧ W (i + 1) m' σ' H') ∧ ∀ v H', (IteT K a).yld i H v H' → g v σ H' fun σ2 H2 => tb { D with nx := N, ct := N, bk := D.nx } σ2 H2) := by
  refine ⟨fun i m σ H => m = xs.length - i ∧ i ≤ xs.length ∧ Pv i σ H, ⟨xs.length, rfl, Nat.zero_le _, h0⟩, ?_⟩
  rintro i m σ H ⟨rfl, hi, p⟩
  have qx := hq i σ H p
  by_cases hlt : i < xs.length
  · have hx : xs[i]? = some xs[i] := List.getElem?_eq_getElem hlt
    refine .inr ⟨⟨xs, _, qx, hx⟩, Pv (i + 1), fun σ' H' p' => ⟨xs.length - (i + 1), by omega, rfl, hlt, p'⟩, fun v H' y => ?_⟩
    obtain ⟨T, x', rfl, hT, rfl, f1⟩ := y
    exact hs i x' T σ H (f1 xs qx) p hT
  · have e : i = xs.length := by omega
    subst e
    exact .inl ⟨⟨xs, qx, Nat.le_refl _⟩, hd σ H p⟩
theorem lc_enumT {K : PySem.W.Frag} {a : Addr} {xs : List V} {g : TG} {tt : TT} {te : TE} {vs : List Nat} {σ : L2.St} {H1 : Hp} {D : Addr} {Qd : Hp → Prop} (Pv : Nat → Hp → Prop) (h0 : Pv 0 (upd H1 D (.lst []))) (hl : ∀ i H, i ≤ xs.length → Pv i H → SqT K H a xs)
    (hs : ∀ i x T H, xs[i]? = some x → Pv i H → H T = none → g (.ref T) (wipe σ vs) (upd H T (.tup [.int (i : Nat), x])) fun σ2 H2 => wipe σ2 vs = wipe σ vs ∧ tt σ2 H2 fun b H3 =>
      if b = true then te σ2 H3 fun y H4 => ∃ acc, H4 D = some (.lst acc) ∧ acc.length < sizeLine ∧ Pv (i + 1) (upd H4 D (.lst (acc ++ [y]))) else Pv (i + 1) H3) (hd : ∀ H, Pv xs.length H → Qd H) :
    ∃ W : Nat → Nat → Hp → Prop, (∃ m, W 0 m (upd H1 D (.lst []))) ∧ ∀ i m H, W i m H →
      ((IteT K a).stop i H ∧ Qd H) ∨ ((IteT K a).go i H ∧ ∃ Nx : Hp → Prop, (∀ H', Nx H' → ∃ m', m' < m ∧ W (i + 1) m' H') ∧ ∀ x H', (IteT K a).yld i H x H' → g x (wipe σ vs) H' fun σ2 H2 => wipe σ2 vs = wipe σ vs ∧ tt σ2 H2 fun b H3 =>
        if b = true then te σ2 H3 fun y H4 => ∃ acc, H4 D = some (.lst acc) ∧ acc.length < sizeLine ∧ Nx (upd H4 D (.lst (acc ++ [y]))) else Nx H3) := by
  refine ⟨fun i m H => m = xs.length - i ∧ i ≤ xs.length ∧ Pv i H, ⟨xs.length, by simp, Nat.zero_le _, h0⟩, ?_⟩
  rintro i m H ⟨rfl, hi, p⟩
  have q := hl i H hi p
  by_cases hlt : i < xs.length
  · refine .inr ⟨⟨xs, xs[i], q, by simp [hlt]⟩, Pv (i + 1), fun H' p' => ⟨xs.length - (i + 1), by omega, rfl, hlt, p'⟩, fun x H' y => ?_⟩
    obtain ⟨T, x', rfl, hT, rfl, f1⟩ := y
    exact hs i x' T H (f1 xs q) p hT
  · have e : i = xs.length := by omega
    subst e
    exact .inl ⟨⟨xs, q, Nat.le_refl _⟩, hd H p⟩
/-- a callee as the module has it -/
structure Cal (K : PySem.W.Frag) (mg : Str → Option Value) (x : Str) (f : Addr) (fd : FuncData) (ps : List Str) : Prop where
  m : mg x = some (.ref f)
  kp : PySem.W.keepIn K (.ref f) = true
  b : Binds K fd ps []
/-- the built-ins that the program names, and its constants -/
structure Gs (mg : Str → Option Value) : Prop where
  abs_ : mg "abs" = none
  all_ : mg "all" = none
  bool_ : mg "bool" = none
  dict_ : mg "dict" = none
  divmod_ : mg "divmod" = none
  enumerate_ : mg "enumerate" = none
  int_ : mg "int" = none
  isinstance_ : mg "isinstance" = none
  len_ : mg "len" = none
  list_ : mg "list" = none
  max_ : mg "max" = none
  min_ : mg "min" = none
  range_ : mg "range" = none
  sorted_ : mg "sorted" = none
  str_ : mg "str" = none
  sum_ : mg "sum" = none
  tuple_ : mg "tuple" = none
  zip_ : mg "zip" = none
  mostHeight : ∃ u, mg "MOST_HEIGHT" = some u ∧ RelV (.int 999) u
  mostPeople : ∃ u, mg "MOST_PEOPLE" = some u ∧ RelV (.int 40) u
  mostLines : ∃ u, mg "MOST_LINES" = some u ∧ RelV (.int 8) u
  small_ : ∃ u, mg "SMALL" = some u ∧ RelV (.int 12) u
  low_ : ∃ u, mg "LOW" = some u ∧ RelV (.str "low") u
  high_ : ∃ u, mg "HIGH" = some u ∧ RelV (.str "high") u
  letters_ : ∃ u, mg "LETTERS" = some u ∧ RelV (.str letters) u
  mostLetters : ∃ u, mg "MOST_LETTERS" = some u ∧ RelV (.int 6) u
theorem pe_gc {X : Cx} {x : Str} {v : V} {pos : Pos} (hg : Gl X x) (h : ∃ u, X.mg x = some u ∧ RelV v u) (hd : (x == ("__debug__" : Str)) = false := by decide) : PE X (.Name x pos) (tC v) := by
  obtain ⟨u, h1, h2⟩ := h
  exact pe_glob hg h1 h2 hd
/-! rules for a comprehension's block: the written part is told -/
section
variable {X : Cx}
theorem pi_tupK (K : PySem.W.Frag) {tg l : Expr} {tl : TE} (hl : PE X l tl) (hK : X.K = K := by rfl) : PI X tg l (iTup K tl) := by subst hK; exact pi_tup hl
theorem pi_listK (K : PySem.W.Frag) {tg l : Expr} {tl : TE} (hl : PE X l tl) (hK : X.K = K := by rfl) : PI X tg l (iList K tl) := by subst hK; exact pi_list hl
theorem ix_listK (K : PySem.W.Frag) (hK : X.K = K := by rfl) : IxR X (rIxL K) := by subst hK; exact ix_list
theorem ix_tupK (K : PySem.W.Frag) (hK : X.K = K := by rfl) : IxR X (rIxT K) := by subst hK; exact ix_tup
def rLenQ (K : PySem.W.Frag) : List V → Hp → VK → Prop := fun xs H Q => ∃ p ys, xs = [.ref p] ∧ (SqL K H p ys ∨ SqT K H p ys) ∧ Q (.int ys.length) H
theorem call_lenK (K : PySem.W.Frag) (hK : X.K = K := by rfl) : CallR X (.builtin "len") (rLenQ K) := by subst hK; exact call_len_seq
theorem op_inK (K : PySem.W.Frag) (hK : X.K = K := by rfl) : OpR X (compareOp .In) (rIn K false) := by subst hK; exact op_in_seq
theorem op_notInK (K : PySem.W.Frag) (hK : X.K = K := by rfl) : OpR X (compareOp .NotIn) (rIn K true) := by subst hK; exact op_notIn_seq
theorem call_isiK2 (K : PySem.W.Frag) (hK : X.K = K := by rfl) : CallR X (.builtin "isinstance") (rIsi K) := by subst hK; exact call_isi
end
theorem kS_low (k : Bool) : decide (kS k = ("low" : Str)) = k := by cases k <;> decide +kernel
end FW
end
section
/-! W1: rows. -/
namespace FW
open PySem PySem.Spec PyProof.Rows L2 FM FR
section
variable {P : Program} {w : World} {K : PySem.W.Frag} {mg : Str → Option Value} {base : Heap} {f : Addr} {fd : FuncData}
/-! ### is_integer -/
theorem scInteger : FnScope ["value", "least", "most"] ["value", "least", "most"] (defScope (topS 15)) := ⟨rfl, rfl, rfl, by decide +kernel, rfl, by decide +kernel, by decide +kernel⟩
def spInteger : Sp := fun vs H Q _ => ∃ v lo hi : Int, vs = [.int v, .int lo, .int hi] ∧ lo ≤ v ∧ v ≤ hi ∧ Q (.bl true) H
theorem ok_integer (F : Fun K "is_integer" "is_integer" (topS 15) f fd) (G : Gs mg) : FnOk P w K mg base CX0 1 f fd ["value", "least", "most"] spInteger := by
  refine F.ok scInteger (fun vs H Q E h => ?_) (fun cdv A outer s H vs Q E hr h => ?_)
  · obtain ⟨v, lo, hi, rfl, _⟩ := h
    rfl
  obtain ⟨v, lo, hi, rfl, h1, h2, q⟩ := h
  refine ⟨_, pss_one (ps_ret (pe_and (pe_callB call_isi (by rfl) G.isinstance_ (by decide +kernel) (pa_cons (pv 0) (pa_cons (pe_bltn (by rfl) G.int_ (by decide +kernel) (v := .ty "int") rfl) pa_nil)))
    (pe_and (pe_not (pe_callB call_isi (by rfl) G.isinstance_ (by decide +kernel) (pa_cons (pv 0) (pa_cons (pe_bltn (by rfl) G.bool_ (by decide +kernel) (v := .ty "bool") rfl) pa_nil))))
      (pe_one (pe_chain op_le op_le (pv 1) (pv 0) (pv 2)))))), ?_⟩
  refine ⟨_, rfl, .int v, .ty "int", .type "int", .type "int", true, rfl, .ty _, .base (.int _), kit_ty (by decide +kernel), true, rfl, iteT ?_⟩
  refine ⟨_, rfl, .int v, .ty "bool", .type "int", .type "bool", false, rfl, .ty _, .base (.int _), kit_ty (by decide +kernel), false, rfl, true, rfl, iteT ?_⟩
  refine ⟨_, rfl, _, rfl, lo, v, rfl, rfl, true, ?_, iteT ⟨_, rfl, v, hi, rfl, rfl, ?_⟩⟩
  · show V.bl (decide (lo ≤ v)) = V.bl true
    rw [decide_eq_true h1]
  · show Q (V.bl (decide (v ≤ hi))) H
    rw [decide_eq_true h2]
    exact q
/-! ### is_height -/
theorem scHeight : FnScope ["value"] ["value"] (defScope (topS 16)) := ⟨rfl, rfl, rfl, by decide +kernel, rfl, by decide +kernel, by decide +kernel⟩
def spHeight : Sp := fun vs H Q _ => ∃ v : Int, vs = [.int v] ∧ 1 ≤ v ∧ v ≤ 999 ∧ Q (.bl true) H
theorem ok_height {fi : Addr} {di : FuncData} (F : Fun K "is_height" "is_height" (topS 16) f fd) (G : Gs mg) (C : Cal K mg "is_integer" fi di ["value", "least", "most"]) (O : FnOk P w K mg base CX0 1 fi di ["value", "least", "most"] spInteger) : FnOk P w K mg base CX0 2 f fd ["value"] spHeight := by
  refine F.ok scHeight (fun vs H Q E h => ?_) (fun cdv A outer s H vs Q E hr h => ?_)
  · obtain ⟨v, rfl, _⟩ := h
    rfl
  obtain ⟨v, rfl, h1, h2, q⟩ := h
  refine ⟨_, pss_one (ps_ret (pe_call O hr (by rfl) C.m C.kp C.b .nil pass0 (pa_cons (pv 0) (pa_cons pe_int (pa_cons (pe_gc (v := .int 999) (by rfl) G.mostHeight) pa_nil))))), ?_⟩
  exact ⟨_, rfl, v, 1, 999, rfl, h1, h2, q⟩
/-! ### check_row -/
/-- a row of people -/
structure RowOk (ns : List Int) : Prop where
  nd : ns.Nodup
  inr : ∀ x ∈ ns, 1 ≤ x ∧ x ≤ 999
  len : ns.length ≤ 8
theorem scRow : FnScope ["row", "index", "height"] ["row"] (defScope (topS 17)) := ⟨rfl, rfl, rfl, by decide +kernel, rfl, by decide +kernel, by decide +kernel⟩
def spRow (K : PySem.W.Frag) : Sp := fun vs H Q _ => ∃ (a : Addr) (ns : List Int), vs = [.ref a] ∧ (H a = some (.tup (ns.map V.int))) ∧ RowOk ns ∧ ∀ H', Same H H' → Q .non H'
theorem inV_int {x : Int} {l : List Int} : inV (.int x) (l.map V.int) = decide (x ∈ l) := by
  unfold inV
  rw [List.any_map]
  induction l with
  | nil => rfl
  | cons a r ih =>
    rw [List.any_cons, ih]
    show (decide (a = x) || decide (x ∈ r)) = decide (x ∈ a :: r)
    rw [Bool.eq_iff_iff]
    simp only [Bool.or_eq_true, decide_eq_true_eq, List.mem_cons]
    exact ⟨fun h => h.imp Eq.symm id, fun h => h.imp Eq.symm id⟩
theorem inV_str {x : Str} {l : List Str} : inV (.str x) (l.map V.str) = decide (x ∈ l) := by
  unfold inV
  rw [List.any_map]
  induction l with
  | nil => rfl
  | cons a r ih =>
    rw [List.any_cons, ih]
    show (decide (a = x) || decide (x ∈ r)) = decide (x ∈ a :: r)
    rw [Bool.eq_iff_iff]
    simp only [Bool.or_eq_true, decide_eq_true_eq, List.mem_cons]
    exact ⟨fun h => h.imp Eq.symm id, fun h => h.imp Eq.symm id⟩
theorem flat_ints (l : List Int) : (l.map V.int).all flatV = true := by
  rw [List.all_map]
  exact List.all_eq_true.mpr fun x _ => rfl
theorem flat_strs (l : List Str) : (l.map V.str).all flatV = true := by
  rw [List.all_map]
  exact List.all_eq_true.mpr fun x _ => rfl
theorem cutV_to (xs : List V) (i : Nat) (h : i ≤ xs.length) : cutV xs none (some (i : Nat)) = xs.take i := by
  unfold cutV
  rw [HT.sIx_none, HT.sIx_nat, Nat.min_eq_left h]
  simp
theorem nodup_at {ns : List Int} (nd : ns.Nodup) {i : Nat} {x : Int} (h : ns[i]? = some x) : x ∉ ns.take i := fun hm => by
  obtain ⟨j, hj⟩ := List.getElem?_of_mem hm
  rw [List.getElem?_take] at hj
  by_cases hlt : j < i
  · rw [if_pos hlt] at hj
    have := nd_ix nd hj h
    omega
  · rw [if_neg hlt] at hj
    cases hj
theorem ok_row {fh : Addr} {dh : FuncData} (F : Fun K "check_row" "check_row" (topS 17) f fd) (G : Gs mg) (C : Cal K mg "is_height" fh dh ["value"]) (O : FnOk P w K mg base CX0 2 fh dh ["value"] spHeight) : FnOk P w K mg base CX0 3 f fd ["row"] (spRow K) := by
  refine F.ok scRow (fun vs H Q E h => ?_) (fun cdv A outer s H vs Q E hr h => ?_)
  · obtain ⟨a, ns, rfl, _⟩ := h
    rfl
  obtain ⟨a, ns, rfl, ha, R, q⟩ := h
  refine ⟨_, pss_cons (ps_if (pw_or (pt_not (pt_val (pe_callB call_isi (by rfl) G.isinstance_ (by decide +kernel) (pa_cons (pv 0) (pa_cons (pe_bltn (by rfl) G.tuple_ (by decide +kernel) (v := .ty "tuple") rfl) pa_nil)))))
        (pw_or1 (pt_cmpR op_gt (pe_callB call_len_seq (by rfl) G.len_ PySem.boot_len (pa_cons (pv 0) pa_nil)) (pe_gc (v := .int 40) (by rfl) G.mostPeople) (nomark _)))).pt (pss_one ps_never) pss_nil)
    (pss_one (ps_for PassesOwn.never rfl (pi_enumT (by rfl) G.enumerate_ (pa_cons (pv 0) pa_nil))
      (pg_tup rfl (pgs_cons (pg_name (i := 1) scRow.nd rfl (.inl rfl)) (pgs_cons (pg_name (i := 2) scRow.nd rfl (.inl rfl)) pgs_nil)))
      (pss_one (ps_if (pw_or (pt_not (pt_val (pe_call O hr (by rfl) C.m C.kp C.b .nil pass0 (pa_cons (pv 2) pa_nil))))
        (pw_or1 (pt_cmpR op_in_seq (pv 2) (pe_slice sl_tupA (pv 0) po_none (po_some (pv 1))) (by with_unfolding_all rfl)))).pt (pss_one ps_never) pss_nil)))), ?_⟩
  refine ⟨_, rfl, .ref a, .ty "tuple", .type "tuple", .type "tuple", true, rfl, .ty _, .base (.tup ha), kit_ty (by decide +kernel), true, rfl, iteF ?_⟩
  refine ⟨_, rfl, a, _, rfl, .inr (SqT.of ha), _, _, rfl, rfl, _, rfl, ?_⟩
  have hl : ¬ (40 : Int) < (((ns.map V.int).length : Nat) : Int) := by
    rw [List.length_map]
    have := R.len
    omega
  rw [decide_eq_false hl]
  refine iteF ?_
  refine ⟨_, rfl, a, _, rfl, SqT.of ha, for_enumT (K := K) (a := a) (xs := ns.map V.int) (fun i σ H2 => ∃ y z, σ = [some (.ref a), y, z] ∧ Same H H2) ⟨none, none, rfl, Same.refl H⟩
    (fun i σ H2 ⟨_, _, _, sm⟩ => sm.seqT (SqT.of ha)) ?_ ?_⟩
  · rintro i x T σ H2 hx ⟨y, z, rfl, sm⟩ nT
    obtain ⟨v, hv, rfl⟩ := map_get hx
    have hi := lt_of_get hv
    obtain ⟨v1, v2⟩ := R.inr v (List.mem_of_getElem? hv)
    have sT : Same H2 (upd H2 T (.tup [.int (i : Nat), .int v])) := same_upd nT
    refine ⟨T, _, rfl, SqT.of upd_same, rfl, .int (i : Nat), [.int v], rfl, .int v, [], rfl, rfl, ?_⟩
    refine ⟨_, rfl, v, rfl, v1, v2, true, rfl, iteF ?_⟩
    have hS := (sm.trans sT).seqT (SqT.of (K := K) ha)
    refine ⟨_, rfl, .ref a, rfl, _, rfl, _, rfl, a, _, rfl, hS, fun hw => ?_, fun hw p np => ?_⟩
    · obtain ⟨_, h2⟩ := hw
      rw [HT.sIx_nat, List.length_map] at h2
      omega
    · rw [cutV_to _ _ (by rw [List.length_map]; omega)]
      have sp : Same (upd H2 T (.tup [.int (i : Nat), .int v])) (upd (upd H2 T (.tup [.int (i : Nat), .int v])) p (.tup ((ns.map V.int).take i))) := same_upd np
      refine ⟨p, _, rfl, .inr (SqT.of upd_same), rfl, ?_, _, rfl, ?_⟩
      · rw [← List.map_take]
        exact flat_ints _
      · rw [← List.map_take, inV_int, if_neg (by decide), decide_eq_false (nodup_at R.nd hv)]
        refine iteF ?_
        exact ⟨_, _, rfl, sm.trans (sT.trans (by rw [← List.map_take] at sp; exact sp))⟩
  · rintro σ H2 ⟨y, z, rfl, sm⟩
    exact q H2 sm
/-! ### is_kind -/
theorem scKind : FnScope ["value"] ["value"] (defScope (topS 18)) := ⟨rfl, rfl, rfl, by decide +kernel, rfl, by decide +kernel, by decide +kernel⟩
def spKind : Sp := fun vs H Q _ => ∃ k : Bool, vs = [.str (kS k)] ∧ ∀ H', Same H H' → Q (.bl true) H'
theorem ok_kind (F : Fun K "is_kind" "is_kind" (topS 18) f fd) (G : Gs mg) : FnOk P w K mg base CX0 1 f fd ["value"] spKind := by
  refine F.ok scKind (fun vs H Q E h => ?_) (fun cdv A outer s H vs Q E hr h => ?_)
  · obtain ⟨k, rfl, _⟩ := h
    rfl
  obtain ⟨k, rfl, q⟩ := h
  refine ⟨_, pss_one (ps_ret (pe_and (pe_callB call_isi (by rfl) G.isinstance_ (by decide +kernel) (pa_cons (pv 0) (pa_cons (pe_bltn (by rfl) G.str_ (by decide +kernel) (v := .ty "str") rfl) pa_nil)))
    (pe_one (pe_cmpR op_in_seq (pv 0) (pe_tup (pa_cons (pe_gc (v := .str "low") (by rfl) G.low_) (pa_cons (pe_gc (v := .str "high") (by rfl) G.high_) pa_nil))) (by with_unfolding_all rfl))))), ?_⟩
  refine ⟨_, rfl, .str (kS k), .ty "str", .type "str", .type "str", true, rfl, .ty _, .base (.str _), kit_ty (by decide +kernel), true, rfl, iteT ?_⟩
  refine ⟨_, rfl, (by show 2 ≤ sizeLine; decide), fun p np => ⟨p, [.str "low", .str "high"], rfl, .inr (SqT.of upd_same), rfl, rfl, ?_⟩⟩
  have e : inV (.str (kS k)) [.str "low", .str "high"] = true := by cases k <;> decide +kernel
  rw [if_neg (by decide), e]
  exact q _ (same_upd np)
/-! ### goes_behind -/
theorem scBehind : FnScope ["head", "height", "kind"] ["head", "height", "kind"] (defScope (topS 19)) := ⟨rfl, rfl, rfl, by decide +kernel, rfl, by decide +kernel, by decide +kernel⟩
def spBehind : Sp := fun vs H Q _ => ∃ (h x : Int) (k : Bool), vs = [.int h, .int x, .str (kS k)] ∧ Q (.bl (beh k h x)) H
theorem ok_behind (F : Fun K "goes_behind" "goes_behind" (topS 19) f fd) (G : Gs mg) : FnOk P w K mg base CX0 1 f fd ["head", "height", "kind"] spBehind := by
  refine F.ok scBehind (fun vs H Q E h => ?_) (fun cdv A outer s H vs Q E hr h => ?_)
  · obtain ⟨h, x, k, rfl, _⟩ := h
    rfl
  obtain ⟨h, x, k, rfl, q⟩ := h
  refine ⟨_, pss_one (ps_ret (pe_ifExp (pt_cmpR op_eq (pv 2) (pe_gc (v := .str "low") (by rfl) G.low_) (nomark _)) (pe_cmpR op_gt (pv 1) (pv 0) (nomark _)) (pe_cmpR op_lt (pv 1) (pv 0) (nomark _)))), ?_⟩
  refine ⟨_, rfl, rfl, _, rfl, ?_⟩
  have e : decide (V.str (kS k) = V.str "low") = k := by cases k <;> decide +kernel
  rw [e]
  cases k with
  | true => exact iteT ⟨_, rfl, _, rfl, x, h, rfl, rfl, q⟩
  | false => exact iteF ⟨_, rfl, _, rfl, x, h, rfl, rfl, q⟩
end
end FW
end
section
/-! W2: trains_of. -/
namespace FW
open PySem PySem.Spec PyProof.Rows L2 FM FR
/-- tuples of people at these places -/
def TpsAt (H : Hp) (as : List Addr) (ts : List (List Int)) : Prop := as.length = ts.length ∧ ∀ (i : Nat) (a : Addr) (t : List Int), as[i]? = some a → ts[i]? = some t → H a = some (.tup (t.map V.int))
theorem TpsAt.same {H H' : Hp} {as : List Addr} {ts : List (List Int)} (h : TpsAt H as ts) (e : Same H H') : TpsAt H' as ts := ⟨h.1, fun i a t h1 h2 => e _ _ (h.2 i a t h1 h2)⟩
theorem TpsAt.sb {H H' : Hp} {l : Addr} {xs : List V} {as : List Addr} {ts : List (List Int)} (h : TpsAt H as ts) (e : Sb l H H') (hl : H l = some (.lst xs)) : TpsAt H' as ts :=
  ⟨h.1, fun i a t h1 h2 => e _ _ (ne_of (h.2 i a t h1 h2) hl (by intro z; cases z)) (h.2 i a t h1 h2)⟩
theorem TpsAt.snoc {H : Hp} {as : List Addr} {ts : List (List Int)} {a : Addr} {t : List Int} (h : TpsAt H as ts) (ha : H a = some (.tup (t.map V.int))) : TpsAt H (as ++ [a]) (ts ++ [t]) := by
  refine ⟨by simp [h.1], fun i b u h1 h2 => ?_⟩
  by_cases hi : i < as.length
  · rw [List.getElem?_append_left hi] at h1
    rw [List.getElem?_append_left (by rw [← h.1]; exact hi)] at h2
    exact h.2 i b u h1 h2
  · have hi2 := lt_of_get h1
    rw [List.length_append, List.length_singleton] at hi2
    have e : i = as.length := by omega
    subst e
    rw [List.getElem?_append_right (Nat.le_refl _)] at h1
    rw [List.getElem?_append_right (by rw [h.1]; exact Nat.le_refl _)] at h2
    rw [← h.1] at h2
    simp at h1 h2
    subst h1 h2
    exact ha
theorem TpsAt.init {H : Hp} {as : List Addr} {ts : List (List Int)} {a : Addr} {t : List Int} (h : TpsAt H (as ++ [a]) (ts ++ [t])) : TpsAt H as ts := by
  have hl : as.length = ts.length := by simpa using h.1
  refine ⟨hl, fun i b u h1 h2 => h.2 i b u ?_ ?_⟩
  · rw [List.getElem?_append_left (lt_of_get h1)]; exact h1
  · rw [List.getElem?_append_left (lt_of_get h2)]; exact h2
theorem TpsAt.last {H : Hp} {as : List Addr} {ts : List (List Int)} {a : Addr} {t : List Int} (h : TpsAt H (as ++ [a]) (ts ++ [t])) : H a = some (.tup (t.map V.int)) := by
  have hl : as.length = ts.length := by simpa using h.1
  refine h.2 as.length a t ?_ ?_
  · simp
  · rw [hl]; simp
section
variable {P : Program} {w : World} {K : PySem.W.Frag} {mg : Str → Option Value} {base : Heap} {f : Addr} {fd : FuncData}
theorem scTrains : FnScope ["row", "kind", "trains", "height"] ["row", "kind"] (defScope (topS 20)) := ⟨rfl, rfl, rfl, by decide +kernel, rfl, by decide +kernel, by decide +kernel⟩
def spTrains : Sp := fun vs H Q _ => ∃ (a : Addr) (ns : List Int) (k : Bool), vs = [.ref a, .str (kS k)] ∧ H a = some (.tup (ns.map V.int)) ∧ ns.length ≤ 8 ∧
  ∀ (r : Addr) (as : List Addr) (H' : Hp), Same H H' → H' r = some (.lst (as.map V.ref)) → TpsAt H' as (trains k ns) → Q (.ref r) H'
theorem trains_len (k : Bool) (ns : List Int) : (trains k ns).length ≤ ns.length := by
  refine snoc_ind (P := fun ns => (trains k ns).length ≤ ns.length) (Nat.le_refl _) (fun l x ih => ?_) ns
  rw [trains_snoc, List.length_append, List.length_singleton]
  rcases snoc_cases (trains k l) with e | ⟨m, t, e⟩
  · rw [e, trStep_nil]
    simp
  · rw [e] at ih
    rw [e, trStep_snoc]
    rw [List.length_append, List.length_singleton] at ih
    split <;> simp <;> omega
theorem sum_flat (k : Bool) (ns : List Int) {t : List Int} (h : t ∈ trains k ns) : t.length ≤ ns.length := by
  have T := trOk k ns
  rw [← T.flat]
  obtain ⟨a, b, e⟩ := List.append_of_mem h
  rw [e]
  simp
  omega
theorem trains_nil_iff {k : Bool} {ns : List Int} (h : trains k ns = []) : ns = [] := by
  have T := trOk k ns
  rw [← T.flat, h]
  rfl
theorem ok_trains {fb : Addr} {db : FuncData} (F : Fun K "trains_of" "trains_of" (topS 20) f fd) (C : Cal K mg "goes_behind" fb db ["head", "height", "kind"]) (O : FnOk P w K mg base CX0 1 fb db ["head", "height", "kind"] spBehind) :
    FnOk P w K mg base CX0 2 f fd ["row", "kind"] spTrains := by
  refine F.ok scTrains (fun vs H Q E h => ?_) (fun cdv A outer s H vs Q E hr h => ?_)
  · obtain ⟨a, ns, k, rfl, _⟩ := h
    rfl
  obtain ⟨a, ns, k, rfl, ha, h8, q⟩ := h
  refine ⟨_, pss_cons (ps_set (i := 2) scTrains.nd rfl (.inl rfl) (pe_lst pa_nil))
    (pss_cons (ps_for PassesOwn.never rfl (pi_tup (pv 0)) (pg_name (i := 3) scTrains.nd rfl (.inl rfl))
      (pss_one (ps_if (pw_or (pt_cmpR (op_eqE hr.units0) (pv 2) (pe_lst pa_nil) (nomark _))
        (pw_or1 (pt_val (pe_call O hr (by rfl) C.m C.kp C.b .nil pass0 (pa_cons (pe_ix ix_tup (pe_ix ix_list (pv 2) (pe_un un_neg pe_int) (fun _ _ => rfl)) pe_int (fun _ _ => rfl)) (pa_cons (pv 3) (pa_cons (pv 1) pa_nil))))))).pt
        (pss_one (ps_expr (pe_bm PySem.F.plainAttrs_list PySem.F.slot_list_append PySem.F.type_list_append mt_append (pv 2) (pa_cons (pe_tup (pa_cons (pv 3) pa_nil)) pa_nil))))
        (pss_one (ps_asg (pe_op op_catT (pe_ix ix_list (pv 2) (pe_un un_neg pe_int) (fun _ _ => rfl)) (pe_tup (pa_cons (pv 3) pa_nil))) (pg_sub (pv 2) (pe_un un_neg pe_int) set_list)))))
    ) (pss_one (ps_ret (pv 2)))), ?_⟩
  refine ⟨Nat.zero_le _, fun r nr => ?_⟩
  have s0 : Same H (upd H r (.lst [])) := same_upd nr
  refine ⟨_, rfl, a, rfl, ⟨_, s0.seqT (SqT.of ha)⟩, for_tup (K := K) (a := a) (xs := ns.map V.int) (fun i σ H2 => ∃ y as, σ = [some (.ref a), some (.str (kS k)), some (.ref r), y] ∧ Same H H2 ∧ H2 r = some (.lst (as.map V.ref)) ∧ TpsAt H2 as (trains k (ns.take i)))
    ⟨none, [], rfl, s0, upd_same, rfl, fun i b u h1 _ => by simp at h1⟩ (fun i σ H2 _ ⟨_, _, _, sm, _⟩ => sm.seqT (SqT.of ha)) ?_ ?_⟩
  · rintro i x σ H2 hx ⟨y, as, rfl, sm, hr2, tp⟩
    obtain ⟨v, hv, rfl⟩ := map_get hx
    have hi := lt_of_get hv
    have et : ns.take (i + 1) = ns.take i ++ [v] := by rw [List.take_add_one, hv]; rfl
    have hal : as.length ≤ 8 := by
      have h1 := trains_len k (ns.take i)
      rw [List.length_take] at h1
      rw [tp.1]
      omega
    rw [et, trains_snoc]
    have nrH : ∀ {q : Addr} {o : HO} {Ha : Hp}, Ha q = none → Ha r = some (.lst (as.map V.ref)) → (upd Ha q o) r = some (.lst (as.map V.ref)) := fun nq e => by rw [upd_ne (ne_of_none e nq)]; exact e
    -- trains == []
    refine ⟨_, rfl, Nat.zero_le _, fun p np => ⟨r, p, _, rfl, rfl, SqL.of (nrH np hr2), SqL.of upd_same, _, rfl, ?_⟩⟩
    have s1 : Same H2 (upd H2 p (.lst [])) := same_upd np
    have hr3 := nrH (o := .lst []) np hr2
    have tp3 := tp.same s1
    -- append of (height,) : both ways the same
    have app : ∀ H3 : Hp, Same H2 H3 → H3 r = some (.lst (as.map V.ref)) → TpsAt H3 as (trains k (ns.take i)) → ∀ t : Addr, H3 t = none →
        ∃ y as', ([some (.ref a), some (.str (kS k)), some (.ref r), some (.int v)] : L2.St) = [some (.ref a), some (.str (kS k)), some (.ref r), y] ∧ Same H (upd (upd H3 t (.tup [.int v])) r (.lst (as.map V.ref ++ [.ref t]))) ∧
          (upd (upd H3 t (.tup [.int v])) r (.lst (as.map V.ref ++ [.ref t]))) r = some (.lst (as'.map V.ref)) ∧ TpsAt (upd (upd H3 t (.tup [.int v])) r (.lst (as.map V.ref ++ [.ref t]))) as' (trains k (ns.take i) ++ [[v]]) := by
      intro H3 s3 e3 q3 t nt
      have ntr : r ≠ t := ne_of_none e3 nt
      have st : Same H3 (upd H3 t (.tup [.int v])) := same_upd nt
      refine ⟨_, as ++ [t], rfl, fun b o e => ?_, by rw [upd_same]; simp, ?_⟩
      · have hb : b ≠ r := fun z => by
          rw [z] at e
          exact absurd (e.symm.trans nr) (by simp)
        rw [upd_ne hb]
        exact st _ _ (s3 _ _ (sm _ _ e))
      · have e5 : (upd H3 t (.tup [.int v])) r = some (.lst (as.map V.ref)) := by rw [upd_ne ntr]; exact e3
        exact ((q3.same st).sb (l := r) Sb.upd e5).snoc (by rw [upd_ne ntr.symm, upd_same]; rfl)
    rcases snoc_cases as with e0 | ⟨as0, al, e0⟩
    · subst e0
      have ets : trains k (ns.take i) = [] := List.length_eq_zero_iff.mp tp.1.symm
      rw [decide_eq_true (by rfl)]
      refine iteT (iteT ?_)
      refine ⟨_, rfl, .inl ⟨rfl, _, .inl (.inl hr3)⟩, _, rfl, (by show 1 ≤ sizeLine; decide), fun t nt => ?_⟩
      refine ⟨r, _, _, rfl, rfl, (by rw [upd_ne (ne_of_none hr3 nt)]; exact hr3), (by show 0 < sizeLine; decide), ?_⟩
      have ap := app _ s1 hr3 tp3 t nt
      rw [ets] at ap ⊢
      rw [trStep_nil]
      exact ap
    · subst e0
      rw [decide_eq_false (by simp)]
      refine iteF ?_
      rcases snoc_cases (trains k (ns.take i)) with e1 | ⟨ts0, tl, e1⟩
      · have := tp.1
        rw [e1] at this
        simp at this
      rw [e1] at tp tp3 app ⊢
      have hla := tp3.last
      have htl : tl ∈ trains k (ns.take i) := by rw [e1]; simp
      have hne : tl ≠ [] := (trOk k (ns.take i)).ne tl htl
      have htz : tl.length ≤ 8 := by
        have := sum_flat k _ htl
        rw [List.length_take] at this
        omega
      have hl1 : atI ((as0 ++ [al]).map V.ref) (-1) = some (.ref al) := by
        rw [List.map_append]
        exact atI_last _ _
      have hl0 : atI (tl.map V.int) 0 = some (.int (tl.headD 0)) := by
        cases tl with
        | nil => exact absurd rfl hne
        | cons z r => exact atI_nat (j := 0) rfl
      refine ⟨_, rfl, 1, rfl, r, _, _, _, rfl, rfl, SqL.of hr3, hl1, al, _, _, _, rfl, rfl, SqT.of hla, hl0, _, rfl, _, rfl, tl.headD 0, v, k, rfl, _, rfl, ?_⟩
      rw [trStep_snoc]
      cases hb : beh k (tl.headD 0) v with
      | true =>
        refine iteT ?_
        refine ⟨_, rfl, .inl ⟨rfl, _, .inl (.inl hr3)⟩, _, rfl, (by show 1 ≤ sizeLine; decide), fun t nt => ?_⟩
        refine ⟨r, _, _, rfl, rfl, (by rw [upd_ne (ne_of_none hr3 nt)]; exact hr3), (by rw [List.length_map]; exact small1000 (by omega)), ?_⟩
        rw [if_pos rfl]
        exact app _ s1 hr3 tp3 t nt
      | false =>
        refine iteF ?_
        rw [if_neg Bool.false_ne_true]
        refine ⟨_, rfl, 1, rfl, r, _, _, _, rfl, rfl, SqL.of hr3, hl1, _, rfl, (by show 1 ≤ sizeLine; decide), fun t nt => ?_⟩
        have st : Same (upd H2 p (.lst [])) (upd (upd H2 p (.lst [])) t (.tup [.int v])) := same_upd nt
        refine ⟨al, t, tl.map V.int, [.int v], rfl, rfl, SqT.of (st _ _ hla), SqT.of upd_same, (by simp [hne]), (by rw [List.length_map]; exact small (by show tl.length + 1 ≤ 1000; omega)), fun z => by simp at z, fun _ u nu => ?_⟩
        have su := same_upd (o := .tup (tl.map V.int ++ [.int v])) nu
        have hr5 := su _ _ (st _ _ hr3)
        refine ⟨_, rfl, 1, rfl, r, _, _, as0.length, rfl, rfl, hr5, ?_, ?_⟩
        · unfold ixN
          rw [List.length_map, List.length_append, List.length_singleton, if_neg (by decide), if_pos (by omega)]
          congr 1
          omega
        · refine ⟨_, as0 ++ [u], rfl, fun b o e => ?_, ?_, ?_⟩
          · have hb2 : b ≠ r := fun z => by
              rw [z] at e
              exact absurd (e.symm.trans nr) (by simp)
            rw [upd_ne hb2]
            exact su _ _ (st _ _ (s1 _ _ (sm _ _ e)))
          · rw [upd_same, List.map_append, List.map_append]
            congr 2
            rw [show as0.length = (as0.map V.ref).length by rw [List.length_map]]
            simp
          · have tq : TpsAt (upd (upd (upd (upd H2 p (.lst [])) t (.tup [.int v])) u (.tup (tl.map V.int ++ [.int v]))) r (.lst (((as0 ++ [al]).map V.ref).set as0.length (.ref u)))) as0 ts0 :=
              ((((tp3.init).same st).same su).sb (l := r) Sb.upd hr5)
            exact tq.snoc (by rw [upd_ne (ne_of_none (st _ _ hr3) nu).symm, upd_same, List.map_append]; rfl)
  · rintro σ H2 ⟨y, as, rfl, sm, hr2, tp⟩
    rw [List.length_map, List.take_length] at tp
    exact ⟨_, rfl, q r as H2 sm hr2 tp⟩
end
end FW
end
section
/-! W3: is_line, is_part, is_plan, check_plan, lines_in, least_line. -/
namespace FW
open PySem PySem.Spec PyProof.Rows L2 FM FR
theorem _root_.FR.TF.sb {H H' : Hp} {a l : Addr} {xs ys : List V} (h : TF H a xs) (e : Sb l H H') (hl : H l = some (.lst ys)) : TF H' a xs := by
  obtain ⟨its, q⟩ := h
  exact ⟨its, e _ _ (ne_of q hl (by intro z; cases z)) q⟩
theorem split_at {α : Type} : ∀ {l : List α} {i : Nat} {p : α}, l[i]? = some p → l = l.take i ++ p :: l.drop (i + 1)
  | [], i, p, h => by simp at h
  | a :: r, 0, p, h => by
    have e : a = p := by simpa using h
    subst e
    simp
  | a :: r, i + 1, p, h => by
    have e := split_at (l := r) (i := i) (p := p) (by simpa using h)
    rw [List.take_succ_cons, List.drop_succ_cons, List.cons_append, ← e]
theorem lc_str {z : Str} {g : TG} {tt : TT} {te : TE} {vs : List Nat} {σ : L2.St} {H1 : Hp} {D : Addr} {Qd : Hp → Prop} (Pv : Nat → Hp → Prop) (h0 : Pv 0 (upd H1 D (.lst [])))
    (hs : ∀ i c H, z.cps[i]? = some c → Pv i H → g (.str ⟨#[c]⟩) (wipe σ vs) H fun σ2 H2 => wipe σ2 vs = wipe σ vs ∧ tt σ2 H2 fun b H3 =>
      if b = true then te σ2 H3 fun y H4 => ∃ acc, H4 D = some (.lst acc) ∧ acc.length < sizeLine ∧ Pv (i + 1) (upd H4 D (.lst (acc ++ [y]))) else Pv (i + 1) H3) (hd : ∀ H, Pv z.cps.size H → Qd H) :
    ∃ W : Nat → Nat → Hp → Prop, (∃ m, W 0 m (upd H1 D (.lst []))) ∧ ∀ i m H, W i m H →
      ((Its z).stop i H ∧ Qd H) ∨ ((Its z).go i H ∧ ∃ Nx : Hp → Prop, (∀ H', Nx H' → ∃ m', m' < m ∧ W (i + 1) m' H') ∧ ∀ x H', (Its z).yld i H x H' → g x (wipe σ vs) H' fun σ2 H2 => wipe σ2 vs = wipe σ vs ∧ tt σ2 H2 fun b H3 =>
        if b = true then te σ2 H3 fun y H4 => ∃ acc, H4 D = some (.lst acc) ∧ acc.length < sizeLine ∧ Nx (upd H4 D (.lst (acc ++ [y]))) else Nx H3) := by
  refine ⟨fun i m H => m = z.cps.size - i ∧ i ≤ z.cps.size ∧ Pv i H, ⟨z.cps.size, by simp, Nat.zero_le _, h0⟩, ?_⟩
  rintro i m H ⟨rfl, hi, p⟩
  by_cases hlt : i < z.cps.size
  · refine .inr ⟨hlt, Pv (i + 1), fun H' p' => ⟨z.cps.size - (i + 1), by omega, rfl, hlt, p'⟩, fun x H' y => ?_⟩
    obtain ⟨rfl, c, hc, rfl⟩ := y
    exact hs i c _ hc p
  · have e : i = z.cps.size := by omega
    subst e
    exact .inl ⟨Nat.le_refl _, hd H p⟩
section
variable {P : Program} {w : World} {K : PySem.W.Frag} {mg : Str → Option Value} {base : Heap} {f : Addr} {fd : FuncData}
/-! ### is_line -/
theorem scLine : FnScope ["value", "sign"] ["value"] (defScope (topS 24)) := ⟨rfl, rfl, rfl, by decide +kernel, rfl, by decide +kernel, by decide +kernel⟩
def spLine : Sp := fun vs H Q _ => ∃ (v : V) (t : Pn), vs = [v] ∧ PlAt H t v ∧ (∀ s ∈ t.lv, LnOk s) ∧ ∀ H', Same H H' → Q (.bl (isLn t)) H'
theorem ok_line (F : Fun K "is_line" "is_line" (topS 24) f fd) (G : Gs mg) : FnOk P w K mg base CX0 1 f fd ["value"] spLine := by
  refine F.ok scLine (fun vs H Q E h => ?_) (fun cdv A outer s H vs Q E hr h => ?_)
  · obtain ⟨v, t, rfl, _⟩ := h
    rfl
  obtain ⟨v, t, rfl, hp, hL, q⟩ := h
  refine ⟨_, pss_cons (ps_if (pw_or (pt_not (pt_val (pe_callB call_isi (by rfl) G.isinstance_ (by decide +kernel) (pa_cons (pv 0) (pa_cons (pe_bltn (by rfl) G.str_ (by decide +kernel) (v := .ty "str") rfl) pa_nil)))))
        (pw_or1 (pt_not (pt_chain op_le op_le pe_int (pe_callB call_len_str (by rfl) G.len_ PySem.boot_len (pa_cons (pv 0) pa_nil)) (pe_gc (v := .int 6) (by rfl) G.mostLetters))))).pt (pss_one (ps_ret pe_bl)) pss_nil)
    (pss_one (ps_ret (pe_callB (cr_all rfl) (by rfl) G.all_ (by decide +kernel) (pa_cons (pe_lc (own := [("sign", 1)]) (g := gName 1) (by rfl) scLine.nd (pi_str (pv 0)) (blkOk_by (N := ["value", "sign"]) (sc := defScope (topS 24)) (by decide +kernel))
      (fun _ _ _ _ _ => pg_name (i := 1) scLine.nd rfl (Or.inl rfl)) (fun _ _ _ _ _ => pts_nil) (fun _ _ _ _ _ => pe_cmpR op_in_sign (pv 1) (pe_gc (v := .str letters) (by rfl) G.letters_) (by with_unfolding_all rfl))) pa_nil)))), ?_⟩
  cases t with
  | jn k ps =>
    obtain ⟨a, b, vs, rfl, ha, _⟩ := plAt_jn.mp hp
    exact ⟨_, rfl, .ref a, .ty "str", .type "tuple", .type "str", false, rfl, .ty _, .base (.tup ha), kit_ty (by decide +kernel), false, rfl, iteT (iteT (q H (Same.refl H)))⟩
  | ln s =>
    obtain rfl := plAt_ln.mp hp
    obtain ⟨l1, l2, l3⟩ := hL s (by rw [lv_ln]; simp)
    refine ⟨_, rfl, .str s, .ty "str", .type "str", .type "str", true, rfl, .ty _, .base (.str _), kit_ty (by decide +kernel), true, rfl, iteF ?_⟩
    refine ⟨_, rfl, s, rfl, small (by omega), 1, (s.length : Nat), rfl, rfl, true, ?_, iteT ⟨_, _, rfl, rfl, _, rfl, ?_⟩⟩
    · show V.bl (decide ((1 : Int) ≤ (s.length : Nat))) = V.bl true
      rw [decide_eq_true (by omega)]
    have e2 : decide (((s.length : Nat) : Int) ≤ 6) = true := decide_eq_true (by omega)
    rw [e2]
    refine iteF ?_
    refine ⟨_, rfl, s, rfl, fun D nD => ?_⟩
    have sD : Same H (upd H D (.lst [])) := same_upd nD
    refine lc_str (z := s) (fun i H2 => Same H H2 ∧ i ≤ 6 ∧ H2 D = some (.lst ((List.replicate i true).map V.bl))) ⟨sD, Nat.zero_le _, upd_same⟩ ?_ ?_
    · rintro i c H2 hc ⟨sm, hi, hD⟩
      refine ⟨rfl, _, rfl, c, letters, rfl, rfl, _, hD, ?_, ?_⟩
      · rw [List.length_map, List.length_replicate]
        exact small1000 (by omega)
      · have hi2 : i < s.length := (Array.getElem?_eq_some_iff.mp hc).1
        refine ⟨fun b o e => ?_, by omega, ?_⟩
        · rw [upd_ne (ne_of_none e nD)]
          exact sm _ _ e
        · have hm : c ∈ s.cps.toList := Array.mem_toList_iff.mpr (Array.mem_of_getElem? hc)
          rw [upd_same, decide_eq_true (l3 c hm), List.replicate_succ', List.map_append]
          rfl
    · rintro H2 ⟨sm, hi, hD⟩
      refine ⟨D, List.replicate s.cps.size true, rfl, SqL.of hD, ?_⟩
      have e : (List.replicate s.cps.size true).all id = true := List.all_eq_true.mpr fun x hx => (List.mem_replicate.mp hx).2
      rw [e]
      exact q H2 sm
/-! ### is_part -/
theorem scPart : FnScope ["value", "lines", "part"] ["value", "lines"] (defScope (topS 25)) := ⟨rfl, rfl, rfl, by decide +kernel, rfl, by decide +kernel, by decide +kernel⟩
def spPart (n : Nat) : Sp := fun vs H Q _ => ∃ (v : V) (l : Addr) (t : Pn) (ls : List Str), vs = [v, .ref l] ∧ PlAt H t v ∧ H l = some (.lst (ls.map V.str)) ∧ Wf t ∧ (∀ s ∈ t.lv, LnOk s) ∧ (ls ++ t.lv).Nodup ∧ (ls ++ t.lv).length ≤ 8 ∧ t.lv.length ≤ n ∧
  ∀ H', Sb l H H' → H' l = some (.lst ((ls ++ t.lv).map V.str)) → Q (.bl true) H'
theorem count_one {ls : List Str} {s : Str} (h : (ls ++ [s]).Nodup) : (ls ++ [s]).count s = 1 := by
  have h1 : s ∉ ls := fun hm => (List.nodup_append.mp h).2.2 s hm s (by simp) rfl
  rw [List.count_append, List.count_eq_zero_of_not_mem h1]
  simp
theorem part_none {k : Nat} : FnOk P w K mg base CX0 k f fd ["value", "lines"] (spPart 0) := by
  have no : ∀ vs H Q E, ¬ spPart 0 vs H Q E := fun vs H Q E h => by
    obtain ⟨v, l, t, ls, _, _, _, hw, _, _, _, h0, _⟩ := h
    have := Wf.pos t hw
    omega
  exact ⟨fun vs H Q E h => absurd h (no vs H Q E), fun A outer s H args us vs Q E _ _ _ _ h => absurd h (no vs H Q E)⟩
theorem ok_part1 {n : Nat} {fl fk : Addr} {dl dk : FuncData} (F : Fun K "is_part" "is_part" (topS 25) f fd) (G : Gs mg) (CL : Cal K mg "is_line" fl dl ["value"]) (OL : FnOk P w K mg base CX0 1 fl dl ["value"] spLine)
    (CK : Cal K mg "is_kind" fk dk ["value"]) (OK : FnOk P w K mg base CX0 1 fk dk ["value"] spKind) (CP : Cal K mg "is_part" f fd ["value", "lines"]) (OP : FnOk P w K mg base CX0 (n + 1) f fd ["value", "lines"] (spPart n)) :
    FnOk P w K mg base CX0 (n + 2) f fd ["value", "lines"] (spPart (n + 1)) := by
  refine F.ok scPart (fun vs H Q E h => ?_) (fun cdv A outer s H vs Q E hr h => ?_)
  · obtain ⟨v, l, t, ls, rfl, _⟩ := h
    rfl
  obtain ⟨v, l, t, ls, rfl, hp, hl, hw, hL, nd, h8, hn, q⟩ := h
  have hr1 : Room 1 _ := hr.mono (by omega)
  refine ⟨_, pss_cons (ps_if (pt_val (pe_call OL hr1 (by rfl) CL.m CL.kp CL.b .nil pass0 (pa_cons (pv 0) pa_nil)))
      (pss_cons (ps_expr (pe_bm PySem.F.plainAttrs_list PySem.F.slot_list_append PySem.F.type_list_append mt_append (pv 1) (pa_cons (pv 0) pa_nil)))
        (pss_one (ps_ret (pe_and (pe_cmpR op_eq (pe_bm PySem.F.plainAttrs_list PySem.F.slot_list_count PySem.F.type_list_count mt_lcountS (pv 1) (pa_cons (pv 0) pa_nil)) pe_int (nomark _))
          (pe_one (pe_cmpR op_le (pe_callB call_len_seq (by rfl) G.len_ PySem.boot_len (pa_cons (pv 1) pa_nil)) (pe_gc (v := .int 8) (by rfl) G.mostLines) (nomark _)))))))
      pss_nil)
    (pss_cons (ps_if (pw_or (pt_not (pt_val (pe_callB call_isi (by rfl) G.isinstance_ (by decide +kernel) (pa_cons (pv 0) (pa_cons (pe_bltn (by rfl) G.tuple_ (by decide +kernel) (v := .ty "tuple") rfl) pa_nil)))))
        (pw_or (pt_cmpR op_ne (pe_callB call_len_seq (by rfl) G.len_ PySem.boot_len (pa_cons (pv 0) pa_nil)) pe_int (nomark _))
          (pw_or1 (pt_not (pt_val (pe_call OK hr1 (by rfl) CK.m CK.kp CK.b .nil pass0 (pa_cons (pe_ix ix_tup (pv 0) pe_int (fun _ _ => rfl)) pa_nil))))))).pt (pss_one (ps_ret pe_bl)) pss_nil)
    (pss_cons (ps_if (pw_or (pt_not (pt_val (pe_callB call_isi (by rfl) G.isinstance_ (by decide +kernel) (pa_cons (pe_ix ix_tup (pv 0) pe_int (fun _ _ => rfl)) (pa_cons (pe_bltn (by rfl) G.tuple_ (by decide +kernel) (v := .ty "tuple") rfl) pa_nil)))))
        (pw_or1 (pt_cmpR op_lt (pe_callB call_len_seq (by rfl) G.len_ PySem.boot_len (pa_cons (pe_ix ix_tup (pv 0) pe_int (fun _ _ => rfl)) pa_nil)) pe_int (nomark _)))).pt (pss_one (ps_ret pe_bl)) pss_nil)
    (pss_cons (ps_for PassesOwn.never rfl (pi_tup (pe_ix ix_tup (pv 0) pe_int (fun _ _ => rfl))) (pg_name (i := 2) scPart.nd rfl (.inl rfl))
      (pss_one (ps_if (pt_not (pt_val (pe_call OP hr (by rfl) CP.m CP.kp CP.b .nil pass0 (pa_cons (pv 2) (pa_cons (pv 1) pa_nil))))) (pss_one (ps_ret pe_bl)) pss_nil)))
    (pss_one (ps_ret pe_bl))))), ?_⟩
  refine ⟨_, rfl, v, t, rfl, hp, hL, fun H1 s1 => ⟨_, rfl, ?_⟩⟩
  cases t with
  | ln s =>
    obtain rfl := plAt_ln.mp hp
    rw [lv_ln] at nd h8 q
    rw [List.length_append, List.length_singleton] at h8
    refine iteT ?_
    have hl1 := s1 _ _ hl
    refine ⟨_, rfl, .inl ⟨rfl, _, SqL.of hl1⟩, _, rfl, l, _, _, rfl, rfl, hl1, (by rw [List.length_map]; exact small1000 (by omega)), ?_⟩
    have e1 : ls.map V.str ++ [V.str s] = (ls ++ [s]).map V.str := by rw [List.map_append]; rfl
    rw [e1]
    refine ⟨_, rfl, .inl ⟨rfl, _, SqL.of upd_same⟩, _, rfl, l, ls ++ [s], s, rfl, rfl, SqL.of upd_same, rfl, _, rfl, ?_⟩
    rw [count_one nd]
    refine iteT ⟨_, rfl, l, _, rfl, .inl (SqL.of upd_same), _, _, rfl, rfl, ?_⟩
    have e2 : decide ((((ls ++ [s]).map V.str).length : Int) ≤ 8) = true := by
      rw [List.length_map, List.length_append, List.length_singleton]
      exact decide_eq_true (by omega)
    show Q (V.bl (decide ((((ls ++ [s]).map V.str).length : Int) ≤ 8))) _
    rw [e2]
    exact q _ (Sb.trans (Sb.of s1) Sb.upd) upd_same
  | jn k ps =>
    refine iteF ?_
    obtain ⟨a, b, us, rfl, ha, hb, hps⟩ := plAt_jn.mp (hp.same s1)
    obtain ⟨hw1, hw2⟩ := wf_jn.mp hw
    rw [lv_jn] at nd h8 q
    have hlen := hps.len
    have i0 : atI [V.str (kS k), V.ref b] 0 = some (.str (kS k)) := atI_nat (j := 0) rfl
    have i1 : atI [V.str (kS k), V.ref b] 1 = some (.ref b) := atI_nat (j := 1) rfl
    refine ⟨_, rfl, .ref a, .ty "tuple", .type "tuple", .type "tuple", true, rfl, .ty _, .base (.tup ha), kit_ty (by decide +kernel), true, rfl, iteF ?_⟩
    refine ⟨_, rfl, a, _, rfl, .inr (SqT.of ha), rfl, _, rfl, iteF ?_⟩
    refine ⟨_, rfl, a, _, _, _, rfl, rfl, SqT.of ha, i0, k, rfl, fun H2 s2 => ⟨true, rfl, iteF ?_⟩⟩
    have ha2 := s2 _ _ ha
    have hb2 := hb.same s2
    obtain ⟨ib, eb⟩ := id hb2
    refine ⟨_, rfl, a, _, _, _, rfl, rfl, SqT.of ha2, i1, .ref b, .ty "tuple", .type "tuple", .type "tuple", true, rfl, .ty _, .fTuple eb, kit_ty (by decide +kernel), true, rfl, iteF ?_⟩
    refine ⟨_, rfl, a, _, _, _, rfl, rfl, SqT.of ha2, i1, b, _, rfl, .inr hb2.t, _, _, rfl, rfl, _, rfl, ?_⟩
    rw [decide_eq_false (by omega)]
    refine iteF ?_
    have hl2 := s2 _ _ (s1 _ _ hl)
    refine ⟨_, rfl, a, _, _, _, rfl, rfl, SqT.of ha2, i1, b, rfl, ⟨_, hb2.t⟩, for_tup (K := K) (a := b) (xs := us) (fun i σ H3 => ∃ y, σ = [some (.ref a), some (.ref l), y] ∧ Sb l H2 H3 ∧ H3 l = some (.lst ((ls ++ lvs (ps.take i)).map V.str)))
      ⟨none, rfl, Sb.refl _ _, by rw [hl2, List.take_zero, lvs_nil, List.append_nil]⟩ (fun i σ H3 _ ⟨_, _, sb, _⟩ => (hb2.sb sb hl2).t) ?_ ?_⟩
    · rintro i x σ H3 hx ⟨y, rfl, sb, hl3⟩
      obtain ⟨p, hpi, hpx⟩ := hps.get hx
      have hpm := List.mem_of_getElem? hpi
      have ep : ps.take (i + 1) = ps.take i ++ [p] := by rw [List.take_add_one, hpi]; rfl
      have ed : lvs ps = lvs (ps.take i) ++ (p.lv ++ lvs (ps.drop (i + 1))) := by
        have h1 : ps.take i ++ p :: ps.drop (i + 1) = ps := (split_at hpi).symm
        rw [← lvs_cons, ← lvs_append, h1]
      have nd3 : ((ls ++ lvs (ps.take i)) ++ p.lv).Nodup := by
        rw [ed, ← List.append_assoc, ← List.append_assoc] at nd
        exact (List.nodup_append.mp nd).1
      have h83 : ((ls ++ lvs (ps.take i)) ++ p.lv).length ≤ 8 := by
        rw [ed] at h8
        simp only [List.length_append] at h8 ⊢
        omega
      have hlt := lv_part hw hpm
      refine ⟨_, rfl, _, rfl, x, l, p, ls ++ lvs (ps.take i), rfl, (hpx.same s2).sb sb hl2, hl3, hw2 p hpm, fun s hs => hL s (by rw [lv_jn]; exact mem_lvs.mpr ⟨p, hpm, hs⟩), nd3, h83, by omega, fun H4 sb4 hl4 => ⟨true, rfl, iteF ?_⟩⟩
      refine ⟨_, rfl, sb.trans sb4, ?_⟩
      rw [hl4, ep, lvs_append, lvs_cons, lvs_nil, List.append_nil, List.append_assoc]
    · rintro σ H3 ⟨y, rfl, sb, hl3⟩
      rw [hlen, List.take_length] at hl3
      exact q H3 (Sb.trans (Sb.of (s1.trans s2)) sb) hl3
theorem ok_part {fl fk : Addr} {dl dk : FuncData} (F : Fun K "is_part" "is_part" (topS 25) f fd) (G : Gs mg) (CL : Cal K mg "is_line" fl dl ["value"]) (OL : FnOk P w K mg base CX0 1 fl dl ["value"] spLine)
    (CK : Cal K mg "is_kind" fk dk ["value"]) (OK : FnOk P w K mg base CX0 1 fk dk ["value"] spKind) (CP : Cal K mg "is_part" f fd ["value", "lines"]) : ∀ n : Nat, FnOk P w K mg base CX0 (n + 1) f fd ["value", "lines"] (spPart n)
  | 0 => part_none
  | n + 1 => ok_part1 F G CL OL CK OK CP (ok_part F G CL OL CK OK CP n)
/-! ### is_plan, check_plan -/
/-- a plan -/
structure PlOk (t : Pn) : Prop where
  wf : Wf t
  ln : ∀ s ∈ t.lv, LnOk s
  nd : t.lv.Nodup
  len : t.lv.length ≤ 5
theorem scPlan : FnScope ["value"] ["value"] (defScope (topS 26)) := ⟨rfl, rfl, rfl, by decide +kernel, rfl, by decide +kernel, by decide +kernel⟩
def spPlan : Sp := fun vs H Q _ => ∃ (v : V) (t : Pn), vs = [v] ∧ PlAt H t v ∧ PlOk t ∧ ∀ H', Same H H' → Q (.bl true) H'
theorem ok_plan {fp : Addr} {dp : FuncData} (F : Fun K "is_plan" "is_plan" (topS 26) f fd) (C : Cal K mg "is_part" fp dp ["value", "lines"]) (O : FnOk P w K mg base CX0 6 fp dp ["value", "lines"] (spPart 5)) :
    FnOk P w K mg base CX0 7 f fd ["value"] spPlan := by
  refine F.ok scPlan (fun vs H Q E h => ?_) (fun cdv A outer s H vs Q E hr h => ?_)
  · obtain ⟨v, t, rfl, _⟩ := h
    rfl
  obtain ⟨v, t, rfl, hp, T, q⟩ := h
  refine ⟨_, pss_one (ps_ret (pe_call O hr (by rfl) C.m C.kp C.b .nil pass0 (pa_cons (pv 0) (pa_cons (pe_lst pa_nil) pa_nil)))), ?_⟩
  refine ⟨_, rfl, Nat.zero_le _, fun l nl => ?_⟩
  have sl : Same H (upd H l (.lst [])) := same_upd nl
  refine ⟨v, l, t, [], rfl, hp.same sl, upd_same, T.wf, T.ln, T.nd, ?_, T.len, fun H' sb hl => q H' fun b o e => sb _ _ (ne_of_none e nl) (sl _ _ e)⟩
  have := T.len
  rw [List.nil_append]
  omega
theorem scCPlan : FnScope ["plan"] ["plan"] (defScope (topS 27)) := ⟨rfl, rfl, rfl, by decide +kernel, rfl, by decide +kernel, by decide +kernel⟩
def spCPlan : Sp := fun vs H Q _ => ∃ (v : V) (t : Pn), vs = [v] ∧ PlAt H t v ∧ PlOk t ∧ ∀ H', Same H H' → Q .non H'
theorem ok_cplan {fp : Addr} {dp : FuncData} (F : Fun K "check_plan" "check_plan" (topS 27) f fd) (C : Cal K mg "is_plan" fp dp ["value"]) (O : FnOk P w K mg base CX0 7 fp dp ["value"] spPlan) :
    FnOk P w K mg base CX0 8 f fd ["plan"] spCPlan := by
  refine F.ok scCPlan (fun vs H Q E h => ?_) (fun cdv A outer s H vs Q E hr h => ?_)
  · obtain ⟨v, t, rfl, _⟩ := h
    rfl
  obtain ⟨v, t, rfl, hp, T, q⟩ := h
  refine ⟨_, pss_one (ps_if (pt_not (pt_val (pe_call O hr (by rfl) C.m C.kp C.b .nil pass0 (pa_cons (pv 0) pa_nil)))) (pss_one ps_never) pss_nil), ?_⟩
  exact ⟨_, rfl, v, t, rfl, hp, T, fun H' sm => ⟨true, rfl, iteF (q H' sm)⟩⟩
end
end FW
end
section
/-! W4: lines_in, least_line. -/
namespace FW
open PySem PySem.Spec PyProof.Rows L2 FM FR
/-- the turns over a tuple, whatever a turn is -/
theorem turn_tup {K : PySem.W.Frag} {a : Addr} {xs : List V} {B : (Hp → Prop) → V → Hp → Prop} {H0 : Hp} {Qd : Hp → Prop} (Pv : Nat → Hp → Prop) (h0 : Pv 0 H0) (hl : ∀ i H, i ≤ xs.length → Pv i H → SqT K H a xs)
    (hs : ∀ i x H, xs[i]? = some x → Pv i H → B (Pv (i + 1)) x H) (hd : ∀ H, Pv xs.length H → Qd H) :
    ∃ W : Nat → Nat → Hp → Prop, (∃ m, W 0 m H0) ∧ ∀ i m H, W i m H →
      ((Itt K a).stop i H ∧ Qd H) ∨ ((Itt K a).go i H ∧ ∃ Nx : Hp → Prop, (∀ H', Nx H' → ∃ m', m' < m ∧ W (i + 1) m' H') ∧ ∀ x H', (Itt K a).yld i H x H' → B Nx x H') := by
  refine ⟨fun i m H => m = xs.length - i ∧ i ≤ xs.length ∧ Pv i H, ⟨xs.length, by simp, Nat.zero_le _, h0⟩, ?_⟩
  rintro i m H ⟨rfl, hi, p⟩
  have q := hl i H hi p
  by_cases hlt : i < xs.length
  · refine .inr ⟨⟨xs, xs[i], q, by simp [hlt]⟩, Pv (i + 1), fun H' p' => ⟨xs.length - (i + 1), by omega, rfl, hlt, p'⟩, fun x H' y => ?_⟩
    obtain ⟨e, y⟩ := y
    subst e
    exact hs i x _ (y xs q) p
  · have e : i = xs.length := by omega
    subst e
    exact .inl ⟨⟨xs, q, Nat.le_refl _⟩, hd H p⟩
theorem turn_list {K : PySem.W.Frag} {a : Addr} {xs : List V} {B : (Hp → Prop) → V → Hp → Prop} {H0 : Hp} {Qd : Hp → Prop} (Pv : Nat → Hp → Prop) (h0 : Pv 0 H0) (hl : ∀ i H, i ≤ xs.length → Pv i H → SqL K H a xs)
    (hs : ∀ i x H, xs[i]? = some x → Pv i H → B (Pv (i + 1)) x H) (hd : ∀ H, Pv xs.length H → Qd H) :
    ∃ W : Nat → Nat → Hp → Prop, (∃ m, W 0 m H0) ∧ ∀ i m H, W i m H →
      ((Itl K a).stop i H ∧ Qd H) ∨ ((Itl K a).go i H ∧ ∃ Nx : Hp → Prop, (∀ H', Nx H' → ∃ m', m' < m ∧ W (i + 1) m' H') ∧ ∀ x H', (Itl K a).yld i H x H' → B Nx x H') := by
  refine ⟨fun i m H => m = xs.length - i ∧ i ≤ xs.length ∧ Pv i H, ⟨xs.length, by simp, Nat.zero_le _, h0⟩, ?_⟩
  rintro i m H ⟨rfl, hi, p⟩
  have q := hl i H hi p
  by_cases hlt : i < xs.length
  · refine .inr ⟨⟨xs, xs[i], q, by simp [hlt]⟩, Pv (i + 1), fun H' p' => ⟨xs.length - (i + 1), by omega, rfl, hlt, p'⟩, fun x H' y => ?_⟩
    obtain ⟨e, y⟩ := y
    subst e
    exact hs i x _ (y xs q) p
  · have e : i = xs.length := by omega
    subst e
    exact .inl ⟨⟨xs, q, Nat.le_refl _⟩, hd H p⟩
theorem turn_rng {lo : Int} {n : Nat} {B : (Hp → Prop) → V → Hp → Prop} {H0 : Hp} {Qd : Hp → Prop} (Pv : Nat → Hp → Prop) (h0 : Pv 0 H0)
    (hs : ∀ i H, i < n → Pv i H → B (Pv (i + 1)) (.int (lo + i)) H) (hd : ∀ H, Pv n H → Qd H) :
    ∃ W : Nat → Nat → Hp → Prop, (∃ m, W 0 m H0) ∧ ∀ i m H, W i m H →
      ((Itr lo n).stop i H ∧ Qd H) ∨ ((Itr lo n).go i H ∧ ∃ Nx : Hp → Prop, (∀ H', Nx H' → ∃ m', m' < m ∧ W (i + 1) m' H') ∧ ∀ x H', (Itr lo n).yld i H x H' → B Nx x H') := by
  refine ⟨fun i m H => m = n - i ∧ i ≤ n ∧ Pv i H, ⟨n, by simp, Nat.zero_le _, h0⟩, ?_⟩
  rintro i m H ⟨rfl, hi, p⟩
  by_cases hlt : i < n
  · refine .inr ⟨hlt, Pv (i + 1), fun H' p' => ⟨n - (i + 1), by omega, rfl, hlt, p'⟩, fun x H' y => ?_⟩
    obtain ⟨rfl, rfl⟩ := y
    exact hs i _ hlt p
  · have e : i = n := by omega
    subst e
    exact .inl ⟨Nat.le_refl _, hd H p⟩
section
variable {P : Program} {w : World} {K : PySem.W.Frag} {mg : Str → Option Value} {base : Heap} {f : Addr} {fd : FuncData}
theorem scLines : FnScope ["plan", "part", "line"] ["plan"] (defScope (topS 28)) := ⟨rfl, rfl, rfl, by decide +kernel, rfl, by decide +kernel, by decide +kernel⟩
def spLines (n : Nat) : Sp := fun vs H Q _ => ∃ (v : V) (t : Pn), vs = [v] ∧ PlAt H t v ∧ Wf t ∧ t.lv.length ≤ n ∧ t.lv.length ≤ 8 ∧
  ∀ (r : Addr) (H' : Hp), Same H H' → H' r = some (.tup ((srt t.lv).map V.str)) → Q (.ref r) H'
theorem lines_none {k : Nat} : FnOk P w K mg base CX0 k f fd ["plan"] (spLines 0) := by
  have no : ∀ vs H Q E, ¬ spLines 0 vs H Q E := fun vs H Q E h => by
    obtain ⟨v, t, _, _, hw, h0, _⟩ := h
    have := Wf.pos t hw
    omega
  exact ⟨fun vs H Q E h => absurd h (no vs H Q E), fun A outer s H args us vs Q E _ _ _ _ h => absurd h (no vs H Q E)⟩
theorem lines_one {n : Nat} (F : Fun K "lines_in" "lines_in" (topS 28) f fd) (G : Gs mg) (C : Cal K mg "lines_in" f fd ["plan"]) (O : FnOk P w K mg base CX0 n f fd ["plan"] (spLines n)) :
    FnOk P w K mg base CX0 (n + 1) f fd ["plan"] (spLines (n + 1)) := by
  refine F.ok scLines (fun vs H Q E h => ?_) (fun cdv A outer s H vs Q E hr h => ?_)
  · obtain ⟨v, t, rfl, _⟩ := h
    rfl
  obtain ⟨v, t, rfl, hp, hw, hn, h8, q⟩ := h
  refine ⟨_, pss_cons (ps_if (pt_val (pe_callB call_isi (by rfl) G.isinstance_ (by decide +kernel) (pa_cons (pv 0) (pa_cons (pe_bltn (by rfl) G.str_ (by decide +kernel) (v := .ty "str") rfl) pa_nil)))) (pss_one (ps_ret (pe_tup (pa_cons (pv 0) pa_nil)))) pss_nil)
    (pss_one (ps_ret (pe_callTy call_tuple_of (by rfl) G.tuple_ (by decide +kernel) (pa_cons (pe_callB cr_sortedS (by rfl) G.sorted_ (by decide +kernel) (pa_cons
      (pe_lc2 (own := [("part", 1), ("line", 2)]) (vs1 := [2]) (g := gName 1) (g1 := gName 2) (by rfl) scLines.nd (pi_tup (pe_ix ix_tup (pv 0) pe_int (fun _ _ => rfl))) (blkOk_by (N := ["plan", "part", "line"]) (sc := defScope (topS 28)) (by decide +kernel)) (by decide)
        (fun _ _ _ _ _ => pg_name (i := 1) scLines.nd rfl (Or.inl rfl)) (fun _ _ _ _ _ => pts_nil) (fun _ _ _ _ _ => pi_tupK K (pe_call O hr (by rfl) C.m C.kp C.b .nil pass0 (pa_cons (pv 1) pa_nil)))
        (fun _ _ _ _ _ => pg_name (i := 2) scLines.nd rfl (Or.inl rfl)) (fun _ _ _ _ _ => pts_nil) (fun _ _ _ _ _ => pv 2)) pa_nil)) pa_nil)))), ?_⟩
  cases t with
  | ln s =>
    obtain rfl := plAt_ln.mp hp
    refine ⟨_, rfl, .str s, .ty "str", .type "str", .type "str", true, rfl, .ty _, .base (.str _), kit_ty (by decide +kernel), true, rfl, iteT ?_⟩
    refine ⟨_, rfl, (by show 1 ≤ sizeLine; decide), fun p np => ?_⟩
    refine q p _ (same_upd np) ?_
    have e : srt (Pl.ln s).lv = [s] := by
      rw [lv_ln]
      exact List.perm_singleton.mp (srt_perm [s])
    rw [upd_same, e]
    rfl
  | jn k ps =>
    obtain ⟨a, b, us, rfl, ha, hb, hps⟩ := plAt_jn.mp hp
    obtain ⟨hw1, hw2⟩ := wf_jn.mp hw
    refine ⟨_, rfl, .ref a, .ty "str", .type "tuple", .type "str", false, rfl, .ty _, .base (.tup ha), kit_ty (by decide +kernel), false, rfl, iteF ?_⟩
    have i1 : atI [V.str (kS k), V.ref b] 1 = some (.ref b) := atI_nat (j := 1) rfl
    rw [lv_jn] at h8 q
    refine ⟨_, rfl, a, _, _, _, rfl, rfl, SqT.of ha, i1, b, rfl, ⟨_, hb.t⟩, fun D nD => ?_⟩
    have hlen := hps.len
    refine turn_tup (K := K) (a := b) (xs := us) (fun i H2 => Same H H2 ∧ ∃ ls : List Str, H2 D = some (.lst (ls.map V.str)) ∧ ls.Perm (lvs (ps.take i))) ⟨same_upd nD, [], upd_same, by rw [List.take_zero, lvs_nil]⟩
      (fun i H2 _ ⟨sm, _⟩ => (hb.same sm).t) ?_ ?_
    · rintro i x H2 hx ⟨sm, ls, hD, hpm⟩
      obtain ⟨p, hpi, hpx⟩ := hps.get hx
      have hpm2 := List.mem_of_getElem? hpi
      have hlt := lv_part hw hpm2
      have ep : ps.take (i + 1) = ps.take i ++ [p] := by rw [List.take_add_one, hpi]; rfl
      have hle : (lvs (ps.take i)).length + p.lv.length ≤ 8 := by
        have e := split_at hpi
        rw [e, lvs_append, lvs_cons, List.length_append, List.length_append] at h8
        omega
      refine ⟨rfl, x, rfl, x, p, rfl, hpx.same sm, hw2 p hpm2, by omega, by omega, fun r H3 s3 hr3 => ?_⟩
      refine ⟨r, rfl, ⟨_, SqT.of hr3⟩, ?_⟩
      have hsl : (srt p.lv).length = p.lv.length := (srt_perm _).length_eq
      refine turn_tup (K := K) (a := r) (xs := (srt p.lv).map V.str) (fun j H4 => Same H H4 ∧ H4 r = some (.tup ((srt p.lv).map V.str)) ∧ j ≤ p.lv.length ∧ H4 D = some (.lst ((ls ++ (srt p.lv).take j).map V.str)))
        ⟨sm.trans s3, hr3, Nat.zero_le _, by rw [List.take_zero, List.append_nil]; exact s3 _ _ hD⟩ (fun j H4 _ ⟨_, h4, _⟩ => SqT.of h4) ?_ ?_
      · rintro j y H4 hy ⟨sm4, h4, hj, hD4⟩
        obtain ⟨z, hz, rfl⟩ := map_get hy
        have hjl := lt_of_get hz
        refine ⟨rfl, _, rfl, _, hD4, ?_, fun c o e => ?_, ?_, by omega, ?_⟩
        · have h1 := hpm.length_eq
          rw [List.length_map, List.length_append, List.length_take]
          exact small1000 (by omega)
        · have hc : c ≠ D := ne_of_none e nD
          rw [upd_ne hc]
          exact sm4 _ _ e
        · rw [upd_ne (ne_of h4 hD4 (by intro q; cases q))]
          exact h4
        · rw [upd_same, List.take_add_one, hz, ← List.append_assoc, List.map_append (l₁ := ls ++ (srt p.lv).take j)]
          rfl
      · rintro H4 ⟨sm4, _, _, hD4⟩
        refine ⟨sm4, _, hD4, ?_⟩
        rw [ep, lvs_append, lvs_cons, lvs_nil, List.append_nil, List.length_map, List.take_length]
        exact hpm.append (srt_perm _)
    · rintro H2 ⟨sm, ls, hD, hpm⟩
      rw [hlen, List.take_length] at hpm
      have hll := hpm.length_eq
      refine ⟨D, ls, rfl, SqL.of hD, by omega, fun ys p hys hso np => ?_⟩
      have ey : ys = srt (lvs ps) := srt_eq (hys.trans hpm) hso
      subst ey
      refine ⟨p, _, rfl, .inl ⟨SqL.of upd_same, fun r nr => ?_⟩⟩
      refine q r _ (sm.trans ((same_upd np).trans (same_upd nr))) ?_
      rw [upd_same]
theorem ok_lines (F : Fun K "lines_in" "lines_in" (topS 28) f fd) (G : Gs mg) (C : Cal K mg "lines_in" f fd ["plan"]) : ∀ n : Nat, FnOk P w K mg base CX0 n f fd ["plan"] (spLines n)
  | 0 => lines_none
  | n + 1 => lines_one F G C (ok_lines F G C n)
/-! ### least_line -/
/-- the least line of a plan -/
def least (t : Pn) : Str := (srt t.lv).headD letters
theorem scLeast : FnScope ["plan"] ["plan"] (defScope (topS 29)) := ⟨rfl, rfl, rfl, by decide +kernel, rfl, by decide +kernel, by decide +kernel⟩
def spLeast : Sp := fun vs H Q _ => ∃ (v : V) (t : Pn), vs = [v] ∧ PlAt H t v ∧ Wf t ∧ t.lv.length ≤ 5 ∧ ∀ H', Same H H' → Q (.str (least t)) H'
theorem ok_least {fl : Addr} {dl : FuncData} (F : Fun K "least_line" "least_line" (topS 29) f fd) (C : Cal K mg "lines_in" fl dl ["plan"]) (O : FnOk P w K mg base CX0 5 fl dl ["plan"] (spLines 5)) :
    FnOk P w K mg base CX0 6 f fd ["plan"] spLeast := by
  refine F.ok scLeast (fun vs H Q E h => ?_) (fun cdv A outer s H vs Q E hr h => ?_)
  · obtain ⟨v, t, rfl, _⟩ := h
    rfl
  obtain ⟨v, t, rfl, hp, hw, h5, q⟩ := h
  refine ⟨_, pss_one (ps_ret (pe_ix ix_tup (pe_call O hr (by rfl) C.m C.kp C.b .nil pass0 (pa_cons (pv 0) pa_nil)) pe_int (fun _ _ => rfl))), ?_⟩
  refine ⟨_, rfl, v, t, rfl, hp, hw, h5, by omega, fun r H1 s1 hr1 => ?_⟩
  have hpos := Wf.pos t hw
  have hl := (srt_perm t.lv).length_eq
  have e0 : atI ((srt t.lv).map V.str) 0 = some (.str (least t)) := by
    unfold least
    cases hs : srt t.lv with
    | nil => rw [hs, List.length_nil] at hl; omega
    | cons x r => exact atI_nat (j := 0) rfl
  exact ⟨r, _, _, _, rfl, rfl, SqT.of hr1, e0, q H1 s1⟩
end
end FW
end
section
/-! W5: flat_form. -/
namespace FW
open PySem PySem.Spec PyProof.Rows L2 FM FR
def lePl (p q : Pn) : Bool := decide ((least p).cps.toList ≤ (least q).cps.toList)
mutual
/-- the flat plan -/
def flat : Pn → Pn
  | .ln s => .ln s
  | .jn k ps => .jn k (((flats ps).flatMap (ex k)).mergeSort lePl)
def flats : List Pn → List Pn
  | [] => []
  | p :: r => flat p :: flats r
end
theorem flats_map (ps : List Pn) : flats ps = ps.map flat := by
  induction ps with
  | nil => simp [flats]
  | cons p r ih => simp [flats, ih]
theorem flat_ln (s : Str) : flat (.ln s) = .ln s := by simp [flat]
theorem flat_jn (k : Bool) (ps : List Pn) : flat (.jn k ps) = .jn k (((ps.map flat).flatMap (ex k)).mergeSort lePl) := by rw [flat, flats_map]
theorem flats_rel : ∀ (ps : List Pn), (∀ p ∈ ps, Flat p (flat p)) → Flats ps (ps.map flat)
  | [], _ => .nil
  | p :: r, h => .cons (h p List.mem_cons_self) (flats_rel r fun q hq => h q (List.mem_cons_of_mem _ hq))
theorem flat_rel : ∀ t : Pn, Flat t (flat t) := by
  refine Pl.ind (fun s => by rw [flat_ln]; exact .ln s) (fun k ps ih => ?_)
  rw [flat_jn]
  exact .jn (flats_rel ps ih) (List.mergeSort_perm _ _)
theorem flat_perm (t : Pn) : (flat t).lv.Perm t.lv := (flat_rel t).perm
theorem flat_len (t : Pn) : (flat t).lv.length = t.lv.length := (flat_perm t).length_eq
theorem ex_wf {k : Bool} {p : Pn} (h : Wf p) : 1 ≤ (ex k p).length ∧ ∀ q ∈ ex k p, Wf q := by
  cases p with
  | ln s => exact ⟨Nat.le_refl _, fun q hq => by have : q = Pl.ln s := by simpa [ex] using hq
                                                 rw [this]; exact wf_ln s⟩
  | jn k' rs =>
    show 1 ≤ (if k' = k then rs else [Pl.jn k' rs]).length ∧ _
    obtain ⟨h1, h2⟩ := wf_jn.mp h
    by_cases e : k' = k
    · rw [if_pos e]
      refine ⟨by omega, fun q hq => h2 q ?_⟩
      have : q ∈ (if k' = k then rs else [Pl.jn k' rs]) := hq
      rwa [if_pos e] at this
    · rw [if_neg e]
      refine ⟨Nat.le_refl _, fun q hq => ?_⟩
      have : q ∈ (if k' = k then rs else [Pl.jn k' rs]) := hq
      rw [if_neg e] at this
      rw [List.mem_singleton.mp this]
      exact h
theorem flat_wf : ∀ t : Pn, Wf t → Wf (flat t) := by
  refine Pl.ind (fun s _ => by rw [flat_ln]; exact wf_ln s) (fun k ps ih h => ?_)
  obtain ⟨h1, h2⟩ := wf_jn.mp h
  rw [flat_jn, wf_jn]
  have hp := List.mergeSort_perm ((ps.map flat).flatMap (ex k)) lePl
  have hall : ∀ p ∈ ps, Wf (flat p) := fun p hp => ih p hp (h2 p hp)
  refine ⟨?_, fun q hq => ?_⟩
  · rw [hp.length_eq]
    have key : ∀ (l : List Pn), (∀ p ∈ l, Wf (flat p)) → l.length ≤ ((l.map flat).flatMap (ex k)).length := by
      intro l
      induction l with
      | nil => intro _; exact Nat.le_refl _
      | cons p r ihr =>
        intro hl
        rw [List.map_cons, List.flatMap_cons, List.length_append, List.length_cons]
        have a1 := (ex_wf (k := k) (hl p List.mem_cons_self)).1
        have a2 := ihr fun q hq => hl q (List.mem_cons_of_mem _ hq)
        omega
    have := key ps hall
    omega
  · have hq2 := hp.mem_iff.mp hq
    obtain ⟨p', hp', hq3⟩ := List.mem_flatMap.mp hq2
    obtain ⟨p, hpm, rfl⟩ := List.mem_map.mp hp'
    exact (ex_wf (hall p hpm)).2 q hq3
theorem PlOk.flat {t : Pn} (T : PlOk t) : PlOk (flat t) :=
  ⟨flat_wf t T.wf, fun s hs => T.ln s ((flat_perm t).mem_iff.mp hs), (flat_perm t).nodup_iff.mpr T.nd, by rw [flat_len]; exact T.len⟩
/-! ### plans are told by their values -/
theorem kS_inj {k k' : Bool} (h : kS k = kS k') : k = k' := by
  have h1 := kS_low k
  have h2 := kS_low k'
  rw [h] at h1
  exact h1.symm.trans h2
theorem PlAt.inj {H : Hp} : ∀ (p q : Pn) (v : V), PlAt H p v → PlAt H q v → p = q := by
  refine Pl.ind (fun s q v h h' => ?_) (fun k ps ih q v h h' => ?_)
  · rw [plAt_ln] at h
    subst h
    cases q with
    | ln s' =>
      have := plAt_ln.mp h'
      cases this
      rfl
    | jn k' qs =>
      obtain ⟨a, _, _, e, _⟩ := plAt_jn.mp h'
      cases e
  · obtain ⟨a, b, vs, e, ha, hb, hp⟩ := plAt_jn.mp h
    subst e
    cases q with
    | ln s' =>
      have := plAt_ln.mp h'
      cases this
    | jn k' qs =>
      obtain ⟨a', b', vs', e, ha', hb', hp'⟩ := plAt_jn.mp h'
      cases e
      rw [ha] at ha'
      have e1 : ([V.str (kS k), V.ref b] : List V) = [V.str (kS k'), V.ref b'] := by injection ha' with z; injection z
      have e2 : kS k = kS k' := by injection e1 with z _; injection z
      have e3 : b = b' := by injection e1 with _ z; injection z with z _; injection z
      subst e3
      have e4 := hb.inj hb'
      subst e4
      have e5 : ps = qs := by
        apply List.ext_getElem?
        intro i
        cases hi : ps[i]? with
        | none =>
          have l1 := hp.len
          have l2 := hp'.len
          have := List.getElem?_eq_none_iff.mp hi
          exact (List.getElem?_eq_none_iff.mpr (by omega)).symm
        | some p =>
          obtain ⟨v, hv, hpv⟩ := hp.get' hi
          obtain ⟨q, hq, hqv⟩ := hp'.get hv
          rw [hq, ih p (List.mem_of_getElem? hi) q v hpv hqv]
      rw [kS_inj e2, e5]
open Classical in
/-- the key of a value that stands for a plan -/
noncomputable def keyOf (H : Hp) (v : V) : Str := if h : ∃ p, PlAt H p v then least h.choose else letters
theorem keyOf_eq {H : Hp} {p : Pn} {v : V} (h : PlAt H p v) : keyOf H v = least p := by
  have hx : ∃ p, PlAt H p v := ⟨p, h⟩
  unfold keyOf
  rw [dif_pos hx, PlAt.inj _ p v hx.choose_spec h]
theorem PlsAt.zip {H : Hp} : ∀ {ps : List Pn} {vs : List V}, PlsAt H ps vs → ∃ zs : List (Pn × V), ps = zs.map (·.1) ∧ vs = zs.map (·.2) ∧ ∀ z ∈ zs, PlAt H z.1 z.2
  | [], vs, h => ⟨[], rfl, plsAt_nil.mp h, fun z hz => nomatch hz⟩
  | p :: r, vs, h => by
    obtain ⟨v, vs', rfl, h1, h2⟩ := plsAt_cons.mp h
    obtain ⟨zs, rfl, rfl, h3⟩ := PlsAt.zip h2
    refine ⟨(p, v) :: zs, rfl, rfl, fun z hz => ?_⟩
    rcases List.mem_cons.mp hz with rfl | hz
    · exact h1
    · exact h3 z hz
theorem PlsAt.unzip {H : Hp} : ∀ {zs : List (Pn × V)}, (∀ z ∈ zs, PlAt H z.1 z.2) → PlsAt H (zs.map (·.1)) (zs.map (·.2))
  | [], _ => plsAt_nil.mpr rfl
  | z :: zs, h => plsAt_cons.mpr ⟨z.2, zs.map (·.2), rfl, h z List.mem_cons_self, PlsAt.unzip fun y hy => h y (List.mem_cons_of_mem _ hy)⟩
theorem PlsAt.sorted {H H0 : Hp} {ps : List Pn} {vs : List V} (h : PlsAt H ps vs) (h0 : PlsAt H0 ps vs) : PlsAt H (ps.mergeSort lePl) (vs.mergeSort fun y z => decide ((keyOf H0 y).cps.toList ≤ (keyOf H0 z).cps.toList)) := by
  obtain ⟨zs, rfl, rfl, hz⟩ := h.zip
  have hk : ∀ z ∈ zs, keyOf H0 z.2 = least z.1 := fun z hz2 => by
    obtain ⟨i, hi⟩ := List.getElem?_of_mem hz2
    obtain ⟨q, e1, e2⟩ := h0.get (i := i) (get_map (f := fun z : Pn × V => z.2) hi)
    have e3 := get_map (f := fun z : Pn × V => z.1) hi
    rw [e3] at e1
    cases e1
    exact keyOf_eq e2
  have e1 := List.map_mergeSort (r := fun a b : Pn × V => lePl a.1 b.1) (s := lePl) (f := fun z : Pn × V => z.1) (l := zs) fun a _ b _ => rfl
  have e2 := List.map_mergeSort (r := fun a b : Pn × V => lePl a.1 b.1) (s := fun y z : V => decide ((keyOf H0 y).cps.toList ≤ (keyOf H0 z).cps.toList)) (f := fun z : Pn × V => z.2) (l := zs) fun a ha b hb => by
    show decide _ = decide _
    rw [hk a ha, hk b hb]
  rw [← e1, ← e2]
  exact PlsAt.unzip fun z hz2 => hz z ((List.mergeSort_perm _ _).mem_iff.mp hz2)
theorem PlsAt.sb {H H' : Hp} {ps : List Pn} {vs : List V} {l : Addr} {xs : List V} (h : PlsAt H ps vs) (e : Sb l H H') (hl : H l = some (.lst xs)) : PlsAt H' ps vs :=
  PlsAt.of h.len fun i v p e1 e2 => by
    obtain ⟨q, e3, e4⟩ := h.get e1
    rw [e2] at e3
    cases e3
    exact e4.sb e hl
section
variable {P : Program} {w : World} {K : PySem.W.Frag} {mg : Str → Option Value} {base : Heap} {f : Addr} {fd : FuncData}
theorem scFlat : FnScope ["plan", "kind", "parts", "found", "part"] ["plan"] (defScope (topS 30)) := ⟨rfl, rfl, rfl, by decide +kernel, rfl, by decide +kernel, by decide +kernel⟩
def spFlat (n : Nat) : Sp := fun vs H Q _ => ∃ (v : V) (t : Pn), vs = [v] ∧ PlAt H t v ∧ Wf t ∧ t.lv.length ≤ n ∧ t.lv.length ≤ 5 ∧
  ∀ (v' : V) (H' : Hp), Same H H' → PlAt H' (flat t) v' → Q v' H'
theorem flat_none {k : Nat} : FnOk P w K mg base CX0 k f fd ["plan"] (spFlat 0) := by
  have no : ∀ vs H Q E, ¬ spFlat 0 vs H Q E := fun vs H Q E h => by
    obtain ⟨v, t, _, _, hw, h0, _⟩ := h
    have := Wf.pos t hw
    omega
  exact ⟨fun vs H Q E h => absurd h (no vs H Q E), fun A outer s H args us vs Q E _ _ _ _ h => absurd h (no vs H Q E)⟩
theorem flat_one {n : Nat} {fl : Addr} {dl : FuncData} (F : Fun K "flat_form" "flat_form" (topS 30) f fd) (G : Gs mg) (CL : Cal K mg "least_line" fl dl ["plan"]) (OL : FnOk P w K mg base CX0 6 fl dl ["plan"] spLeast)
    (C : Cal K mg "flat_form" f fd ["plan"]) (O : FnOk P w K mg base CX0 (n + 7) f fd ["plan"] (spFlat n)) :
    FnOk P w K mg base CX0 (n + 8) f fd ["plan"] (spFlat (n + 1)) := by
  refine F.ok scFlat (fun vs H Q E h => ?_) (fun cdv A outer s H vs Q E hr h => ?_)
  · obtain ⟨v, t, rfl, _⟩ := h
    rfl
  obtain ⟨v, t, rfl, hp, hw, hn, h5, q⟩ := h
  have hr7 : Room 7 _ := hr.mono (by omega)
  refine ⟨_, pss_cons (ps_if (pt_val (pe_callB call_isi (by rfl) G.isinstance_ (by decide +kernel) (pa_cons (pv 0) (pa_cons (pe_bltn (by rfl) G.str_ (by decide +kernel) (v := .ty "str") rfl) pa_nil)))) (pss_one (ps_ret (pv 0))) pss_nil)
    (pss_cons (ps_asg (pv 0) (pg_tup rfl (pgs_cons (pg_name (i := 1) scFlat.nd rfl (.inl rfl)) (pgs_cons (pg_name (i := 2) scFlat.nd rfl (.inl rfl)) pgs_nil))))
    (pss_cons (ps_set (i := 3) scFlat.nd rfl (.inl rfl) (pe_lst pa_nil))
    (pss_cons (ps_for PassesOwn.never rfl (pi_list (pe_lc (own := [("part", 4)]) (g := gName 4) (by rfl) scFlat.nd (pi_tup (pv 2)) (blkOk_by (N := ["plan", "kind", "parts", "found", "part"]) (sc := defScope (topS 30)) (by decide +kernel))
        (fun _ _ _ _ _ => pg_name (i := 4) scFlat.nd rfl (Or.inl rfl)) (fun _ _ _ _ _ => pts_nil) (fun _ _ _ _ _ => pe_call O hr (by rfl) C.m C.kp C.b .nil pass0 (pa_cons (pv 4) pa_nil)))) (pg_name (i := 4) scFlat.nd rfl (.inl rfl))
      (pss_one (ps_if (pw_and (pt_not (pt_val (pe_callB call_isi (by rfl) G.isinstance_ (by decide +kernel) (pa_cons (pv 4) (pa_cons (pe_bltn (by rfl) G.str_ (by decide +kernel) (v := .ty "str") rfl) pa_nil)))))
          (pw_and1 (pt_cmpR op_eq (pe_ix ix_tup (pv 4) pe_int (fun _ _ => rfl)) (pv 1) (nomark _)))).pt
        (pss_one (ps_expr (pe_bm PySem.F.plainAttrs_list PySem.F.slot_list_extend PySem.F.type_list_extend mt_extendT (pv 3) (pa_cons (pe_ix ix_tup (pv 4) pe_int (fun _ _ => rfl)) pa_nil))))
        (pss_one (ps_expr (pe_bm PySem.F.plainAttrs_list PySem.F.slot_list_append PySem.F.type_list_append mt_append (pv 3) (pa_cons (pv 4) pa_nil)))))))
    (pss_one (ps_ret (pe_tup (pa_cons (pv 1) (pa_cons (pe_callTy call_tupleF (by rfl) G.tuple_ (by decide +kernel) (pa_cons
      (pe_callBK (cr_sortedK OL hr7 CL.b) (by rfl) G.sorted_ (by decide +kernel) (pa_cons (pv 3) pa_nil) (pk_cons (pe_glob (v := .ref fl) (by rfl) CL.m rfl) pk_nil)) pa_nil)) pa_nil)))))))), ?_⟩
  cases t with
  | ln s =>
    obtain rfl := plAt_ln.mp hp
    refine ⟨_, rfl, .str s, .ty "str", .type "str", .type "str", true, rfl, .ty _, .base (.str _), kit_ty (by decide +kernel), true, rfl, iteT ?_⟩
    exact ⟨_, rfl, q _ H (Same.refl H) (by rw [flat_ln]; exact plAt_ln.mpr rfl)⟩
  | jn k ps =>
  obtain ⟨a, b, us, rfl, ha, hb, hps⟩ := plAt_jn.mp hp
  obtain ⟨hw1, hw2⟩ := wf_jn.mp hw
  rw [lv_jn] at h5
  have hpl5 : ps.length ≤ 5 := Nat.le_trans (lvs_ge hw2) h5
  have hul := hps.len
  refine ⟨_, rfl, .ref a, .ty "str", .type "tuple", .type "str", false, rfl, .ty _, .base (.tup ha), kit_ty (by decide +kernel), false, rfl, iteF ?_⟩
  -- kind, parts = plan; found = []
  refine ⟨_, rfl, a, _, rfl, SqT.of ha, rfl, .str (kS k), [.ref b], rfl, .ref b, [], rfl, rfl, ?_⟩
  refine ⟨Nat.zero_le _, fun r nr => ?_⟩
  have s1 : Same H (upd H r (.lst [])) := same_upd nr
  -- the flat parts
  refine ⟨_, rfl, b, rfl, ⟨_, (hb.same s1).t⟩, fun D nD => ?_⟩
  have rD : r ≠ D := ne_of_none upd_same nD
  refine turn_tup (K := K) (a := b) (xs := us) (fun i H2 => Same H H2 ∧ H2 r = some (.lst []) ∧ ∃ fs : List V, H2 D = some (.lst fs) ∧ fs.length = i ∧ PlsAt H2 ((ps.take i).map flat) fs)
    ⟨s1.trans (same_upd nD), by rw [upd_ne rD]; exact upd_same, [], upd_same, rfl, plsAt_nil.mpr rfl⟩ (fun i H2 _ ⟨sm, _⟩ => (hb.same sm).t) ?_ ?_
  · rintro i x H2 hx ⟨sm, hr2, fs, hD, hfl, hfs⟩
    obtain ⟨p, hpi, hpx⟩ := hps.get hx
    have hpm := List.mem_of_getElem? hpi
    have hlt := lv_part hw hpm
    rw [lv_jn] at hlt hn
    refine ⟨rfl, x, rfl, x, p, rfl, hpx.same sm, hw2 p hpm, by omega, by omega, fun v' H3 s3 hv' => ?_⟩
    have hD3 := s3 _ _ hD
    have hil := lt_of_get hpi
    refine ⟨fs, hD3, by rw [hfl]; exact small1000 (by omega), fun c o e => ?_, ?_, fs ++ [v'], upd_same, by rw [List.length_append, hfl]; rfl, ?_⟩
    · have hc : c ≠ D := ne_of_none (s1 _ _ e) nD
      rw [upd_ne hc]
      exact s3 _ _ (sm _ _ e)
    · rw [upd_ne rD]
      exact s3 _ _ hr2
    · rw [List.take_add_one, hpi, List.map_append]
      exact ((hfs.same s3).append (PlsAt.one hv')).sb (l := D) Sb.upd hD3
  · rintro H2 ⟨sm, hr2, fs, hD, hfl, hfs⟩
    rw [hul, List.take_length] at hfs
    rw [hul] at hfl
    have hpu : PlsAt H2 ps us := hps.same sm
    -- the loop over them
    refine ⟨D, rfl, ⟨_, SqL.of hD⟩, for_list (K := K) (a := D) (xs := fs) (fun i σ H3 => ∃ y ws, σ = [some (.ref a), some (.str (kS k)), some (.ref b), some (.ref r), y] ∧ Same H H3 ∧ H3 D = some (.lst fs) ∧ H3 r = some (.lst ws) ∧ PlsAt H3 (ps.map flat) fs ∧ PlsAt H3 (((ps.map flat).take i).flatMap (ex k)) ws)
      ⟨none, [], rfl, sm, hD, hr2, hfs, plsAt_nil.mpr rfl⟩ (fun i σ H3 _ ⟨_, _, _, _, h4, _⟩ => SqL.of h4) ?_ ?_⟩
    · rintro i x σ H3 hx ⟨y, ws, rfl, sm3, hD3, hr3, hfs3, hws⟩
      obtain ⟨p', hpi', hpx⟩ := hfs3.get hx
      obtain ⟨p, hpi, rfl⟩ := map_get hpi'
      have hpm := List.mem_of_getElem? hpi
      have hwp : Wf (flat p) := flat_wf p (hw2 p hpm)
      have et : ((ps.map flat).take (i + 1)).flatMap (ex k) = ((ps.map flat).take i).flatMap (ex k) ++ ex k (flat p) := by
        rw [List.take_add_one, hpi', List.flatMap_append]
        simp
      have hsz : ws.length + (ex k (flat p)).length ≤ 5 := by
        have h1 := hws.len
        have h2 : (((ps.map flat).take (i + 1)).flatMap (ex k)).length ≤ 5 := by
          have h3 : ∀ q ∈ ((ps.map flat).take (i + 1)).flatMap (ex k), Wf q := fun q hq => by
            obtain ⟨p1, hp1, hq1⟩ := List.mem_flatMap.mp hq
            obtain ⟨p2, hp2, rfl⟩ := List.mem_map.mp (List.mem_of_mem_take hp1)
            exact (ex_wf (flat_wf p2 (hw2 p2 hp2))).2 q hq1
          have h4 := lvs_ge h3
          have h5' : (lvs (((ps.map flat).take (i + 1)).flatMap (ex k))).length ≤ (lvs ps).length := by
            rw [lvs_flatEx]
            have e2 : lvs (ps.map flat) = lvs ((ps.map flat).take (i + 1)) ++ lvs ((ps.map flat).drop (i + 1)) := by rw [← lvs_append, List.take_append_drop]
            have e3 : (lvs (ps.map flat)).length = (lvs ps).length := (flats_rel ps fun p _ => flat_rel p).perm.length_eq
            rw [← e3, e2, List.length_append]
            omega
          omega
        rw [et, List.length_append] at h2
        omega
      rw [et]
      -- the end of a turn
      have fin : ∀ vs : List V, PlsAt H3 (ex k (flat p)) vs → ∃ y ws', ([some (.ref a), some (.str (kS k)), some (.ref b), some (.ref r), some x] : L2.St) = [some (.ref a), some (.str (kS k)), some (.ref b), some (.ref r), y] ∧ Same H (upd H3 r (.lst (ws ++ vs))) ∧
          (upd H3 r (.lst (ws ++ vs))) D = some (.lst fs) ∧ (upd H3 r (.lst (ws ++ vs))) r = some (.lst ws') ∧ PlsAt (upd H3 r (.lst (ws ++ vs))) (ps.map flat) fs ∧ PlsAt (upd H3 r (.lst (ws ++ vs))) (((ps.map flat).take i).flatMap (ex k) ++ ex k (flat p)) ws' := by
        intro vs hvs
        refine ⟨_, ws ++ vs, rfl, fun c o e => ?_, by rw [upd_ne rD.symm]; exact hD3, upd_same, hfs3.sb (l := r) Sb.upd hr3, (hws.append hvs).sb (l := r) Sb.upd hr3⟩
        rw [upd_ne (ne_of_none e nr)]
        exact sm3 _ _ e
      cases hpf : flat p with
      | ln s =>
        rw [hpf] at hpx fin hsz
        obtain rfl := plAt_ln.mp hpx
        refine ⟨_, rfl, .str s, .ty "str", .type "str", .type "str", true, rfl, .ty _, .base (.str _), kit_ty (by decide +kernel), true, rfl, ?_⟩
        refine ⟨_, rfl, .inl ⟨rfl, _, SqL.of hr3⟩, _, rfl, r, _, _, rfl, rfl, hr3, small1000 (by omega), ?_⟩
        exact fin [.str s] (PlsAt.one (plAt_ln.mpr rfl))
      | jn k' rs =>
        rw [hpf] at hpx fin hsz
        obtain ⟨a2, b2, vs2, rfl, ha2, hb2, hps2⟩ := plAt_jn.mp hpx
        have j0 : atI [V.str (kS k'), V.ref b2] 0 = some (.str (kS k')) := atI_nat (j := 0) rfl
        have j1 : atI [V.str (kS k'), V.ref b2] 1 = some (.ref b2) := atI_nat (j := 1) rfl
        refine ⟨_, rfl, .ref a2, .ty "str", .type "tuple", .type "str", false, rfl, .ty _, .base (.tup ha2), kit_ty (by decide +kernel), false, rfl, iteT ?_⟩
        refine ⟨_, rfl, a2, _, _, _, rfl, rfl, SqT.of ha2, j0, _, rfl, rfl, _, rfl, ?_⟩
        by_cases hk : k' = k
        · have e1 : ex k (Pl.jn k' rs) = rs := by
            show (if k' = k then rs else _) = rs
            rw [if_pos hk]
          rw [e1] at fin hsz ⊢
          rw [decide_eq_true (by rw [hk])]
          have hl2 := hps2.len
          refine ⟨_, rfl, .inl ⟨rfl, _, SqL.of hr3⟩, _, rfl, a2, _, _, _, rfl, rfl, SqT.of ha2, j1, r, b2, _, _, rfl, rfl, hr3, hb2, small (by omega), ?_⟩
          exact fin vs2 hps2
        · have e1 : ex k (Pl.jn k' rs) = [Pl.jn k' rs] := by
            show (if k' = k then rs else [Pl.jn k' rs]) = _
            rw [if_neg hk]
          rw [e1] at fin hsz ⊢
          rw [decide_eq_false (by intro z; injection z with z; exact hk (kS_inj z))]
          refine ⟨_, rfl, .inl ⟨rfl, _, SqL.of hr3⟩, _, rfl, r, _, _, rfl, rfl, hr3, small1000 (by omega), ?_⟩
          exact fin [.ref a2] (PlsAt.one hpx)
    · rintro σ H3 ⟨y, ws, rfl, sm3, hD3, hr3, hfs3, hws⟩
      rw [hfl, show ps.length = (ps.map flat).length by rw [List.length_map], List.take_length] at hws
      have hT : PlOk (Pl.jn k ps) ∨ True := .inr trivial
      have hall : ∀ q ∈ (ps.map flat).flatMap (ex k), Wf q := fun q hq => by
        obtain ⟨p1, hp1, hq1⟩ := List.mem_flatMap.mp hq
        obtain ⟨p2, hp2, rfl⟩ := List.mem_map.mp hp1
        exact (ex_wf (flat_wf p2 (hw2 p2 hp2))).2 q hq1
      have hlen5 : ∀ q ∈ (ps.map flat).flatMap (ex k), q.lv.length ≤ 5 := fun q hq => by
        have e2 : (lvs ((ps.map flat).flatMap (ex k))).length = (lvs ps).length := by
          rw [lvs_flatEx]
          exact (flats_rel ps fun p _ => flat_rel p).perm.length_eq
        obtain ⟨x, z, e3⟩ := List.append_of_mem hq
        rw [e3, lvs_append, lvs_cons, List.length_append, List.length_append] at e2
        omega
      refine ⟨_, rfl, _, rfl, r, ws, keyOf H3, rfl, rfl, SqL.of hr3, fun y hy H4 s4 => ?_, fun p H4 s4 np => ?_⟩
      · obtain ⟨i, hi⟩ := List.getElem?_of_mem hy
        obtain ⟨q', hq1, hq2⟩ := hws.get hi
        have hqm := List.mem_of_getElem? hq1
        refine ⟨y, q', rfl, hq2.same s4, hall q' hqm, hlen5 q' hqm, fun H' s' => ⟨s', ?_⟩⟩
        rw [keyOf_eq hq2]
      · refine ⟨p, _, rfl, SqL.of upd_same, fun l its nl => ?_⟩
        refine ⟨(by show 2 ≤ sizeLine; decide), fun z nz => ?_⟩
        have s5 : Same H3 (upd (upd (upd H4 p (.lst (ws.mergeSort fun y z => decide ((keyOf H3 y).cps.toList ≤ (keyOf H3 z).cps.toList)))) l (.frz (tObj its) (.tup (ws.mergeSort fun y z => decide ((keyOf H3 y).cps.toList ≤ (keyOf H3 z).cps.toList)))))
            z (.tup [.str (kS k), .ref l])) := s4.trans ((same_upd np).trans ((same_upd nl).trans (same_upd nz)))
        refine q _ _ (sm3.trans s5) ?_
        rw [flat_jn]
        refine plAt_jn.mpr ⟨z, l, _, rfl, upd_same, ⟨its, ?_⟩, ((hws.same s5).sorted hws)⟩
        rw [upd_ne (ne_of_none upd_same nz), upd_same]
theorem ok_flat {fl : Addr} {dl : FuncData} (F : Fun K "flat_form" "flat_form" (topS 30) f fd) (G : Gs mg) (CL : Cal K mg "least_line" fl dl ["plan"]) (OL : FnOk P w K mg base CX0 6 fl dl ["plan"] spLeast)
    (C : Cal K mg "flat_form" f fd ["plan"]) : ∀ n : Nat, FnOk P w K mg base CX0 (n + 7) f fd ["plan"] (spFlat n)
  | 0 => flat_none
  | n + 1 => flat_one F G CL OL C (ok_flat F G CL OL C n)
end
end FW
end
section
/-! W6: check_sources, check_known, check_asked. -/
namespace FW
open PySem PySem.Spec PyProof.Rows L2 FM FR
/-- known people with their lines, a tuple of pairs -/
def KnAt (H : Hp) (a : Addr) (kn : List (Int × Str)) : Prop := ∃ as : List Addr, TF H a (as.map V.ref) ∧ as.length = kn.length ∧ ∀ (i : Nat) (b : Addr) (p : Int × Str), as[i]? = some b → kn[i]? = some p → H b = some (.tup [.int p.1, .str p.2])
theorem KnAt.same {H H' : Hp} {a : Addr} {kn : List (Int × Str)} (h : KnAt H a kn) (e : Same H H') : KnAt H' a kn := by
  obtain ⟨as, h1, h2, h3⟩ := h
  exact ⟨as, h1.same e, h2, fun i b p e1 e2 => e _ _ (h3 i b p e1 e2)⟩
theorem KnAt.sb {H H' : Hp} {a l : Addr} {xs : List V} {kn : List (Int × Str)} (h : KnAt H a kn) (e : Sb l H H') (hl : H l = some (.lst xs)) : KnAt H' a kn := by
  obtain ⟨as, h1, h2, h3⟩ := h
  exact ⟨as, h1.sb e hl, h2, fun i b p e1 e2 => e _ _ (ne_of (h3 i b p e1 e2) hl (by intro z; cases z)) (h3 i b p e1 e2)⟩
/-- known people of a row -/
structure KnOk (t : Pn) (ns : List Int) (kn : List (Int × Str)) : Prop where
  asc : kn.Pairwise (fun p q => p.1 < q.1)
  row : ∀ p ∈ kn, p.1 ∈ ns
  ln : ∀ p ∈ kn, p.2 ∈ t.lv
section
variable {P : Program} {w : World} {K : PySem.W.Frag} {mg : Str → Option Value} {base : Heap} {f : Addr} {fd : FuncData}
/-! ### check_sources -/
theorem scSources : FnScope ["plan", "row", "sources", "lines", "index", "line"] ["plan", "row", "sources"] (defScope (topS 32)) := ⟨rfl, rfl, rfl, by decide +kernel, rfl, by decide +kernel, by decide +kernel⟩
def spSources : Sp := fun vs H Q _ => ∃ (v : V) (a b : Addr) (t : Pn) (ns : List Int) (ss : List Str), vs = [v, .ref a, .ref b] ∧ PlAt H t v ∧ PlOk t ∧ H a = some (.tup (ns.map V.int)) ∧ H b = some (.tup (ss.map V.str)) ∧ ss.length = ns.length ∧ (∀ s ∈ ss, s ∈ t.lv) ∧
  ∀ H', Same H H' → Q .non H'
theorem ok_sources {fl : Addr} {dl : FuncData} (F : Fun K "check_sources" "check_sources" (topS 32) f fd) (G : Gs mg) (C : Cal K mg "lines_in" fl dl ["plan"]) (O : FnOk P w K mg base CX0 5 fl dl ["plan"] (spLines 5)) :
    FnOk P w K mg base CX0 6 f fd ["plan", "row", "sources"] spSources := by
  refine F.ok scSources (fun vs H Q E h => ?_) (fun cdv A outer s H vs Q E hr h => ?_)
  · obtain ⟨v, a, b, t, ns, ss, rfl, _⟩ := h
    rfl
  obtain ⟨v, a, b, t, ns, ss, rfl, hp, T, ha, hb, hl, hs, q⟩ := h
  refine ⟨_, pss_cons (ps_if (pw_or (pt_not (pt_val (pe_callB call_isi (by rfl) G.isinstance_ (by decide +kernel) (pa_cons (pv 2) (pa_cons (pe_bltn (by rfl) G.tuple_ (by decide +kernel) (v := .ty "tuple") rfl) pa_nil)))))
        (pw_or1 (pt_cmpR op_ne (pe_callB call_len_seq (by rfl) G.len_ PySem.boot_len (pa_cons (pv 2) pa_nil)) (pe_callB call_len_seq (by rfl) G.len_ PySem.boot_len (pa_cons (pv 1) pa_nil)) (nomark _)))).pt (pss_one ps_never) pss_nil)
    (pss_cons (ps_set (i := 3) scSources.nd rfl (.inl rfl) (pe_call O hr (by rfl) C.m C.kp C.b .nil pass0 (pa_cons (pv 0) pa_nil)))
    (pss_one (ps_for PassesOwn.never rfl (pi_enumT (by rfl) G.enumerate_ (pa_cons (pv 2) pa_nil))
      (pg_tup rfl (pgs_cons (pg_name (i := 4) scSources.nd rfl (.inl rfl)) (pgs_cons (pg_name (i := 5) scSources.nd rfl (.inl rfl)) pgs_nil)))
      (pss_one (ps_if (pt_cmpR op_notIn_seq (pv 5) (pv 3) (by with_unfolding_all rfl)) (pss_one ps_never) pss_nil))))), ?_⟩
  refine ⟨_, rfl, .ref b, .ty "tuple", .type "tuple", .type "tuple", true, rfl, .ty _, .base (.tup hb), kit_ty (by decide +kernel), true, rfl, iteF ?_⟩
  refine ⟨_, rfl, b, _, rfl, .inr (SqT.of hb), _, rfl, a, _, rfl, .inr (SqT.of ha), rfl, _, rfl, ?_⟩
  have e1 : decide (V.int (((ss.map V.str).length : Nat) : Int) = V.int (((ns.map V.int).length : Nat) : Int)) = true := decide_eq_true (by rw [List.length_map, List.length_map, hl])
  rw [e1]
  refine iteF ?_
  have h5 := T.len
  refine ⟨_, rfl, v, t, rfl, hp, T.wf, h5, by omega, fun r H1 s1 hr1 => ?_⟩
  refine ⟨_, rfl, b, _, rfl, SqT.of (s1 _ _ hb), for_enumT (K := K) (a := b) (xs := ss.map V.str) (fun i σ H2 => ∃ y z, σ = [some v, some (.ref a), some (.ref b), some (.ref r), y, z] ∧ Same H1 H2) ⟨none, none, rfl, Same.refl _⟩
    (fun i σ H2 ⟨_, _, _, sm⟩ => SqT.of (sm _ _ (s1 _ _ hb))) ?_ ?_⟩
  · rintro i x T' σ H2 hx ⟨y, z, rfl, sm⟩ nT
    obtain ⟨z, hz, rfl⟩ := map_get hx
    have sT : Same H2 (upd H2 T' (.tup [.int (i : Nat), .str z])) := same_upd nT
    refine ⟨T', _, rfl, SqT.of upd_same, rfl, .int (i : Nat), [.str z], rfl, .str z, [], rfl, rfl, ?_⟩
    refine ⟨_, rfl, _, rfl, r, _, rfl, .inr (SqT.of (sT _ _ (sm _ _ hr1))), rfl, flat_strs _, _, rfl, ?_⟩
    rw [inV_str, decide_eq_true (mem_srt.mpr (hs z (List.mem_of_getElem? hz)))]
    exact ⟨_, _, rfl, sm.trans sT⟩
  · rintro σ H2 ⟨y, z, rfl, sm⟩
    exact q H2 (s1.trans sm)
/-! ### check_known -/
theorem scKnown : FnScope ["plan", "row", "known", "lines", "last", "index", "pair"] ["plan", "row", "known"] (defScope (topS 33)) := ⟨rfl, rfl, rfl, by decide +kernel, rfl, by decide +kernel, by decide +kernel⟩
def spKnown : Sp := fun vs H Q _ => ∃ (v : V) (a b : Addr) (t : Pn) (ns : List Int) (kn : List (Int × Str)), vs = [v, .ref a, .ref b] ∧ PlAt H t v ∧ PlOk t ∧ H a = some (.tup (ns.map V.int)) ∧ RowOk ns ∧ KnAt H b kn ∧ KnOk t ns kn ∧
  ∀ H', Same H H' → Q .non H'
theorem ok_known {fl fh : Addr} {dl dh : FuncData} (F : Fun K "check_known" "check_known" (topS 33) f fd) (G : Gs mg) (C : Cal K mg "lines_in" fl dl ["plan"]) (O : FnOk P w K mg base CX0 5 fl dl ["plan"] (spLines 5))
    (CH : Cal K mg "is_height" fh dh ["value"]) (OH : FnOk P w K mg base CX0 2 fh dh ["value"] spHeight) : FnOk P w K mg base CX0 6 f fd ["plan", "row", "known"] spKnown := by
  refine F.ok scKnown (fun vs H Q E h => ?_) (fun cdv A outer s H vs Q E hr h => ?_)
  · obtain ⟨v, a, b, t, ns, kn, rfl, _⟩ := h
    rfl
  obtain ⟨v, a, b, t, ns, kn, rfl, hp, T, ha, R, hk, KO, q⟩ := h
  have hr2 : Room 2 _ := hr.mono (by decide)
  refine ⟨_, pss_cons (ps_if (pt_not (pt_val (pe_callB call_isi (by rfl) G.isinstance_ (by decide +kernel) (pa_cons (pv 2) (pa_cons (pe_bltn (by rfl) G.tuple_ (by decide +kernel) (v := .ty "tuple") rfl) pa_nil))))) (pss_one ps_never) pss_nil)
    (pss_cons (ps_par (i := 3) (j := 4) rfl scKnown.nd rfl rfl (by decide) rfl rfl (pa_cons (pe_call O hr (by rfl) C.m C.kp C.b .nil pass0 (pa_cons (pv 0) pa_nil)) (pa_cons pe_int pa_nil)) rfl)
    (pss_one (ps_for PassesOwn.never rfl (pi_enumT (by rfl) G.enumerate_ (pa_cons (pv 2) pa_nil))
      (pg_tup rfl (pgs_cons (pg_name (i := 5) scKnown.nd rfl (.inl rfl)) (pgs_cons (pg_name (i := 6) scKnown.nd rfl (.inl rfl)) pgs_nil)))
      (pss_cons (ps_if (pw_or (pt_not (pt_val (pe_callB call_isi (by rfl) G.isinstance_ (by decide +kernel) (pa_cons (pv 6) (pa_cons (pe_bltn (by rfl) G.tuple_ (by decide +kernel) (v := .ty "tuple") rfl) pa_nil)))))
          (pw_or (pt_cmpR op_ne (pe_callB call_len_seq (by rfl) G.len_ PySem.boot_len (pa_cons (pv 6) pa_nil)) pe_int (nomark _))
          (pw_or1 (pt_not (pt_val (pe_call OH hr2 (by rfl) CH.m CH.kp CH.b .nil pass0 (pa_cons (pe_ix ix_tup (pv 6) pe_int (fun _ _ => rfl)) pa_nil))))))).pt (pss_one ps_never) pss_nil)
      (pss_cons (ps_if (pw_or (pt_cmpR op_notIn_seq (pe_ix ix_tup (pv 6) pe_int (fun _ _ => rfl)) (pv 1) (by with_unfolding_all rfl))
          (pw_or (pt_cmpR op_notIn_seq (pe_ix ix_tup (pv 6) pe_int (fun _ _ => rfl)) (pv 3) (by with_unfolding_all rfl))
          (pw_or1 (pt_cmpR op_le (pe_ix ix_tup (pv 6) pe_int (fun _ _ => rfl)) (pv 4) (nomark _))))).pt (pss_one ps_never) pss_nil)
      (pss_one (ps_set (i := 4) scKnown.nd rfl (.inl rfl) (pe_ix ix_tup (pv 6) pe_int (fun _ _ => rfl))))))))), ?_⟩
  obtain ⟨as, hk1, hk2, hk3⟩ := id hk
  obtain ⟨itk, ek⟩ := id hk1
  refine ⟨_, rfl, .ref b, .ty "tuple", .type "tuple", .type "tuple", true, rfl, .ty _, .fTuple ek, kit_ty (by decide +kernel), true, rfl, iteF ?_⟩
  have h5 := T.len
  refine ⟨_, rfl, v, t, rfl, hp, T.wf, h5, by omega, fun r H1 s1 hr1 => ⟨_, _, rfl, ?_⟩⟩
  refine ⟨_, rfl, b, _, rfl, (hk1.same s1).t, for_enumT (K := K) (a := b) (xs := as.map V.ref) (fun i σ H2 => ∃ (l : Int) (y z : Option V), σ = [some v, some (.ref a), some (.ref b), some (.ref r), some (.int l), y, z] ∧ Same H1 H2 ∧ ∀ p ∈ kn.drop i, l < p.1)
    ⟨0, none, none, rfl, Same.refl _, fun p hp => ?_⟩ (fun i σ H2 ⟨_, _, _, _, sm, _⟩ => ((hk1.same s1).same sm).t) ?_ ?_⟩
  · have := (R.inr p.1 (KO.row p (List.mem_of_mem_drop hp))).1
    omega
  · rintro i x T' σ H2 hx ⟨l, y, z, rfl, sm, hlt⟩ nT
    obtain ⟨c, hc, rfl⟩ := map_get hx
    have hi := lt_of_get hc
    obtain ⟨p, hpi⟩ : ∃ p, kn[i]? = some p := ⟨_, List.getElem?_eq_getElem (by omega)⟩
    have hpm := List.mem_of_getElem? hpi
    have sT : Same H2 (upd H2 T' (.tup [.int (i : Nat), .ref c])) := same_upd nT
    have hcp := sT _ _ (sm _ _ (s1 _ _ (hk3 i c p hc hpi)))
    obtain ⟨r1, r2⟩ := R.inr p.1 (KO.row p hpm)
    have j0 : atI [V.int p.1, V.str p.2] 0 = some (.int p.1) := atI_nat (j := 0) rfl
    have j1 : atI [V.int p.1, V.str p.2] 1 = some (.str p.2) := atI_nat (j := 1) rfl
    refine ⟨T', _, rfl, SqT.of upd_same, rfl, .int (i : Nat), [.ref c], rfl, .ref c, [], rfl, rfl, ?_⟩
    refine ⟨_, rfl, .ref c, .ty "tuple", .type "tuple", .type "tuple", true, rfl, .ty _, .base (.tup hcp), kit_ty (by decide +kernel), true, rfl, iteF ?_⟩
    refine ⟨_, rfl, c, _, rfl, .inr (SqT.of hcp), rfl, _, rfl, iteF ?_⟩
    refine ⟨_, rfl, c, _, _, _, rfl, rfl, SqT.of hcp, j0, p.1, rfl, r1, r2, true, rfl, iteF ?_⟩
    refine ⟨_, rfl, c, _, _, _, rfl, rfl, SqT.of hcp, j0, _, rfl, a, _, rfl, .inr (SqT.of (sT _ _ (sm _ _ (s1 _ _ ha)))), rfl, flat_ints _, _, rfl, ?_⟩
    rw [inV_int, decide_eq_true (KO.row p hpm)]
    refine iteF ?_
    refine ⟨_, rfl, c, _, _, _, rfl, rfl, SqT.of hcp, j1, _, rfl, r, _, rfl, .inr (SqT.of (sT _ _ (sm _ _ hr1))), rfl, flat_strs _, _, rfl, ?_⟩
    rw [inV_str, decide_eq_true (mem_srt.mpr (KO.ln p hpm))]
    refine iteF ?_
    have e3 : kn.drop i = p :: kn.drop (i + 1) := by
      have e := split_at hpi
      have h2 := congrArg (List.drop i) e
      rw [List.drop_append_of_le_length (by rw [List.length_take]; omega)] at h2
      rw [h2]
      have : (kn.take i).drop i = [] := List.drop_eq_nil_of_le (by rw [List.length_take]; omega)
      rw [this]
      rfl
    have hlp : l < p.1 := hlt p (by rw [e3]; exact List.mem_cons_self)
    refine ⟨_, rfl, c, _, _, _, rfl, rfl, SqT.of hcp, j0, _, rfl, _, _, rfl, rfl, _, rfl, ?_⟩
    rw [decide_eq_false (by omega)]
    refine iteF ?_
    refine ⟨_, rfl, c, _, _, _, rfl, rfl, SqT.of hcp, j0, p.1, _, _, rfl, sm.trans sT, fun p' hp' => ?_⟩
    have hasc := KO.asc
    rw [split_at hpi] at hasc
    exact (List.pairwise_cons.mp (List.pairwise_append.mp hasc).2.1).1 p' hp'
  · rintro σ H2 ⟨l, y, z, rfl, sm, _⟩
    exact q H2 (s1.trans sm)
/-! ### check_asked -/
theorem scAsked : FnScope ["plan", "row", "known"] ["plan", "row", "known"] (defScope (topS 34)) := ⟨rfl, rfl, rfl, by decide +kernel, rfl, by decide +kernel, by decide +kernel⟩
theorem ok_asked {fc fr fk : Addr} {dc dr dk : FuncData} (F : Fun K "check_asked" "check_asked" (topS 34) f fd) (G : Gs mg) (CC : Cal K mg "check_plan" fc dc ["plan"]) (OC : FnOk P w K mg base CX0 8 fc dc ["plan"] spCPlan)
    (CR : Cal K mg "check_row" fr dr ["row"]) (OR : FnOk P w K mg base CX0 3 fr dr ["row"] (spRow K)) (CK : Cal K mg "check_known" fk dk ["plan", "row", "known"]) (OK : FnOk P w K mg base CX0 6 fk dk ["plan", "row", "known"] spKnown) :
    FnOk P w K mg base CX0 9 f fd ["plan", "row", "known"] spKnown := by
  refine F.ok scAsked (fun vs H Q E h => ?_) (fun cdv A outer s H vs Q E hr h => ?_)
  · obtain ⟨v, a, b, t, ns, kn, rfl, _⟩ := h
    rfl
  obtain ⟨v, a, b, t, ns, kn, rfl, hp, T, ha, R, hk, KO, q⟩ := h
  refine ⟨_, pss_cons (ps_expr (pe_call OC hr (by rfl) CC.m CC.kp CC.b .nil pass0 (pa_cons (pv 0) pa_nil)))
    (pss_cons (ps_expr (pe_call OR (hr.mono (by decide)) (by rfl) CR.m CR.kp CR.b .nil pass0 (pa_cons (pv 1) pa_nil)))
    (pss_cons (ps_if (pt_cmpR op_gt (pe_callB call_len_seq (by rfl) G.len_ PySem.boot_len (pa_cons (pv 1) pa_nil)) (pe_gc (v := .int 12) (by rfl) G.small_) (nomark _)) (pss_one ps_never) pss_nil)
    (pss_one (ps_expr (pe_call OK (hr.mono (by decide)) (by rfl) CK.m CK.kp CK.b .nil pass0 (pa_cons (pv 0) (pa_cons (pv 1) (pa_cons (pv 2) pa_nil)))))))), ?_⟩
  refine ⟨_, rfl, v, t, rfl, hp, T, fun H1 s1 => ?_⟩
  refine ⟨_, rfl, a, ns, rfl, s1 _ _ ha, R, fun H2 s2 => ?_⟩
  have s12 := s1.trans s2
  refine ⟨_, rfl, a, _, rfl, .inr (SqT.of (s12 _ _ ha)), _, _, rfl, rfl, _, rfl, ?_⟩
  have hl : ¬ (12 : Int) < (((ns.map V.int).length : Nat) : Int) := by
    rw [List.length_map]
    have := R.len
    omega
  rw [decide_eq_false hl]
  refine iteF ?_
  exact ⟨_, rfl, _, rfl, _, rfl, v, a, b, t, ns, kn, rfl, hp.same s12, T, s12 _ _ ha, R, hk.same s12, KO, fun H3 s3 => q H3 (s12.trans s3)⟩
end
end FW
end
section
/-! W7: part_with, home_of. -/
namespace FW
open PySem PySem.Spec PyProof.Rows L2 FM FR
theorem pg_tupK {X : Cx} (K : PySem.W.Frag) {es : List Expr} {k : Nat} {pos : Pos} {t : TGs} {n : Nat} (hc : X.calm = true) (h : PGs X es t)
    (hn : (assignEach es X.env).length = n := by rfl) (hst : (assignEach es X.env).findIdx? (·.1) = none := by rfl) (hK : X.K = K := by rfl) : PG X (.Tuple es k pos) (gTup K n t) := by
  subst hK
  exact pg_tup hc h hn hst
def rAllQ (K : PySem.W.Frag) : List V → Hp → VK → Prop := fun vs H Q => ∃ (a : Addr) (bs : List Bool), vs = [V.ref a] ∧ SqL K H a (bs.map V.bl) ∧ Q (.bl (bs.all id)) H
theorem cr_allK {X : Cx} (K : PySem.W.Frag) (hc : X.calm = true) (hK : X.K = K := by rfl) : CallR X (.builtin "all") (rAllQ K) := by subst hK; exact cr_all hc
/-- a dict of known people -/
def dkv (kn : List (Int × Str)) : List (Key × V) := kn.map fun p => (Sum.inl p.1, V.str p.2)
theorem valV_dkv (kn : List (Int × Str)) (h : Int) : valV (dkv kn) (Sum.inl h : Key) = (lk kn h).map V.str := by
  unfold valV dkv lk
  induction kn with
  | nil => rfl
  | cons p r ih =>
    rw [List.map_cons, List.find?_cons, List.find?_cons]
    by_cases e : p.1 = h
    · rw [decide_eq_true (by rw [e]), decide_eq_true e]
      rfl
    · rw [decide_eq_false (fun z => e (Sum.inl.inj z)), decide_eq_false e]
      exact ih
/-- a train's known lines; the parts that have them all; the train's home -/
def knl (kn : Int → Option Str) (τ : List Int) : List Str := τ.filterMap kn
def fitAt (ps : List Pn) (ks : List Str) (i : Nat) : Bool := match ps[i]? with
  | some p => ks.all fun l => decide (l ∈ p.lv)
  | none => false
def fits (ps : List Pn) (ks : List Str) : List Nat := (List.range ps.length).filter (fitAt ps ks)
def hm (kn : Int → Option Str) (ps : List Pn) (τ : List Int) : Option (Option Nat) := if knl kn τ = [] then some none else match fits ps (knl kn τ) with
  | [] => none
  | i :: _ => some (some i)
def homeV : Option (Option Nat) → V
  | some none => .non
  | some (some i) => .int (i : Nat)
  | none => .int (-1)
theorem range_filter (p : Nat → Bool) (i : Nat) : (List.range (i + 1)).filter p = (List.range i).filter p ++ if p i = true then [i] else [] := by
  rw [List.range_succ, List.filter_append, List.filter_cons, List.filter_nil]
section
variable {P : Program} {w : World} {K : PySem.W.Frag} {mg : Str → Option Value} {base : Heap} {f : Addr} {fd : FuncData}
/-! ### part_with -/
theorem scWith : FnScope ["parts", "line", "index", "part"] ["parts", "line"] (defScope (topS 35)) := ⟨rfl, rfl, rfl, by decide +kernel, rfl, by decide +kernel, by decide +kernel⟩
def spWith (K : PySem.W.Frag) : Sp := fun vs H Q _ => ∃ (b : Addr) (us : List V) (ps : List Pn) (s : Str), vs = [.ref b, .str s] ∧ SqT K H b us ∧ PlsAt H ps us ∧ (∀ p ∈ ps, Wf p) ∧ (lvs ps).length ≤ 5 ∧ s ∈ lvs ps ∧
  ∀ (i : Nat) (p : Pn) (H' : Hp), ps[i]? = some p → s ∈ p.lv → Same H H' → Q (.int (i : Nat)) H'
theorem ok_with {fl : Addr} {dl : FuncData} (F : Fun K "part_with" "part_with" (topS 35) f fd) (G : Gs mg) (C : Cal K mg "lines_in" fl dl ["plan"]) (O : FnOk P w K mg base CX0 5 fl dl ["plan"] (spLines 5)) :
    FnOk P w K mg base CX0 6 f fd ["parts", "line"] (spWith K) := by
  refine F.ok scWith (fun vs H Q E h => ?_) (fun cdv A outer s H vs Q E hr h => ?_)
  · obtain ⟨b, us, ps, s, rfl, _⟩ := h
    rfl
  obtain ⟨b, us, ps, z, rfl, hb, hps, hw, h5, hz, q⟩ := h
  refine ⟨_, pss_one (ps_ret (pe_ix ix_list (pe_lc (own := [("index", 2), ("part", 3)]) (g := gTup K 2 (gCons (gName 2) (gCons (gName 3) gNil))) (by rfl) scWith.nd (pi_enumT (by rfl) G.enumerate_ (pa_cons (pv 0) pa_nil))
    (blkOk_by (N := ["parts", "line", "index", "part"]) (sc := defScope (topS 35)) (by decide +kernel)) (fun _ _ _ _ _ => pg_tupK K rfl (pgs_cons (pg_name (i := 2) scWith.nd rfl (Or.inl rfl)) (pgs_cons (pg_name (i := 3) scWith.nd rfl (Or.inl rfl)) pgs_nil)))
    (fun _ _ _ _ _ => pts_one (pt_cmpR (op_inK K) (pv 1) (pe_call O hr (by rfl) C.m C.kp C.b .nil pass0 (pa_cons (pv 3) pa_nil)) (by with_unfolding_all rfl))) (fun _ _ _ _ _ => pv 2)) pe_int (fun _ _ => rfl))), ?_⟩
  have hul := hps.len
  have hpl := lvs_ge hw
  refine ⟨_, rfl, b, us, rfl, hb, fun D nD => ?_⟩
  refine lc_enumT (K := K) (a := b) (xs := us) (fun i H2 => Same H H2 ∧ H2 D = some (.lst (((List.range i).filter (fitAt ps [z])).map fun j => V.int (j : Nat)))) ⟨same_upd nD, upd_same⟩
    (fun i H2 _ ⟨sm, _⟩ => sm.seqT hb) ?_ ?_
  · rintro i x T H2 hx ⟨sm, hD⟩ nT
    obtain ⟨p, hpi, hpx⟩ := hps.get hx
    have hpm := List.mem_of_getElem? hpi
    have sT : Same H2 (upd H2 T (.tup [.int (i : Nat), x])) := same_upd nT
    have hle : p.lv.length ≤ 5 := by
      obtain ⟨u1, u2, e⟩ := List.append_of_mem hpm
      rw [e, lvs_append, lvs_cons, List.length_append, List.length_append] at h5
      omega
    refine ⟨T, _, rfl, SqT.of upd_same, rfl, .int (i : Nat), [x], rfl, x, [], rfl, rfl, rfl, ?_⟩
    refine ⟨_, rfl, _, rfl, x, p, rfl, (hpx.same sm).same sT, hw p hpm, hle, by omega, fun r H3 s3 hr3 => ⟨r, _, rfl, .inr (SqT.of hr3), rfl, flat_strs _, _, rfl, ?_⟩⟩
    have hf : fitAt ps [z] i = decide (z ∈ p.lv) := by
      unfold fitAt
      rw [hpi]
      simp
    have hm : inV (.str z) ((srt p.lv).map V.str) = decide (z ∈ p.lv) := by
      rw [inV_str]
      by_cases e : z ∈ p.lv
      · rw [decide_eq_true e, decide_eq_true (mem_srt.mpr e)]
      · rw [decide_eq_false e, decide_eq_false (fun q => e (mem_srt.mp q))]
    rw [hm]
    have hD3 := s3 _ _ (sT _ _ hD)
    rw [range_filter, hf]
    by_cases e : z ∈ p.lv
    · rw [decide_eq_true e]
      refine ⟨_, rfl, _, hD3, ?_, fun c o ec => ?_, ?_⟩
      · rw [List.length_map]
        have := List.length_filter_le (fitAt ps [z]) (List.range i)
        rw [List.length_range] at this
        have hi := lt_of_get hpi
        exact small1000 (by omega)
      · rw [upd_ne (ne_of_none ec nD)]
        exact s3 _ _ (sT _ _ (sm _ _ ec))
      · rw [upd_same, if_pos rfl, List.map_append]
        rfl
    · rw [decide_eq_false e]
      refine ⟨fun c o ec => s3 _ _ (sT _ _ (sm _ _ ec)), ?_⟩
      rw [hD3, if_neg Bool.false_ne_true, List.append_nil]
  · rintro H2 ⟨sm, hD⟩
    rw [hul] at hD
    obtain ⟨p, hpm, hzp⟩ := mem_lvs.mp hz
    obtain ⟨j, hj⟩ := List.getElem?_of_mem hpm
    have hjf : j ∈ (List.range ps.length).filter (fitAt ps [z]) := by
      refine List.mem_filter.mpr ⟨List.mem_range.mpr (lt_of_get hj), ?_⟩
      unfold fitAt
      rw [hj]
      simpa using hzp
    cases hl : (List.range ps.length).filter (fitAt ps [z]) with
    | nil => rw [hl] at hjf; cases hjf
    | cons i r =>
      rw [hl] at hD
      have hi : i ∈ (List.range ps.length).filter (fitAt ps [z]) := by rw [hl]; exact List.mem_cons_self
      have hf := (List.mem_filter.mp hi).2
      have hir := List.mem_range.mp (List.mem_filter.mp hi).1
      have hp' : ps[i]? = some ps[i] := List.getElem?_eq_getElem hir
      unfold fitAt at hf
      rw [hp'] at hf
      exact ⟨D, _, 0, _, rfl, rfl, SqL.of hD, atI_nat (j := 0) rfl, q i ps[i] H2 hp' (by simpa using hf) sm⟩
/-! ### home_of -/
theorem scHome : FnScope ["parts", "train", "known", "lines", "fitting", "height", "index", "part", "line"] ["parts", "train", "known"] (defScope (topS 39)) := ⟨rfl, rfl, rfl, by decide +kernel, rfl, by decide +kernel, by decide +kernel⟩
def spHome (K : PySem.W.Frag) : Sp := fun vs H Q _ => ∃ (b a d : Addr) (us : List V) (ps : List Pn) (τ : List Int) (kn : List (Int × Str)), vs = [.ref b, .ref a, .ref d] ∧ SqT K H b us ∧ PlsAt H ps us ∧ (∀ p ∈ ps, Wf p) ∧ (lvs ps).length ≤ 5 ∧
  H a = some (.tup (τ.map V.int)) ∧ τ.length ≤ 8 ∧ H d = some (.dK (dkv kn)) ∧ ∀ H', Same H H' → Q (homeV (hm (lk kn) ps τ)) H'
abbrev scHomeB : Scope := { kind := PySem.ScopeKind.function, names := [(PySem.Str.ofString ".0", PySem.NameKind.local), (PySem.Str.ofString "index", PySem.NameKind.local), (PySem.Str.ofString "part", PySem.NameKind.cell), (PySem.Str.ofString "all", PySem.NameKind.globalImplicit), (PySem.Str.ofString "lines", PySem.NameKind.cell)], isGenerator := false, isCoroutine := false, more := [] }
theorem ok_home {fl : Addr} {dl : FuncData} (F : Fun K "home_of" "home_of" (topS 39) f fd) (G : Gs mg) (C : Cal K mg "lines_in" fl dl ["plan"]) (O : FnOk P w K mg base CX0 5 fl dl ["plan"] (spLines 5)) :
    FnOk P w K mg base CX0 6 f fd ["parts", "train", "known"] (spHome K) := by
  refine F.ok scHome (fun vs H Q E h => ?_) (fun cdv A outer s H vs Q E hr h => ?_)
  · obtain ⟨b, a, d, us, ps, τ, kn, rfl, _⟩ := h
    rfl
  obtain ⟨b, a, d, us, ps, τ, kn, rfl, hb, hps, hw, h5, ha, h8, hd, q⟩ := h
  refine ⟨_, pss_cons (ps_set (i := 3) scHome.nd rfl (.inr rfl) (pe_lc (own := [("height", 5)]) (g := gName 5) (by rfl) scHome.nd (pi_tup (pv 1)) (blkOk_by (N := ["parts", "train", "known", "lines", "fitting", "height", "index", "part", "line"]) (sc := defScope (topS 39)) (by decide +kernel))
      (fun _ _ _ _ _ => pg_name (i := 5) scHome.nd rfl (Or.inl rfl)) (fun _ _ _ _ _ => pts_one (pt_cmp (pc_din (hu_of hr) (pv 5) (pv 2)))) (fun _ _ _ _ _ => pe_dget (hu_of hr) (pv 2) (pv 5) (fun _ _ => rfl))))
    (pss_cons (ps_if (pt_cmpR (op_eqE hr.units0) (pv 3) (pe_lst pa_nil) (nomark _)) (pss_one (ps_ret pe_non)) pss_nil)
    (pss_cons (ps_setLc (i := 4) (own := [("index", 6), ("part", 7)]) (g := gTup K 2 (gCons (gName 6) (gCons (gName 7) gNil))) (by rfl) scHome.nd rfl rfl (sw_true rfl rfl rfl (by decide +kernel)) (pi_enumT (by rfl) G.enumerate_ (pa_cons (pv 0) pa_nil))
      (blkOk_by (N := ["parts", "train", "known", "lines", "fitting", "height", "index", "part", "line"]) (sc := defScope (topS 39)) (by decide +kernel))
      (fun _ _ _ _ _ => pg_tupK K rfl (pgs_cons (pg_name (i := 6) scHome.nd rfl (Or.inl rfl)) (pgs_cons (pg_name (i := 7) scHome.nd rfl (Or.inr rfl)) pgs_nil)))
      (fun _ _ _ _ _ => pts_one (pt_val (pe_callB (cr_allK K rfl) (by rfl) G.all_ (by decide +kernel) (pa_cons (pe_lc (own := [("line", 8)]) (g := gName 8) (by rfl) scHome.nd (pi_listK K (pv 3)) (blkOk_by (N := ["parts", "train", "known", "lines", "fitting", "height", "index", "part", "line"]) (sc := scHomeB) (by decide +kernel))
        (fun _ _ _ _ _ => pg_name (i := 8) scHome.nd rfl (Or.inl rfl)) (fun _ _ _ _ _ => pts_nil) (fun _ _ _ _ _ => pe_cmpR (op_inK K) (pv 8) (pe_call O hr (by rfl) C.m C.kp C.b .nil pass0 (pa_cons (pv 7) pa_nil)) (by with_unfolding_all rfl))) pa_nil)))) (fun _ _ _ _ _ => pv 6))
    (pss_one (ps_ret (pe_ifExp (pt_cmpR (op_neE hr.units0) (pv 4) (pe_lst pa_nil) (nomark _)) (pe_ix ix_list (pv 4) pe_int (fun _ _ => rfl)) (pe_un un_neg pe_int)))))), ?_⟩
  have hul := hps.len
  have hpl := lvs_ge hw
  refine ⟨_, rfl, a, rfl, ⟨_, SqT.of ha⟩, fun D nD => ?_⟩
  refine turn_tup (K := K) (a := a) (xs := τ.map V.int) (fun i H2 => Same H H2 ∧ H2 D = some (.lst ((knl (lk kn) (τ.take i)).map V.str))) ⟨same_upd nD, by rw [upd_same]; rfl⟩
    (fun i H2 _ ⟨sm, _⟩ => SqT.of (sm _ _ ha)) ?_ ?_
  · rintro i x H2 hx ⟨sm, hD⟩
    obtain ⟨v, hv, rfl⟩ := map_get hx
    refine ⟨rfl, _, rfl, _, rfl, d, _, rfl, DGet.k (k := Sum.inl v) (sm _ _ hd), _, rfl, ?_⟩
    have et : knl (lk kn) (τ.take (i + 1)) = knl (lk kn) (τ.take i) ++ (match lk kn v with | some l => [l] | none => []) := by
      unfold knl
      rw [List.take_add_one, hv, List.filterMap_append]
      show _ ++ [v].filterMap (lk kn) = _
      rw [List.filterMap_cons]
      cases lk kn v <;> rfl
    rw [et, valV_dkv]
    cases hk : lk kn v with
    | none =>
      refine iteF ⟨sm, ?_⟩
      rw [hD]
      simp
    | some l =>
      refine iteT ⟨_, rfl, _, rfl, d, .str l, rfl, ?_, _, hD, ?_, fun c o ec => ?_, ?_⟩
      · have g := DGet.k (k := Sum.inl v) (sm _ _ hd)
        rw [valV_dkv, hk] at g
        exact g
      · rw [List.length_map]
        have h1 := List.length_filterMap_le (lk kn) (τ.take i)
        rw [List.length_take] at h1
        unfold knl
        exact small1000 (by omega)
      · rw [upd_ne (ne_of_none ec nD)]
        exact sm _ _ ec
      · rw [upd_same, List.map_append]
        rfl
  · rintro H2 ⟨sm, hD⟩
    rw [List.length_map, List.take_length] at hD
    have hkl : (knl (lk kn) τ).length ≤ 8 := Nat.le_trans (List.length_filterMap_le _ _) h8
    -- lines == []
    refine ⟨_, rfl, Nat.zero_le _, fun e0 ne0 => ⟨D, e0, _, rfl, rfl, SqL.of (by rw [upd_ne (ne_of_none hD ne0)]; exact hD), SqL.of upd_same, _, rfl, ?_⟩⟩
    have s1 : Same H2 (upd H2 e0 (.lst [])) := same_upd ne0
    by_cases hn : knl (lk kn) τ = []
    · rw [decide_eq_true (by rw [hn]; rfl)]
      refine iteT ?_
      have e : hm (lk kn) ps τ = some none := by
        unfold hm
        rw [if_pos hn]
      rw [e] at q
      exact q _ (sm.trans s1)
    rw [decide_eq_false (by intro z; exact hn (List.map_eq_nil_iff.mp z))]
    refine iteF ?_
    have eh : hm (lk kn) ps τ = match fits ps (knl (lk kn) τ) with | [] => none | i :: _ => some (some i) := by
      unfold hm
      rw [if_neg hn]
    rw [eh] at q
    generalize knl (lk kn) τ = ks at *
    refine ⟨_, rfl, b, us, rfl, (sm.trans s1).seqT hb, fun D2 nD2 => ?_⟩
    have hDx := s1 _ _ hD
    refine lc_enumT (K := K) (a := b) (xs := us) (fun i H3 => Same (upd H2 e0 (.lst [])) H3 ∧ H3 D2 = some (.lst (((List.range i).filter (fitAt ps ks)).map fun j => V.int (j : Nat)))) ⟨same_upd nD2, upd_same⟩
      (fun i H3 _ ⟨sm3, _⟩ => (sm.trans (s1.trans sm3)).seqT hb) ?_ ?_
    · rintro i x T H3 hx ⟨sm3, hD3⟩ nT
      obtain ⟨p, hpi, hpx⟩ := hps.get hx
      have hpm := List.mem_of_getElem? hpi
      have sT : Same H3 (upd H3 T (.tup [.int (i : Nat), x])) := same_upd nT
      have s03 : Same H (upd H3 T (.tup [.int (i : Nat), x])) := sm.trans (s1.trans (sm3.trans sT))
      have hle : p.lv.length ≤ 5 := by
        obtain ⟨u1, u2, e⟩ := List.append_of_mem hpm
        rw [e, lvs_append, lvs_cons, List.length_append, List.length_append] at h5
        omega
      have hDT := sT _ _ (sm3 _ _ hDx)
      refine ⟨T, _, rfl, SqT.of upd_same, rfl, .int (i : Nat), [x], rfl, x, [], rfl, rfl, rfl, ?_⟩
      refine ⟨_, rfl, D, rfl, ⟨_, SqL.of hDT⟩, fun D3 nD3 => ?_⟩
      refine turn_list (K := K) (a := D) (xs := ks.map V.str) (fun j H4 => Same (upd H3 T (.tup [.int (i : Nat), x])) H4 ∧ H4 D3 = some (.lst (((ks.take j).map fun l => decide (l ∈ p.lv)).map V.bl))) ⟨same_upd nD3, upd_same⟩
        (fun j H4 _ ⟨sm4, _⟩ => SqL.of (sm4 _ _ hDT)) ?_ ?_
      · rintro j y H4 hy ⟨sm4, hD4⟩
        obtain ⟨l, hl, rfl⟩ := map_get hy
        refine ⟨rfl, _, rfl, _, rfl, x, p, rfl, hpx.same (s03.trans sm4), hw p hpm, hle, by omega, fun r H5 s5 hr5 => ⟨r, _, rfl, .inr (SqT.of hr5), rfl, flat_strs _, ?_⟩⟩
        refine ⟨_, s5 _ _ hD4, ?_, fun c o ec => ?_, ?_⟩
        · rw [List.length_map, List.length_map, List.length_take]
          exact small1000 (by omega)
        · rw [upd_ne (ne_of_none ec nD3)]
          exact s5 _ _ (sm4 _ _ ec)
        · have hm : inV (.str l) ((srt p.lv).map V.str) = decide (l ∈ p.lv) := by
            rw [inV_str]
            by_cases e : l ∈ p.lv
            · rw [decide_eq_true e, decide_eq_true (mem_srt.mpr e)]
            · rw [decide_eq_false e, decide_eq_false (fun q => e (mem_srt.mp q))]
          rw [upd_same, hm, List.take_add_one, hl, List.map_append, List.map_append]
          rfl
      · rintro H4 ⟨sm4, hD4⟩
        rw [List.length_map, List.take_length] at hD4
        refine ⟨D3, _, rfl, SqL.of hD4, _, rfl, ?_⟩
        have hf : (ks.map fun l => decide (l ∈ p.lv)).all id = fitAt ps ks i := by
          unfold fitAt
          rw [hpi, List.all_map]
          rfl
        rw [hf, range_filter]
        have hD24 := sm4 _ _ (sT _ _ hD3)
        cases hfi : fitAt ps ks i with
        | true =>
          refine iteT ⟨_, rfl, _, hD24, ?_, fun c o ec => ?_, ?_⟩
          · rw [List.length_map]
            have := List.length_filter_le (fitAt ps ks) (List.range i)
            rw [List.length_range] at this
            have hi := lt_of_get hpi
            exact small1000 (by omega)
          · rw [upd_ne (ne_of_none ec nD2)]
            exact sm4 _ _ (sT _ _ (sm3 _ _ ec))
          · rw [upd_same, if_pos rfl, List.map_append]
            rfl
        | false =>
          refine iteF ⟨sm3.trans (sT.trans sm4), ?_⟩
          rw [hD24, if_neg Bool.false_ne_true, List.append_nil]
    · rintro H3 ⟨sm3, hD3⟩
      rw [hul] at hD3
      have hD3' : H3 D2 = some (.lst ((fits ps ks).map fun j => V.int (j : Nat))) := hD3
      refine ⟨_, rfl, Nat.zero_le _, fun e1 ne1 => ⟨D2, e1, _, rfl, rfl, SqL.of (by rw [upd_ne (ne_of_none hD3 ne1)]; exact hD3'), SqL.of upd_same, _, rfl, ?_⟩⟩
      have s4 : Same H3 (upd H3 e1 (.lst [])) := same_upd ne1
      have s5 := sm.trans (s1.trans (sm3.trans s4))
      cases hfs : fits ps ks with
      | nil =>
        rw [hfs] at q
        exact ⟨1, rfl, q _ s5⟩
      | cons i r =>
        rw [hfs] at q hD3'
        exact ⟨_, rfl, D2, _, 0, _, rfl, rfl, SqL.of (s4 _ _ hD3'), atI_nat (j := 0) rfl, q _ s5⟩
end
end FW
end
section
/-! W8: people_from, ways_together. -/
namespace FW
open PySem PySem.Spec PyProof.Rows L2 FM FR RZ
/-! ### bits -/
theorem band_nat (a b : Nat) : Builtin.bitAnd (a : Int) (b : Int) = ((a &&& b : Nat) : Int) := by
  have h1 : decide ((0 : Int) ≤ (a : Int)) = true := decide_eq_true (by omega)
  have h2 : decide ((0 : Int) ≤ (b : Int)) = true := decide_eq_true (by omega)
  unfold Builtin.bitAnd
  rw [h1, h2]
  rfl
theorem xor_and_sum : ∀ (n a b : Nat), a ≤ n → (a ^^^ b) + 2 * (a &&& b) = a + b
  | 0, a, b, h => by
    have : a = 0 := by omega
    subst this
    simp
  | n + 1, a, b, h => by
    by_cases h0 : a = 0
    · subst h0
      simp
    have ih := xor_and_sum n (a / 2) (b / 2) (by omega)
    have hx : ∀ c : Nat, c = 2 * (c / 2) + (c % 2 == 1).toNat := fun c => by
      rcases Nat.mod_two_eq_zero_or_one c with z | z
      · rw [z]; simp; omega
      · rw [z]; simp; omega
    have e1 := hx a
    have e2 := hx b
    have x1 := xor_bit (a / 2) (b / 2) (a % 2 == 1) (b % 2 == 1)
    have x2 := and_bit (a / 2) (b / 2) (a % 2 == 1) (b % 2 == 1)
    rw [← e1, ← e2] at x1 x2
    rw [x1, x2]
    cases ha : (a % 2 == 1) <;> cases hb : (b % 2 == 1) <;> rw [ha] at e1 <;> rw [hb] at e2 <;> simp at e1 e2 ⊢ <;> omega
theorem bxor_nat (a b : Nat) : Builtin.bitXor (a : Int) (b : Int) = ((a ^^^ b : Nat) : Int) := by
  rw [PyProof.Rows.bitXor_and, band_nat]
  have := xor_and_sum a a b (Nat.le_refl a)
  omega
theorem and_pow (m b : Nat) : ((m &&& 2 ^ b : Nat) : Int) > 0 ↔ m.testBit b = true := by
  cases ht : m.testBit b with
  | true =>
    have e : m &&& 2 ^ b = 2 ^ b := by
      apply Nat.eq_of_testBit_eq
      intro i
      rw [Nat.testBit_and, Nat.testBit_two_pow]
      by_cases h : b = i
      · subst h
        rw [ht]
        rfl
      · rw [decide_eq_false h, Bool.and_false]
    rw [e]
    have := Nat.pow_pos (n := b) (show 0 < 2 by decide)
    exact ⟨fun _ => rfl, fun _ => by omega⟩
  | false =>
    have e : m &&& 2 ^ b = 0 := by
      apply Nat.eq_of_testBit_eq
      intro i
      rw [Nat.testBit_and, Nat.testBit_two_pow, Nat.zero_testBit]
      by_cases h : b = i
      · subst h
        rw [ht]
        rfl
      · rw [decide_eq_false h, Bool.and_false]
    rw [e]
    exact ⟨fun z => absurd z (by decide), fun z => nomatch z⟩
section
variable {P : Program} {w : World} {K : PySem.W.Frag} {mg : Str → Option Value} {base : Heap} {f : Addr} {fd : FuncData}
/-! ### people_from -/
abbrev Its' := List (List Int × Option Nat)
def hv (x : List Int × Option Nat) : V := homeV (some x.2)
theorem scFrom : FnScope ["trains", "homes", "index", "mask", "people", "bit", "train", "home"] ["trains", "homes", "index", "mask"] (defScope (topS 40)) := ⟨rfl, rfl, rfl, by decide +kernel, rfl, by decide +kernel, by decide +kernel⟩
def spFrom : Sp := fun vs H Q _ => ∃ (lt lh : Addr) (as : List Addr) (its : Its') (idx mask : Nat), vs = [.ref lt, .ref lh, .int (idx : Nat), .int (mask : Nat)] ∧ H lt = some (.lst (as.map V.ref)) ∧ TpsAt H as (its.map (·.1)) ∧ H lh = some (.lst (its.map hv)) ∧
  (its.map (·.1)).flatten.length ≤ 8 ∧ ∀ (r : Addr) (H' : Hp), Same H H' → H' r = some (.tup ((pfl idx mask its 0).map V.int)) → Q (.ref r) H'
theorem pfl_len (idx mask : Nat) : ∀ (its : Its') (b : Nat), (pfl idx mask its b).length ≤ (its.map (·.1)).flatten.length
  | [], b => Nat.le_refl _
  | (τ, some j) :: r, b => by
    have ih := pfl_len idx mask r b
    unfold pfl
    rw [List.map_cons, List.flatten_cons, List.length_append, List.length_append]
    show _ ≤ τ.length + _
    split
    · omega
    · rw [List.length_nil]
      omega
  | (τ, none) :: r, b => by
    have ih := pfl_len idx mask r (b + 1)
    unfold pfl
    rw [List.map_cons, List.flatten_cons, List.length_append, List.length_append]
    show _ ≤ τ.length + _
    split
    · omega
    · rw [List.length_nil]
      omega
theorem drop_at {α : Type} {l : List α} {i : Nat} {p : α} (h : l[i]? = some p) : l.drop i = p :: l.drop (i + 1) := by
  have e := split_at h
  have h2 := congrArg (List.drop i) e
  have hi := lt_of_get h
  rw [List.drop_append_of_le_length (by rw [List.length_take]; omega)] at h2
  rw [h2]
  have : (l.take i).drop i = [] := List.drop_eq_nil_of_le (by rw [List.length_take]; omega)
  rw [this]
  rfl
theorem pfl_some (idx mask : Nat) (τ : List Int) (j : Nat) (r : Its') (b : Nat) : pfl idx mask ((τ, some j) :: r) b = (if j = idx then τ else []) ++ pfl idx mask r b := by rw [pfl]
theorem pfl_none (idx mask : Nat) (τ : List Int) (r : Its') (b : Nat) : pfl idx mask ((τ, none) :: r) b = (if mask.testBit b then τ else []) ++ pfl idx mask r (b + 1) := by rw [pfl]
theorem pfl_nil (idx mask b : Nat) : pfl idx mask [] b = [] := by rw [pfl]
theorem ok_from (F : Fun K "people_from" "people_from" (topS 40) f fd) (G : Gs mg) : FnOk P w K mg base CX0 1 f fd ["trains", "homes", "index", "mask"] spFrom := by
  refine F.ok scFrom (fun vs H Q E h => ?_) (fun cdv A outer s H vs Q E hr h => ?_)
  · obtain ⟨lt, lh, as, its, idx, mask, rfl, _⟩ := h
    rfl
  obtain ⟨lt, lh, as, its, idx, mask, rfl, hlt, htp, hlh, h8, q⟩ := h
  refine ⟨_, pss_cons (ps_asg (pe_tup (pa_cons (pe_tup pa_nil) (pa_cons pe_int pa_nil))) (pg_tup rfl (pgs_cons (pg_name (i := 4) scFrom.nd rfl (.inl rfl)) (pgs_cons (pg_name (i := 5) scFrom.nd rfl (.inl rfl)) pgs_nil))))
    (pss_cons (ps_for PassesOwn.never rfl (pi_zipA (by rfl) G.zip_ (pa_cons (pv 0) (pa_cons (pv 1) pa_nil)))
      (pg_tup rfl (pgs_cons (pg_name (i := 6) scFrom.nd rfl (.inl rfl)) (pgs_cons (pg_name (i := 7) scFrom.nd rfl (.inl rfl)) pgs_nil)))
      (pss_cons (ps_if (pw_or (pt_cmpR op_eq (pv 7) (pv 2) (nomark _)) (pw_or1 (pw_and (pt_cmp (pc_isN (pv 7))) (pw_and1 (pt_cmpR op_gt (pe_op op_and (pv 3) (pv 5)) pe_int (nomark _)))).pt)).pt
        (pss_one (ps_set (i := 4) scFrom.nd rfl (.inl rfl) (pe_op op_catA (pv 4) (pv 6)))) pss_nil)
      (pss_one (ps_if (pt_cmp (pc_isN (pv 7))) (pss_one (ps_set (i := 5) scFrom.nd rfl (.inl rfl) (pe_op op_mul (pv 5) pe_int))) pss_nil))))
    (pss_one (ps_ret (pv 4)))), ?_⟩
  refine ⟨Nat.zero_le _, fun p0 np0 => ⟨(by show 2 ≤ sizeLine; decide), fun p1 np1 => ⟨p1, _, rfl, SqT.of upd_same, rfl, .ref p0, [.int 1], rfl, .int 1, [], rfl, rfl, ?_⟩⟩⟩
  have s0 : Same H (upd (upd H p0 (.tup [])) p1 (.tup [.ref p0, .int 1])) := (same_upd np0).trans (same_upd np1)
  have hal : as.length = its.length := by
    rw [htp.1, List.length_map]
  refine ⟨_, rfl, _, rfl, lt, lh, _, _, rfl, .inl ⟨SqL.of (s0 _ _ hlt), SqL.of (s0 _ _ hlh), for_zipL (K := K) (a := lt) (b := lh) (xs := as.map V.ref) (ys := its.map hv) (by rw [List.length_map, List.length_map, hal])
    (fun i σ H2 => ∃ (p : Addr) (b : Nat) (y z : Option V) (acc : List Int), σ = [some (.ref lt), some (.ref lh), some (.int (idx : Nat)), some (.int (mask : Nat)), some (.ref p), some (.int ((2 ^ b : Nat) : Int)), y, z] ∧ Same H H2 ∧ H2 p = some (.tup (acc.map V.int)) ∧
      acc ++ pfl idx mask (its.drop i) b = pfl idx mask its 0 ∧ b ≤ i)
    ⟨p0, 0, none, none, [], rfl, s0, by rw [upd_ne (ne_of_none upd_same np1)]; exact upd_same, rfl, Nat.le_refl _⟩ (fun i σ H2 ⟨_, _, _, _, _, _, sm, _⟩ => ⟨SqL.of (sm _ _ hlt), SqL.of (sm _ _ hlh)⟩) ?_ ?_⟩⟩
  · rintro i x y' T σ H2 hx hy ⟨p, b, y, z, acc, rfl, sm, hp, hacc, hbi⟩ nT
    obtain ⟨a, ha, rfl⟩ := map_get hx
    obtain ⟨⟨τ, o⟩, hi, rfl⟩ := map_get hy
    have sT : Same H2 (upd H2 T (.tup [.ref a, hv (τ, o)])) := same_upd nT
    have hτ := sT _ _ (sm _ _ (htp.2 i a τ ha (get_map (f := fun x : List Int × Option Nat => x.1) hi)))
    have hpT := sT _ _ hp
    have hil := lt_of_get hi
    have hb8 : its.length ≤ 8 ∨ True := .inr trivial
    rw [drop_at hi] at hacc
    have hlen : acc.length + τ.length ≤ 8 ∨ True := .inr trivial
    have hsz : acc.length ≤ 8 := by
      have h1 := congrArg List.length hacc
      have h2 := pfl_len idx mask its 0
      rw [List.length_append] at h1
      omega
    have hτ8 : τ.length ≤ 8 := by
      have : τ ∈ its.map (·.1) := List.mem_map.mpr ⟨_, List.mem_of_getElem? hi, rfl⟩
      obtain ⟨u1, u2, e⟩ := List.append_of_mem this
      rw [e, List.flatten_append, List.flatten_cons, List.length_append, List.length_append] at h8
      omega
    refine ⟨T, _, rfl, SqT.of upd_same, rfl, .ref a, [hv (τ, o)], rfl, hv (τ, o), [], rfl, rfl, ?_⟩
    -- people + train, as the answer wants it
    have cat : ∀ (H3 : Hp) (R : VK), Same (upd H2 T (.tup [.ref a, hv (τ, o)])) H3 → (∀ (r : Addr) (H4 : Hp), Same H3 H4 → H4 r = some (.tup ((acc ++ τ).map V.int)) → R (.ref r) H4) → rCatA K (.ref p) (.ref a) H3 R := by
      intro H3 R s3 hR
      refine ⟨p, a, acc.map V.int, τ.map V.int, rfl, rfl, SqT.of (s3 _ _ hpT), SqT.of (s3 _ _ hτ), by rw [List.length_map, List.length_map]; exact small (by omega), fun e => ?_, fun _ e => ?_, fun _ _ r nr => ?_⟩
      · refine hR a H3 (Same.refl _) ?_
        rw [List.map_append, e]
        exact s3 _ _ hτ
      · refine hR p H3 (Same.refl _) ?_
        rw [List.map_append, e, List.append_nil]
        exact s3 _ _ hpT
      · refine hR r _ (same_upd nr) ?_
        rw [upd_same, List.map_append]
    cases o with
    | some j =>
      have hh : hv (τ, some j) = .int (j : Nat) := rfl
      rw [hh] at cat hτ hpT sT ⊢
      refine ⟨_, rfl, _, rfl, rfl, _, rfl, ?_⟩
      rw [pfl_some] at hacc
      by_cases hj : j = idx
      · subst hj
        rw [decide_eq_true rfl]
        refine iteT (iteT ?_)
        refine ⟨_, rfl, _, rfl, cat _ _ (Same.refl _) fun r H4 s4 hr4 => ?_⟩
        refine ⟨_, rfl, _, rfl, iteF ?_⟩
        refine ⟨r, b, _, _, acc ++ τ, rfl, sm.trans (sT.trans s4), hr4, ?_, by omega⟩
        rw [if_pos rfl] at hacc
        rw [List.append_assoc]
        exact hacc
      · rw [decide_eq_false (fun z => hj (by injection z with z; omega))]
        refine iteF ⟨_, rfl, _, rfl, iteF (iteF ?_)⟩
        refine ⟨_, rfl, _, rfl, iteF ?_⟩
        refine ⟨p, b, _, _, acc, rfl, sm.trans sT, hpT, ?_, by omega⟩
        rw [if_neg hj, List.nil_append] at hacc
        exact hacc
    | none =>
      have hh : hv (τ, none) = .non := rfl
      rw [hh] at cat hτ hpT sT ⊢
      refine ⟨_, rfl, _, rfl, rfl, _, rfl, iteF ⟨_, rfl, _, rfl, iteT ⟨_, rfl, _, rfl, _, _, rfl, rfl, _, _, rfl, rfl, _, rfl, ?_⟩⟩⟩
      rw [pfl_none] at hacc
      have e2 : decide ((0 : Int) < Builtin.bitAnd (mask : Nat) ((2 ^ b : Nat) : Int)) = mask.testBit b := by
        rw [band_nat]
        cases ht : mask.testBit b with
        | true => exact decide_eq_true ((and_pow mask b).mpr ht)
        | false =>
          refine decide_eq_false fun z => ?_
          rw [(and_pow mask b).mp z] at ht
          cases ht
      have hpw : ((2 ^ b : Nat) : Int) * 2 = ((2 ^ (b + 1) : Nat) : Int) := by rw [Nat.pow_succ]; simp
      rw [e2]
      cases ht : mask.testBit b with
      | true =>
        refine iteT ?_
        refine ⟨_, rfl, _, rfl, cat _ _ (Same.refl _) fun r H4 s4 hr4 => ?_⟩
        refine ⟨_, rfl, _, rfl, iteT ⟨_, rfl, _, _, rfl, rfl, .inr ⟨by decide, by decide⟩, ?_⟩⟩
        refine ⟨r, b + 1, _, _, acc ++ τ, (by
          show [some (V.ref lt), some (V.ref lh), some (V.int (idx : Nat)), some (V.int (mask : Nat)), some (V.ref r), some (V.int (((2 ^ b : Nat) : Int) * 2)), some (V.ref a), some V.non] = _
          rw [hpw]), sm.trans (sT.trans s4), hr4, ?_, by omega⟩
        rw [if_pos ht] at hacc
        rw [List.append_assoc]
        exact hacc
      | false =>
        refine iteF ?_
        refine ⟨_, rfl, _, rfl, iteT ⟨_, rfl, _, _, rfl, rfl, .inr ⟨by decide, by decide⟩, ?_⟩⟩
        refine ⟨p, b + 1, _, _, acc, (by
          show [some (V.ref lt), some (V.ref lh), some (V.int (idx : Nat)), some (V.int (mask : Nat)), some (V.ref p), some (V.int (((2 ^ b : Nat) : Int) * 2)), some (V.ref a), some V.non] = _
          rw [hpw]), sm.trans sT, hpT, ?_, by omega⟩
        rw [ht, if_neg Bool.false_ne_true, List.nil_append] at hacc
        exact hacc
  · rintro σ H2 ⟨p, b, y, z, acc, rfl, sm, hp, hacc, _⟩
    rw [List.length_map, hal, List.drop_length] at hacc
    rw [pfl_nil, List.append_nil] at hacc
    rw [hacc] at hp
    exact ⟨_, rfl, q p H2 sm hp⟩
/-! ### ways_together -/
/-- a table of numbers -/
def tab (n : Nat) (g : Nat → Nat) : List V := (List.range n).map fun x => V.int (g x : Nat)
theorem tab_len (n : Nat) (g : Nat → Nat) : (tab n g).length = n := by unfold tab; rw [List.length_map, List.length_range]
theorem tab_at {n x : Nat} (g : Nat → Nat) (h : x < n) : atI (tab n g) ((x : Nat) : Int) = some (.int (g x : Nat)) := atI_nat (by
  unfold tab
  rw [List.getElem?_map, List.getElem?_range h]
  rfl)
theorem scTog : FnScope ["first", "second", "mask", "total", "part"] ["first", "second", "mask"] (defScope (topS 41)) := ⟨rfl, rfl, rfl, by decide +kernel, rfl, by decide +kernel, by decide +kernel⟩
def spTog (K : PySem.W.Frag) : Sp := fun vs H Q _ => ∃ (a b : Addr) (n m : Nat) (g h : Nat → Nat), vs = [.ref a, .ref b, .int (m : Nat)] ∧ SqL K H a (tab n g) ∧ SqL K H b (tab n h) ∧ m < n ∧ (∀ x, x < n → g x < 2 ^ 63) ∧ Q (.int (conv g h m : Nat)) H
theorem ok_tog (F : Fun K "ways_together" "ways_together" (topS 41) f fd) : FnOk P w K mg base CX0 1 f fd ["first", "second", "mask"] (spTog K) := by
  refine F.ok scTog (fun vs H Q E h => ?_) (fun cdv A outer s H vs Q E hr h => ?_)
  · obtain ⟨a, b, n, m, g, h, rfl, _⟩ := h
    rfl
  obtain ⟨a, b, n, m, g, h, rfl, ha, hb, hm, hg, q⟩ := h
  refine ⟨_, pss_cons (ps_par (i := 3) (j := 4) rfl scTog.nd rfl rfl (by decide) rfl rfl (pa_cons (pe_op op_mul (pe_ix ix_list (pv 0) (pv 2) (fun _ _ => rfl)) (pe_ix ix_list (pv 1) pe_int (fun _ _ => rfl))) (pa_cons (pv 2) pa_nil)) rfl)
    (pss_cons (ps_while PassesOwn.never (pt_cmpR op_gt (pv 4) pe_int (nomark _))
      (pss_cons (ps_set (i := 3) scTog.nd rfl (.inl rfl) (pe_op op_add (pv 3) (pe_op op_mul (pe_ix ix_list (pv 0) (pe_op op_xor (pv 2) (pv 4)) (fun _ _ => rfl)) (pe_ix ix_list (pv 1) (pv 4) (fun _ _ => rfl)))))
      (pss_one (ps_set (i := 4) scTog.nd rfl (.inl rfl) (pe_op op_and (pe_op op_sub (pv 4) pe_int) (pv 2))))))
    (pss_one (ps_ret (pv 3)))), ?_⟩
  have big : ∀ x, x < n → CMul ((g x : Nat) : Int) ((h 0 : Nat) : Int) ∧ -(2 ^ 64) < ((g x : Nat) : Int) ∧ ((g x : Nat) : Int) < 2 ^ 64 := fun x hx => by
    have h1 := hg x hx
    have h2 : -(2 ^ 64) < ((g x : Nat) : Int) ∧ ((g x : Nat) : Int) < 2 ^ 64 := ⟨by omega, by omega⟩
    exact ⟨.inl h2, h2⟩
  refine ⟨_, rfl, _, rfl, a, _, _, _, rfl, rfl, ha, tab_at g hm, _, rfl, b, _, 0, _, rfl, rfl, hb, tab_at (x := 0) h (by omega), _, _, rfl, rfl, (big m hm).1, _, rfl, _, _, rfl, ?_⟩
  refine while_by (fun (σ : L2.St) (H2 : Hp) => ∃ (t p : Nat) (pre post : List Nat), σ = [some (.ref a), some (.ref b), some (.int (m : Nat)), some (.int (t : Nat)), some (.int (p : Nat))] ∧ H2 = H ∧ subs m = pre ++ p :: post ∧ t = g m * h 0 + sumOf pre (fun t => g (m ^^^ t) * h t))
    (fun (σ : L2.St) _ => match σ[4]? with | some (some (V.int i)) => i.toNat | _ => 0) ?_ ?_ (fun σ H Q Q' hq c => ?_)
  · obtain ⟨r, e⟩ := subs_head m
    exact ⟨g m * h 0, m, [], r, rfl, rfl, e, by rw [sumOf_nil, Nat.add_zero]⟩
  · rintro σ H2 ⟨t, p, pre, post, rfl, rfl, hs, ht⟩
    have hpm : p ∈ subs m := by rw [hs]; simp
    obtain ⟨p1, p2, p3⟩ := subs_sub m p hpm
    refine ⟨_, rfl, _, _, rfl, rfl, _, rfl, ?_⟩
    rcases (subs_desc m).at pre p post hs with ⟨rfl, rfl⟩ | ⟨hp0, r, hpost⟩
    · refine iteF ⟨_, rfl, ?_⟩
      have e : conv g h m = t := by
        unfold conv
        rw [hs, sumOf_append, sumOf_cons, sumOf_nil, ht]
        simp
        omega
      rw [e] at q
      exact q
    · rw [decide_eq_true (show (0 : Int) < ((p : Nat) : Int) by omega)]
      refine iteT ?_
      have hx : m ^^^ p < n := by omega
      have hp : p < n := by omega
      refine ⟨_, rfl, _, rfl, _, rfl, _, rfl, _, _, rfl, rfl, a, _, _, _, rfl, rfl, ha, by rw [bxor_nat]; exact tab_at g hx, _, rfl, _, rfl, b, _, _, _, rfl, rfl, hb, tab_at h hp, _, _, rfl, rfl, .inl (big _ hx).2, _, _, rfl, rfl, ?_⟩
      refine ⟨_, rfl, _, _, rfl, rfl, _, rfl, _, _, rfl, rfl, ?_⟩
      have e1 : ((p : Nat) : Int) - 1 = ((p - 1 : Nat) : Int) := by omega
      have e2 : Builtin.bitAnd (((p : Nat) : Int) - 1) ((m : Nat) : Int) = (((p - 1) &&& m : Nat) : Int) := by rw [e1, band_nat]
      have e3 : ((t : Nat) : Int) + ((g (m ^^^ p) : Nat) : Int) * ((h p : Nat) : Int) = ((t + g (m ^^^ p) * h p : Nat) : Int) := by push_cast; rfl
      refine ⟨⟨t + g (m ^^^ p) * h p, (p - 1) &&& m, pre ++ [p], r, ?_, rfl, ?_, ?_⟩, ?_⟩
      · show [some (V.ref a), some (V.ref b), some (V.int (m : Nat)), some (V.int (((t : Nat) : Int) + ((g (m ^^^ p) : Nat) : Int) * ((h p : Nat) : Int))), some (V.int (Builtin.bitAnd (((p : Nat) : Int) - 1) ((m : Nat) : Int)))] = _
        rw [e2, e3]
      · rw [hs, hpost, List.append_assoc]
        rfl
      · rw [sumOf_append, sumOf_cons, sumOf_nil, ht]
        omega
      · show (Builtin.bitAnd (((p : Nat) : Int) - 1) ((m : Nat) : Int)).toNat < ((p : Nat) : Int).toNat
        rw [e2]
        have : (p - 1) &&& m ≤ p - 1 := Nat.and_le_left
        omega
  · obtain ⟨v, hv1, i, j, hi, hj, k, hk, c⟩ := c
    exact ⟨v, hv1, i, j, hi, hj, k, hk, hq _ _ c⟩
end
end FW
end
section
/-! M8: what ways_to's walk needs of the mathematics. -/
namespace FW
open PySem FM
theorem numbered_snoc (ps : List Pn) (p : Pn) : ∀ i : Nat, numbered (ps ++ [p]) i = numbered ps i ++ [(p, i + ps.length, [])] := by
  induction ps with
  | nil => intro i; rfl
  | cons q r ih =>
    intro i
    show (q, i, []) :: numbered (r ++ [p]) (i + 1) = (q, i, []) :: (numbered r (i + 1) ++ [(p, i + (r.length + 1), [])])
    rw [ih (i + 1)]
    congr 3
    have : i + 1 + r.length = i + (r.length + 1) := by omega
    rw [this]
theorem numbered_take {ps : List Pn} {i : Nat} {p : Pn} (h : ps[i]? = some p) : numbered (ps.take (i + 1)) 0 = numbered (ps.take i) 0 ++ [(p, i, [])] := by
  have hi := (List.getElem?_eq_some_iff.mp h).1
  rw [List.take_add_one, h]
  show numbered (ps.take i ++ [p]) 0 = _
  rw [numbered_snoc, List.length_take, Nat.min_eq_left (by omega), Nat.zero_add]
theorem js_snoc (es : List (El Str)) (e : El Str) : js (es ++ [e]) = js es ++ if isLn e.1 = true then [] else [e] := by
  unfold js
  rw [List.filter_append, List.filter_cons, List.filter_nil]
  cases isLn e.1 <;> rfl
theorem nleaf_snoc (es : List (El Str)) (e : El Str) : nleaf (es ++ [e]) = nleaf es + if isLn e.1 = true then 1 else 0 := by
  unfold nleaf
  rw [List.filter_append, List.filter_cons, List.filter_nil, List.length_append]
  cases isLn e.1 <;> rfl
theorem nfree_snoc (its : List (List Int × Option Nat)) (x : List Int × Option Nat) : nfree (its ++ [x]) = nfree its + if x.2.isNone = true then 1 else 0 := by
  unfold nfree
  rw [List.filter_append, List.filter_cons, List.filter_nil, List.length_append]
  cases x.2.isNone <;> rfl
theorem nfree_le (its : List (List Int × Option Nat)) : nfree its ≤ its.length := List.length_filter_le _ _
theorem nleaf_le (es : List (El Str)) : nleaf es ≤ es.length := List.length_filter_le _ _
theorem numbered_len (ps : List Pn) : ∀ i, (numbered ps i).length = ps.length := by
  induction ps with
  | nil => intro i; rfl
  | cons p r ih => intro i; show (numbered r (i + 1)).length + 1 = _; rw [ih]; rfl
theorem nfree_mono (its : List (List Int × Option Nat)) (i : Nat) : nfree (its.take i) ≤ nfree its := by
  have h : nfree its = nfree (its.take i) + nfree (its.drop i) := by
    unfold nfree
    rw [← List.length_append, ← List.filter_append, List.take_append_drop]
  omega
theorem js_at {ps : List Pn} {j : Nat} {e : El Str} (h : (js (numbered ps 0))[j]? = some e) : ps[e.2.1]? = some e.1 ∧ e.2.2 = [] ∧ isLn e.1 = false := by
  have hm := List.mem_of_getElem? h
  unfold js at hm
  obtain ⟨h1, h2⟩ := List.mem_filter.mp hm
  obtain ⟨i, e1, e2, e3⟩ := mem_numbered h1
  rw [Nat.zero_add] at e1
  rw [e1]
  exact ⟨e2, e3, by simpa using h2⟩
theorem js_nd (ps : List Pn) : ((js (numbered ps 0)).map fun e => e.2.1).Nodup := by
  unfold js
  exact List.Nodup.sublist (List.Sublist.map _ List.filter_sublist) (numbered_nd ps 0)
theorem lv2 {p : Pn} (h : Wf p) (hl : isLn p = false) : 2 ≤ p.lv.length := by
  cases p with
  | ln s => cases hl
  | jn k qs =>
    obtain ⟨h1, h2⟩ := wf_jn.mp h
    rw [lv_jn]
    have := lvs_ge h2
    omega
theorem js_two {ps : List Pn} (hw : ∀ p ∈ ps, Wf p) : ∀ i, 2 * (js (numbered ps i)).length ≤ (lvs ps).length := by
  induction ps with
  | nil => intro i; exact Nat.zero_le _
  | cons p r ih =>
    intro i
    have ih2 := ih (fun q hq => hw q (List.mem_cons_of_mem _ hq)) (i + 1)
    rw [lvs_cons, List.length_append]
    have e : js (numbered (p :: r) i) = (if isLn p = true then [] else [(p, i, [])]) ++ js (numbered r (i + 1)) := by
      show List.filter _ ((p, i, []) :: numbered r (i + 1)) = _
      rw [List.filter_cons]
      cases h : isLn p <;> simp [h, js]
    rw [e, List.length_append]
    have hp := hw p List.mem_cons_self
    cases h : isLn p with
    | true => simp; omega
    | false =>
      have := lv2 hp h
      simp
      omega
theorem subs_len (m : Nat) : (subs m).length ≤ m + 1 := by
  induction m using bin_ind with
  | h0 => rw [subs_0]; exact Nat.le_refl _
  | h1 m hm ih => rw [subs_even hm, List.length_map]; omega
  | h2 m ih =>
    rw [subs_odd]
    have : ((subs m).flatMap (fun s => [2 * s + 1, 2 * s])).length = 2 * (subs m).length := by
      generalize subs m = l
      induction l with
      | nil => rfl
      | cons a r ih => rw [List.flatMap_cons, List.length_append, ih, List.length_cons]; simp; omega
    omega
theorem conv_le {g h : Nat → Nat} {m A B : Nat} (hg : ∀ x, x ≤ m → g x ≤ A) (hh : ∀ x, x ≤ m → h x ≤ B) : conv g h m ≤ (m + 1) * (A * B) := by
  unfold conv
  have h1 : sumOf (subs m) (fun t => g (m ^^^ t) * h t) ≤ (subs m).length * (A * B) := sumOf_le fun t ht => by
    obtain ⟨_, h2, h3⟩ := subs_sub m t ht
    exact Nat.mul_le_mul (hg _ h3) (hh _ h2)
  exact Nat.le_trans h1 (Nat.mul_le_mul_right _ (subs_len m))
theorem pw_le {c : Nat} (hc : c ≤ 5) : ∀ (k m : Nat), m < 2 ^ k → pw c m ≤ 5 ^ k
  | 0, m, h => by
    have : m = 0 := by omega
    subst this
    rw [pw_0]
    exact Nat.le_refl _
  | k + 1, m, h => by
    rw [Nat.pow_succ] at h
    rcases Nat.mod_two_eq_zero_or_one m with z | z
    · have e : m = 2 * (m / 2) := by omega
      rw [e, pw_even]
      have := pw_le hc k (m / 2) (by omega)
      exact Nat.le_trans this (Nat.pow_le_pow_right (by decide) (Nat.le_succ k))
    · have e : m = 2 * (m / 2) + 1 := by omega
      rw [e, pw_odd, Nat.pow_succ, Nat.mul_comm]
      exact Nat.mul_le_mul (pw_le hc k (m / 2) (by omega)) hc
theorem pfl_sub (idx mask : Nat) : ∀ (its : List (List Int × Option Nat)) (b : Nat), (pfl idx mask its b).Sublist (its.map (·.1)).flatten
  | [], b => by rw [pfl_nil]; exact List.Sublist.refl _
  | (τ, some j) :: r, b => by
    rw [pfl_some, List.map_cons, List.flatten_cons]
    refine List.Sublist.append ?_ (pfl_sub idx mask r b)
    split
    · exact List.Sublist.refl _
    · exact List.nil_sublist _
  | (τ, none) :: r, b => by
    rw [pfl_none, List.map_cons, List.flatten_cons]
    refine List.Sublist.append ?_ (pfl_sub idx mask r (b + 1))
    split
    · exact List.Sublist.refl _
    · exact List.nil_sublist _
theorem tab_succ (n : Nat) (g : Nat → Nat) : tab (n + 1) g = tab n g ++ [L2.V.int (g n : Nat)] := by
  unfold tab
  rw [List.range_succ, List.map_append]
  rfl
theorem tab_congr {n : Nat} {g h : Nat → Nat} (e : ∀ x, x < n → g x = h x) : tab n g = tab n h := by
  unfold tab
  exact List.map_congr_left fun x hx => by rw [e x (List.mem_range.mp hx)]
theorem tab_double (c n : Nat) : tab (2 ^ n) (pw c) ++ tab (2 ^ n) (fun x => c * pw c x) = tab (2 ^ (n + 1)) (pw c) := by
  have e : tab (2 ^ n) (fun x => c * pw c x) = tab (2 ^ n) (fun x => pw c (2 ^ n + x)) := tab_congr fun x hx => (pw_high c n x hx).symm
  rw [e]
  unfold tab
  have e2 : 2 ^ (n + 1) = 2 ^ n + 2 ^ n := by rw [Nat.pow_succ]; omega
  rw [e2, List.range_add, List.map_append, List.map_map]
  rfl
theorem tab_last {n : Nat} (g : Nat → Nat) (h : 0 < n) : L2.atI (tab n g) (-1) = some (.int (g (n - 1) : Nat)) := by
  obtain ⟨m, rfl⟩ : ∃ m, n = m + 1 := ⟨n - 1, by omega⟩
  rw [tab_succ]
  exact L2.atI_last _ _
/-- the trains with their homes -/
def itsOf (kn : Int → Option Str) (ps : List Pn) (trs : List (List Int)) : List (List Int × Option Nat) := trs.map fun τ => (τ, (hm kn ps τ).getD none)
theorem itsOf_fst (kn : Int → Option Str) (ps : List Pn) (trs : List (List Int)) : (itsOf kn ps trs).map (·.1) = trs := by
  unfold itsOf
  rw [List.map_map]
  exact List.map_id' trs
theorem itsOf_hv {kn : Int → Option Str} {ps : List Pn} {trs : List (List Int)} (h : ∀ τ ∈ trs, hm kn ps τ ≠ none) : (itsOf kn ps trs).map hv = trs.map fun τ => homeV (hm kn ps τ) := by
  unfold itsOf
  rw [List.map_map]
  refine List.map_congr_left fun τ hτ => ?_
  show homeV (some ((hm kn ps τ).getD none)) = _
  cases e : hm kn ps τ with
  | none => exact absurd e (h τ hτ)
  | some o => rfl
theorem knl_mem {kn : Int → Option Str} {τ : List Int} {l : Str} : l ∈ knl kn τ ↔ ∃ x ∈ τ, kn x = some l := by
  unfold knl
  exact List.mem_filterMap
theorem fitAt_iff {ps : List Pn} {ks : List Str} {i : Nat} : fitAt ps ks i = true ↔ ∃ p, ps[i]? = some p ∧ ∀ l ∈ ks, l ∈ p.lv := by
  unfold fitAt
  cases h : ps[i]? with
  | none => simp
  | some p => simp
theorem hm_none {kn : Int → Option Str} {ps : List Pn} {τ : List Int} (h : hm kn ps τ = none) : ∀ p ∈ ps, ∃ x ∈ τ, ∃ l, kn x = some l ∧ l ∉ p.lv := by
  intro p hp
  unfold hm at h
  by_cases hn : knl kn τ = []
  · rw [if_pos hn] at h; cases h
  rw [if_neg hn] at h
  cases hf : fits ps (knl kn τ) with
  | cons i r => rw [hf] at h; cases h
  | nil =>
    obtain ⟨i, hi⟩ := List.getElem?_of_mem hp
    apply Classical.byContradiction
    intro hno
    have : fitAt ps (knl kn τ) i = true := fitAt_iff.mpr ⟨p, hi, fun l hl => by
      obtain ⟨x, hx, hk⟩ := knl_mem.mp hl
      apply Classical.byContradiction
      intro hl2
      exact hno ⟨x, hx, l, hk, hl2⟩⟩
    have hm : i ∈ fits ps (knl kn τ) := List.mem_filter.mpr ⟨List.mem_range.mpr (lt_of_get hi), this⟩
    rw [hf] at hm
    cases hm
theorem hm_some {kn : Int → Option Str} {ps : List Pn} {τ : List Int} {j : Nat} (h : hm kn ps τ = some (some j)) : (∃ x ∈ τ, ∃ l, kn x = some l) ∧ ∃ p, ps[j]? = some p ∧ ∀ x ∈ τ, ∀ l, kn x = some l → l ∈ p.lv := by
  unfold hm at h
  by_cases hn : knl kn τ = []
  · rw [if_pos hn] at h; cases h
  rw [if_neg hn] at h
  cases hf : fits ps (knl kn τ) with
  | nil => rw [hf] at h; cases h
  | cons i r =>
    rw [hf] at h
    have e : i = j := by injection h with h; injection h
    subst e
    have hm : i ∈ fits ps (knl kn τ) := by rw [hf]; exact List.mem_cons_self
    obtain ⟨p, hp, hl⟩ := fitAt_iff.mp (List.mem_filter.mp hm).2
    refine ⟨?_, p, hp, fun x hx l hk => hl l (knl_mem.mpr ⟨x, hx, hk⟩)⟩
    cases hk : knl kn τ with
    | nil => exact absurd hk hn
    | cons l r2 =>
      obtain ⟨x, hx, h2⟩ := knl_mem.mp (show l ∈ knl kn τ by rw [hk]; exact List.mem_cons_self)
      exact ⟨x, hx, l, h2⟩
theorem hm_free {kn : Int → Option Str} {ps : List Pn} {τ : List Int} (h : hm kn ps τ = some none) : ∀ x ∈ τ, kn x = none := by
  unfold hm at h
  by_cases hn : knl kn τ = []
  · intro x hx
    cases hk : kn x with
    | none => rfl
    | some l =>
      have : l ∈ knl kn τ := knl_mem.mpr ⟨x, hx, hk⟩
      rw [hn] at this
      cases this
  · rw [if_neg hn] at h
    cases hf : fits ps (knl kn τ) with
    | nil => rw [hf] at h; cases h
    | cons i r => rw [hf] at h; cases h
/-- the count as the walk reckons it -/
theorem walk_count {kn : Int → Option Str} {k : Bool} {ps : List Pn} {ns : List Int} (nd : (lvs ps).Nodup) (h : ∀ τ ∈ trains k ns, hm kn ps τ ≠ none) :
    cv ((js (numbered ps 0)).map (gOf kn (itsOf kn ps (trains k ns)))) (pw (nleaf (numbered ps 0))) (full (nfree (itsOf kn ps (trains k ns)))) = Sf kn (.jn k ps) ns := by
  refine Sf_chain nd (itsOf_fst _ _ _) (fun τ j hm' => ?_) (fun τ hm' => ?_)
  · unfold itsOf at hm'
    obtain ⟨τ', hτ, e⟩ := List.mem_map.mp hm'
    cases e2 : hm kn ps τ' with
    | none => exact absurd e2 (h τ' hτ)
    | some o =>
      rw [e2] at e
      injection e with e3 e4
      subst e3
      have e4' : o = some j := e4
      subst e4'
      exact hm_some e2
  · unfold itsOf at hm'
    obtain ⟨τ', hτ, e⟩ := List.mem_map.mp hm'
    cases e2 : hm kn ps τ' with
    | none => exact absurd e2 (h τ' hτ)
    | some o =>
      rw [e2] at e
      injection e with e3 e4
      subst e3
      have e4' : o = none := e4
      subst e4'
      exact hm_free e2
theorem none_home {kn : Int → Option Str} {k : Bool} {ps : List Pn} {ns : List Int} {τ : List Int} (hτ : τ ∈ trains k ns) (h : hm kn ps τ = none) : Sf kn (.jn k ps) ns = 0 := Sf_noHome hτ (hm_none h)
theorem inV_home (hs : List (Option (Option Nat))) : L2.inV (.int (-1)) (hs.map homeV) = hs.any (·.isNone) := by
  induction hs with
  | nil => rfl
  | cons x r ih =>
    unfold L2.inV at *
    rw [List.map_cons, List.any_cons, List.any_cons, ih]
    congr 1
    cases x with
    | none => rfl
    | some o =>
      cases o with
      | none => rfl
      | some i =>
        show decide (((i : Nat) : Int) = -1) = false
        exact decide_eq_false (by omega)
theorem flat_home (hs : List (Option (Option Nat))) : (hs.map homeV).all L2.flatV = true := by
  rw [List.all_map]
  refine List.all_eq_true.mpr fun x _ => ?_
  cases x with
  | none => rfl
  | some o => cases o <;> rfl
theorem g_le {kn : Int → Option Str} {its : List (List Int × Option Nat)} {e : El Str} {m : Nat} (hw : Wf e.1) (hnd : e.1.lv.Nodup) (h5 : e.1.lv.length ≤ 5) (he : e.2.2 = []) (hns : (its.map (·.1)).flatten.Nodup) (h8 : (its.map (·.1)).flatten.length ≤ 8) : gOf kn its e m ≤ 5 ^ 8 := by
  unfold gOf
  rw [he, List.nil_append]
  have hsub := pfl_sub e.2.1 m its 0
  have hl := hsub.length_le
  have h1 := Sf_le hnd (hns.sublist hsub) (Wf.pos _ hw) 8 kn (by
    have := List.length_filter_le (fun x => (kn x).isNone) (pfl e.2.1 m its 0)
    omega)
  exact Nat.le_trans h1 (Nat.pow_le_pow_left h5 8)
end FW
end
section
/-! W9: ways_to. -/
namespace FW
open PySem PySem.Spec PyProof.Rows L2 FM FR RZ
section
variable {P : Program} {w : World} {K : PySem.W.Frag} {mg : Str → Option Value} {base : Heap} {f : Addr} {fd : FuncData}
abbrev nWays : List Str := ["plan", "people", "known", "kind", "parts", "trains", "homes", "leaves", "ways", "home", "index", "junctions", "inner", "height", "train", "part", "many", "mask"]
theorem scWays : FnScope nWays ["plan", "people", "known"] (defScope (topS 42)) := ⟨rfl, rfl, rfl, by decide +kernel, rfl, by decide +kernel, by decide +kernel⟩
def spWays (K : PySem.W.Frag) (n : Nat) : Sp := fun vs H Q _ => ∃ (v : V) (a d : Addr) (t : Pn) (ns : List Int) (kn : List (Int × Str)), vs = [v, .ref a, .ref d] ∧ PlAt H t v ∧ Wf t ∧ t.lv.Nodup ∧ t.lv.length ≤ n ∧ t.lv.length ≤ 5 ∧
  H a = some (.tup (ns.map V.int)) ∧ ns.Nodup ∧ ns.length ≤ 8 ∧ H d = some (.dK (dkv kn)) ∧ ∀ H', Same H H' → Q (.int (Sf (lk kn) t ns : Nat)) H'
theorem ways_none {k : Nat} : FnOk P w K mg base CX0 k f fd ["plan", "people", "known"] (spWays K 0) := by
  have no : ∀ vs H Q E, ¬ spWays K 0 vs H Q E := fun vs H Q E h => by
    obtain ⟨v, a, d, t, ns, kn, _, _, hw, _, h0, _⟩ := h
    have := Wf.pos t hw
    omega
  exact ⟨fun vs H Q E h => absurd h (no vs H Q E), fun A outer s H args us vs Q E _ _ _ _ h => absurd h (no vs H Q E)⟩
theorem ways_one {n : Nat} {ft fh ff fg : Addr} {dt dh df dg : FuncData} (F : Fun K "ways_to" "ways_to" (topS 42) f fd) (G : Gs mg)
    (CT : Cal K mg "trains_of" ft dt ["row", "kind"]) (OT : FnOk P w K mg base CX0 2 ft dt ["row", "kind"] spTrains)
    (CH : Cal K mg "home_of" fh dh ["parts", "train", "known"]) (OH : FnOk P w K mg base CX0 6 fh dh ["parts", "train", "known"] (spHome K))
    (CF : Cal K mg "people_from" ff df ["trains", "homes", "index", "mask"]) (OF : FnOk P w K mg base CX0 1 ff df ["trains", "homes", "index", "mask"] spFrom)
    (CG : Cal K mg "ways_together" fg dg ["first", "second", "mask"]) (OG : FnOk P w K mg base CX0 1 fg dg ["first", "second", "mask"] (spTog K))
    (C : Cal K mg "ways_to" f fd ["plan", "people", "known"]) (O : FnOk P w K mg base CX0 (n + 6) f fd ["plan", "people", "known"] (spWays K n)) :
    FnOk P w K mg base CX0 (n + 7) f fd ["plan", "people", "known"] (spWays K (n + 1)) := by
  refine F.ok scWays (fun vs H Q E h => ?_) (fun cdv A outer s H vs Q E hr h => ?_)
  · obtain ⟨v, a, d, t, ns, kn, rfl, _⟩ := h
    rfl
  obtain ⟨v, a, d, t, ns, kn, rfl, hp, hw, hnd, hn, h5, ha, hns, h8, hd, q⟩ := h
  have hr6 : Room 6 _ := hr.mono (by omega)
  have hr2 : Room 2 _ := hr.mono (by omega)
  have hr1 : Room 1 _ := hr.mono (by omega)
  refine ⟨_, pss_cons (ps_if (pt_val (pe_callB call_isi (by rfl) G.isinstance_ (by decide +kernel) (pa_cons (pv 0) (pa_cons (pe_bltn (by rfl) G.str_ (by decide +kernel) (v := .ty "str") rfl) pa_nil))))
      (pss_one (ps_ret (pe_callTy call_int1 (by rfl) G.int_ (by decide +kernel) (pa_cons (pe_callB (cr_all rfl) (by rfl) G.all_ (by decide +kernel) (pa_cons
        (pe_lc (own := [("height", 13)]) (g := gName 13) (by rfl) scWays.nd (pi_tup (pv 1)) (blkOk_by (N := nWays) (sc := defScope (topS 42)) (by decide +kernel)) (fun _ _ _ _ _ => pg_name (i := 13) scWays.nd rfl (Or.inl rfl)) (fun _ _ _ _ _ => pts_nil)
          (fun _ _ _ _ _ => pe_cmpR op_eq (pe_dget2 (hu_of hr) (pv 2) (pv 13) (pv 0) ⟨rfl, rfl, rfl, rfl⟩) (pv 0) (nomark _))) pa_nil)) pa_nil)))) pss_nil)
    (pss_cons (ps_asg (pv 0) (pg_tup rfl (pgs_cons (pg_name (i := 3) scWays.nd rfl (.inl rfl)) (pgs_cons (pg_name (i := 4) scWays.nd rfl (.inr rfl)) pgs_nil))))
    (pss_cons (ps_set (i := 5) scWays.nd rfl (.inr rfl) (pe_call OT hr2 (by rfl) CT.m CT.kp CT.b .nil pass0 (pa_cons (pv 1) (pa_cons (pv 3) pa_nil))))
    (pss_cons (ps_set (i := 6) scWays.nd rfl (.inr rfl) (pe_lc (own := [("train", 14)]) (g := gName 14) (by rfl) scWays.nd (pi_list (pv 5)) (blkOk_by (N := nWays) (sc := defScope (topS 42)) (by decide +kernel)) (fun _ _ _ _ _ => pg_name (i := 14) scWays.nd rfl (Or.inl rfl)) (fun _ _ _ _ _ => pts_nil)
        (fun _ _ _ _ _ => pe_call OH hr6 (by rfl) CH.m CH.kp CH.b .nil pass0 (pa_cons (pv 4) (pa_cons (pv 14) (pa_cons (pv 2) pa_nil))))))
    (pss_cons (ps_if (pt_cmpR op_in_seq (pe_un un_neg pe_int) (pv 6) (by with_unfolding_all rfl)) (pss_one (ps_ret pe_int)) pss_nil)
    (pss_cons (ps_asg (pe_tup (pa_cons (pe_callB call_len_seq (by rfl) G.len_ PySem.boot_len (pa_cons (pe_lc (own := [("part", 15)]) (g := gName 15) (by rfl) scWays.nd (pi_tup (pv 4)) (blkOk_by (N := nWays) (sc := defScope (topS 42)) (by decide +kernel)) (fun _ _ _ _ _ => pg_name (i := 15) scWays.nd rfl (Or.inl rfl))
          (fun _ _ _ _ _ => pts_one (pt_val (pe_callB (call_isiK2 K) (by rfl) G.isinstance_ (by decide +kernel) (pa_cons (pv 15) (pa_cons (pe_bltn (by rfl) G.str_ (by decide +kernel) (v := .ty "str") rfl) pa_nil))))) (fun _ _ _ _ _ => pv 15)) pa_nil)) (pa_cons (pe_lst (pa_cons pe_int pa_nil)) pa_nil)))
        (pg_tup rfl (pgs_cons (pg_name (i := 7) scWays.nd rfl (.inr rfl)) (pgs_cons (pg_name (i := 8) scWays.nd rfl (.inr rfl)) pgs_nil))))
    (pss_cons (ps_for PassesOwn.never rfl (pi_list (pv 6)) (pg_name (i := 9) scWays.nd rfl (.inl rfl))
      (pss_one (ps_if (pt_cmp (pc_isN (pv 9))) (pss_one (ps_set (i := 8) scWays.nd rfl (.inr rfl) (pe_op op_cat (pv 8) (pe_lc (own := [("many", 16)]) (g := gName 16) (by rfl) scWays.nd (pi_list (pv 8)) (blkOk_by (N := nWays) (sc := defScope (topS 42)) (by decide +kernel))
        (fun _ _ _ _ _ => pg_name (i := 16) scWays.nd rfl (Or.inl rfl)) (fun _ _ _ _ _ => pts_nil) (fun _ _ _ _ _ => pe_op op_mul (pv 7) (pv 16)))))) pss_nil)))
    (pss_cons (ps_setLc (i := 11) (own := [("index", 10), ("part", 15)]) (g := gTup K 2 (gCons (gName 10) (gCons (gName 15) gNil))) (by rfl) scWays.nd rfl rfl (sw_true rfl rfl rfl (by decide +kernel)) (pi_enumT (by rfl) G.enumerate_ (pa_cons (pv 4) pa_nil))
      (blkOk_by (N := nWays) (sc := defScope (topS 42)) (by decide +kernel)) (fun _ _ _ _ _ => pg_tupK K rfl (pgs_cons (pg_name (i := 10) scWays.nd rfl (Or.inl rfl)) (pgs_cons (pg_name (i := 15) scWays.nd rfl (Or.inl rfl)) pgs_nil)))
      (fun _ _ _ _ _ => pts_one (pt_not (pt_val (pe_callB (call_isiK2 K) (by rfl) G.isinstance_ (by decide +kernel) (pa_cons (pv 15) (pa_cons (pe_bltn (by rfl) G.str_ (by decide +kernel) (v := .ty "str") rfl) pa_nil)))))) (fun _ _ _ _ _ => pv 10))
    (pss_cons (ps_for PassesOwn.never rfl (pi_list (pv 11)) (pg_name (i := 10) scWays.nd rfl (.inr rfl))
      (pss_cons (ps_set (i := 12) scWays.nd rfl (.inr rfl) (pe_lc (own := [("mask", 17)]) (g := gName 17) (by rfl) scWays.nd (pi_range1 (by rfl) G.range_ (pa_cons (pe_callB call_len_seq (by rfl) G.len_ PySem.boot_len (pa_cons (pv 8) pa_nil)) pa_nil)) (blkOk_by (N := nWays) (sc := defScope (topS 42)) (by decide +kernel))
        (fun _ _ _ _ _ => pg_name (i := 17) scWays.nd rfl (Or.inl rfl)) (fun _ _ _ _ _ => pts_nil)
        (fun _ _ _ _ _ => pe_call O hr (by rfl) C.m C.kp C.b .nil pass0 (pa_cons (pe_ix (ix_tupK K) (pv 4) (pv 10) (fun _ _ => rfl)) (pa_cons (pe_call OF hr1 (by rfl) CF.m CF.kp CF.b .nil pass0 (pa_cons (pv 5) (pa_cons (pv 6) (pa_cons (pv 10) (pa_cons (pv 17) pa_nil))))) (pa_cons (pv 2) pa_nil))))))
      (pss_cons (ps_if (pt_cmpR op_eq (pv 10) (pe_ix ix_list (pv 11) (pe_un un_neg pe_int) (fun _ _ => rfl)) (nomark _))
        (pss_one (ps_ret (pe_call OG hr1 (by rfl) CG.m CG.kp CG.b .nil pass0 (pa_cons (pv 8) (pa_cons (pv 12) (pa_cons (pe_op op_sub (pe_callB call_len_seq (by rfl) G.len_ PySem.boot_len (pa_cons (pv 8) pa_nil)) pe_int) pa_nil)))))) pss_nil)
      (pss_one (ps_set (i := 8) scWays.nd rfl (.inr rfl) (pe_lc (own := [("mask", 17)]) (g := gName 17) (by rfl) scWays.nd (pi_range1 (by rfl) G.range_ (pa_cons (pe_callB call_len_seq (by rfl) G.len_ PySem.boot_len (pa_cons (pv 8) pa_nil)) pa_nil)) (blkOk_by (N := nWays) (sc := defScope (topS 42)) (by decide +kernel))
        (fun _ _ _ _ _ => pg_name (i := 17) scWays.nd rfl (Or.inl rfl)) (fun _ _ _ _ _ => pts_nil)
        (fun _ _ _ _ _ => pe_call OG hr1 (by rfl) CG.m CG.kp CG.b .nil pass0 (pa_cons (pv 8) (pa_cons (pv 12) (pa_cons (pv 17) pa_nil)))))))))
      )
    (pss_one (ps_ret (pe_ix ix_list (pv 8) (pe_un un_neg pe_int) (fun _ _ => rfl)))))))))))), ?_⟩
  cases t with
  | ln s0 =>
    obtain rfl := plAt_ln.mp hp
    refine ⟨_, rfl, .str s0, .ty "str", .type "str", .type "str", true, rfl, .ty _, .base (.str _), kit_ty (by decide +kernel), true, rfl, iteT ?_⟩
    refine ⟨_, rfl, a, rfl, ⟨_, SqT.of ha⟩, fun D nD => ?_⟩
    refine turn_tup (K := K) (a := a) (xs := ns.map V.int) (fun i H2 => Same H H2 ∧ H2 D = some (.lst (((ns.take i).map fun h => decide (lk kn h = none ∨ lk kn h = some s0)).map V.bl))) ⟨same_upd nD, upd_same⟩
      (fun i H2 _ ⟨sm, _⟩ => SqT.of (sm _ _ ha)) ?_ ?_
    · rintro i x H2 hx ⟨sm, hD⟩
      obtain ⟨y, hy, rfl⟩ := map_get hx
      have g := DGet.k (k := Sum.inl y) (sm _ _ hd)
      rw [valV_dkv] at g
      have fin : ∀ c : Bool, c = decide (lk kn y = none ∨ lk kn y = some s0) → ∃ acc : List V, H2 D = some (.lst acc) ∧ acc.length < sizeLine ∧ Same H (upd H2 D (.lst (acc ++ [V.bl c]))) ∧ (upd H2 D (.lst (acc ++ [V.bl c]))) D = some (.lst (((ns.take (i + 1)).map fun h => decide (lk kn h = none ∨ lk kn h = some s0)).map V.bl)) := by
        intro c hc
        refine ⟨_, hD, by rw [List.length_map, List.length_map, List.length_take]; exact small1000 (by omega), fun z o ez => by rw [upd_ne (ne_of_none ez nD)]; exact sm _ _ ez, ?_⟩
        rw [upd_same, List.take_add_one, hy, List.map_append, List.map_append, hc]
        rfl
      cases hk : lk kn y with
      | none =>
        rw [hk] at g fin
        exact ⟨rfl, _, rfl, d, rfl, .inl ⟨_, .inl (sm _ _ hd)⟩, _, rfl, _, rfl, _, g, _, rfl, rfl, fin _ (by simp)⟩
      | some l =>
        rw [hk] at g fin
        refine ⟨rfl, _, rfl, d, rfl, .inl ⟨_, .inl (sm _ _ hd)⟩, _, rfl, _, rfl, _, g, _, rfl, rfl, fin _ ?_⟩
        show decide (V.str l = V.str s0) = decide (some l = none ∨ some l = some s0)
        by_cases e : l = s0
        · rw [decide_eq_true (by rw [e]), decide_eq_true (.inr (by rw [e]))]
        · rw [decide_eq_false (by intro z; injection z with z; exact e z), decide_eq_false (fun z => z.elim (fun z => nomatch z) (fun z => e (Option.some.inj z)))]
    · rintro H2 ⟨sm, hD⟩
      rw [List.length_map, List.take_length] at hD
      refine ⟨D, _, rfl, SqL.of hD, .inr ⟨_, rfl, ?_⟩⟩
      have e := q H2 sm
      rw [Sf_ln] at e
      have e2 : (ns.map fun h => decide (lk kn h = none ∨ lk kn h = some s0)).all id = ns.all fun h => decide (lk kn h = none ∨ lk kn h = some s0) := by rw [List.all_map]; rfl
      rw [e2]
      cases hb : (ns.all fun h => decide (lk kn h = none ∨ lk kn h = some s0)) with
      | true =>
        rw [hb] at e
        exact e
      | false =>
        rw [hb] at e
        exact e
  | jn k ps =>
  obtain ⟨pa, b, us, rfl, hpa, hb, hps⟩ := plAt_jn.mp hp
  obtain ⟨hw1, hw2⟩ := wf_jn.mp hw
  rw [lv_jn] at hnd h5
  have hul := hps.len
  have hpl := lvs_ge hw2
  have T := trOk k ns
  have htl := trains_len k ns
  refine ⟨_, rfl, .ref pa, .ty "str", .type "tuple", .type "str", false, rfl, .ty _, .base (.tup hpa), kit_ty (by decide +kernel), false, rfl, iteF ?_⟩
  refine ⟨_, rfl, pa, _, rfl, SqT.of hpa, rfl, .str (kS k), [.ref b], rfl, .ref b, [], rfl, rfl, ?_⟩
  -- trains
  refine ⟨_, rfl, _, rfl, a, ns, k, rfl, ha, h8, fun r as H1 s1 hr1' tp1 => ?_⟩
  -- homes
  refine ⟨_, rfl, r, rfl, ⟨_, SqL.of hr1'⟩, fun D nD => ?_⟩
  have hal := tp1.1
  refine turn_list (K := K) (a := r) (xs := as.map V.ref) (fun i H2 => Same H1 H2 ∧ H2 D = some (.lst (((trains k ns).take i).map fun τ => homeV (hm (lk kn) ps τ)))) ⟨same_upd nD, upd_same⟩
    (fun i H2 _ ⟨sm, _⟩ => SqL.of (sm _ _ hr1')) ?_ ?_
  · rintro i x H2 hx ⟨sm, hD⟩
    obtain ⟨c, hc, rfl⟩ := map_get hx
    have hci := lt_of_get hc
    obtain ⟨τ, hτ⟩ : ∃ τ, (trains k ns)[i]? = some τ := ⟨_, List.getElem?_eq_getElem (by omega)⟩
    have sm0 := s1.trans sm
    have hτ8 := Nat.le_trans (sum_flat k ns (List.mem_of_getElem? hτ)) h8
    refine ⟨rfl, _, rfl, _, rfl, _, rfl, b, c, d, us, ps, τ, kn, rfl, (hb.same sm0).t, hps.same sm0, hw2, h5, sm _ _ (tp1.2 i c τ hc hτ), hτ8, sm0 _ _ hd, fun H3 s3 => ?_⟩
    refine ⟨_, s3 _ _ hD, by rw [List.length_map, List.length_take]; exact small1000 (by omega), fun z o ez => by rw [upd_ne (ne_of_none ez nD)]; exact s3 _ _ (sm _ _ ez), ?_⟩
    rw [upd_same, List.take_add_one, hτ, List.map_append]
    rfl
  rintro H2 ⟨sm2, hD⟩
  rw [List.length_map, hal, List.take_length] at hD
  have s02 := s1.trans sm2
  -- -1 in homes
  have hDh : H2 D = some (.lst (((trains k ns).map (hm (lk kn) ps)).map homeV)) := by rw [List.map_map]; exact hD
  refine ⟨1, rfl, _, rfl, D, _, rfl, .inl (SqL.of hDh), rfl, flat_home _, _, rfl, ?_⟩
  rw [inV_home]
  by_cases hnone : ∃ τ ∈ trains k ns, hm (lk kn) ps τ = none
  · obtain ⟨τ, hτ, hn⟩ := hnone
    have e : (((trains k ns).map (hm (lk kn) ps)).any (·.isNone)) = true := List.any_eq_true.mpr ⟨none, List.mem_map.mpr ⟨τ, hτ, hn⟩, rfl⟩
    rw [e]
    refine iteT ?_
    have e2 := q H2 s02
    rw [none_home hτ hn] at e2
    exact e2
  have hsome : ∀ τ ∈ trains k ns, hm (lk kn) ps τ ≠ none := fun τ hτ hn => hnone ⟨τ, hτ, hn⟩
  have e : (((trains k ns).map (hm (lk kn) ps)).any (·.isNone)) = false := by
    rw [List.any_eq_false]
    intro x hx
    obtain ⟨τ, hτ, rfl⟩ := List.mem_map.mp hx
    cases h : hm (lk kn) ps τ with
    | none => exact absurd h (hsome τ hτ)
    | some o => simp
  rw [e]
  refine iteF ?_
  rw [← walk_count hnd hsome] at q
  have hits : H2 D = some (.lst ((itsOf (lk kn) ps (trains k ns)).map hv)) := by rw [itsOf_hv hsome]; exact hD
  have hfst := itsOf_fst (lk kn) ps (trains k ns)
  have htp2 := tp1.same sm2
  rw [← hfst] at htp2
  have hitl : (itsOf (lk kn) ps (trains k ns)).length ≤ 8 := by
    have := congrArg List.length hfst
    rw [List.length_map] at this
    omega
  have hflat : ((itsOf (lk kn) ps (trains k ns)).map (·.1)).flatten = ns := by rw [hfst]; exact T.flat
  generalize itsOf (lk kn) ps (trains k ns) = its at *
  have hr2' := sm2 _ _ hr1'
  -- leaves, ways
  have hb2 := hb.same s02
  have hps2 := hps.same s02
  refine ⟨_, rfl, b, rfl, ⟨_, hb2.t⟩, fun D2 nD2 => ?_⟩
  refine turn_tup (K := K) (a := b) (xs := us) (fun i H3 => Same H2 H3 ∧ ∃ ws : List V, H3 D2 = some (.lst ws) ∧ ws.length = nleaf (numbered (ps.take i) 0)) ⟨same_upd nD2, [], upd_same, rfl⟩ (fun i H3 _ ⟨sm, _⟩ => (hb2.same sm).t) ?_ ?_
  · rintro i x H3 hx ⟨sm, ws, hD2, hwl⟩
    obtain ⟨p, hpi, hpx⟩ := hps2.get hx
    have hpx3 := hpx.same sm
    have e1 := nleaf_snoc (numbered (ps.take i) 0) (p, i, [])
    rw [← numbered_take hpi] at e1
    have hi := lt_of_get hpi
    have hsz : ws.length ≤ 5 := by
      have := nleaf_le (numbered (ps.take i) 0)
      rw [numbered_len, List.length_take] at this
      omega
    cases p with
    | ln z =>
      obtain rfl := plAt_ln.mp hpx3
      refine ⟨rfl, _, rfl, .str z, .ty "str", .type "str", .type "str", true, rfl, .ty _, .base (.str _), kit_ty (by decide +kernel), true, rfl, iteT ⟨_, rfl, ws, hD2, small1000 (by omega), fun c o ec => ?_, ws ++ [.str z], upd_same, ?_⟩⟩
      · rw [upd_ne (ne_of_none ec nD2)]
        exact sm _ _ ec
      · rw [e1, List.length_append, hwl]
        rfl
    | jn k' rs =>
      obtain ⟨a', b', vs', rfl, ha', _⟩ := plAt_jn.mp hpx3
      refine ⟨rfl, _, rfl, .ref a', .ty "str", .type "tuple", .type "str", false, rfl, .ty _, .base (.tup ha'), kit_ty (by decide +kernel), false, rfl, iteF ⟨sm, ws, hD2, ?_⟩⟩
      rw [e1, hwl]
      rfl
  rintro H3 ⟨sm3, ws, hD2, hwl⟩
  rw [hul, List.take_length] at hwl
  have hc5 : nleaf (numbered ps 0) ≤ 5 := by
    have := nleaf_le (numbered ps 0)
    rw [numbered_len] at this
    omega
  refine ⟨D2, ws, rfl, .inl (SqL.of hD2), (by show 1 ≤ sizeLine; decide), fun L0 nL0 => ⟨(by show 2 ≤ sizeLine; decide), fun tp ntp => ⟨tp, _, rfl, SqT.of upd_same, rfl, .int (ws.length : Nat), [.ref L0], rfl, .ref L0, [], rfl, rfl, ?_⟩⟩⟩
  rw [← hwl] at q hc5
  have s23 : Same H2 (upd (upd H3 L0 (.lst [.int 1])) tp (.tup [.int (ws.length : Nat), .ref L0])) := sm3.trans ((same_upd nL0).trans (same_upd ntp))
  have hL00 : (upd (upd H3 L0 (.lst [.int 1])) tp (.tup [.int (ws.length : Nat), .ref L0])) L0 = some (.lst (tab (2 ^ 0) (pw ws.length))) := by
    rw [upd_ne (ne_of_none upd_same ntp), upd_same]
    show some (HO.lst [.int 1]) = some (HO.lst [.int (pw ws.length 0 : Nat)])
    rw [pw_0]
    rfl
  generalize ws.length = c at *
  generalize upd (upd H3 L0 (.lst [.int 1])) tp (.tup [.int (c : Nat), .ref L0]) = H4 at *
  have hF8 := Nat.le_trans (nfree_le its) hitl
  have hD4 := s23 _ _ hits
  have hD4' := hD4
  -- for home in homes
  refine ⟨_, rfl, D, rfl, ⟨_, SqL.of hD4⟩, for_list (K := K) (a := D) (xs := its.map hv) (fun i σ H5 => ∃ (L : Addr) (y : Option V), σ = [some (.ref pa), some (.ref a), some (.ref d), some (.str (kS k)), some (.ref b), some (.ref r), some (.ref D), some (.int (c : Nat)), some (.ref L), y, none, none, none, none, none, none, none, none] ∧
      Same H4 H5 ∧ H5 L = some (.lst (tab (2 ^ nfree (its.take i)) (pw c)))) ⟨L0, none, rfl, Same.refl _, hL00⟩ (fun i σ H5 _ ⟨_, _, _, sm, _⟩ => SqL.of (sm _ _ hD4)) ?_ ?_⟩
  · rintro i x σ H5 hx ⟨L, y, rfl, sm, hL⟩
    obtain ⟨⟨τ, o⟩, hi, rfl⟩ := map_get hx
    have et : its.take (i + 1) = its.take i ++ [(τ, o)] := by rw [List.take_add_one, hi]; rfl
    have en := nfree_snoc (its.take i) (τ, o)
    rw [← et] at en
    have hb8 : nfree (its.take (i + 1)) ≤ 8 := Nat.le_trans (nfree_mono its _) hF8
    cases o with
    | some j => exact ⟨_, rfl, _, rfl, iteF ⟨L, _, rfl, sm, by rw [en]; exact hL⟩⟩
    | none =>
      have en2 : nfree (its.take (i + 1)) = nfree (its.take i) + 1 := en
      refine ⟨_, rfl, _, rfl, iteT ?_⟩
      rw [en2] at hb8 ⊢
      generalize nfree (its.take i) = bb at *
      have hN : 2 ^ bb ≤ 128 := by
        have := Nat.pow_le_pow_right (show 0 < 2 by decide) (show bb ≤ 7 by omega)
        exact this
      refine ⟨_, rfl, _, rfl, L, rfl, ⟨_, SqL.of hL⟩, fun D3 nD3 => ?_⟩
      refine turn_list (K := K) (a := L) (xs := tab (2 ^ bb) (pw c)) (fun j H6 => Same H5 H6 ∧ j ≤ 2 ^ bb ∧ H6 D3 = some (.lst (tab j fun x => c * pw c x))) ⟨same_upd nD3, Nat.zero_le _, upd_same⟩ (fun j H6 _ ⟨sm6, _⟩ => SqL.of (sm6 _ _ hL)) ?_ ?_
      · rintro j y2 H6 hy ⟨sm6, hj, hD6⟩
        unfold tab at hy
        obtain ⟨x, hx, rfl⟩ := map_get hy
        have hxj := lt_of_get hx
        rw [List.length_range] at hxj
        rw [List.getElem?_range hxj] at hx
        cases hx
        refine ⟨rfl, _, rfl, _, rfl, _, _, rfl, rfl, .inl ⟨by omega, by omega⟩, _, hD6, by rw [tab_len]; exact small1000 (by omega), fun z o ez => ?_, by omega, ?_⟩
        · rw [upd_ne (ne_of_none ez nD3)]
          exact sm6 _ _ ez
        · rw [upd_same, tab_succ]
          show some (HO.lst (tab j (fun x => c * pw c x) ++ [V.int (((c : Nat) : Int) * ((pw c j : Nat) : Int))])) = _
          congr 3
      · rintro H6 ⟨sm6, _, hD6⟩
        rw [tab_len] at hD6
        refine ⟨L, D3, _, _, rfl, rfl, sm6 _ _ hL, hD6, by rw [tab_len, tab_len]; exact small (by omega), fun p np => ?_⟩
        refine ⟨p, _, rfl, sm.trans (sm6.trans (same_upd np)), ?_⟩
        rw [upd_same, tab_double]
  rintro σ H5 ⟨L1, y1, rfl, sm5, hL1⟩
  rw [List.length_map, List.take_length] at hL1
  have s05 := s02.trans (s23.trans sm5)
  have hb5 := hb.same s05
  have hps5 := hps.same s05
  -- junctions
  refine ⟨_, rfl, b, us, rfl, hb5.t, fun D4 nD4 => ?_⟩
  refine lc_enumT (K := K) (a := b) (xs := us) (fun i H6 => Same H5 H6 ∧ H6 D4 = some (.lst ((js (numbered (ps.take i) 0)).map fun e => V.int (e.2.1 : Nat)))) ⟨same_upd nD4, upd_same⟩ (fun i H6 _ ⟨sm, _⟩ => (hb5.same sm).t) ?_ ?_
  · rintro i x T' H6 hx ⟨sm, hD6⟩ nT
    obtain ⟨p, hpi, hpx⟩ := hps5.get hx
    have sT : Same H6 (upd H6 T' (.tup [.int (i : Nat), x])) := same_upd nT
    have hpx3 := (hpx.same sm).same sT
    have e1 := js_snoc (numbered (ps.take i) 0) (p, i, [])
    rw [← numbered_take hpi] at e1
    have hi := lt_of_get hpi
    have hsz : (js (numbered (ps.take i) 0)).length ≤ 5 := by
      have h1 : (js (numbered (ps.take i) 0)).length ≤ (numbered (ps.take i) 0).length := List.length_filter_le _ _
      rw [numbered_len, List.length_take] at h1
      omega
    refine ⟨T', _, rfl, SqT.of upd_same, rfl, .int (i : Nat), [x], rfl, x, [], rfl, rfl, rfl, ?_⟩
    cases p with
    | ln z =>
      obtain rfl := plAt_ln.mp hpx3
      refine ⟨_, rfl, .str z, .ty "str", .type "str", .type "str", true, rfl, .ty _, .base (.str _), kit_ty (by decide +kernel), true, rfl, iteF ⟨sm.trans sT, ?_⟩⟩
      rw [e1]
      show _ = some (HO.lst ((js (numbered (ps.take i) 0) ++ []).map fun (e : El Str) => V.int (e.2.1 : Nat)))
      rw [List.append_nil]
      exact sT _ _ hD6
    | jn k' rs =>
      obtain ⟨a', b', vs', rfl, ha', _⟩ := plAt_jn.mp hpx3
      refine ⟨_, rfl, .ref a', .ty "str", .type "tuple", .type "str", false, rfl, .ty _, .base (.tup ha'), kit_ty (by decide +kernel), false, rfl, iteT ⟨_, rfl, _, sT _ _ hD6, by rw [List.length_map]; exact small1000 (by omega), fun z o ez => ?_, ?_⟩⟩
      · rw [upd_ne (ne_of_none ez nD4)]
        exact sT _ _ (sm _ _ ez)
      · rw [upd_same, e1, List.map_append]
        rfl
  rintro H6 ⟨sm6, hD6⟩
  rw [hul, List.take_length] at hD6
  have hjs2 := js_two hw2 0
  have hjnd := js_nd ps
  have hN1 : 2 ^ nfree its ≤ 256 := Nat.pow_le_pow_right (show 0 < 2 by decide) hF8
  have hN0 : 0 < 2 ^ nfree its := Nat.pow_pos (by decide)
  have hfull : full (nfree its) = 2 ^ nfree its - 1 := rfl
  rw [hfull] at q
  have hjl : ∀ (j : Nat) (e : El Str), (js (numbered ps 0))[j]? = some e → ps[e.2.1]? = some e.1 ∧ e.2.2 = [] ∧ isLn e.1 = false := fun j e h => js_at h
  generalize js (numbered ps 0) = jl at *
  have hpw : ∀ x, x < 2 ^ nfree its → pw c x ≤ 5 ^ 8 := fun x hx => Nat.le_trans (pw_le hc5 _ x hx) (Nat.pow_le_pow_right (by decide) hF8)
  generalize 2 ^ nfree its = N at *
  have s06 := s05.trans sm6
  refine ⟨_, rfl, D4, rfl, ⟨_, SqL.of hD6⟩, for_list (K := K) (a := D4) (xs := jl.map fun (e : El Str) => V.int (e.2.1 : Nat)) (fun i σ H7 => ∃ (L : Addr) (z u : Option V) (W : Nat → Nat), σ = [some (.ref pa), some (.ref a), some (.ref d), some (.str (kS k)), some (.ref b), some (.ref r), some (.ref D), some (.int (c : Nat)), some (.ref L), y1, z, some (.ref D4), u, none, none, none, none, none] ∧
      Same H6 H7 ∧ H7 L = some (.lst (tab N W)) ∧ cv ((jl.map (gOf (lk kn) its)).drop i) W = cv (jl.map (gOf (lk kn) its)) (pw c) ∧ (∀ x, x < N → W x < 2 ^ 63) ∧ (i = 0 → W = pw c))
    ⟨L1, none, none, pw c, rfl, Same.refl _, sm6 _ _ hL1, rfl, fun x hx => Nat.lt_of_le_of_lt (hpw x hx) (by decide), fun _ => rfl⟩ (fun i σ H7 _ ⟨_, _, _, _, _, sm, _⟩ => SqL.of (sm _ _ hD6)) ?_ ?_⟩
  · rintro i x σ H7 hx ⟨L, z, u, W, rfl, sm7, hL, hcv, hW, hW0⟩
    obtain ⟨e, he, rfl⟩ := map_get hx
    obtain ⟨hpe, he2, hel⟩ := hjl i e he
    have hpm := List.mem_of_getElem? hpe
    have hi := lt_of_get he
    have hgi : (jl.map (gOf (lk kn) its))[i]? = some (gOf (lk kn) its e) := get_map he
    have hdrop := drop_at hgi
    have s07 := s06.trans sm7
    have hb7 := hb.same s07
    have hps7 := hps.same s07
    obtain ⟨vp, hvp, hpv⟩ := hps7.get' hpe
    have hlt := lv_part hw hpm
    rw [lv_jn] at hlt hn
    have hndp := nodup_part hnd hpm
    have hgb : ∀ m, gOf (lk kn) its e m ≤ 5 ^ 8 := fun m => g_le (hw2 _ hpm) hndp (by omega) he2 (by rw [hflat]; exact hns) (by rw [hflat]; exact h8)
    have hr7 := (s23.trans (sm5.trans (sm6.trans sm7))) _ _ hr2'
    have hD7 := (sm5.trans (sm6.trans sm7)) _ _ hD4'
    have htp7 := htp2.same (s23.trans (sm5.trans (sm6.trans sm7)))
    have hDj7 := sm7 _ _ hD6
    have hat : atI us ((e.2.1 : Nat) : Int) = some vp := atI_nat hvp
    -- inner
    refine ⟨_, rfl, L, _, rfl, .inl (SqL.of hL), _, rfl, by rw [tab_len]; omega, by rw [tab_len]; omega, fun D5 nD5 => ?_⟩
    rw [tab_len, Int.toNat_natCast]
    refine turn_rng (lo := 0) (n := N) (fun j H8 => Same H7 H8 ∧ H8 D5 = some (.lst (tab j (gOf (lk kn) its e)))) ⟨same_upd nD5, upd_same⟩ ?_ ?_
    · rintro j H8 hj ⟨sm8, hD8⟩
      have s08 := s07.trans sm8
      refine ⟨rfl, _, rfl, _, rfl, b, us, _, vp, rfl, rfl, (hb7.same sm8).t, hat, _, rfl, _, rfl, _, rfl, _, rfl, r, D, as, its, e.2.1, j, by rw [Int.zero_add]; rfl, sm8 _ _ hr7, htp7.same sm8, sm8 _ _ hD7, by rw [hflat]; exact h8, fun pr H9 s9 hpr => ?_⟩
      have hsub := pfl_sub e.2.1 j its 0
      rw [hflat] at hsub
      refine ⟨_, rfl, vp, pr, d, e.1, pfl e.2.1 j its 0, kn, rfl, (hpv.same sm8).same s9, hw2 _ hpm, hndp, by omega, by omega, hpr, hns.sublist hsub, Nat.le_trans hsub.length_le h8, (s08.trans s9) _ _ hd, fun H10 s10 => ?_⟩
      have hD10 := s10 _ _ (s9 _ _ hD8)
      refine ⟨_, hD10, by rw [tab_len]; exact small1000 (by omega), fun q o eq => ?_, ?_⟩
      · rw [upd_ne (ne_of_none eq nD5)]
        exact s10 _ _ (s9 _ _ (sm8 _ _ eq))
      · rw [upd_same, tab_succ]
        unfold gOf
        rw [he2, List.nil_append]
    rintro H8 ⟨sm8, hD8⟩
    have hL8 := sm8 _ _ hL
    have hDj8 := sm8 _ _ hDj7
    obtain ⟨jl0, el, hjle⟩ : ∃ jl0 el, jl = jl0 ++ [el] := by
      rcases snoc_cases jl with rfl | ⟨m, y, rfl⟩
      · simp at hi
      · exact ⟨m, y, rfl⟩
    have hlast : atI (jl.map fun (e : El Str) => V.int (e.2.1 : Nat)) (-1) = some (.int (el.2.1 : Nat)) := by
      rw [hjle, List.map_append]
      exact atI_last _ _
    -- index == junctions[-1]
    refine ⟨_, rfl, _, rfl, 1, rfl, D4, _, _, _, rfl, rfl, SqL.of hDj8, hlast, rfl, _, rfl, ?_⟩
    have hlen : jl.length = jl0.length + 1 := by rw [hjle, List.length_append]; rfl
    by_cases hlx : i + 1 = jl.length
    · have hee : e = el := by
        have h1 : jl[i]? = some el := by
          rw [hjle, List.getElem?_append_right (by omega)]
          have : i - jl0.length = 0 := by omega
          rw [this]
          rfl
        rw [he] at h1
        exact Option.some.inj h1
      rw [decide_eq_true (by rw [hee])]
      refine iteT ?_
      refine ⟨_, rfl, _, rfl, _, rfl, L, _, rfl, .inl (SqL.of hL8), _, _, rfl, rfl, L, D5, N, N - 1, W, gOf (lk kn) its e, ?_, SqL.of hL8, SqL.of hD8, by omega, hW, ?_⟩
      · rw [tab_len]
        show [V.ref L, V.ref D5, V.int (((N : Nat) : Int) - 1)] = _
        congr 3
        congr 1
        omega
      · have hd1 : (jl.map (gOf (lk kn) its)).drop (i + 1) = [] := List.drop_eq_nil_of_le (by rw [List.length_map]; omega)
        rw [hdrop, hd1] at hcv
        have e1 := q H8 (s07.trans sm8)
        rw [← hcv] at e1
        exact e1
    · rw [decide_eq_false (by
        intro hz
        have hz2 : e.2.1 = el.2.1 := by
          have : ((e.2.1 : Nat) : Int) = ((el.2.1 : Nat) : Int) := by injection hz
          omega
        have h1 : (jl.map fun (e : El Str) => e.2.1)[i]? = some e.2.1 := get_map (f := fun (e : El Str) => e.2.1) he
        have h2 : (jl.map fun (e : El Str) => e.2.1)[jl0.length]? = some el.2.1 := get_map (f := fun (e : El Str) => e.2.1) (by rw [hjle]; simp)
        rw [hz2] at h1
        have := nd_ix hjnd h1 h2
        omega)]
      refine iteF ?_
      have hi0 : i = 0 := by omega
      have hWp := hW0 hi0
      refine ⟨_, rfl, L, _, rfl, .inl (SqL.of hL8), _, rfl, by rw [tab_len]; omega, by rw [tab_len]; omega, fun D7 nD7 => ?_⟩
      rw [tab_len, Int.toNat_natCast]
      refine turn_rng (lo := 0) (n := N) (fun j H9 => Same H8 H9 ∧ H9 D7 = some (.lst (tab j (conv W (gOf (lk kn) its e))))) ⟨same_upd nD7, upd_same⟩ ?_ ?_
      · rintro j H9 hj ⟨sm9, hD9⟩
        refine ⟨rfl, _, rfl, _, rfl, _, rfl, L, D5, N, j, W, gOf (lk kn) its e, by rw [Int.zero_add]; rfl, SqL.of (sm9 _ _ hL8), SqL.of (sm9 _ _ hD8), hj, hW, ?_⟩
        refine ⟨_, hD9, by rw [tab_len]; exact small1000 (by omega), fun q o eq => ?_, ?_⟩
        · rw [upd_ne (ne_of_none eq nD7)]
          exact sm9 _ _ eq
        · rw [upd_same, tab_succ]
      rintro H9 ⟨sm9, hD9⟩
      refine ⟨D7, _, _, conv W (gOf (lk kn) its e), rfl, sm7.trans (sm8.trans sm9), hD9, ?_, fun x hx => ?_, fun h0 => by omega⟩
      · rw [← hcv, hdrop]
        rfl
      · have h1 := conv_le (g := W) (h := gOf (lk kn) its e) (m := x) (A := 5 ^ 8) (B := 5 ^ 8) (fun y hy => by rw [hWp]; exact hpw y (by omega)) (fun y _ => hgb y)
        have h2 : (x + 1) * (5 ^ 8 * 5 ^ 8) ≤ 256 * (5 ^ 8 * 5 ^ 8) := Nat.mul_le_mul_right _ (by omega)
        have h3 : 256 * (5 ^ 8 * 5 ^ 8) < 2 ^ 63 := by decide
        omega
  · rintro σ H7 ⟨L, z, u, W, rfl, sm7, hL, hcv, hW, _⟩
    rw [List.length_map, show jl.length = (jl.map (gOf (lk kn) its)).length by rw [List.length_map], List.drop_length] at hcv
    have e1 := q H7 (s06.trans sm7)
    rw [← hcv] at e1
    exact ⟨_, rfl, 1, rfl, L, _, _, _, rfl, rfl, SqL.of hL, tab_last W hN0, e1⟩
theorem ok_ways {ft fh ff fg : Addr} {dt dh df dg : FuncData} (F : Fun K "ways_to" "ways_to" (topS 42) f fd) (G : Gs mg)
    (CT : Cal K mg "trains_of" ft dt ["row", "kind"]) (OT : FnOk P w K mg base CX0 2 ft dt ["row", "kind"] spTrains)
    (CH : Cal K mg "home_of" fh dh ["parts", "train", "known"]) (OH : FnOk P w K mg base CX0 6 fh dh ["parts", "train", "known"] (spHome K))
    (CF : Cal K mg "people_from" ff df ["trains", "homes", "index", "mask"]) (OF : FnOk P w K mg base CX0 1 ff df ["trains", "homes", "index", "mask"] spFrom)
    (CG : Cal K mg "ways_together" fg dg ["first", "second", "mask"]) (OG : FnOk P w K mg base CX0 1 fg dg ["first", "second", "mask"] (spTog K))
    (C : Cal K mg "ways_to" f fd ["plan", "people", "known"]) : ∀ n : Nat, FnOk P w K mg base CX0 (n + 6) f fd ["plan", "people", "known"] (spWays K n)
  | 0 => ways_none
  | n + 1 => ways_one F G CT OT CH OH CF OF CG OG C (ok_ways F G CT OT CH OH CF OF CG OG C n)
end
end FW
end
section
/-! W10: with_person, count_sources. -/
namespace FW
open PySem PySem.Spec PyProof.Rows L2 FM FR RZ
theorem put_dkv (kn : List (Int × Str)) (h : Int) (l : Str) : ∃ kn', putK (dkv kn) (Sum.inl h : Key) (V.str l) = dkv kn' ∧ kn'.length ≤ kn.length + 1 ∧ lk kn' = put (lk kn) h l := by
  have key : ∃ kn', putK (dkv kn) (Sum.inl h : Key) (V.str l) = dkv kn' ∧ kn'.length ≤ kn.length + 1 := by
    unfold putK
    by_cases e : ((dkv kn).any fun kv => decide (kv.1 = (Sum.inl h : Key))) = true
    · rw [if_pos e]
      refine ⟨kn.map fun p => if p.1 = h then (p.1, l) else p, ?_, by rw [List.length_map]; omega⟩
      unfold dkv
      rw [List.map_map, List.map_map]
      refine List.map_congr_left fun p _ => ?_
      show (if (Sum.inl p.1 : Key) = Sum.inl h then ((Sum.inl p.1 : Key), V.str l) else (Sum.inl p.1, V.str p.2)) = _
      by_cases hp : p.1 = h
      · rw [if_pos (by rw [hp])]
        show _ = ((Sum.inl (if p.1 = h then (p.1, l) else p).1 : Key), V.str (if p.1 = h then (p.1, l) else p).2)
        rw [if_pos hp]
      · rw [if_neg (fun z => hp (Sum.inl.inj z))]
        show _ = ((Sum.inl (if p.1 = h then (p.1, l) else p).1 : Key), V.str (if p.1 = h then (p.1, l) else p).2)
        rw [if_neg hp]
    · rw [if_neg e]
      refine ⟨kn ++ [(h, l)], ?_, by rw [List.length_append]; exact Nat.le_refl _⟩
      unfold dkv
      rw [List.map_append]
      rfl
  obtain ⟨kn', e1, e2⟩ := key
  refine ⟨kn', e1, e2, ?_⟩
  funext x
  have h1 := valV_dkv kn' x
  rw [← e1, valV_put, valV_dkv] at h1
  unfold put
  by_cases hx : x = h
  · subst hx
    rw [if_pos rfl] at h1 ⊢
    cases hk : lk kn' x with
    | none => rw [hk] at h1; cases h1
    | some y => rw [hk] at h1; injection h1 with h1; injection h1 with h1; rw [h1]
  · rw [if_neg (fun z => hx (Sum.inl.inj z))] at h1
    rw [if_neg hx]
    cases hk : lk kn x with
    | none =>
      rw [hk] at h1
      cases hk2 : lk kn' x with
      | none => rfl
      | some y => rw [hk2] at h1; cases h1
    | some z =>
      rw [hk] at h1
      cases hk2 : lk kn' x with
      | none => rw [hk2] at h1; cases h1
      | some y => rw [hk2] at h1; injection h1 with h1; injection h1 with h1; rw [h1]
theorem merge_nd : ∀ (kvs acc : List (Key × V)), ((acc ++ kvs).map (·.1)).Nodup → mergeK acc kvs = acc ++ kvs
  | [], acc, _ => by rw [List.append_nil]; rfl
  | p :: r, acc, h => by
    have hn : valV acc p.1 = none := by
      cases hv : valV acc p.1 with
      | none => rfl
      | some v =>
        have := valV_in hv
        rw [List.map_append, List.nodup_append] at h
        exact absurd rfl (h.2.2 _ this _ (by simp))
    show mergeK (putK acc p.1 p.2) r = _
    rw [putK_new _ hn, merge_nd r (acc ++ [p]) (by rw [List.append_assoc]; exact h), List.append_assoc]
    rfl
theorem merge_kn {kn : List (Int × Str)} (h : kn.Pairwise (fun p q => p.1 < q.1)) : mergeK [] (dkv kn) = dkv kn := by
  rw [merge_nd _ [] ?_, List.nil_append]
  rw [List.nil_append]
  unfold dkv
  rw [List.map_map]
  refine List.pairwise_map.mpr (h.imp fun {p q} hpq z => ?_)
  have : p.1 = q.1 := Sum.inl.inj z
  omega
section
variable {P : Program} {w : World} {K : PySem.W.Frag} {mg : Str → Option Value} {base : Heap} {f : Addr} {fd : FuncData}
/-! ### with_person -/
theorem scPers : FnScope ["known", "height", "line", "found"] ["known", "height", "line"] (defScope (topS 43)) := ⟨rfl, rfl, rfl, by decide +kernel, rfl, by decide +kernel, by decide +kernel⟩
def spPers : Sp := fun vs H Q _ => ∃ (d : Addr) (h : Int) (l : Str) (kn : List (Int × Str)), vs = [.ref d, .int h, .str l] ∧ H d = some (.dK (dkv kn)) ∧ kn.length ≤ 100 ∧
  ∀ (r : Addr) (kn' : List (Int × Str)) (H' : Hp), Same H H' → H' r = some (.dK (dkv kn')) → lk kn' = put (lk kn) h l → Q (.ref r) H'
theorem ok_pers (F : Fun K "with_person" "with_person" (topS 43) f fd) (G : Gs mg) : FnOk P w K mg base CX0 1 f fd ["known", "height", "line"] spPers := by
  refine F.ok scPers (fun vs H Q E h => ?_) (fun cdv A outer s H vs Q E hr h => ?_)
  · obtain ⟨d, h, l, kn, rfl, _⟩ := h
    rfl
  obtain ⟨d, h, l, kn, rfl, hd, hkl, q⟩ := h
  refine ⟨_, pss_cons (ps_set (i := 3) scPers.nd rfl (.inl rfl) (pe_callTy call_dictD (by rfl) G.dict_ (by decide +kernel) (pa_cons (pv 0) pa_nil)))
    (pss_cons (ps_dput (hu_of hr) (pv 3) (pv 1) (pv 2) rfl) (pss_one (ps_ret (pv 3)))), ?_⟩
  obtain ⟨kn', e1, e2, e3⟩ := put_dkv kn h l
  refine ⟨_, rfl, d, _, rfl, .inl hd, fun p np => ?_⟩
  have s1 : Same H (upd H p (.dK (dkv kn))) := same_upd np
  have hlen : (dkv kn).length < sizeLine := by unfold dkv; rw [List.length_map]; exact small1000 (by omega)
  refine ⟨_, rfl, _, rfl, _, rfl, p, _, rfl, DPut.k (k := Sum.inl h) upd_same hlen, ?_⟩
  refine ⟨_, rfl, q p kn' _ (fun b o eb => ?_) ?_ e3⟩
  · have hb : b ≠ p := ne_of_none eb np
    rw [upd_ne hb]
    exact s1 _ _ eb
  · rw [upd_same, e1]
/-! ### count_sources -/
theorem scCount : FnScope ["plan", "row", "known"] ["plan", "row", "known"] (defScope (topS 44)) := ⟨rfl, rfl, rfl, by decide +kernel, rfl, by decide +kernel, by decide +kernel⟩
def spCount : Sp := fun vs H Q _ => ∃ (v : V) (a b : Addr) (t : Pn) (ns : List Int) (kn : List (Int × Str)), vs = [v, .ref a, .ref b] ∧ PlAt H t v ∧ PlOk t ∧ H a = some (.tup (ns.map V.int)) ∧ RowOk ns ∧ KnAt H b kn ∧ KnOk t ns kn ∧
  ∀ H', Same H H' → Q (.int (Sf (lk kn) (flat t) ns : Nat)) H'
theorem kn_pairs {H : Hp} {as : List Addr} : ∀ {kn : List (Int × Str)}, as.length = kn.length → (∀ (i : Nat) (b : Addr) (p : Int × Str), as[i]? = some b → kn[i]? = some p → H b = some (.tup [.int p.1, .str p.2])) → Paired (fun p kv => SqT K H p [kV kv.1, kv.2]) as (dkv kn) := by
  induction as with
  | nil =>
    intro kn hl _
    have : kn = [] := List.length_eq_zero_iff.mp hl.symm
    subst this
    exact .nil
  | cons c r ih =>
    intro kn hl hf
    cases kn with
    | nil => simp at hl
    | cons p kr => exact .cons (SqT.of (hf 0 c p rfl rfl)) (ih (by simpa using hl) fun i b q h1 h2 => hf (i + 1) b q (by simpa using h1) (by simpa using h2))
theorem ok_count {fa ff fw : Addr} {da df dw : FuncData} (F : Fun K "count_sources" "count_sources" (topS 44) f fd) (G : Gs mg) (CA : Cal K mg "check_asked" fa da ["plan", "row", "known"]) (OA : FnOk P w K mg base CX0 9 fa da ["plan", "row", "known"] spKnown)
    (CF : Cal K mg "flat_form" ff df ["plan"]) (OF : FnOk P w K mg base CX0 12 ff df ["plan"] (spFlat 5)) (CW : Cal K mg "ways_to" fw dw ["plan", "people", "known"]) (OW : FnOk P w K mg base CX0 11 fw dw ["plan", "people", "known"] (spWays K 5)) :
    FnOk P w K mg base CX0 13 f fd ["plan", "row", "known"] spCount := by
  refine F.ok scCount (fun vs H Q E h => ?_) (fun cdv A outer s H vs Q E hr h => ?_)
  · obtain ⟨v, a, b, t, ns, kn, rfl, _⟩ := h
    rfl
  obtain ⟨v, a, b, t, ns, kn, rfl, hp, T, ha, R, hk, KO, q⟩ := h
  refine ⟨_, pss_cons (ps_expr (pe_call OA (hr.mono (by decide)) (by rfl) CA.m CA.kp CA.b .nil pass0 (pa_cons (pv 0) (pa_cons (pv 1) (pa_cons (pv 2) pa_nil)))))
    (pss_one (ps_ret (pe_call OW (hr.mono (by decide)) (by rfl) CW.m CW.kp CW.b .nil pass0 (pa_cons (pe_call OF hr (by rfl) CF.m CF.kp CF.b .nil pass0 (pa_cons (pv 0) pa_nil)) (pa_cons (pv 1) (pa_cons (pe_callTy (call_dictT rfl) (by rfl) G.dict_ (by decide +kernel) (pa_cons (pv 2) pa_nil)) pa_nil)))))), ?_⟩
  have h5 := T.len
  refine ⟨_, rfl, _, rfl, _, rfl, v, a, b, t, ns, kn, rfl, hp, T, ha, R, hk, KO, fun H1 s1 => ?_⟩
  refine ⟨_, rfl, v, t, rfl, hp.same s1, T.wf, h5, h5, fun v' H2 s2 hv' => ?_⟩
  have s12 := s1.trans s2
  obtain ⟨as, hk1, hk2, hk3⟩ := hk.same s12
  refine ⟨_, rfl, _, rfl, b, as, dkv kn, rfl, hk1, kn_pairs hk2 hk3, fun p np => ?_⟩
  have s3 := same_upd (o := .dK (mergeK [] (dkv kn))) np
  have R8 := R.len
  exact ⟨v', a, p, flat t, ns, kn, rfl, hv'.same s3, flat_wf t T.wf, T.flat.nd, T.flat.len, T.flat.len, s3 _ _ (s12 _ _ ha), R.nd, R8, by rw [upd_same, merge_kn KO.asc], fun H4 s4 => q H4 (s12.trans (s3.trans s4))⟩
end
end FW
end
section
/-! W11: fault_in, find_fault, is_possible. -/
namespace FW
open PySem PySem.Spec PyProof.Rows L2 FM FR RZ
/-! ### what the two dicts hold -/
abbrev DD := (List Int → Option V) × (List Int → Option V)
def Here (f : Int → Str) (D : DD) (ps : List Pn) (π pre : List Int) : Prop :=
  (pre = [] ∧ D.1 π = none ∧ D.2 π = none) ∨ ∃ (pre0 : List Int) (x : Int) (i : Nat) (p : Pn) (m : Int), pre = pre0 ++ [x] ∧ ps[i]? = some p ∧ f x ∈ p.lv ∧ D.1 π = some (.int (i : Nat)) ∧ m ∈ pre ∧ D.2 π = some (.int m)
mutual
def St (f : Int → Str) (D : DD) : Pn → List Int → List Int → Prop
  | .ln _, _, _ => True
  | .jn _ ps, π, pre => Here f D ps π pre ∧ Sts f D ps π pre 0
def Sts (f : Int → Str) (D : DD) : List Pn → List Int → List Int → Nat → Prop
  | [], _, _, _ => True
  | p :: r, π, pre, i => St f D p (π ++ [((i : Nat) : Int)]) (pre.filter (inP p f)) ∧ Sts f D r π pre (i + 1)
end
theorem sts_iff {f : Int → Str} {D : DD} {π pre : List Int} : ∀ {ps : List Pn} {i : Nat}, Sts f D ps π pre i ↔ ∀ (j : Nat) (p : Pn), ps[j]? = some p → St f D p (π ++ [((i + j : Nat) : Int)]) (pre.filter (inP p f))
  | [], i => by simp [Sts]
  | q :: r, i => by
    rw [Sts, sts_iff (ps := r) (i := i + 1)]
    constructor
    · rintro ⟨h1, h2⟩ j p hp
      cases j with
      | zero =>
        have : q = p := by simpa using hp
        subst this
        exact h1
      | succ j =>
        have := h2 j p (by simpa using hp)
        rw [show i + 1 + j = i + (j + 1) by omega] at this
        exact this
    · intro h
      refine ⟨h 0 q rfl, fun j p hp => ?_⟩
      have := h (j + 1) p (by simpa using hp)
      rw [show i + (j + 1) = i + 1 + j by omega] at this
      exact this
theorem st_jn {f : Int → Str} {D : DD} {k : Bool} {ps : List Pn} {π pre : List Int} : St f D (.jn k ps) π pre ↔ Here f D ps π pre ∧ ∀ (j : Nat) (p : Pn), ps[j]? = some p → St f D p (π ++ [((j : Nat) : Int)]) (pre.filter (inP p f)) := by
  rw [St, sts_iff]
  simp only [Nat.zero_add]
theorem st_ln {f : Int → Str} {D : DD} {s : Str} {π pre : List Int} : St f D (.ln s) π pre := by rw [St]; trivial
theorem st_congr {f : Int → Str} {D D' : DD} : ∀ (t : Pn) (π pre : List Int), (∀ ρ, D'.1 (π ++ ρ) = D.1 (π ++ ρ) ∧ D'.2 (π ++ ρ) = D.2 (π ++ ρ)) → St f D t π pre → St f D' t π pre := by
  refine Pl.ind (fun s π pre _ _ => st_ln) (fun k ps ih π pre he h => ?_)
  obtain ⟨h1, h2⟩ := st_jn.mp h
  have h0 := he []
  rw [List.append_nil] at h0
  refine st_jn.mpr ⟨?_, fun j p hp => ih p (List.mem_of_getElem? hp) _ _ (fun ρ => ?_) (h2 j p hp)⟩
  · unfold Here at *
    rw [h0.1, h0.2]
    exact h1
  · have := he (((j : Nat) : Int) :: ρ)
    rw [show π ++ ((j : Nat) : Int) :: ρ = (π ++ [((j : Nat) : Int)]) ++ ρ by simp] at this
    exact this
theorem st_start {f : Int → Str} {D : DD} (h : ∀ ρ, D.1 ρ = none ∧ D.2 ρ = none) : ∀ (t : Pn) (π : List Int), St f D t π [] := by
  refine Pl.ind (fun s π => st_ln) (fun k ps ih π => ?_)
  refine st_jn.mpr ⟨.inl ⟨rfl, (h π).1, (h π).2⟩, fun j p hp => ?_⟩
  rw [List.filter_nil]
  exact ih p (List.mem_of_getElem? hp) _
theorem part_index {l : Str} : ∀ {ps : List Pn} {a b : Nat} {u v : Pn}, (lvs ps).Nodup → ps[a]? = some u → ps[b]? = some v → l ∈ u.lv → l ∈ v.lv → a = b := by
  intro ps
  induction ps with
  | nil => intro a b u v _ h; simp at h
  | cons q r ih =>
    intro a b u v nd ha hb hu hv
    rw [lvs_cons] at nd
    obtain ⟨n1, n2, n3⟩ := List.nodup_append.mp nd
    cases a with
    | zero =>
      have ha : q = u := by simpa using ha
      cases b with
      | zero => rfl
      | succ b =>
        have hb : r[b]? = some v := by simpa using hb
        exact absurd rfl (n3 l (ha ▸ hu) l (mem_lvs.mpr ⟨v, List.mem_of_getElem? hb, hv⟩))
    | succ a =>
      have ha : r[a]? = some u := by simpa using ha
      cases b with
      | zero =>
        have hb : q = v := by simpa using hb
        exact absurd rfl (n3 l (hb ▸ hv) l (mem_lvs.mpr ⟨u, List.mem_of_getElem? ha, hu⟩))
      | succ b =>
        have hb : r[b]? = some v := by simpa using hb
        rw [ih n2 ha hb hu hv]
/-- keys of the dicts -/
def kI (π : List Int) : List Key := π.map Sum.inl
theorem kI_inj {π ρ : List Int} (h : kI π = kI ρ) : π = ρ := by
  induction π generalizing ρ with
  | nil =>
    cases ρ with
    | nil => rfl
    | cons a r => cases h
  | cons a r ih =>
    cases ρ with
    | nil => cases h
    | cons b s =>
      have h' : ((Sum.inl a : Key) :: kI r) = (Sum.inl b : Key) :: kI s := h
      injection h' with h1 h2
      have e1 : a = b := Sum.inl.inj h1
      rw [e1, ih h2]
theorem kI_kV (π : List Int) : (kI π).map kV = π.map V.int := by
  unfold kI
  rw [List.map_map]
  rfl
def dd (k1 k2 : List (List Key × V)) : DD := (fun ρ => valV k1 (kI ρ), fun ρ => valV k2 (kI ρ))
/-- where the walk down the plan stands -/
def WI (H : Hp) (v : V) (a b d1 d2 : Addr) (h : Int) (hm : Int → Str) (t : Pn) (pre : List Int) (i m : Nat) (σ' : L2.St) (H3 : Hp) : Prop :=
  ∃ (u : Pn) (π preU postU : List Int) (j1 j2 : List (List Key × V)) (pb : Addr) (vu : V) (y9 y10 y11 y12 : Option V), m = u.lv.length ∧ σ' = [some v, some (.ref a), some (.ref b), some (.ref d1), some (.ref d2), some (.int h), some (.str (hm h)), some (.ref pb), some vu, y9, y10, y11, y12] ∧
      Same H H3 ∧ PlAt H3 u vu ∧ H3 d1 = some (.dT j1) ∧ H3 d2 = some (.dT j2) ∧ H3 pb = some (.tup (π.map V.int)) ∧ Wf u ∧ u.lv.Nodup ∧ u.lv.length ≤ 5 ∧ hm h ∈ u.lv ∧ Ok hm u (preU ++ h :: postU) ∧ St hm (dd j1 j2) u π preU ∧ π.length + u.lv.length ≤ 5 ∧
      j1.length + u.lv.length ≤ 10 * i + 5 ∧ j2.length + u.lv.length ≤ 10 * i + 5 ∧
      ∀ D' : DD, (∀ ρ, (¬ ∃ τ, ρ = π ++ τ) → D'.1 ρ = (dd j1 j2).1 ρ ∧ D'.2 ρ = (dd j1 j2).2 ρ) → St hm D' u π (preU ++ [h]) → St hm D' t [] (pre ++ [h])
section
variable {P : Program} {w : World} {K : PySem.W.Frag} {mg : Str → Option Value} {base : Heap} {f : Addr} {fd : FuncData}
theorem scFault : FnScope ["plan", "row", "sources", "last_parts", "extremes", "height", "line", "path", "part", "kind", "parts", "index", "extreme"] ["plan", "row", "sources"] (defScope (topS 36)) := ⟨rfl, rfl, rfl, by decide +kernel, rfl, by decide +kernel, by decide +kernel⟩
def spFault : Sp := fun vs H Q _ => ∃ (v : V) (a b : Addr) (t : Pn) (ns : List Int) (ss : List Str) (hm : Int → Str), vs = [v, .ref a, .ref b] ∧ PlAt H t v ∧ PlOk t ∧ H a = some (.tup (ns.map V.int)) ∧ H b = some (.tup (ss.map V.str)) ∧ ss.length = ns.length ∧ ns.length ≤ 8 ∧
  (∀ (i : Nat) (x : Int), ns[i]? = some x → ss[i]? = some (hm x)) ∧ (∀ x ∈ ns, hm x ∈ t.lv) ∧ Ok hm t ns ∧ ∀ H', Same H H' → Q .non H'
theorem ok_fault {fw fb : Addr} {dw db : FuncData} (F : Fun K "fault_in" "fault_in" (topS 36) f fd) (G : Gs mg) (CW : Cal K mg "part_with" fw dw ["parts", "line"]) (OW : FnOk P w K mg base CX0 6 fw dw ["parts", "line"] (spWith K))
    (CB : Cal K mg "goes_behind" fb db ["head", "height", "kind"]) (OB : FnOk P w K mg base CX0 1 fb db ["head", "height", "kind"] spBehind) : FnOk P w K mg base CX0 7 f fd ["plan", "row", "sources"] spFault := by
  refine F.ok scFault (fun vs H Q E h => ?_) (fun cdv A outer s H vs Q E hr h => ?_)
  · obtain ⟨v, a, b, t, ns, ss, hm, rfl, _⟩ := h
    rfl
  obtain ⟨v, a, b, t, ns, ss, hm, rfl, hp, T, ha, hb, hsl, h8, hss, hlv, hok, q⟩ := h
  refine ⟨_, pss_cons (ps_par (i := 3) (j := 4) rfl scFault.nd rfl rfl (by decide) rfl rfl (pa_cons pe_dnewT (pa_cons pe_dnewT pa_nil)) rfl)
    (pss_cons (ps_for PassesOwn.never rfl (pi_zipA (by rfl) G.zip_ (pa_cons (pv 1) (pa_cons (pv 2) pa_nil)))
      (pg_tup rfl (pgs_cons (pg_name (i := 5) scFault.nd rfl (.inl rfl)) (pgs_cons (pg_name (i := 6) scFault.nd rfl (.inl rfl)) pgs_nil)))
      (pss_cons (ps_par (i := 7) (j := 8) rfl scFault.nd rfl rfl (by decide) rfl rfl (pa_cons (pe_tup pa_nil) (pa_cons (pv 0) pa_nil)) rfl)
      (pss_one (ps_while PassesOwn.never (pt_not (pt_val (pe_callB call_isi (by rfl) G.isinstance_ (by decide +kernel) (pa_cons (pv 8) (pa_cons (pe_bltn (by rfl) G.str_ (by decide +kernel) (v := .ty "str") rfl) pa_nil)))))
        (pss_cons (ps_asg (pv 8) (pg_tup rfl (pgs_cons (pg_name (i := 9) scFault.nd rfl (.inl rfl)) (pgs_cons (pg_name (i := 10) scFault.nd rfl (.inl rfl)) pgs_nil))))
        (pss_cons (ps_par (i := 11) (j := 12) rfl scFault.nd rfl rfl (by decide) rfl rfl (pa_cons (pe_call OW hr (by rfl) CW.m CW.kp CW.b .nil pass0 (pa_cons (pv 10) (pa_cons (pv 6) pa_nil))) (pa_cons (pe_dget2 (hu_of hr) (pv 4) (pv 7) (pv 5) ⟨rfl, rfl, rfl, rfl⟩) pa_nil)) rfl)
        (pss_cons (ps_if (pw_and (pt_cmpR op_ne (pe_dget2 (hu_of hr) (pv 3) (pv 7) (pv 11) ⟨rfl, rfl, rfl, rfl⟩) (pv 11) (nomark _)) (pw_and1 (pt_not (pt_val (pe_call OB (hr.mono (by decide)) (by rfl) CB.m CB.kp CB.b .nil pass0 (pa_cons (pv 12) (pa_cons (pv 5) (pa_cons (pv 9) pa_nil)))))))).pt (pss_one ps_never) pss_nil)
        (pss_cons (ps_dput (hu_of hr) (pv 3) (pv 7) (pv 11) rfl)
        (pss_cons (ps_dput (hu_of hr) (pv 4) (pv 7) (pe_ifExp (pt_cmpR op_eq (pv 9) (pe_gc (v := .str "low") (by rfl) G.low_) (nomark _)) (pe_callB (call_max2 rfl) (by rfl) G.max_ (by decide +kernel) (pa_cons (pv 12) (pa_cons (pv 5) pa_nil))) (pe_callB (call_min2 rfl) (by rfl) G.min_ (by decide +kernel) (pa_cons (pv 12) (pa_cons (pv 5) pa_nil)))) rfl)
        (pss_one (ps_par (i := 7) (j := 8) rfl scFault.nd rfl rfl (by decide) rfl rfl (pa_cons (pe_op op_catA (pv 7) (pe_tup (pa_cons (pv 11) pa_nil))) (pa_cons (pe_ix ix_tup (pv 10) (pv 11) (fun _ _ => rfl)) pa_nil)) rfl)))))))))))
    (pss_one (ps_ret pe_non))), ?_⟩
  intro d1 nd1 d2 nd2
  refine ⟨_, _, rfl, ?_⟩
  have hne12 : d1 ≠ d2 := ne_of_none upd_same nd2
  have s0 : Same H (upd (upd H d1 (.dT [])) d2 (.dT [])) := (same_upd nd1).trans (same_upd nd2)
  have nd2' : H d2 = none := (same_upd nd1).free nd2
  refine ⟨_, rfl, _, rfl, a, b, _, _, rfl, .inr ⟨SqT.of (s0 _ _ ha), SqT.of (s0 _ _ hb), for_zipT (K := K) (a := a) (b := b) (xs := ns.map V.int) (ys := ss.map V.str) (by rw [List.length_map, List.length_map, hsl])
    (fun i σ H2 => ∃ (y5 y6 y7 y8 y9 y10 y11 y12 : Option V) (k1 k2 : List (List Key × V)), σ = [some v, some (.ref a), some (.ref b), some (.ref d1), some (.ref d2), y5, y6, y7, y8, y9, y10, y11, y12] ∧ Same H H2 ∧ H2 d1 = some (.dT k1) ∧ H2 d2 = some (.dT k2) ∧
      k1.length ≤ 10 * i ∧ k2.length ≤ 10 * i ∧ St hm (dd k1 k2) t [] (ns.take i))
    ⟨none, none, none, none, none, none, none, none, [], [], rfl, s0, by rw [upd_ne hne12]; exact upd_same, upd_same, Nat.zero_le _, Nat.zero_le _, st_start (fun ρ => ⟨rfl, rfl⟩) t []⟩
    (fun i σ H2 ⟨_, _, _, _, _, _, _, _, _, _, _, sm, _⟩ => ⟨SqT.of (sm _ _ ha), SqT.of (sm _ _ hb)⟩) ?_ ?_⟩⟩
  · rintro i x z TT σ H2 hx hz ⟨y5, y6, y7, y8, y9, y10, y11, y12, k1, k2, rfl, sm, hd1, hd2, hk1, hk2, hst⟩ nT
    obtain ⟨h, hh, rfl⟩ := map_get hx
    obtain ⟨l, hl, rfl⟩ := map_get hz
    have hil := lt_of_get hh
    have hsi := hss i h hh
    rw [hl] at hsi
    have el : l = hm h := Option.some.inj hsi
    subst el
    have sT : Same H2 (upd H2 TT (.tup [.int h, .str (hm h)])) := same_upd nT
    refine ⟨TT, _, rfl, SqT.of upd_same, rfl, .int h, [.str (hm h)], rfl, .str (hm h), [], rfl, rfl, ?_⟩
    refine ⟨Nat.zero_le _, fun p0 np0 => ⟨_, rfl, _, _, rfl, ?_⟩⟩
    have sp0 := same_upd (o := .tup []) np0
    have s01 := sT.trans sp0
    generalize hH0 : upd (upd H2 TT (.tup [.int h, .str (hm h)])) p0 (.tup []) = H0
    rw [hH0] at s01
    have hp0 : H0 p0 = some (.tup []) := by rw [← hH0]; exact upd_same
    have ens : ns = ns.take i ++ h :: ns.drop (i + 1) := split_at hh
    have et : ns.take (i + 1) = ns.take i ++ [h] := by rw [List.take_add_one, hh]; rfl
    have hlvh := hlv h (List.mem_of_getElem? hh)
    refine ⟨WI H v a b d1 d2 h hm t (ns.take i) i, ⟨t.lv.length, by
      unfold WI
      exact ⟨t, [], ns.take i, ns.drop (i + 1), k1, k2, p0, v, _, _, _, _, rfl, rfl, sm.trans s01, hp.same (sm.trans s01), s01 _ _ hd1, s01 _ _ hd2, hp0, T.wf, T.nd, T.len, hlvh, by rw [← ens]; exact hok, hst, by have := T.len; simp; omega, by have := T.len; omega, by have := T.len; omega, fun D' _ h' => h'⟩⟩, ?_⟩
    intro m σ' H3 hWI
    unfold WI at hWI
    obtain ⟨u, π, preU, postU, j1, j2, pb, vu, y9, y10, y11, y12, rfl, rfl, sm3, hu, hj1, hj2, hpb, hwu, hndu, hu5, hmu, hoku, hstu, hlen, hl1, hl2, ctx⟩ := hWI
    cases u with
    | ln s0 =>
      obtain rfl := plAt_ln.mp hu
      refine ⟨_, rfl, .str s0, .ty "str", .type "str", .type "str", true, rfl, .ty _, .base (.str _), kit_ty (by decide +kernel), true, rfl, iteF ?_⟩
      refine ⟨_, _, _, _, _, _, _, _, j1, j2, rfl, sm3, hj1, hj2, by omega, by omega, ?_⟩
      rw [et]
      exact ctx _ (fun ρ _ => ⟨rfl, rfl⟩) st_ln
    | jn k ps =>
    obtain ⟨ua, ub, us, rfl, hua, hub, hps⟩ := plAt_jn.mp hu
    obtain ⟨hw1, hw2⟩ := wf_jn.mp hwu
    obtain ⟨ok1, ok2, ok3⟩ := (Ok_jn hm k ps _).mp hoku
    obtain ⟨hh1, hst2⟩ := st_jn.mp hstu
    rw [lv_jn] at hndu hu5 hmu hl1 hl2 hlen
    refine ⟨_, rfl, .ref ua, .ty "str", .type "tuple", .type "str", false, rfl, .ty _, .base (.tup hua), kit_ty (by decide +kernel), false, rfl, iteT ?_⟩
    refine ⟨fun σ' H' => ∃ m', m' < (Pl.jn k ps).lv.length ∧ WI H v a b d1 d2 h hm t (ns.take i) i m' σ' H', fun σ' H' hx => hx, ?_⟩
    -- kind, parts = part
    refine ⟨_, rfl, ua, _, rfl, SqT.of hua, rfl, .str (kS k), [.ref ub], rfl, .ref ub, [], rfl, rfl, ?_⟩
    -- index, extreme
    refine ⟨_, rfl, _, rfl, ub, us, ps, hm h, rfl, hub.t, hps, hw2, hu5, hmu, fun j p H4 hpj hmp s4 => ?_⟩
    have hpbk : H4 pb = some (.tup ((kI π).map kV)) := by rw [kI_kV]; exact s4 _ _ hpb
    refine ⟨_, rfl, d2, rfl, .inr ⟨_, .inl (s4 _ _ hj2)⟩, _, rfl, _, rfl, _, DGet.t (s4 _ _ hj2) hpbk, _, _, rfl, ?_⟩
    -- what the dicts say
    have info : ∃ (i1 e0 : Int), (valV j1 (kI π)).getD (.int (j : Nat)) = .int i1 ∧ (valV j2 (kI π)).getD (.int h) = .int e0 ∧ e0 ∈ preU ++ [h] ∧ (i1 ≠ (j : Nat) → beh k e0 h = true) := by
      rcases hh1 with ⟨e1, e2, e3⟩ | ⟨pre0, x, i0, p0', m0, e1, e2, e3, e4, e5, e6⟩
      · have e2' : valV j1 (kI π) = none := e2
        have e3' : valV j2 (kI π) = none := e3
        rw [e2', e3']
        exact ⟨_, h, rfl, rfl, by simp, fun z => absurd rfl z⟩
      · have e4' : valV j1 (kI π) = some (.int (i0 : Nat)) := e4
        have e6' : valV j2 (kI π) = some (.int m0) := e6
        rw [e4', e6']
        refine ⟨_, m0, rfl, rfl, by simp [e5], fun hne => ?_⟩
        rw [e1] at ok2
        rcases ok2 pre0 x h postU (by simp) with ⟨qq, hq1, hq2, hq3⟩ | hall
        · obtain ⟨c, hc⟩ := List.getElem?_of_mem hq1
          have h1 := part_index hndu e2 hc e3 hq2
          have h2 := part_index hndu hc hpj hq3 hmp
          exact absurd (by rw [h1, h2]) hne
        · rw [e1] at e5
          exact hall m0 e5
    obtain ⟨i1, e0, hi1, he0, hem, hbeh⟩ := info
    rw [he0]
    refine ⟨_, rfl, d1, rfl, .inr ⟨_, .inl (s4 _ _ hj1)⟩, _, rfl, _, rfl, _, DGet.t (s4 _ _ hj1) hpbk, ?_⟩
    rw [hi1]
    -- the rest of a turn, behind the test
    have rest : ∀ (m' : Int), m' ∈ preU ++ [h] → ∀ H5 : Hp, H5 = upd (upd H4 d1 (.dT (putK j1 (kI π) (.int (j : Nat))))) d2 (.dT (putK j2 (kI π) (.int m'))) → Same H H5 ∧ H5 d1 = some (.dT (putK j1 (kI π) (.int (j : Nat)))) ∧ H5 d2 = some (.dT (putK j2 (kI π) (.int m'))) ∧ H5 pb = some (.tup (π.map V.int)) ∧ TF H5 ub us ∧ PlsAt H5 ps us ∧
        St hm (dd (putK j1 (kI π) (.int (j : Nat))) (putK j2 (kI π) (.int m'))) p (π ++ [((j : Nat) : Int)]) (preU.filter (inP p hm)) ∧ Ok hm p (preU.filter (inP p hm) ++ h :: postU.filter (inP p hm)) ∧
        ∀ D' : DD, (∀ ρ, (¬ ∃ τ, ρ = (π ++ [((j : Nat) : Int)]) ++ τ) → D'.1 ρ = (dd (putK j1 (kI π) (.int (j : Nat))) (putK j2 (kI π) (.int m'))).1 ρ ∧ D'.2 ρ = (dd (putK j1 (kI π) (.int (j : Nat))) (putK j2 (kI π) (.int m'))).2 ρ) →
          St hm D' p (π ++ [((j : Nat) : Int)]) (preU.filter (inP p hm) ++ [h]) → St hm D' t [] (ns.take i ++ [h]) := by
      intro m' hm' H5 e5
      have sn1 : ∀ c o, H c = some o → c ≠ d1 := fun c o e => ne_of_none e nd1
      have sn2 : ∀ c o, H c = some o → c ≠ d2 := fun c o e => ne_of_none e nd2'
      have tupn : ∀ c o, H4 c = some o → (∀ kk, o ≠ .dT kk) → c ≠ d1 ∧ c ≠ d2 := fun c o e hno => ⟨ne_of e (s4 _ _ hj1) (hno _), ne_of e (s4 _ _ hj2) (hno _)⟩
      have keep : ∀ c o, H4 c = some o → (∀ kk, o ≠ .dT kk) → H5 c = some o := fun c o e hno => by
        obtain ⟨n1, n2⟩ := tupn c o e hno
        rw [e5, upd_ne n2, upd_ne n1]
        exact e
      have dk : ∀ ρ, ρ ≠ π → (dd (putK j1 (kI π) (.int (j : Nat))) (putK j2 (kI π) (.int m'))).1 ρ = (dd j1 j2).1 ρ ∧ (dd (putK j1 (kI π) (.int (j : Nat))) (putK j2 (kI π) (.int m'))).2 ρ = (dd j1 j2).2 ρ := fun ρ hne => by
        have hk : ¬ kI ρ = kI π := fun z => hne (kI_inj z)
        unfold dd
        exact ⟨by show valV _ _ = valV _ _; rw [valV_put, if_neg hk], by show valV _ _ = valV _ _; rw [valV_put, if_neg hk]⟩
      have dk1 : (dd (putK j1 (kI π) (.int (j : Nat))) (putK j2 (kI π) (.int m'))).1 π = some (.int (j : Nat)) := by
        show valV _ _ = _
        rw [valV_put, if_pos rfl]
      have dk2 : (dd (putK j1 (kI π) (.int (j : Nat))) (putK j2 (kI π) (.int m'))).2 π = some (.int m') := by
        show valV _ _ = _
        rw [valV_put, if_pos rfl]
      have hinp : inP p hm h = true := inP_iff.mpr hmp
      refine ⟨fun c o e => ?_, ?_, ?_, ?_, ?_, ?_, ?_, ?_, fun D' hD' hS => ?_⟩
      · rw [e5, upd_ne (sn2 c o e), upd_ne (sn1 c o e)]
        exact s4 _ _ (sm3 _ _ e)
      · rw [e5, upd_ne hne12, upd_same]
      · rw [e5, upd_same]
      · exact keep _ _ (s4 _ _ hpb) (fun kk => by intro z; cases z)
      · obtain ⟨its, eits⟩ := hub
        exact ⟨its, keep _ _ (s4 _ _ eits) (fun kk => by intro z; cases z)⟩
      · refine PlsAt.of hps.len fun c w p' e1 e2 => ?_
        obtain ⟨q', e3, e4⟩ := hps.get e1
        rw [e2] at e3
        cases e3
        exact PlAt.mono (fun c xs e => keep _ _ (s4 _ _ e) (fun kk => by intro z; cases z)) (fun c o xs e => keep _ _ (s4 _ _ e) (fun kk => by intro z; cases z)) p' w e4
      · refine st_congr p _ _ (fun ρ => dk _ ?_) (hst2 j p hpj)
        intro z
        have := congrArg List.length z
        simp at this
      · have := ok3 p (List.mem_of_getElem? hpj)
        rw [List.filter_append, List.filter_cons, if_pos hinp] at this
        exact this
      · have hπ : ¬ ∃ τ, π = (π ++ [((j : Nat) : Int)]) ++ τ := by
          rintro ⟨τ, z⟩
          have := congrArg List.length z
          simp at this
        refine ctx D' (fun ρ hρ => ?_) (st_jn.mpr ⟨?_, fun c p' hc => ?_⟩)
        · have h1 : ¬ ∃ τ, ρ = (π ++ [((j : Nat) : Int)]) ++ τ := fun ⟨τ, z⟩ => hρ ⟨((j : Nat) : Int) :: τ, by rw [z]; simp⟩
          have h2 : ρ ≠ π := fun z => hρ ⟨[], by rw [z]; simp⟩
          have h3 := hD' ρ h1
          have h4 := dk ρ h2
          exact ⟨h3.1.trans h4.1, h3.2.trans h4.2⟩
        · have h3 := hD' π hπ
          exact .inr ⟨preU, h, j, p, m', rfl, hpj, hmp, by rw [h3.1]; exact dk1, hm', by rw [h3.2]; exact dk2⟩
        · by_cases hcj : c = j
          · subst hcj
            rw [hpj] at hc
            cases hc
            rw [List.filter_append, List.filter_cons, if_pos hinp]
            exact hS
          · have hno : inP p' hm h = false := by
              cases hb : inP p' hm h with
              | false => rfl
              | true => exact absurd (part_index hndu hc hpj (inP_iff.mp hb) hmp) hcj
            rw [List.filter_append, List.filter_cons, hno, if_neg Bool.false_ne_true, List.filter_nil, List.append_nil]
            refine st_congr p' _ _ (fun ρ => ?_) (hst2 c p' hc)
            have h1 : ¬ ∃ τ, (π ++ [((c : Nat) : Int)]) ++ ρ = (π ++ [((j : Nat) : Int)]) ++ τ := by
              rintro ⟨τ, z⟩
              rw [List.append_assoc, List.append_assoc] at z
              have z2 := List.append_cancel_left z
              have z3 : ((c : Nat) : Int) :: ρ = ((j : Nat) : Int) :: τ := z2
              injection z3 with z4 _
              omega
            have h2 : (π ++ [((c : Nat) : Int)]) ++ ρ ≠ π := by
              intro z
              have := congrArg List.length z
              simp at this
            have h3 := hD' _ h1
            have h4 := dk _ h2
            exact ⟨h3.1.trans h4.1, h3.2.trans h4.2⟩
    have hpm := List.mem_of_getElem? hpj
    have hlt := lv_part hwu hpm
    rw [lv_jn] at hlt
    have hl1' := length_putK j1 (kI π) (.int (j : Nat))
    have hl2' : ∀ m' : Int, (putK j2 (kI π) (.int m')).length ≤ j2.length + 1 := fun m' => length_putK j2 (kI π) (.int m')
    -- last_parts[path], extremes[path], path, part
    have tail : ∀ (m' : Int), m' ∈ preU ++ [h] → ∀ (H5 : Hp), H5 = upd (upd H4 d1 (.dT (putK j1 (kI π) (.int (j : Nat))))) d2 (.dT (putK j2 (kI π) (.int m'))) → ∀ (pn : Addr) (H6 : Hp), Same H5 H6 → H6 pn = some (.tup ((π ++ [((j : Nat) : Int)]).map V.int)) → ∀ vp, us[j]? = some vp →
        ∃ m', m' < (Pl.jn k ps).lv.length ∧ WI H v a b d1 d2 h hm t (ns.take i) i m' [some v, some (.ref a), some (.ref b), some (.ref d1), some (.ref d2), some (.int h), some (.str (hm h)), some (.ref pn), some vp, some (.str (kS k)), some (.ref ub), some (.int (j : Nat)), some (.int e0)] H6 := by
      intro m' hm' H5 e5 pn H6 s6 hpn vp hvp
      obtain ⟨r1, r2, r3, r4, r5, r6, r7, r8, r9⟩ := rest m' hm' H5 e5
      obtain ⟨p', g1, g2⟩ := r6.get hvp
      rw [hpj] at g1
      cases g1
      have l2 := hl2' m'
      exact ⟨p.lv.length, by rw [lv_jn]; exact hlt, by
        unfold WI
        exact ⟨p, π ++ [((j : Nat) : Int)], preU.filter (inP p hm), postU.filter (inP p hm), _, _, pn, vp, _, _, _, _, rfl, rfl, r1.trans s6, g2.same s6, s6 _ _ r2, s6 _ _ r3, hpn, hw2 p hpm, nodup_part hndu hpm, by omega, hmp, r8, r7, by rw [List.length_append, List.length_singleton]; omega, by omega, by omega, r9⟩⟩
    obtain ⟨vp, hvp, _⟩ := hps.get' hpj
    have small1 : j1.length < sizeLine := small1000 (by omega)
    have small2 : j2.length < sizeLine := small1000 (by omega)
    have hjat : atI us ((j : Nat) : Int) = some vp := atI_nat hvp
    have hn2 : d2 ≠ d1 := fun z => hne12 z.symm
    have mem_max : ∀ m' : Int, m' = h ∨ m' = e0 → m' ∈ preU ++ [h] := fun m' z => z.elim (fun z => by rw [z]; simp) (fun z => by rw [z]; exact hem)
    by_cases hij : i1 = ((j : Nat) : Int)
    case' pos =>
      have hbl : V.bl (!decide (V.int i1 = V.int ((j : Nat) : Int))) = V.bl false := by
        rw [decide_eq_true (by rw [hij])]
        rfl
      refine ⟨_, rfl, rfl, false, hbl, iteF (iteF ?_)⟩
    case' neg =>
      have hbl : V.bl (!decide (V.int i1 = V.int ((j : Nat) : Int))) = V.bl true := by
        rw [decide_eq_false (by intro z; injection z with z; exact hij z)]
        rfl
      refine ⟨_, rfl, rfl, true, hbl, iteT ⟨_, rfl, _, rfl, _, rfl, e0, h, k, rfl, true, by rw [hbeh hij], iteF ?_⟩⟩
    all_goals
      refine ⟨_, rfl, _, rfl, _, rfl, d1, _, rfl, DPut.t (s4 _ _ hj1) hpbk small1, ?_⟩
      have hd2m : (upd H4 d1 (.dT (putK j1 (kI π) (.int (j : Nat))))) d2 = some (.dT j2) := by rw [upd_ne hn2]; exact s4 _ _ hj2
      have hpbm : (upd H4 d1 (.dT (putK j1 (kI π) (.int (j : Nat))))) pb = some (.tup ((kI π).map kV)) := by rw [upd_ne (ne_of hpbk (s4 _ _ hj1) (by intro z; cases z))]; exact hpbk
      refine ⟨_, rfl, rfl, _, rfl, ?_⟩
      have ek : decide (V.str (kS k) = V.str "low") = k := by cases k <;> decide +kernel
      rw [ek]
      cases k
      case' false =>
        obtain ⟨mm, hmm⟩ : ∃ mm : Int, (if h < e0 then h else e0) = mm := ⟨_, rfl⟩
        have hmem := mem_max mm (by rw [← hmm]; split <;> simp)
        refine iteF ⟨_, rfl, _, rfl, e0, h, rfl, ?_⟩
        rw [hmm]
      case' true =>
        obtain ⟨mm, hmm⟩ : ∃ mm : Int, (if h > e0 then h else e0) = mm := ⟨_, rfl⟩
        have hmem := mem_max mm (by rw [← hmm]; split <;> simp)
        refine iteT ⟨_, rfl, _, rfl, e0, h, rfl, ?_⟩
        rw [hmm]
      all_goals
        refine ⟨_, rfl, _, rfl, d2, _, rfl, DPut.t hd2m hpbm small2, ?_⟩
        have ht := tail mm hmem _ rfl
        obtain ⟨r1, r2, r3, r4, r5, r6, r7, r8, r9⟩ := rest mm hmem _ rfl
        refine ⟨_, rfl, _, rfl, (by show 1 ≤ sizeLine; decide), fun tq ntq => ?_⟩
        have stq := same_upd (o := .tup [.int (j : Nat)]) ntq
        refine ⟨pb, tq, π.map V.int, [.int (j : Nat)], rfl, rfl, SqT.of (stq _ _ r4), SqT.of upd_same, by rw [List.length_map]; exact small (by show π.length + 1 ≤ 1000; omega), fun e => ?_, fun _ e => (nomatch e), fun _ _ tn ntn => ?_⟩
        · refine ⟨_, rfl, _, rfl, ub, us, _, vp, rfl, rfl, (r5.same stq).t, hjat, _, _, rfl, ht tq _ stq ?_ vp hvp⟩
          rw [List.map_append, e, upd_same]
          rfl
        · have stn := same_upd (o := .tup (π.map V.int ++ [.int (j : Nat)])) ntn
          refine ⟨_, rfl, _, rfl, ub, us, _, vp, rfl, rfl, ((r5.same stq).same stn).t, hjat, _, _, rfl, ht tn _ (stq.trans stn) ?_ vp hvp⟩
          rw [List.map_append, upd_same]
          rfl
  · rintro σ H2 ⟨y5, y6, y7, y8, y9, y10, y11, y12, k1, k2, rfl, sm, _⟩
    exact q H2 sm
end
end FW
end
section
/-! M9: the least lines, person by person. -/
namespace FW
open PySem FM
theorem nodup_len {α : Type} [DecidableEq α] : ∀ {l m : List α}, l.Nodup → (∀ x ∈ l, x ∈ m) → l.length ≤ m.length
  | [], m, _, _ => Nat.zero_le _
  | a :: r, m, nd, h => by
    obtain ⟨h1, h2⟩ := List.nodup_cons.mp nd
    have ha := h a List.mem_cons_self
    have ih := nodup_len (l := r) (m := m.erase a) h2 fun x hx => (List.mem_erase_of_ne (fun z => h1 (by rw [← z]; exact hx))).mpr (h x (List.mem_cons_of_mem _ hx))
    rw [List.length_erase_of_mem ha] at ih
    have := List.length_pos_of_mem ha
    rw [List.length_cons]
    omega
/-- what is known when the first i people have their lines -/
def Gk (kn : Int → Option Str) (zs : List (Int × Str)) : Int → Option Str := zs.foldl (fun g p => put g p.1 p.2) kn
theorem Gk_snoc (kn : Int → Option Str) (zs : List (Int × Str)) (p : Int × Str) : Gk kn (zs ++ [p]) = put (Gk kn zs) p.1 p.2 := by
  unfold Gk
  rw [List.foldl_append]
  rfl
theorem Gk_out {h : Int} : ∀ (zs : List (Int × Str)) (kn : Int → Option Str), (∀ p ∈ zs, p.1 ≠ h) → Gk kn zs h = kn h
  | [], kn, _ => rfl
  | p :: r, kn, hz => by
    have e : Gk kn (p :: r) h = Gk (put kn p.1 p.2) r h := rfl
    rw [e, Gk_out r _ fun q hq => hz q (List.mem_cons_of_mem _ hq), put_ne (fun z => hz p List.mem_cons_self z.symm)]
/-- the least lines, person by person -/
structure Least (t : Pn) (ns : List Int) (kn : Int → Option Str) (ss : List Str) : Prop where
  len : ss.length = ns.length
  ln : ∀ s ∈ ss, s ∈ t.lv
  agree : ∀ (i : Nat) (h : Int) (s l : Str), ns[i]? = some h → ss[i]? = some s → kn h = some l → s = l
  less : ∀ (i : Nat) (h : Int) (s l : Str), ns[i]? = some h → ss[i]? = some s → kn h = none → l ∈ t.lv → leS s l = false → Sf (put (Gk kn ((ns.take i).zip (ss.take i))) h l) (flat t) ns = 0
  fin : Sf (Gk kn (ns.zip ss)) (flat t) ns ≠ 0
structure Gr (t : Pn) (ns : List Int) (kn : Int → Option Str) (i : Nat) (g : Int → Option Str) (ss : List Str) : Prop where
  len : ss.length = i
  ln : ∀ s ∈ ss, s ∈ t.lv
  fn : g = Gk kn ((ns.take i).zip ss)
  agree : ∀ (j : Nat) (h : Int) (s l : Str), ns[j]? = some h → ss[j]? = some s → kn h = some l → s = l
  less : ∀ (j : Nat) (h : Int) (s l : Str), ns[j]? = some h → ss[j]? = some s → kn h = none → l ∈ t.lv → leS s l = false → Sf (put (Gk kn ((ns.take j).zip (ss.take j))) h l) (flat t) ns = 0
  has : ∀ (j : Nat) (h : Int) (s : Str), ns[j]? = some h → ss[j]? = some s → g h = some s
  pos : Sf g (flat t) ns ≠ 0
section
variable {t : Pn} {ns : List Int} {kn g : Int → Option Str} {i : Nat} {ss : List Str} {h : Int}
theorem Gr.start (hz : Sf kn (flat t) ns ≠ 0) : Gr t ns kn 0 kn [] :=
  ⟨rfl, fun s hs => (nomatch hs), by rw [List.take_zero]; rfl, fun j h s l _ e => by simp at e, fun j h s l _ e => by simp at e, fun j h s _ e => by simp at e, hz⟩
theorem Gr.at_h (R : Gr t ns kn i g ss) (nd : ns.Nodup) (hi : ns[i]? = some h) : g h = kn h := by
  rw [R.fn]
  refine Gk_out _ _ fun p hp z => ?_
  have h1 : p.1 ∈ ns.take i := (List.of_mem_zip hp).1
  rw [z] at h1
  obtain ⟨j, hj⟩ := List.getElem?_of_mem h1
  rw [List.getElem?_take] at hj
  by_cases hlt : j < i
  · rw [if_pos hlt] at hj
    have := L2.nd_ix nd hj hi
    omega
  · rw [if_neg hlt] at hj
    cases hj
theorem zip_step (R : Gr t ns kn i g ss) (hi : ns[i]? = some h) (s : Str) : (ns.take (i + 1)).zip (ss ++ [s]) = (ns.take i).zip ss ++ [(h, s)] := by
  have hil := lt_of_get hi
  rw [List.take_add_one, hi]
  show (ns.take i ++ [h]).zip (ss ++ [s]) = _
  rw [List.zip_append (by rw [List.length_take, R.len]; omega)]
  rfl
theorem snoc_at {α : Type} {l : List α} {x y : α} {j : Nat} (e : (l ++ [x])[j]? = some y) : (j < l.length ∧ l[j]? = some y) ∨ (j = l.length ∧ x = y) := by
  by_cases hj : j < l.length
  · rw [List.getElem?_append_left hj] at e
    exact .inl ⟨hj, e⟩
  · have := lt_of_get e
    rw [List.length_append, List.length_singleton] at this
    have hj2 : j = l.length := by omega
    subst hj2
    rw [List.getElem?_append_right (Nat.le_refl _)] at e
    simp at e
    exact .inr ⟨rfl, e⟩
theorem Gr.step (R : Gr t ns kn i g ss) (nd : ns.Nodup) (hi : ns[i]? = some h) {s : Str} (hs : s ∈ t.lv) (ha : ∀ l, kn h = some l → s = l)
    (hl : kn h = none → ∀ l, l ∈ t.lv → leS s l = false → Sf (put g h l) (flat t) ns = 0) (hp : Sf (put g h s) (flat t) ns ≠ 0) : Gr t ns kn (i + 1) (put g h s) (ss ++ [s]) := by
  have hlen := R.len
  refine ⟨by rw [List.length_append, hlen]; rfl, fun s' hs' => ?_, ?_, fun j h' s' l e1 e2 e3 => ?_, fun j h' s' l e1 e2 e3 e4 e5 => ?_, fun j h' s' e1 e2 => ?_, hp⟩
  · rcases List.mem_append.mp hs' with z | z
    · exact R.ln _ z
    · rw [List.mem_singleton.mp z]
      exact hs
  · rw [zip_step R hi, Gk_snoc, ← R.fn]
  · rcases snoc_at e2 with ⟨_, e⟩ | ⟨e, z⟩
    · exact R.agree j h' s' l e1 e e3
    · subst z
      rw [e, hlen, hi] at e1
      cases e1
      exact ha l e3
  · rcases snoc_at e2 with ⟨hj, e⟩ | ⟨e, z⟩
    · have := R.less j h' s' l e1 e e3 e4 e5
      rw [List.take_append_of_le_length (by omega)]
      exact this
    · subst z
      subst e
      rw [hlen, hi] at e1
      cases e1
      rw [List.take_left' rfl, hlen, ← R.fn]
      exact hl e3 l e4 e5
  · rcases snoc_at e2 with ⟨hj, e⟩ | ⟨e, z⟩
    · have hne : h' ≠ h := fun z => by
        rw [z] at e1
        have := L2.nd_ix nd e1 hi
        omega
      rw [put_ne hne]
      exact R.has j h' s' e1 e
    · subst z
      rw [e, hlen, hi] at e1
      cases e1
      rw [put_same]
theorem put_id {g : Int → Option Str} {h : Int} {s : Str} (e : g h = some s) : put g h s = g := by
  funext x
  unfold put
  by_cases hx : x = h
  · rw [if_pos hx, hx, e]
  · rw [if_neg hx]
theorem Gr.known (R : Gr t ns kn i g ss) (nd : ns.Nodup) (hi : ns[i]? = some h) {s : Str} (e : g h = some s) (hln : ∀ x l, kn x = some l → l ∈ t.lv) : Gr t ns kn (i + 1) g (ss ++ [s]) := by
  have hk := R.at_h nd hi
  rw [e] at hk
  have := R.step nd hi (hln h s hk.symm) (fun l hl => by rw [← hk] at hl; exact Option.some.inj hl) (fun hn => by rw [← hk] at hn; cases hn) (s := s) (by rw [put_id e]; exact R.pos)
  rw [put_id e] at this
  exact this
theorem Gr.new (R : Gr t ns kn i g ss) (nd : ns.Nodup) (hi : ns[i]? = some h) (hn : g h = none) {j0 : Nat} {l0 : Str} (hj : (srt t.lv)[j0]? = some l0) (hz : ∀ l ∈ (srt t.lv).take j0, Sf (put g h l) (flat t) ns = 0) (hp : Sf (put g h l0) (flat t) ns ≠ 0) :
    Gr t ns kn (i + 1) (put g h l0) (ss ++ [l0]) := by
  have hk := R.at_h nd hi
  rw [hn] at hk
  refine R.step nd hi (mem_srt.mp (List.mem_of_getElem? hj)) (fun l hl => by rw [← hk] at hl; cases hl) (fun _ l hl he => hz l ?_) hp
  have hm := mem_srt.mpr hl
  have hs := split_at hj
  rw [hs] at hm
  rcases List.mem_append.mp hm with z | z
  · exact z
  · exfalso
    have hpw := srt_pw t.lv
    rw [hs] at hpw
    have h2 := (List.pairwise_append.mp hpw).2.1
    rcases List.mem_cons.mp z with z | z
    · rw [z] at he
      have : leS l0 l0 = true := by
        unfold leS
        exact decide_eq_true (List.le_refl _)
      rw [this] at he
      cases he
    · have := (List.pairwise_cons.mp h2).1 l z
      rw [this] at he
      cases he
theorem Gr.some_line (R : Gr t ns kn i g ss) (T : PlOk t) (nd : ns.Nodup) (hi : ns[i]? = some h) (hn : g h = none) : ¬ ∀ l ∈ srt t.lv, Sf (put g h l) (flat t) ns = 0 := by
  intro hz
  have hs := Sf_sum (srt_nd T.nd) hn (flat t) (fun s hs => mem_srt.mpr ((flat_perm t).mem_iff.mp hs)) ns nd (List.mem_of_getElem? hi)
  rw [sumOf_zero hz] at hs
  exact R.pos hs.symm
theorem Gr.done (R : Gr t ns kn ns.length g ss) : Least t ns kn ss :=
  ⟨R.len, R.ln, R.agree, R.less, by have := R.pos; rw [R.fn, List.take_length] at this; exact this⟩
end
end FW
end
section
/-! W12: find_fault, is_possible, first_sources. -/
namespace FW
open PySem PySem.Spec PyProof.Rows L2 FM FR RZ
section
variable {P : Program} {w : World} {K : PySem.W.Frag} {mg : Str → Option Value} {base : Heap} {f : Addr} {fd : FuncData}
theorem scFind : FnScope ["plan", "row", "sources"] ["plan", "row", "sources"] (defScope (topS 38)) := ⟨rfl, rfl, rfl, by decide +kernel, rfl, by decide +kernel, by decide +kernel⟩
def spFind (R : V) : Sp := fun vs H Q _ => ∃ (v : V) (a b : Addr) (t : Pn) (ns : List Int) (ss : List Str) (hm : Int → Str), vs = [v, .ref a, .ref b] ∧ PlAt H t v ∧ PlOk t ∧ H a = some (.tup (ns.map V.int)) ∧ RowOk ns ∧ H b = some (.tup (ss.map V.str)) ∧ ss.length = ns.length ∧
  (∀ s ∈ ss, s ∈ t.lv) ∧ (∀ (i : Nat) (x : Int), ns[i]? = some x → ss[i]? = some (hm x)) ∧ Ok hm t ns ∧ ∀ H', Same H H' → Q R H'
theorem ok_find {fc fr fs ff : Addr} {dc dr ds df : FuncData} (F : Fun K "find_fault" "find_fault" (topS 38) f fd) (CC : Cal K mg "check_plan" fc dc ["plan"]) (OC : FnOk P w K mg base CX0 8 fc dc ["plan"] spCPlan)
    (CR : Cal K mg "check_row" fr dr ["row"]) (OR : FnOk P w K mg base CX0 3 fr dr ["row"] (spRow K)) (CS : Cal K mg "check_sources" fs ds ["plan", "row", "sources"]) (OS : FnOk P w K mg base CX0 6 fs ds ["plan", "row", "sources"] spSources)
    (CF : Cal K mg "fault_in" ff df ["plan", "row", "sources"]) (OF : FnOk P w K mg base CX0 7 ff df ["plan", "row", "sources"] spFault) : FnOk P w K mg base CX0 9 f fd ["plan", "row", "sources"] (spFind .non) := by
  refine F.ok scFind (fun vs H Q E h => ?_) (fun cdv A outer s H vs Q E hr h => ?_)
  · obtain ⟨v, a, b, t, ns, ss, hm, rfl, _⟩ := h
    rfl
  obtain ⟨v, a, b, t, ns, ss, hm, rfl, hp, T, ha, R, hb, hsl, hin, hss, hok, q⟩ := h
  refine ⟨_, pss_cons (ps_expr (pe_call OC hr (by rfl) CC.m CC.kp CC.b .nil pass0 (pa_cons (pv 0) pa_nil)))
    (pss_cons (ps_expr (pe_call OR (hr.mono (by decide)) (by rfl) CR.m CR.kp CR.b .nil pass0 (pa_cons (pv 1) pa_nil)))
    (pss_cons (ps_expr (pe_call OS (hr.mono (by decide)) (by rfl) CS.m CS.kp CS.b .nil pass0 (pa_cons (pv 0) (pa_cons (pv 1) (pa_cons (pv 2) pa_nil)))))
    (pss_one (ps_ret (pe_call OF (hr.mono (by decide)) (by rfl) CF.m CF.kp CF.b .nil pass0 (pa_cons (pv 0) (pa_cons (pv 1) (pa_cons (pv 2) pa_nil)))))))), ?_⟩
  refine ⟨_, rfl, v, t, rfl, hp, T, fun H1 s1 => ?_⟩
  refine ⟨_, rfl, a, ns, rfl, s1 _ _ ha, R, fun H2 s2 => ?_⟩
  have s12 := s1.trans s2
  refine ⟨_, rfl, _, rfl, _, rfl, v, a, b, t, ns, ss, rfl, hp.same s12, T, s12 _ _ ha, s12 _ _ hb, hsl, hin, fun H3 s3 => ?_⟩
  have s13 := s12.trans s3
  refine ⟨_, rfl, _, rfl, _, rfl, v, a, b, t, ns, ss, hm, rfl, hp.same s13, T, s13 _ _ ha, s13 _ _ hb, hsl, R.len, hss, fun x hx => ?_, hok, fun H4 s4 => q H4 (s13.trans s4)⟩
  obtain ⟨i, hi⟩ := List.getElem?_of_mem hx
  exact hin _ (List.mem_of_getElem? (hss i x hi))
theorem scPoss : FnScope ["plan", "row", "sources"] ["plan", "row", "sources"] (defScope (topS 37)) := ⟨rfl, rfl, rfl, by decide +kernel, rfl, by decide +kernel, by decide +kernel⟩
theorem ok_poss {ff : Addr} {df : FuncData} (F : Fun K "is_possible" "is_possible" (topS 37) f fd) (CF : Cal K mg "find_fault" ff df ["plan", "row", "sources"]) (OF : FnOk P w K mg base CX0 9 ff df ["plan", "row", "sources"] (spFind .non)) :
    FnOk P w K mg base CX0 10 f fd ["plan", "row", "sources"] (spFind (.bl true)) := by
  refine F.ok scPoss (fun vs H Q E h => ?_) (fun cdv A outer s H vs Q E hr h => ?_)
  · obtain ⟨v, a, b, t, ns, ss, hm, rfl, _⟩ := h
    rfl
  obtain ⟨v, a, b, t, ns, ss, hm, rfl, hp, T, ha, R, hb, hsl, hin, hss, hok, q⟩ := h
  refine ⟨_, pss_one (ps_ret (pe_cmp (pc_isN (pe_call OF hr (by rfl) CF.m CF.kp CF.b .nil pass0 (pa_cons (pv 0) (pa_cons (pv 1) (pa_cons (pv 2) pa_nil))))) rfl)), ?_⟩
  exact ⟨_, rfl, _, rfl, _, rfl, v, a, b, t, ns, ss, hm, rfl, hp, T, ha, R, hb, hsl, hin, hss, hok, fun H1 s1 => q H1 s1⟩
/-! ### first_sources -/
theorem scFirst : FnScope ["plan", "row", "known", "found", "flat", "height", "line"] ["plan", "row", "known"] (defScope (topS 45)) := ⟨rfl, rfl, rfl, by decide +kernel, rfl, by decide +kernel, by decide +kernel⟩
def spFirst : Sp := fun vs H Q _ => ∃ (v : V) (a b : Addr) (t : Pn) (ns : List Int) (kn : List (Int × Str)), vs = [v, .ref a, .ref b] ∧ PlAt H t v ∧ PlOk t ∧ H a = some (.tup (ns.map V.int)) ∧ RowOk ns ∧ KnAt H b kn ∧ KnOk t ns kn ∧
  (∀ H', Same H H' → Sf (lk kn) (flat t) ns = 0 → Q .non H') ∧
  ∀ (r : Addr) (ss : List Str) (H' : Hp), Same H H' → H' r = some (.tup (ss.map V.str)) → Sf (lk kn) (flat t) ns ≠ 0 → Least t ns (lk kn) ss → Q (.ref r) H'
theorem ok_first {fa ff fw fp fl : Addr} {da df dw dp dl : FuncData} (F : Fun K "first_sources" "first_sources" (topS 45) f fd) (G : Gs mg) (CA : Cal K mg "check_asked" fa da ["plan", "row", "known"]) (OA : FnOk P w K mg base CX0 9 fa da ["plan", "row", "known"] spKnown)
    (CF : Cal K mg "flat_form" ff df ["plan"]) (OF : FnOk P w K mg base CX0 12 ff df ["plan"] (spFlat 5)) (CW : Cal K mg "ways_to" fw dw ["plan", "people", "known"]) (OW : FnOk P w K mg base CX0 11 fw dw ["plan", "people", "known"] (spWays K 5))
    (CP : Cal K mg "with_person" fp dp ["known", "height", "line"]) (OP : FnOk P w K mg base CX0 1 fp dp ["known", "height", "line"] spPers) (CL : Cal K mg "lines_in" fl dl ["plan"]) (OL : FnOk P w K mg base CX0 5 fl dl ["plan"] (spLines 5)) :
    FnOk P w K mg base CX0 13 f fd ["plan", "row", "known"] spFirst := by
  refine F.ok scFirst (fun vs H Q E h => ?_) (fun cdv A outer s H vs Q E hr h => ?_)
  · obtain ⟨v, a, b, t, ns, kn, rfl, _⟩ := h
    rfl
  obtain ⟨v, a, b, t, ns, kn, rfl, hp, T, ha, R, hk, KO, q0, q⟩ := h
  have hr11 : Room 11 _ := hr.mono (by decide)
  refine ⟨_, pss_cons (ps_expr (pe_call OA (hr.mono (by decide)) (by rfl) CA.m CA.kp CA.b .nil pass0 (pa_cons (pv 0) (pa_cons (pv 1) (pa_cons (pv 2) pa_nil)))))
    (pss_cons (ps_asg (pe_tup (pa_cons (pe_callTy (call_dictT rfl) (by rfl) G.dict_ (by decide +kernel) (pa_cons (pv 2) pa_nil)) (pa_cons (pe_call OF hr (by rfl) CF.m CF.kp CF.b .nil pass0 (pa_cons (pv 0) pa_nil)) pa_nil)))
      (pg_tup rfl (pgs_cons (pg_name (i := 3) scFirst.nd rfl (.inr rfl)) (pgs_cons (pg_name (i := 4) scFirst.nd rfl (.inl rfl)) pgs_nil))))
    (pss_cons (ps_if (pt_cmpR op_eq (pe_call OW hr11 (by rfl) CW.m CW.kp CW.b .nil pass0 (pa_cons (pv 4) (pa_cons (pv 1) (pa_cons (pv 3) pa_nil)))) pe_int (nomark _)) (pss_one (ps_ret pe_non)) pss_nil)
    (pss_cons (ps_for PassesOwn.never rfl (pi_tup (pv 1)) (pg_name (i := 5) scFirst.nd rfl (.inl rfl))
      (pss_one (ps_for PassesOwn.never rfl (pi_tup (pe_call OL (hr.mono (by decide)) (by rfl) CL.m CL.kp CL.b .nil pass0 (pa_cons (pv 0) pa_nil))) (pg_name (i := 6) scFirst.nd rfl (.inl rfl))
        (pss_one (ps_if (pw_and (pt_cmp (pc_dnotin (hu_of hr) (pv 5) (pv 3))) (pw_and1 (pt_cmpR op_gt (pe_call OW hr11 (by rfl) CW.m CW.kp CW.b .nil pass0 (pa_cons (pv 4) (pa_cons (pv 1) (pa_cons (pe_call OP (hr.mono (by decide)) (by rfl) CP.m CP.kp CP.b .nil pass0 (pa_cons (pv 3) (pa_cons (pv 5) (pa_cons (pv 6) pa_nil)))) pa_nil)))) pe_int (nomark _)))).pt
          (pss_one (ps_dput (hu_of hr) (pv 3) (pv 5) (pv 6) rfl)) pss_nil)))))
    (pss_one (ps_ret (pe_callTy call_tuple_of (by rfl) G.tuple_ (by decide +kernel) (pa_cons (pe_lc (own := [("height", 5)]) (g := gName 5) (by rfl) scFirst.nd (pi_tup (pv 1)) (blkOk_by (N := ["plan", "row", "known", "found", "flat", "height", "line"]) (sc := defScope (topS 45)) (by decide +kernel))
      (fun _ _ _ _ _ => pg_name (i := 5) scFirst.nd rfl (Or.inl rfl)) (fun _ _ _ _ _ => pts_nil) (fun _ _ _ _ _ => pe_dget (hu_of hr) (pv 3) (pv 5) (fun _ _ => rfl))) pa_nil))))))), ?_⟩
  have h5 := T.len
  have R8 := R.len
  refine ⟨_, rfl, _, rfl, _, rfl, v, a, b, t, ns, kn, rfl, hp, T, ha, R, hk, KO, fun H1 s1 => ?_⟩
  obtain ⟨as, hk1, hk2, hk3⟩ := hk.same s1
  refine ⟨_, rfl, b, as, dkv kn, rfl, hk1, kn_pairs hk2 hk3, fun d nd => ?_⟩
  rw [merge_kn KO.asc]
  have s2 := same_upd (o := .dK (dkv kn)) nd
  have ndH : H d = none := s1.free nd
  refine ⟨_, rfl, v, t, rfl, hp.same (s1.trans s2), T.wf, h5, h5, fun v' H3 s3 hv' => ?_⟩
  have hd3 := s3 _ _ (upd_same (H := H1) (a := d) (o := .dK (dkv kn)))
  refine ⟨(by show 2 ≤ sizeLine; decide), fun tp ntp => ⟨tp, _, rfl, SqT.of upd_same, rfl, .ref d, [v'], rfl, v', [], rfl, rfl, ?_⟩⟩
  have s4 := same_upd (o := .tup [.ref d, v']) ntp
  have hd4 := s4 _ _ hd3
  have hv4 := hv'.same s4
  have s04 : Same H (upd H3 tp (.tup [.ref d, v'])) := s1.trans (s2.trans (s3.trans s4))
  generalize upd H3 tp (.tup [.ref d, v']) = H4 at *
  have hkl : kn.length ≤ 8 := by
    have h1 : (kn.map (·.1)).Nodup := List.pairwise_map.mpr (KO.asc.imp fun {p q} hpq z => by omega)
    have h2 : ∀ x ∈ kn.map (·.1), x ∈ ns := fun x hx => by
      obtain ⟨p, hp, rfl⟩ := List.mem_map.mp hx
      exact KO.row p hp
    have h3 := nodup_len h1 h2
    rw [List.length_map] at h3
    omega
  have hln : ∀ x l, lk kn x = some l → l ∈ t.lv := fun x l e => by
    unfold lk at e
    cases hf : kn.find? (fun p => decide (p.1 = x)) with
    | none => rw [hf] at e; cases e
    | some p =>
      rw [hf] at e
      have e2 : p.2 = l := Option.some.inj e
      rw [← e2]
      exact KO.ln p (List.mem_of_find?_eq_some hf)
  refine ⟨_, rfl, _, rfl, _, rfl, v', a, d, flat t, ns, kn, rfl, hv4, flat_wf t T.wf, T.flat.nd, T.flat.len, T.flat.len, s04 _ _ ha, R.nd, R8, hd4, fun H5 s5 => ⟨rfl, _, rfl, ?_⟩⟩
  have s05 := s04.trans s5
  by_cases hz : Sf (lk kn) (flat t) ns = 0
  · rw [hz]
    exact iteT (q0 H5 s05 hz)
  rw [decide_eq_false (by intro z; injection z with z; omega)]
  refine iteF ?_
  have hd5 := s5 _ _ hd4
  have hv5 := hv4.same s5
  have ha5 := s05 _ _ ha
  -- the plans' readings do not lean on the dict
  have keepT : ∀ {Ha Hb : Hp} {u : Pn} {w : V} {kk : List (Key × V)}, Sb d Ha Hb → Ha d = some (.dK kk) → PlAt Ha u w → PlAt Hb u w := fun sb hd h => PlAt.mono (fun c xs e => sb _ _ (ne_of e hd (by intro z; cases z)) e) (fun c o xs e => sb _ _ (ne_of e hd (by intro z; cases z)) e) _ _ h
  have hp5 := hp.same s05
  refine ⟨_, rfl, a, rfl, ⟨_, SqT.of ha5⟩, for_tup (K := K) (a := a) (xs := ns.map V.int) (fun i σ H6 => ∃ (y5 y6 : Option V) (knf : List (Int × Str)) (ss : List Str), σ = [some v, some (.ref a), some (.ref b), some (.ref d), some v', y5, y6] ∧ Sb d H5 H6 ∧ H6 d = some (.dK (dkv knf)) ∧ knf.length ≤ 8 + i ∧ Gr t ns (lk kn) i (lk knf) ss)
    ⟨none, none, kn, [], rfl, Sb.refl _ _, hd5, by omega, Gr.start hz⟩ (fun i σ H6 _ ⟨_, _, _, _, _, sb, hd6, _⟩ => SqT.of (sb _ _ (ne_of ha5 hd5 (by intro z; cases z)) ha5)) ?_ ?_⟩
  · rintro i x σ H6 hx ⟨y5, y6, knf, ss, rfl, sb6, hd6, hfl, GR⟩
    obtain ⟨h, hh, rfl⟩ := map_get hx
    have hil := lt_of_get hh
    have hp6 := keepT sb6 hd5 hp5
    have hv6 := keepT sb6 hd5 hv5
    have ha6 := sb6 _ _ (ne_of ha5 hd5 (by intro z; cases z)) ha5
    refine ⟨_, rfl, v, t, rfl, hp6, T.wf, h5, by omega, fun r H7 s7 hr7 => ?_⟩
    have hd7 := s7 _ _ hd6
    have hv7 := hv6.same s7
    have ha7 := s7 _ _ ha6
    have hrd : r ≠ d := ne_of hr7 hd7 (by intro z; cases z)
    refine ⟨r, rfl, ⟨_, SqT.of hr7⟩, for_tup (K := K) (a := r) (xs := (srt t.lv).map V.str) (fun j σ H8 => ∃ (z6 : Option V) (kn2 : List (Int × Str)), σ = [some v, some (.ref a), some (.ref b), some (.ref d), some v', some (.int h), z6] ∧ Sb d H7 H8 ∧ H8 d = some (.dK (dkv kn2)) ∧
        ((∃ s, lk knf h = some s ∧ kn2 = knf) ∨ (lk knf h = none ∧ kn2 = knf ∧ ∀ l ∈ (srt t.lv).take j, Sf (put (lk knf) h l) (flat t) ns = 0) ∨
          (lk knf h = none ∧ kn2.length ≤ knf.length + 1 ∧ ∃ j0 l0, (srt t.lv)[j0]? = some l0 ∧ lk kn2 = put (lk knf) h l0 ∧ Sf (put (lk knf) h l0) (flat t) ns ≠ 0 ∧ ∀ l ∈ (srt t.lv).take j0, Sf (put (lk knf) h l) (flat t) ns = 0)))
      ⟨y6, knf, rfl, Sb.refl _ _, hd7, ?_⟩ (fun j σ H8 _ ⟨_, _, _, sb, _⟩ => SqT.of (sb _ _ hrd hr7)) ?_ ?_⟩
    · cases e : lk knf h with
      | some s => exact .inl ⟨s, rfl, rfl⟩
      | none => exact .inr (.inl ⟨rfl, rfl, fun l hl => by rw [List.take_zero] at hl; cases hl⟩)
    · rintro j y σ H8 hy ⟨z6, kn2, rfl, sb8, hd8, hcase⟩
      obtain ⟨l, hl, rfl⟩ := map_get hy
      have g8 := DGet.k (k := Sum.inl h) hd8
      rw [valV_dkv] at g8
      have ha8 := sb8 _ _ (ne_of ha7 hd7 (by intro z; cases z)) ha7
      have hv8 := keepT sb8 hd7 hv7
      refine ⟨_, rfl, _, rfl, d, _, rfl, g8, _, rfl, ?_⟩
      -- it is there: nothing is done
      have there : ∀ s, lk kn2 h = some s → ((∃ s, lk knf h = some s ∧ kn2 = knf) ∨ (lk knf h = none ∧ kn2.length ≤ knf.length + 1 ∧ ∃ j0 l0, (srt t.lv)[j0]? = some l0 ∧ lk kn2 = put (lk knf) h l0 ∧ Sf (put (lk knf) h l0) (flat t) ns ≠ 0 ∧ ∀ l ∈ (srt t.lv).take j0, Sf (put (lk knf) h l) (flat t) ns = 0)) := by
        intro s hs
        rcases hcase with h1 | ⟨h1, h2, _⟩ | h1
        · exact .inl h1
        · rw [h2, h1] at hs
          cases hs
        · exact .inr h1
      cases hk2' : lk kn2 h with
      | some s =>
        refine iteF (iteF ?_)
        exact ⟨_, kn2, rfl, sb8, hd8, (there s hk2').elim .inl fun z => .inr (.inr z)⟩
      | none =>
        obtain ⟨hn, hkk, hz0⟩ : lk knf h = none ∧ kn2 = knf ∧ ∀ l ∈ (srt t.lv).take j, Sf (put (lk knf) h l) (flat t) ns = 0 := by
          rcases hcase with ⟨s, h1, h2⟩ | h1 | ⟨h1, _, j0, l0, _, h3, _⟩
          · rw [h2, h1] at hk2'
            cases hk2'
          · exact h1
          · rw [h3, put_same] at hk2'
            cases hk2'
        subst hkk
        refine iteT ?_
        refine ⟨_, rfl, _, rfl, _, rfl, _, rfl, _, rfl, d, h, l, kn2, rfl, hd8, by omega, fun r2 kn3 H9 s9 hr2 hlk => ?_⟩
        refine ⟨v', a, r2, flat t, ns, kn3, rfl, hv8.same s9, flat_wf t T.wf, T.flat.nd, T.flat.len, T.flat.len, s9 _ _ ha8, R.nd, R8, hr2, fun H10 s10 => ⟨_, _, rfl, rfl, _, rfl, ?_⟩⟩
        have s810 := s9.trans s10
        have sb10 := sb8.trans (Sb.of s810)
        have hd10 := s810 _ _ hd8
        rw [hlk]
        by_cases hp0 : Sf (put (lk kn2) h l) (flat t) ns = 0
        · rw [hp0]
          refine iteF ?_
          refine ⟨_, kn2, rfl, sb10, hd10, .inr (.inl ⟨hn, rfl, fun l' hl' => ?_⟩)⟩
          rw [List.take_add_one, hl] at hl'
          rcases List.mem_append.mp hl' with z | z
          · exact hz0 l' z
          · rw [show l' = l by simpa using z]
            exact hp0
        · rw [decide_eq_true (show (0 : Int) < ((Sf (put (lk kn2) h l) (flat t) ns : Nat) : Int) by omega)]
          refine iteT ?_
          have hsz : (dkv kn2).length < sizeLine := by unfold dkv; rw [List.length_map]; exact small1000 (by omega)
          obtain ⟨kn4, e1, e2, e3⟩ := put_dkv kn2 h l
          refine ⟨_, rfl, _, rfl, _, rfl, d, _, rfl, DPut.k (k := Sum.inl h) hd10 hsz, ?_⟩
          refine ⟨_, kn4, rfl, sb10.trans Sb.upd, by rw [upd_same, e1], .inr (.inr ⟨hn, e2, j, l, hl, e3, hp0, hz0⟩)⟩
    · rintro σ H8 ⟨z6, kn2, rfl, sb8, hd8, hcase⟩
      have sb68 := sb6.trans ((Sb.of s7).trans sb8)
      rcases hcase with ⟨s, h1, rfl⟩ | ⟨h1, rfl, h3⟩ | ⟨h1, h2, j0, l0, h3, h4, h5', h6⟩
      · exact ⟨_, _, kn2, ss ++ [s], rfl, sb68, hd8, by omega, GR.known R.nd hh h1 hln⟩
      · rw [List.length_map, List.take_length] at h3
        exact absurd h3 (GR.some_line T R.nd hh h1)
      · refine ⟨_, _, kn2, ss ++ [l0], rfl, sb68, hd8, by omega, ?_⟩
        rw [h4]
        exact GR.new R.nd hh h1 h3 h6 h5'
  · rintro σ H6 ⟨y5, y6, knf, ss, rfl, sb6, hd6, hfl, GR⟩
    rw [List.length_map] at GR
    have ha6 := sb6 _ _ (ne_of ha5 hd5 (by intro z; cases z)) ha5
    have s06 : Same H H6 := fun c o e => sb6 _ _ (ne_of_none e ndH) (s05 _ _ e)
    refine ⟨_, rfl, a, rfl, ⟨_, SqT.of ha6⟩, fun D nD => ?_⟩
    refine turn_tup (K := K) (a := a) (xs := ns.map V.int) (fun i H7 => Same H6 H7 ∧ H7 D = some (.lst ((ss.take i).map V.str))) ⟨same_upd nD, by rw [upd_same, List.take_zero]; rfl⟩ (fun i H7 _ ⟨sm, _⟩ => SqT.of (sm _ _ ha6)) ?_ ?_
    · rintro i x H7 hx ⟨sm7, hD⟩
      obtain ⟨h, hh, rfl⟩ := map_get hx
      have hil := lt_of_get hh
      have hsl := GR.len
      obtain ⟨s, hs⟩ : ∃ s, ss[i]? = some s := ⟨_, List.getElem?_eq_getElem (by omega)⟩
      have g7 := DGet.k (k := Sum.inl h) (sm7 _ _ hd6)
      rw [valV_dkv, GR.has i h s hh hs] at g7
      refine ⟨rfl, _, rfl, _, rfl, d, _, rfl, g7, _, hD, by rw [List.length_map, List.length_take]; exact small1000 (by omega), fun c o ec => ?_, ?_⟩
      · rw [upd_ne (ne_of_none ec nD)]
        exact sm7 _ _ ec
      · rw [upd_same, List.take_add_one, hs, List.map_append]
        rfl
    · rintro H7 ⟨sm7, hD⟩
      rw [List.length_map, ← GR.len, List.take_length] at hD
      exact ⟨D, _, rfl, .inl ⟨SqL.of hD, fun l nl => q l ss _ (s06.trans (sm7.trans (same_upd nl))) upd_same hz GR.done⟩⟩
end
end FW
end
section
/-! W13: the law's _law_cell, _law_pool, _law_draw, _law_mixed, _law_sort. -/
namespace FW
open PySem PySem.Spec PyProof.Rows L2 FM FR RZ
/-- from a fresh thing on: all that was there is as it was -/
theorem Sb.same {p : Addr} {H H1 H2 : Hp} (n : H p = none) (s1 : Same H H1) (s2 : Sb p H1 H2) : Same H H2 := fun b o e => s2 _ _ (ne_of_none e n) (s1 _ _ e)
theorem _root_.L2.Same.seqL {K : PySem.W.Frag} {H H' : Hp} {a : Addr} {xs : List V} (e : Same H H') (h : SqL K H a xs) : SqL K H' a xs := by
  rcases h with (h | ⟨o, h⟩) | h
  · exact .inl (.inl (e _ _ h))
  · exact .inl (.inr ⟨o, e _ _ h⟩)
  · exact .inr h
theorem p7 : (0 : Int) < 2147483387 := by decide
/-- a pool of draws -/
def PoolAt (H : Hp) (p : Addr) : Prop := ∃ a d c : Int, H p = some (.lst [.int a, .int d, .int c]) ∧ 0 ≤ a ∧ a < 2147483387 ∧ 0 ≤ d
theorem PoolAt.same {H H' : Hp} {p : Addr} (h : PoolAt H p) (s : Same H H') : PoolAt H' p := by
  obtain ⟨a, d, c, h, r⟩ := h
  exact ⟨a, d, c, s _ _ h, r⟩
theorem PoolAt.is {H : Hp} {p : Addr} (h : PoolAt H p) : ∃ xs, H p = some (.lst xs) := by
  obtain ⟨a, d, c, h, r⟩ := h
  exact ⟨_, h⟩
theorem PoolAt.ne {H : Hp} {p q : Addr} (h : PoolAt H p) (hq : H q = none) : q ≠ p := by
  obtain ⟨a, d, c, h, r⟩ := h
  exact (ne_of_none h hq).symm
section
variable {P : Program} {w : World} {K : PySem.W.Frag} {mg : Str → Option Value} {base : Heap} {f : Addr} {fd : FuncData}
/-! ### _law_cell -/
theorem scCell : FnScope ["_law_script", "_law_k", "_law_state", "_law_number_here"] ["_law_script", "_law_k"] (defScope (topS 47)) := ⟨rfl, rfl, rfl, by decide +kernel, rfl, by decide +kernel, by decide +kernel⟩
def spCellL (K : PySem.W.Frag) : Sp := fun vs H Q _ => ∃ (l : Addr) (ns : List Int) (k : Nat), vs = [.ref l, .int (k : Nat)] ∧ SqL K H l (ns.map V.int) ∧ k ≤ 1000 ∧ ∀ (r : Int) (H' : Hp), Same H H' → Q (.int r) H'
theorem ok_cell (F : Fun K "_law_cell" "_law_cell" (topS 47) f fd) (G : Gs mg) : FnOk P w K mg base CX0 1 f fd ["_law_script", "_law_k"] (spCellL K) := by
  refine F.ok scCell (fun vs H Q E h => ?_) (fun cdv A outer s H vs Q E hr h => ?_)
  · obtain ⟨l, ns, k, rfl, _⟩ := h
    rfl
  obtain ⟨l, ns, k, rfl, hl, hk, q⟩ := h
  refine ⟨_, pss_cons (ps_if (pt_cmpR op_lt (pv 1) (pe_callB call_len_seq (by rfl) G.len_ PySem.boot_len (pa_cons (pv 0) pa_nil)) (nomark _)) (pss_one (ps_ret (pe_ix ix_list (pv 0) (pv 1) (fun _ _ => rfl)))) pss_nil)
    (pss_cons (ps_set (i := 2) scCell.nd rfl (.inl rfl) (pe_op op_mod (pe_op op_mul pe_int (pe_op op_add (pe_op op_add (pe_op op_mul (pv 1) (pv 1)) (pe_op op_mul pe_int (pv 1))) pe_int)) pe_int))
    (pss_cons (ps_for PassesOwn.never rfl (pi_list (pe_slice sl_list (pv 0) po_none (po_some pe_int))) (pg_name (i := 3) scCell.nd rfl (.inl rfl))
      (pss_one (ps_set (i := 2) scCell.nd rfl (.inl rfl) (pe_op op_mod (pe_op op_add (pe_op op_mul (pv 2) pe_int) (pv 3)) pe_int))))
    (pss_one (ps_ret (pv 2))))), ?_⟩
  refine ⟨_, rfl, _, rfl, l, _, rfl, .inl hl, _, _, rfl, rfl, _, rfl, ?_⟩
  by_cases hlt : k < ns.length
  · rw [decide_eq_true (by rw [List.length_map]; omega)]
    refine iteT ?_
    exact ⟨_, rfl, _, rfl, l, _, _, _, rfl, rfl, hl, atI_nat (get_map (List.getElem?_eq_getElem hlt)), q _ H (Same.refl H)⟩
  rw [decide_eq_false (by rw [List.length_map]; omega)]
  refine iteF ?_
  refine ⟨_, rfl, _, rfl, _, _, rfl, rfl, .inl ⟨by omega, by omega⟩, _, rfl, _, _, rfl, rfl, .inl ⟨by decide, by decide⟩, _, _, rfl, rfl, _, _, rfl, rfl, _, _, rfl, rfl, .inl ⟨by decide, by decide⟩, _, _, rfl, rfl, p7, ?_⟩
  refine ⟨_, rfl, _, rfl, l, _, rfl, hl, fun p np => ⟨p, rfl, ⟨_, SqL.of upd_same⟩, ?_⟩⟩
  have s1 := same_upd (o := .lst (cutV (ns.map V.int) none (some 3))) np
  have ec : ∃ ms : List Int, cutV (ns.map V.int) none (some 3) = ms.map V.int := by
    unfold cutV
    rw [← List.map_drop, ← List.map_take]
    exact ⟨_, rfl⟩
  obtain ⟨ms, em⟩ := ec
  rw [em] at s1 ⊢
  refine for_list (K := K) (a := p) (xs := ms.map V.int) (fun i σ H2 => ∃ (u : Int) (y : Option V), σ = [some (.ref l), some (.int (k : Nat)), some (.int u), y] ∧ Same H H2 ∧ H2 p = some (.lst (ms.map V.int))) ⟨_, none, rfl, s1, upd_same⟩
    (fun i σ H2 _ ⟨_, _, _, _, h⟩ => SqL.of h) ?_ ?_
  · rintro i x σ H2 hx ⟨u, y, rfl, sm, hp⟩
    obtain ⟨v, hv, rfl⟩ := map_get hx
    exact ⟨_, rfl, _, _, rfl, rfl, .inr ⟨by decide, by decide⟩, _, rfl, _, _, rfl, rfl, _, _, rfl, rfl, p7, _, _, rfl, sm, hp⟩
  · rintro σ H2 ⟨u, y, rfl, sm, hp⟩
    exact ⟨_, rfl, q u H2 sm⟩
/-! ### _law_pool -/
theorem scPool : FnScope ["_law_cell_here", "_law_digits"] ["_law_cell_here"] (defScope (topS 48)) := ⟨rfl, rfl, rfl, by decide +kernel, rfl, by decide +kernel, by decide +kernel⟩
def spPool : Sp := fun vs H Q _ => ∃ (c : Int), vs = [.int c] ∧ ∀ (p : Addr) (H' : Hp), Same H H' → H p = none → PoolAt H' p → Q (.ref p) H'
theorem ok_pool (F : Fun K "_law_pool" "_law_pool" (topS 48) f fd) (G : Gs mg) : FnOk P w K mg base CX0 1 f fd ["_law_cell_here"] spPool := by
  refine F.ok scPool (fun vs H Q E h => ?_) (fun cdv A outer s H vs Q E hr h => ?_)
  · obtain ⟨c, rfl, _⟩ := h
    rfl
  obtain ⟨c, rfl, q⟩ := h
  refine ⟨_, pss_cons (ps_set (i := 1) scPool.nd rfl (.inl rfl) (pe_ifExp (pw_or (pt_cmpR op_lt (pv 0) pe_int (nomark _)) (pw_or1 (pt_cmpR op_ge (pv 0) (pe_op op_pow pe_int pe_int) (nomark _)))).pt
      (pe_callB call_abs (by rfl) G.abs_ (by decide +kernel) (pa_cons (pv 0) pa_nil)) pe_int))
    (pss_one (ps_ret (pe_lst (pa_cons (pe_op op_mod (pv 0) pe_int) (pa_cons (pv 1) (pa_cons pe_int pa_nil)))))), ?_⟩
  have fin : ∀ d : Int, 0 ≤ d → ∀ p, H p = none → Q (.ref p) (upd H p (.lst [.int (c % 2147483387), .int d, .int 0])) := fun d hd p np =>
    q p _ (same_upd np) np ⟨_, d, 0, upd_same, Int.emod_nonneg _ (by decide), Int.emod_lt_of_pos _ (by decide), hd⟩
  have big : ∀ d : Int, d = (if c < 0 then -c else c) → c < 0 ∨ 10 ^ 18 ≤ c → 0 ≤ d := fun d e h => by
    rw [e]
    split <;> omega
  refine ⟨_, rfl, _, _, rfl, rfl, _, rfl, ?_⟩
  by_cases h1 : c < 0
  · rw [decide_eq_true h1]
    refine iteT ⟨_, rfl, c, rfl, _, rfl, _, _, rfl, rfl, p7, _, rfl, (by show 3 ≤ sizeLine; decide), fun p np => fin _ (big _ rfl (.inl h1)) p np⟩
  · rw [decide_eq_false h1]
    refine iteF ⟨_, rfl, _, _, rfl, rfl, ⟨by decide, by decide, by decide⟩, _, _, rfl, rfl, _, rfl, ?_⟩
    by_cases h2 : (10 : Int) ^ (18 : Int).toNat ≤ c
    · rw [decide_eq_true h2]
      refine iteT ⟨_, rfl, c, rfl, _, rfl, _, _, rfl, rfl, p7, _, rfl, (by show 3 ≤ sizeLine; decide), fun p np => fin _ (big _ rfl (.inr h2)) p np⟩
    · rw [decide_eq_false h2]
      refine iteF ⟨_, rfl, _, _, rfl, rfl, p7, _, rfl, (by show 3 ≤ sizeLine; decide), fun p np => fin 0 (by decide) p np⟩
/-! ### _law_draw -/
theorem scDraw : FnScope ["_law_pool_here", "_law_upto", "_law_state", "_law_digit"] ["_law_pool_here", "_law_upto"] (defScope (topS 49)) := ⟨rfl, rfl, rfl, by decide +kernel, rfl, by decide +kernel, by decide +kernel⟩
def spDraw : Sp := fun vs H Q _ => ∃ (p : Addr) (n : Int), vs = [.ref p, .int n] ∧ PoolAt H p ∧ 1 ≤ n ∧ n ≤ 1000 ∧ ∀ (r : Nat) (H' : Hp), (r : Int) < n → Sb p H H' → PoolAt H' p → Q (.int (r : Nat)) H'
theorem ok_draw (F : Fun K "_law_draw" "_law_draw" (topS 49) f fd) (G : Gs mg) : FnOk P w K mg base CX0 1 f fd ["_law_pool_here", "_law_upto"] spDraw := by
  refine F.ok scDraw (fun vs H Q E h => ?_) (fun cdv A outer s H vs Q E hr h => ?_)
  · obtain ⟨p, n, rfl, _⟩ := h
    rfl
  obtain ⟨p, n, rfl, ⟨a, d, c, hp, ha, ha2, hd⟩, h1, h2, q⟩ := h
  refine ⟨_, pss_cons (ps_asg (pe_op op_add (pe_ix ix_list (pv 0) pe_int (fun _ _ => rfl)) pe_int) (pg_sub (pv 0) pe_int set_list))
    (pss_cons (ps_set (i := 2) scDraw.nd rfl (.inl rfl) (pe_ix ix_list (pv 0) pe_int (fun _ _ => rfl)))
    (pss_cons (ps_asg (pe_op op_mod (pe_op op_add (pe_op op_add (pe_op op_mul (pv 2) (pe_op op_add (pe_op op_mod (pv 2) pe_int) pe_int)) (pe_op op_mul pe_int (pe_ix ix_list (pv 0) pe_int (fun _ _ => rfl)))) pe_int) pe_int) (pg_sub (pv 0) pe_int set_list))
    (pss_cons (ps_if (pt_cmpR op_gt (pe_ix ix_list (pv 0) pe_int (fun _ _ => rfl)) pe_int (nomark _))
      (pss_cons (ps_asg (pe_callB call_divmodW (by rfl) G.divmod_ (by decide +kernel) (pa_cons (pe_ix ix_list (pv 0) pe_int (fun _ _ => rfl)) (pa_cons (pv 1) pa_nil)))
        (pg_tup rfl (pgs_cons (pg_sub (pv 0) pe_int set_list) (pgs_cons (pg_name (i := 3) scDraw.nd rfl (.inl rfl)) pgs_nil))))
        (pss_one (ps_ret (pv 3)))) pss_nil)
    (pss_one (ps_ret (pe_op op_mod (pe_op op_fdiv (pe_ix ix_list (pv 0) pe_int (fun _ _ => rfl)) pe_int) (pv 1))))))), ?_⟩
  refine ⟨_, rfl, p, _, 2, _, rfl, rfl, SqL.of hp, rfl, _, _, rfl, rfl, _, rfl, p, _, 2, 2, rfl, rfl, hp, rfl, ?_⟩
  have e1 : (upd H p (.lst ([V.int a, .int d, .int c].set 2 (.int (c + 1))))) p = some (.lst [.int a, .int d, .int (c + 1)]) := upd_same
  have b1 : Sb p H (upd H p (.lst ([V.int a, .int d, .int c].set 2 (.int (c + 1))))) := Sb.upd
  generalize upd H p (.lst ([V.int a, .int d, .int c].set 2 (.int (c + 1)))) = H1 at *
  refine ⟨_, rfl, p, _, 0, _, rfl, rfl, SqL.of e1, rfl, ?_⟩
  refine ⟨_, rfl, _, rfl, _, _, rfl, rfl, (by show (0 : Int) < 43019; decide), _, _, rfl, rfl, _, _, rfl, rfl, .inl ⟨by omega, by omega⟩, _, rfl, p, _, 2, _, rfl, rfl, SqL.of e1, rfl, _, _, rfl, rfl, .inl ⟨by decide, by decide⟩, _, _, rfl, rfl, _, _, rfl, rfl, _, _, rfl, rfl, p7, _, rfl, p, _, 0, 0, rfl, rfl, e1, rfl, ?_⟩
  have ha3 : 0 ≤ (a * (a % 43019 + 28001) + 80021 * (c + 1) + 7) % 2147483387 := Int.emod_nonneg _ (by decide)
  have ha4 : (a * (a % 43019 + 28001) + 80021 * (c + 1) + 7) % 2147483387 < 2147483387 := Int.emod_lt_of_pos _ (by decide)
  have e2 : (upd H1 p (.lst ([V.int a, .int d, .int (c + 1)].set 0 (.int ((a * (a % 43019 + 28001) + 80021 * (c + 1) + 7) % 2147483387))))) p = some (.lst [.int ((a * (a % 43019 + 28001) + 80021 * (c + 1) + 7) % 2147483387), .int d, .int (c + 1)]) := upd_same
  have b2 : Sb p H (upd H1 p (.lst ([V.int a, .int d, .int (c + 1)].set 0 (.int ((a * (a % 43019 + 28001) + 80021 * (c + 1) + 7) % 2147483387))))) := b1.trans Sb.upd
  generalize upd H1 p (.lst ([V.int a, .int d, .int (c + 1)].set 0 (.int ((a * (a % 43019 + 28001) + 80021 * (c + 1) + 7) % 2147483387)))) = H2 at *
  generalize (a * (a % 43019 + 28001) + 80021 * (c + 1) + 7) % 2147483387 = a2 at *
  refine ⟨_, rfl, p, _, 1, _, rfl, rfl, SqL.of e2, rfl, _, _, rfl, rfl, _, rfl, ?_⟩
  by_cases hz : 0 < d
  · rw [decide_eq_true hz]
    refine iteT ?_
    refine ⟨_, rfl, p, _, 1, _, rfl, rfl, SqL.of e2, rfl, _, rfl, _, _, rfl, ⟨by omega, PyProof.noPylong_small (by omega)⟩, fun T nT => ?_⟩
    have sT := same_upd (o := .tup [.int (d / n), .int (d % n)]) nT
    refine ⟨T, _, rfl, SqT.of upd_same, rfl, .int (d / n), _, rfl, _, rfl, p, _, 1, 1, rfl, rfl, sT _ _ e2, rfl, .int (d % n), _, rfl, rfl, _, rfl, ?_⟩
    obtain ⟨r, hr'⟩ := Int.eq_ofNat_of_zero_le (Int.emod_nonneg d (show n ≠ 0 by omega))
    have hr2 := Int.emod_lt_of_pos d (show 0 < n by omega)
    rw [hr']
    rw [hr'] at hr2
    exact q r _ hr2 ((b2.trans (Sb.of sT)).trans (by rw [hr']; exact Sb.upd)) ⟨a2, d / n, c + 1, upd_same, ha3, ha4, Int.ediv_nonneg hd (by omega)⟩
  · rw [decide_eq_false hz]
    refine iteF ?_
    refine ⟨_, rfl, p, _, 0, _, rfl, rfl, SqL.of e2, rfl, _, _, rfl, rfl, ⟨by decide, by decide⟩, _, rfl, _, _, rfl, rfl, by omega, ?_⟩
    obtain ⟨r, hr'⟩ := Int.eq_ofNat_of_zero_le (Int.emod_nonneg (a2 / 64) (show n ≠ 0 by omega))
    have hr2 := Int.emod_lt_of_pos (a2 / 64) (show 0 < n by omega)
    show Q (.int (a2 / 64 % n)) H2
    rw [hr']
    rw [hr'] at hr2
    exact q r _ hr2 b2 ⟨a2, d, c + 1, e2, ha3, ha4, hd⟩
end
end FW
end
section
/-! W14: the law's _law_mixed, _law_sort, _law_inches. -/
namespace FW
open PySem PySem.Spec PyProof.Rows L2 FM FR RZ
theorem six {i n : Nat} (h : i < n) : seqIndex? (i : Int) n = some i := by
  have := PySem.StrLaws.seqIndex_nonneg (i := (i : Int)) (n := n) (by omega) (by omega)
  simpa using this
theorem perm_pop {α : Type} {us : List α} {r : Nat} {y : α} (h : us[r]? = some y) : (y :: us.eraseIdx r).Perm us := by
  have hr := lt_of_get h
  have e : us[r] = y := by
    rw [List.getElem?_eq_getElem hr] at h
    exact Option.some.inj h
  have e2 : us = us.take r ++ y :: us.drop (r + 1) := by
    rw [← e, ← List.drop_eq_getElem_cons hr, List.take_append_drop]
  rw [List.eraseIdx_eq_take_drop_succ]
  refine List.Perm.symm ?_
  conv => lhs; rw [e2]
  exact List.perm_middle
section
variable {P : Program} {w : World} {K : PySem.W.Frag} {mg : Str → Option Value} {base : Heap} {f : Addr} {fd : FuncData}
/-! ### _law_mixed -/
theorem scMixed : FnScope ["_law_pool_here", "_law_things", "_law_left", "_law_found", "_law_k"] ["_law_pool_here", "_law_things"] (defScope (topS 50)) := ⟨rfl, rfl, rfl, by decide +kernel, rfl, by decide +kernel, by decide +kernel⟩
def spMixed : Sp := fun vs H Q _ => ∃ (p l : Addr) (xs : List V), vs = [.ref p, .ref l] ∧ PoolAt H p ∧ H l = some (.lst xs) ∧ xs.length ≤ 1000 ∧
  ∀ (r : Addr) (ys : List V) (H' : Hp), ys.Perm xs → H r = none → H' r = some (.lst ys) → Sb p H H' → PoolAt H' p → Q (.ref r) H'
theorem ok_mixed {fw : Addr} {dw : FuncData} (F : Fun K "_law_mixed" "_law_mixed" (topS 50) f fd) (G : Gs mg) (C : Cal K mg "_law_draw" fw dw ["_law_pool_here", "_law_upto"]) (O : FnOk P w K mg base CX0 1 fw dw ["_law_pool_here", "_law_upto"] spDraw) :
    FnOk P w K mg base CX0 2 f fd ["_law_pool_here", "_law_things"] spMixed := by
  refine F.ok scMixed (fun vs H Q E h => ?_) (fun cdv A outer s H vs Q E hr h => ?_)
  · obtain ⟨p, l, xs, rfl, _⟩ := h
    rfl
  obtain ⟨p, l, xs, rfl, hp, hl, hx, q⟩ := h
  refine ⟨_, pss_cons (ps_par (i := 2) (j := 3) rfl scMixed.nd rfl rfl (by decide) rfl rfl (pa_cons (pe_callTy call_list_of (by rfl) G.list_ (by decide +kernel) (pa_cons (pv 1) pa_nil)) (pa_cons (pe_lst pa_nil) pa_nil)) rfl)
    (pss_cons (ps_for PassesOwn.never rfl (pi_range1 (by rfl) G.range_ (pa_cons (pe_callB call_len_seq (by rfl) G.len_ PySem.boot_len (pa_cons (pv 1) pa_nil)) pa_nil)) (pg_name (i := 4) scMixed.nd rfl (.inl rfl))
      (pss_one (ps_expr (pe_bm PySem.F.plainAttrs_list PySem.F.slot_list_append PySem.F.type_list_append mt_append (pv 3) (pa_cons (pe_bm PySem.F.plainAttrs_list PySem.F.slot_list_pop PySem.F.type_list_pop mt_popAt (pv 2)
        (pa_cons (pe_call O hr (by rfl) C.m C.kp C.b .nil pass0 (pa_cons (pv 0) (pa_cons (pe_callB call_len_seq (by rfl) G.len_ PySem.boot_len (pa_cons (pv 2) pa_nil)) pa_nil))) pa_nil)) pa_nil)))))
    (pss_one (ps_ret (pv 3)))), ?_⟩
  refine ⟨_, rfl, l, xs, rfl, .inl (SqL.of hl), fun L nL => ⟨Nat.zero_le _, fun Fo nF => ?_⟩⟩
  have s1 := same_upd (o := .lst xs) nL
  have s2 := same_upd (o := .lst []) nF
  have hL1 := s2 _ _ (upd_same (H := H) (a := L) (o := .lst xs))
  have nFH : H Fo = none := s1.free nF
  have hFL : L ≠ Fo := ne_of_none upd_same nF
  have hpF := (hp.same s1).same s2
  have npL : L ≠ p := hp.ne nL
  have npF : Fo ≠ p := hp.ne nFH
  refine ⟨_, _, rfl, _, rfl, l, xs, rfl, .inl (SqL.of (s2 _ _ (s1 _ _ hl))), _, rfl, by omega, by omega, ?_⟩
  rw [Int.toNat_natCast]
  refine for_range (lo := 0) (fun i σ H2 => ∃ (us fs : List V) (y : Option V), σ = [some (.ref p), some (.ref l), some (.ref L), some (.ref Fo), y] ∧ Sb p H H2 ∧ PoolAt H2 p ∧ H2 L = some (.lst us) ∧ H2 Fo = some (.lst fs) ∧ (fs ++ us).Perm xs ∧ fs.length = i)
    ⟨xs, [], none, rfl, Sb.of (s1.trans s2), hpF, hL1, upd_same, List.Perm.refl _, rfl⟩ ?_ ?_
  · rintro i σ H2 hi ⟨us, fs, y, rfl, sb, hp2, hL, hF, pm, fl⟩
    have hul : fs.length + us.length = xs.length := by rw [← pm.length_eq, List.length_append]
    refine ⟨_, rfl, .inl ⟨rfl, _, .inl (.inl hF)⟩, _, rfl, .inl ⟨rfl, _, .inl (.inl hL)⟩, _, rfl, _, rfl, L, us, rfl, .inl (SqL.of hL), p, _, rfl, hp2, by omega, by omega, fun r H3 hr3 sb3 hp3 => ?_⟩
    have hL3 := sb3 _ _ npL hL
    have hF3 := sb3 _ _ npF hF
    have hrl : r < us.length := by omega
    have hy := List.getElem?_eq_getElem hrl
    refine ⟨L, us, r, r, _, rfl, rfl, hL3, by omega, by omega, six hrl, hy, ?_⟩
    have hF4 : (upd H3 L (.lst (us.eraseIdx r))) Fo = some (.lst fs) := by rw [upd_ne hFL.symm]; exact hF3
    refine ⟨Fo, fs, _, rfl, rfl, hF4, small1000 (by omega), ?_⟩
    refine ⟨us.eraseIdx r, fs ++ [us[r]], _, rfl, ?_, ?_, ?_, upd_same, ?_, by rw [List.length_append, fl]; rfl⟩
    · intro b o nb e
      rw [upd_ne (ne_of_none e nFH), upd_ne (ne_of_none e nL)]
      exact sb3 _ _ nb (sb _ _ nb e)
    · obtain ⟨a, d, c, e, h⟩ := hp3
      refine ⟨a, d, c, ?_, h⟩
      rw [upd_ne npF.symm, upd_ne npL.symm]
      exact e
    · rw [upd_ne hFL, upd_same]
    · refine List.Perm.trans ?_ pm
      rw [List.append_assoc]
      exact List.Perm.append_left _ (perm_pop hy)
  · rintro σ H2 ⟨us, fs, y, rfl, sb, hp2, hL, hF, pm, fl⟩
    have hul : fs.length + us.length = xs.length := by rw [← pm.length_eq, List.length_append]
    have hu : us = [] := List.length_eq_zero_iff.mp (by omega)
    rw [hu, List.append_nil] at pm
    exact ⟨_, rfl, q Fo fs H2 pm nFH hF sb hp2⟩
/-! ### _law_sort -/
theorem scSort : FnScope ["_law_pool_here"] ["_law_pool_here"] (defScope (topS 53)) := ⟨rfl, rfl, rfl, by decide +kernel, rfl, by decide +kernel, by decide +kernel⟩
def spSort : Sp := fun vs H Q _ => ∃ (p : Addr), vs = [.ref p] ∧ PoolAt H p ∧ ∀ (k : Bool) (H' : Hp), Sb p H H' → PoolAt H' p → Q (.str (kS k)) H'
theorem ok_sort {fw : Addr} {dw : FuncData} (F : Fun K "_law_sort" "_law_sort" (topS 53) f fd) (C : Cal K mg "_law_draw" fw dw ["_law_pool_here", "_law_upto"]) (O : FnOk P w K mg base CX0 1 fw dw ["_law_pool_here", "_law_upto"] spDraw) :
    FnOk P w K mg base CX0 2 f fd ["_law_pool_here"] spSort := by
  refine F.ok scSort (fun vs H Q E h => ?_) (fun cdv A outer s H vs Q E hr h => ?_)
  · obtain ⟨p, rfl, _⟩ := h
    rfl
  obtain ⟨p, rfl, hp, q⟩ := h
  refine ⟨_, pss_one (ps_ret (pe_ix ix_list (pe_lst (pa_cons pe_str (pa_cons pe_str pa_nil))) (pe_call O hr (by rfl) C.m C.kp C.b .nil pass0 (pa_cons (pv 0) (pa_cons pe_int pa_nil))) (fun _ _ => rfl))), ?_⟩
  refine ⟨(by show 2 ≤ sizeLine; decide), fun l nl => ⟨_, rfl, p, 2, rfl, hp.same (same_upd nl), by decide, by decide, fun r H2 hr2 sb hp2 => ?_⟩⟩
  have hl2 := sb _ _ (hp.ne nl) (upd_same (H := H) (a := l))
  have sH : Sb p H H2 := (Sb.of (same_upd nl)).trans sb
  have h2 : r = 0 ∨ r = 1 := by omega
  rcases h2 with rfl | rfl
  · exact ⟨l, _, _, .str "low", rfl, rfl, SqL.of hl2, rfl, q true H2 sH hp2⟩
  · exact ⟨l, _, _, .str "high", rfl, rfl, SqL.of hl2, rfl, q false H2 sH hp2⟩
end
end FW
end
section
/-! W15: a cut; the law's _law_inches. -/
namespace FW
open PySem PySem.Spec PyProof.Rows L2 FM FR RZ
def tCut (t : TS) : TS := fun D σ H => ∃ J : L2.St → Hp → Prop, t { D with nx := J } σ H ∧ ∀ σ' H', J σ' H' → D.nx σ' H'
theorem ps_cut {X : Cx} {st : Stmt} {t : TS} (h : PS X st t) : PS X st (tCut t) := by
  refine ⟨fun pins s σ H D I ⟨J, h1, h2⟩ => ?_⟩
  refine thn (h.run pins s σ H { D with nx := J } I h1) fun f s1 q => ?_
  cases f with
  | next =>
    obtain ⟨σ', H', I', q⟩ := q
    exact ⟨σ', H', I', h2 _ _ q⟩
  | ret v => exact q
  | brk => exact q
  | cont => exact q
theorem pe_bmK {X : Cx} (K : PySem.W.Frag) {o e : Expr} {es : List Expr} {to : TE} {t : TA} {name : Str} {apos cpos : Pos} {T id : String} {r : V → List V → Hp → VK → Prop} (pa : PlainAttrs T) (slot : Slot T name id) (hty : typeOf (.builtin id) = pure (.type "method_descriptor")) (hm : MtR X id r) (ho : PE X o to) (ha : PA X (e :: es) t)
    (hbase : attributeBase o name X.env (eval o X.env) = eval o X.env := by rfl)
    (hfew : ((backTo cpos (starEach (e :: es) X.env)).all (fun x => !x.1) && (backToKw cpos (keywordEach [] X.env)).all (fun x => x.1.isSome)
      && decide ((e :: es).length + ([] : List Keyword).length + (if ([] : List Keyword).isEmpty then 0 else 1) < 30)) = true := by rfl)
    (hline : (apos.endLine == cpos.line) = true := by rfl) (hs : starEach (e :: es) X.env = (false, eval e X.env) :: starEach es X.env := by rfl) (hplain : (backTo cpos (starEach es X.env)).any (·.1) = false := by rfl) (hK : X.K = K := by rfl) :
    PE X (.Call (.Attribute o name apos) (e :: es) [] cpos) (tBM K T r to t) := by
  subst hK
  exact pe_bm pa slot hty hm ho ha hbase hfew hline hs hplain
def rgI (a b : Int) : List Int := (List.range (b - a).toNat).map fun i => a + (i : Nat)
theorem rgV_ints (a b : Int) : rgV a b = (rgI a b).map V.int := by
  unfold rgV rgI
  rw [List.map_map]
  rfl
theorem rgI_len (a b : Int) : (rgI a b).length = (b - a).toNat := by
  unfold rgI
  rw [List.length_map, List.length_range]
theorem rgI_nd (a b : Int) : (rgI a b).Nodup := by
  unfold rgI
  refine List.pairwise_map.mpr (List.nodup_range.imp fun {i j} h e => h (by omega))
theorem rgI_mem {a b x : Int} (h : x ∈ rgI a b) : a ≤ x ∧ x < b := by
  unfold rgI at h
  obtain ⟨i, hi, rfl⟩ := List.mem_map.mp h
  have := List.mem_range.mp hi
  omega
section
variable {P : Program} {w : World} {K : PySem.W.Frag} {mg : Str → Option Value} {base : Heap} {f : Addr} {fd : FuncData}
/-! ### _law_inches -/
abbrev nInches : List Str := ["_law_pool_here", "_law_many", "_law_mode", "_law_left", "_law_k"]
theorem scInches : FnScope nInches ["_law_pool_here", "_law_many"] (defScope (topS 52)) := ⟨rfl, rfl, rfl, by decide +kernel, rfl, by decide +kernel, by decide +kernel⟩
def spInches : Sp := fun vs H Q _ => ∃ (p : Addr) (m : Nat), vs = [.ref p, .int (m : Nat)] ∧ PoolAt H p ∧ 1 ≤ m ∧ m ≤ 8 ∧
  ∀ (r : Addr) (ns : List Int) (H' : Hp), ns.Nodup → (∀ x ∈ ns, 1 ≤ x ∧ x ≤ 999) → ns.length = m → H r = none → H' r = some (.lst (ns.map V.int)) → Sb p H H' → PoolAt H' p → Q (.ref r) H'
theorem ok_inches {fw : Addr} {dw : FuncData} (F : Fun K "_law_inches" "_law_inches" (topS 52) f fd) (G : Gs mg) (C : Cal K mg "_law_draw" fw dw ["_law_pool_here", "_law_upto"]) (O : FnOk P w K mg base CX0 1 fw dw ["_law_pool_here", "_law_upto"] spDraw) :
    FnOk P w K mg base CX0 2 f fd ["_law_pool_here", "_law_many"] spInches := by
  refine F.ok scInches (fun vs H Q E h => ?_) (fun cdv A outer s H vs Q E hr h => ?_)
  · obtain ⟨p, m, rfl, _⟩ := h
    rfl
  obtain ⟨p, m, rfl, hp, h1, h8, q⟩ := h
  refine ⟨_, pss_cons (ps_cut (ps_asg (pe_tup (pa_cons (pe_call O hr (by rfl) C.m C.kp C.b .nil pass0 (pa_cons (pv 0) (pa_cons pe_int pa_nil))) (pa_cons (pe_listRg rfl (by rfl) G.list_ (prg_2 (by rfl) G.range_ pe_int pe_int)) pa_nil)))
      (pg_tup rfl (pgs_cons (pg_name (i := 2) scInches.nd rfl (.inl rfl)) (pgs_cons (pg_name (i := 3) scInches.nd rfl (.inr rfl)) pgs_nil)))))
    (pss_cons (ps_cut (ps_if (pt_cmpR op_eq (pv 2) pe_int (nomark _)) (pss_one (ps_set (i := 3) scInches.nd rfl (.inr rfl) (pe_listRg rfl (by rfl) G.list_ (prg_2 (by rfl) G.range_ pe_int (pe_op op_add (pv 1) pe_int))))) pss_nil))
    (pss_cons (ps_cut (ps_if (pt_cmpR op_eq (pv 2) pe_int (nomark _)) (pss_one (ps_set (i := 3) scInches.nd rfl (.inr rfl) (pe_listRg rfl (by rfl) G.list_ (prg_2 (by rfl) G.range_ (pe_op op_sub pe_int (pv 1)) pe_int)))) pss_nil))
    (pss_one (ps_ret (pe_lc (own := [("_law_k", 4)]) (g := gName 4) (by rfl) scInches.nd (pi_range1 (by rfl) G.range_ (pa_cons (pv 1) pa_nil)) (blkOk_by (N := nInches) (sc := defScope (topS 52)) (by decide +kernel))
      (fun _ _ _ _ _ => pg_name (i := 4) scInches.nd rfl (Or.inl rfl)) (fun _ _ _ _ _ => pts_nil)
      (fun _ _ _ _ _ => pe_bmK K PySem.F.plainAttrs_list PySem.F.slot_list_pop PySem.F.type_list_pop mt_popAt (pv 3) (pa_cons (pe_call O hr (by rfl) C.m C.kp C.b .nil pass0 (pa_cons (pv 0) (pa_cons (pe_callB (call_lenK K) (by rfl) G.len_ PySem.boot_len (pa_cons (pv 3) pa_nil)) pa_nil))) pa_nil))))))), ?_⟩
  let J : L2.St → Hp → Prop := fun σ H2 => ∃ (L : Addr) (us : List Int) (md : Int), σ = [some (.ref p), some (.int (m : Nat)), some (.int md), some (.ref L), none] ∧ Sb p H H2 ∧ PoolAt H2 p ∧ H L = none ∧ H2 L = some (.lst (us.map V.int)) ∧ us.Nodup ∧ (∀ x ∈ us, 1 ≤ x ∧ x ≤ 999) ∧ m ≤ us.length ∧ us.length ≤ 1000
  refine ⟨J, ?_, ?_⟩
  · refine ⟨_, rfl, p, 4, rfl, hp, by decide, by decide, fun r H1 hr1 sb hp1 => ⟨_, _, rfl, rfl, .of_le (by decide) (by decide) (by decide) (by decide), fun L nL => ?_⟩⟩
    have eg : (999 : Nat) = (rgI 1 1000).length := by rw [rgI_len]; rfl
    have sL := same_upd (o := .lst (rgV 1 1000)) nL
    have nLH : H L = none := by
      cases e : H L with
      | none => rfl
      | some o =>
        by_cases hlp : L = p
        · obtain ⟨a, d, c, e2, _⟩ := hp1
          rw [hlp, e2] at nL
          cases nL
        · rw [sb _ _ hlp e] at nL
          cases nL
    refine ⟨(by show 2 ≤ sizeLine; decide), fun T nT => ?_⟩
    have sT := same_upd (o := .tup [.int (r : Nat), .ref L]) nT
    refine ⟨T, _, rfl, SqT.of upd_same, rfl, .int (r : Nat), _, rfl, .ref L, _, rfl, rfl, L, rgI 1 1000, r, rfl, (sb.trans (Sb.of sL)).trans (Sb.of sT), (hp1.same sL).same sT, nLH, ?_, rgI_nd 1 1000, fun x hx => by have := rgI_mem hx; omega, by omega, by omega⟩
    rw [← rgV_ints]
    exact sT _ _ upd_same
  · rintro σ H2 hJ
    -- a new list in place of the one that was
    have new : ∀ (md : Int) (L L2 : Addr) (us : List Int) (H2 : Hp), Sb p H H2 → PoolAt H2 p → H2 L2 = none → us.Nodup → (∀ x ∈ us, 1 ≤ x ∧ x ≤ 999) → m ≤ us.length → us.length ≤ 1000 →
        J [some (.ref p), some (.int (m : Nat)), some (.int md), some (.ref L2), none] (upd H2 L2 (.lst (us.map V.int))) := by
      intro md L L2 us H2 sb hp2 nL2 nd inr h1m h2m
      have sL := same_upd (o := .lst (us.map V.int)) nL2
      have nLH : H L2 = none := by
        cases e : H L2 with
        | none => rfl
        | some o =>
          rw [sb _ _ (hp2.ne nL2) e] at nL2
          cases nL2
      exact ⟨L2, us, md, rfl, sb.trans (Sb.of sL), hp2.same sL, nLH, upd_same, nd, inr, h1m, h2m⟩
    refine ⟨J, ?_, ?_⟩
    · obtain ⟨L, us, md, rfl, sb, hp2, nL, hL, nd, inr, h1m, h2m⟩ := hJ
      refine ⟨_, rfl, rfl, _, rfl, ?_⟩
      by_cases hm : V.int md = V.int 0
      · rw [decide_eq_true hm]
        refine iteT ⟨_, rfl, _, _, rfl, rfl, _, _, rfl, rfl, .of_le (by decide) (by omega) (by decide) (by omega), fun L2 nL2 => ?_⟩
        rw [rgV_ints]
        exact new md L L2 _ H2 sb hp2 nL2 (rgI_nd _ _) (fun x hx => by have := rgI_mem hx; omega) (by rw [rgI_len]; omega) (by rw [rgI_len]; omega)
      · rw [decide_eq_false hm]
        exact iteF ⟨L, us, md, rfl, sb, hp2, nL, hL, nd, inr, h1m, h2m⟩
    clear hJ
    rintro σ H2 hJ
    refine ⟨J, ?_, ?_⟩
    · obtain ⟨L, us, md, rfl, sb, hp2, nL, hL, nd, inr, h1m, h2m⟩ := hJ
      refine ⟨_, rfl, rfl, _, rfl, ?_⟩
      by_cases hm : V.int md = V.int 1
      · rw [decide_eq_true hm]
        refine iteT ⟨_, rfl, _, _, rfl, rfl, _, _, rfl, rfl, .of_le (by omega) (by decide) (by omega) (by decide), fun L2 nL2 => ?_⟩
        rw [rgV_ints]
        exact new md L L2 _ H2 sb hp2 nL2 (rgI_nd _ _) (fun x hx => by have := rgI_mem hx; omega) (by rw [rgI_len]; omega) (by rw [rgI_len]; omega)
      · rw [decide_eq_false hm]
        exact iteF ⟨L, us, md, rfl, sb, hp2, nL, hL, nd, inr, h1m, h2m⟩
    clear hJ
    rintro σ H2 ⟨L, us, md, rfl, sb, hp2, nL, hL, nd, inr, h1m, h2m⟩
    refine ⟨_, rfl, _, rfl, by omega, by omega, fun D nD => ?_⟩
    rw [Int.toNat_natCast]
    have nDH : H D = none := by
      cases e : H D with
      | none => rfl
      | some o =>
        rw [sb _ _ (hp2.ne nD) e] at nD
        cases nD
    have hLD : L ≠ D := ne_of_none hL nD
    have npL : L ≠ p := hp.ne nL
    have npD : D ≠ p := hp.ne nDH
    refine turn_rng (lo := 0) (fun i H3 => ∃ (vs fs : List Int), Sb p H H3 ∧ PoolAt H3 p ∧ H3 L = some (.lst (vs.map V.int)) ∧ H3 D = some (.lst (fs.map V.int)) ∧ (fs ++ vs).Perm us ∧ fs.length = i)
      ⟨us, [], sb.trans (Sb.of (same_upd nD)), hp2.same (same_upd nD), by rw [upd_ne hLD]; exact hL, upd_same, List.Perm.refl _, rfl⟩ ?_ ?_
    · rintro i H3 hi ⟨vs, fs, sb3, hp3, hL3, hD3, pm, fl⟩
      have hul : fs.length + vs.length = us.length := by rw [← pm.length_eq, List.length_append]
      refine ⟨rfl, _, rfl, .inl ⟨rfl, _, .inl (.inl hL3)⟩, _, rfl, _, rfl, L, _, rfl, .inl (SqL.of hL3), p, _, rfl, hp3, by rw [List.length_map]; omega, by rw [List.length_map]; omega, fun r H4 hr4 sb4 hp4 => ?_⟩
      rw [List.length_map] at hr4
      have hL4 := sb4 _ _ npL hL3
      have hD4 := sb4 _ _ npD hD3
      have hrl : r < vs.length := by omega
      have hy := List.getElem?_eq_getElem hrl
      refine ⟨L, _, r, r, _, rfl, rfl, hL4, by omega, by omega, six (by rw [List.length_map]; exact hrl), get_map hy, fs.map V.int, ?_, ?_, vs.eraseIdx r, fs ++ [vs[r]], ?_, ?_, ?_, ?_, ?_, by rw [List.length_append, fl]; rfl⟩
      · rw [upd_ne hLD.symm]
        exact hD4
      · rw [List.length_map]
        exact small1000 (by omega)
      · intro b o nb e
        rw [upd_ne (ne_of_none e nDH), upd_ne (ne_of_none e nL)]
        exact sb4 _ _ nb (sb3 _ _ nb e)
      · obtain ⟨a, d, c, e, h⟩ := hp4
        refine ⟨a, d, c, ?_, h⟩
        rw [upd_ne npD.symm, upd_ne npL.symm]
        exact e
      · rw [upd_ne hLD, upd_same]
        rw [List.eraseIdx_eq_take_drop_succ, List.eraseIdx_eq_take_drop_succ, List.map_append, List.map_take, List.map_drop]
      · rw [upd_same, List.map_append]
        rfl
      · refine List.Perm.trans ?_ pm
        rw [List.append_assoc]
        exact List.Perm.append_left _ (perm_pop hy)
    · rintro H3 ⟨vs, fs, sb3, hp3, hL3, hD3, pm, fl⟩
      have ndf : (fs ++ vs).Nodup := pm.nodup_iff.mpr nd
      exact q D fs H3 (List.nodup_append.mp ndf).1 (fun x hx => inr x (pm.mem_iff.mp (List.mem_append_left _ hx))) fl nDH hD3 sb3 hp3
end
end FW
end
section
/-! M10: the law's names of lines. -/
namespace FW
open PySem PySem.Spec PyProof.Rows L2 FM FR RZ
def ownL : List Str := ["low", "high", "enter", "go", "rest", "same", "a", "none", "line", "plan", "kind", "undo"]
theorem ownL_ok : ∀ s ∈ ownL, LnOk s := by
  unfold LnOk
  decide +kernel
theorem ownL_nd : ownL.Nodup := by decide +kernel
abbrev letC : List Nat := letters.cps.toList
theorem letC_len : letC.length = 26 := by decide +kernel
theorem letC_nd : letC.Nodup := by decide +kernel
def St4 (st : Nat) : Prop := st = 1 ∨ st = 5 ∨ st = 7 ∨ st = 11
theorem cop12 {a st i j : Nat} (h : St4 st) (hi : i < 5) (hj : j < 5) (e : (a + st * i) % 12 = (a + st * j) % 12) : i = j := by
  rcases h with rfl | rfl | rfl | rfl <;> omega
theorem cop26 {a st i j : Nat} (h : St4 st) (hi : i < 5) (hj : j < 5) (e : (a + st * i) % 26 = (a + st * j) % 26) : i = j := by
  rcases h with rfl | rfl | rfl | rfl <;> omega
/-- from a list, n steps of st, from a on -/
def stp {α : Type} (l : List α) (d : α) (a st m n : Nat) : List α := (List.range n).map fun k => l.getD ((a + st * k) % m) d
theorem stp_len {α : Type} (l : List α) (d : α) (a st m n : Nat) : (stp l d a st m n).length = n := by
  unfold stp
  rw [List.length_map, List.length_range]
theorem stp_succ {α : Type} (l : List α) (d : α) (a st m n : Nat) : stp l d a st m (n + 1) = stp l d a st m n ++ [l.getD ((a + st * n) % m) d] := by
  unfold stp
  rw [List.range_succ, List.map_append]
  rfl
theorem getD_inj {α : Type} {l : List α} {d : α} (nd : l.Nodup) {i j : Nat} (hi : i < l.length) (hj : j < l.length) (e : l.getD i d = l.getD j d) : i = j := by
  rw [List.getD_eq_getElem?_getD, List.getD_eq_getElem?_getD, List.getElem?_eq_getElem hi, List.getElem?_eq_getElem hj] at e
  have e2 : l[i] = l[j] := e
  exact nd_ix nd (List.getElem?_eq_getElem hi) (by rw [e2]; exact List.getElem?_eq_getElem hj)
theorem getD_mem {α : Type} {l : List α} {d : α} {i : Nat} (hi : i < l.length) : l.getD i d ∈ l := by
  rw [List.getD_eq_getElem?_getD, List.getElem?_eq_getElem hi]
  exact List.getElem_mem hi
theorem stp_nd {α : Type} {l : List α} {d : α} {a st m n : Nat} (nd : l.Nodup) (hm : l.length = m) (hm0 : 0 < m) (hinj : ∀ i j, i < 5 → j < 5 → (a + st * i) % m = (a + st * j) % m → i = j) (hn : n ≤ 5) : (stp l d a st m n).Nodup := by
  unfold stp
  refine List.pairwise_map.mpr ?_
  have h1 : (List.range n).Pairwise (fun i j => i < n ∧ j < n ∧ i ≠ j) := by
    have h2 := List.nodup_range (n := n)
    refine List.Pairwise.imp_of_mem (fun {i j} hi hj h => ⟨List.mem_range.mp hi, List.mem_range.mp hj, h⟩) h2
  refine h1.imp fun {i j} ⟨hi, hj, hne⟩ e => hne ?_
  exact hinj i j (by omega) (by omega) (getD_inj nd (by rw [hm]; exact Nat.mod_lt _ hm0) (by rw [hm]; exact Nat.mod_lt _ hm0) e)
theorem stp_mem {α : Type} {l : List α} {d : α} {a st m n : Nat} (hm : l.length = m) (hm0 : 0 < m) {x : α} (h : x ∈ stp l d a st m n) : x ∈ l := by
  unfold stp at h
  obtain ⟨k, _, rfl⟩ := List.mem_map.mp h
  exact getD_mem (by rw [hm]; exact Nat.mod_lt _ hm0)
def chr1 (c : Nat) : Str := ⟨#[c]⟩
/-- a name: the stem with a sign at cut -/
def nmS (z : Str) (cut : Nat) (c : Nat) : Str := cutS z none (some (cut : Nat)) ++ chr1 c ++ cutS z (some (cut : Nat)) none
theorem cutS_to (z : Str) (i : Nat) (h : i ≤ z.length) : (cutS z none (some (i : Nat))).cps.toList = z.cps.toList.take i := by
  unfold cutS
  rw [HT.sIx_none, HT.sIx_nat, Nat.min_eq_left h]
  simp
theorem cutS_from (z : Str) (i : Nat) (h : i ≤ z.length) : (cutS z (some (i : Nat)) none).cps.toList = z.cps.toList.drop i := by
  unfold cutS
  rw [HT.sIx_none, HT.sIx_nat, Nat.min_eq_left h]
  simp only []
  rw [List.take_of_length_le]
  rw [List.length_drop]
  exact Nat.le_refl _
theorem str_app (x y : Str) : (x ++ y).cps.toList = x.cps.toList ++ y.cps.toList := by
  show (x.cps ++ y.cps).toList = _
  rw [Array.toList_append]
theorem str_len (x : Str) : x.length = x.cps.toList.length := by simp [Str.length]
theorem nmS_cps (z : Str) (cut c : Nat) (h : cut ≤ z.length) : (nmS z cut c).cps.toList = z.cps.toList.take cut ++ (c :: z.cps.toList.drop cut) := by
  unfold nmS
  rw [str_app, str_app, cutS_to _ _ h, cutS_from _ _ h, List.append_assoc]
  rfl
theorem nmS_ok {z : Str} {cut c : Nat} (h : cut ≤ z.length) (hz : z.length ≤ 5) (hc : c ∈ letC) (hzc : ∀ x ∈ z.cps.toList, x ∈ letC) : LnOk (nmS z cut c) := by
  have e := nmS_cps z cut c h
  have hl : (nmS z cut c).length = z.length + 1 := by
    rw [str_len, e, List.length_append, List.length_cons, List.length_take, List.length_drop, ← str_len]
    omega
  refine ⟨by omega, by omega, fun x hx => ?_⟩
  rw [e] at hx
  rcases List.mem_append.mp hx with hx | hx
  · exact hzc x (List.mem_of_mem_take hx)
  · rcases List.mem_cons.mp hx with rfl | hx
    · exact hc
    · exact hzc x (List.mem_of_mem_drop hx)
theorem nmS_inj {z : Str} {cut c d : Nat} (h : cut ≤ z.length) (e : nmS z cut c = nmS z cut d) : c = d := by
  have e2 := congrArg (fun s : Str => s.cps.toList) e
  simp only [nmS_cps z cut _ h] at e2
  have e3 := List.append_cancel_left e2
  exact (List.cons.inj e3).1
theorem nmS_nd {z : Str} {cut : Nat} {cs : List Nat} (h : cut ≤ z.length) (nd : cs.Nodup) : (cs.map (nmS z cut)).Nodup :=
  List.pairwise_map.mpr (nd.imp fun {a b} hne e => hne (nmS_inj h e))
theorem joinL_nil : ∀ ps : List (List Nat), TL.joinL [] ps = ps.flatten
  | [] => rfl
  | [p] => by simp [TL.joinL]
  | p :: q :: r => by
    show p ++ ([] ++ TL.joinL [] (q :: r)) = _
    rw [joinL_nil (q :: r)]
    simp
theorem flat_chr : ∀ cs : List Nat, ((cs.map chr1).map TL.tl).flatten = cs
  | [] => rfl
  | c :: r => by
    rw [List.map_cons, List.map_cons, List.flatten_cons, flat_chr r]
    rfl
theorem join_chr (cs : List Nat) : (Txt.join "" (cs.map chr1)).cps.toList = cs := by
  have e : (Txt.join "" (cs.map chr1)).cps.toList = TL.joinL [] ((cs.map chr1).map TL.tl) := (congrArg TL.tl (TL.join_eq "" (cs.map chr1))).trans (TL.tl_join "" (cs.map chr1))
  rw [e, joinL_nil, flat_chr]
end FW
end
section
/-! W16: the law's _law_calls. -/
namespace FW
open PySem PySem.Spec PyProof.Rows L2 FM FR RZ
section
variable {P : Program} {w : World} {K : PySem.W.Frag} {mg : Str → Option Value} {base : Heap} {f : Addr} {fd : FuncData}
abbrev nCalls : List Str := ["_law_pool_here", "_law_many", "_law_own", "_law_first", "_law_stride", "_law_letters", "_law_stem", "_law_cut", "_law_begin", "_law_signs", "_law_k", "_law_sign"]
theorem scCalls : FnScope nCalls ["_law_pool_here", "_law_many"] (defScope (topS 51)) := ⟨rfl, rfl, rfl, by decide +kernel, rfl, by decide +kernel, by decide +kernel⟩
/-- a law's names: different lines, one to five -/
structure CallsOk (cs : List Str) : Prop where
  nd : cs.Nodup
  ln : ∀ s ∈ cs, LnOk s
  pos : 1 ≤ cs.length
  len : cs.length ≤ 5
theorem CallsOk.perm {xs ys : List Str} (h : CallsOk xs) (p : ys.Perm xs) : CallsOk ys :=
  ⟨p.nodup_iff.mpr h.nd, fun s hs => h.ln s (p.mem_iff.mp hs), by rw [p.length_eq]; exact h.pos, by rw [p.length_eq]; exact h.len⟩
def spCalls : Sp := fun vs H Q _ => ∃ (p : Addr) (m : Nat), vs = [.ref p, .int (m : Nat)] ∧ PoolAt H p ∧ 1 ≤ m ∧ m ≤ 5 ∧
  ∀ (r : Addr) (cs : List Str) (H' : Hp), CallsOk cs → H r = none → H' r = some (.lst (cs.map V.str)) → Sb p H H' → PoolAt H' p → Q (.ref r) H'
theorem step_cast (a st i m : Nat) : ((a : Nat) : Int) + ((st : Nat) : Int) * (0 + ((i : Nat) : Int)) = ((a + st * i : Nat) : Int) := by
  rw [Int.zero_add]
  simp
theorem get_getD {α : Type} {l : List α} {d : α} {i : Nat} (h : i < l.length) : l[i]? = some (l.getD i d) := by
  rw [List.getD_eq_getElem?_getD, List.getElem?_eq_getElem h]
  rfl
theorem sum_chr : ∀ cs : List Nat, ((cs.map chr1).map (·.length)).sum = cs.length
  | [] => rfl
  | c :: r => by
    rw [List.map_cons, List.map_cons, List.sum_cons, sum_chr r, List.length_cons]
    show 1 + r.length = r.length + 1
    omega
theorem str_app_len (x y : Str) : (x ++ y).length = x.length + y.length := by
  rw [str_len, str_app, List.length_append, ← str_len, ← str_len]
theorem Sb.none {p q : Addr} {H H' : Hp} (hp : PoolAt H' p) (s : Sb p H H') (n : H' q = none) : H q = none := by
  cases e : H q with
  | none => rfl
  | some o =>
    rw [s _ _ (hp.ne n) e] at n
    cases n
set_option maxHeartbeats 4000000 in
theorem ok_calls {fw : Addr} {dw : FuncData} (F : Fun K "_law_calls" "_law_calls" (topS 51) f fd) (G : Gs mg) (C : Cal K mg "_law_draw" fw dw ["_law_pool_here", "_law_upto"]) (O : FnOk P w K mg base CX0 1 fw dw ["_law_pool_here", "_law_upto"] spDraw) :
    FnOk P w K mg base CX0 2 f fd ["_law_pool_here", "_law_many"] spCalls := by
  refine F.ok scCalls (fun vs H Q E h => ?_) (fun cdv A outer s H vs Q E hr h => ?_)
  · obtain ⟨p, m, rfl, _⟩ := h
    rfl
  obtain ⟨p, m, rfl, hp, h1, h8, q⟩ := h
  refine ⟨_, pss_cons (ps_set (i := 2) scCalls.nd rfl (.inr rfl) (pe_lst (pa_cons pe_str (pa_cons pe_str (pa_cons pe_str (pa_cons pe_str (pa_cons pe_str (pa_cons pe_str (pa_cons pe_str (pa_cons pe_str (pa_cons pe_str (pa_cons pe_str (pa_cons pe_str (pa_cons pe_str pa_nil))))))))))))))
    (pss_cons (ps_asg (pe_tup (pa_cons (pe_call O hr (by rfl) C.m C.kp C.b .nil pass0 (pa_cons (pv 0) (pa_cons pe_int pa_nil))) (pa_cons (pe_ix ix_list (pe_lst (pa_cons pe_int (pa_cons pe_int (pa_cons pe_int (pa_cons pe_int pa_nil))))) (pe_call O hr (by rfl) C.m C.kp C.b .nil pass0 (pa_cons (pv 0) (pa_cons pe_int pa_nil))) (fun _ _ => rfl)) pa_nil)))
      (pg_tup rfl (pgs_cons (pg_name (i := 3) scCalls.nd rfl (.inr rfl)) (pgs_cons (pg_name (i := 4) scCalls.nd rfl (.inr rfl)) pgs_nil))))
    (pss_cons (ps_if (pt_cmpR op_eq (pe_call O hr (by rfl) C.m C.kp C.b .nil pass0 (pa_cons (pv 0) (pa_cons pe_int pa_nil))) pe_int (nomark _))
      (pss_one (ps_ret (pe_callB cr_sortedS (by rfl) G.sorted_ (by decide +kernel) (pa_cons (pe_lc (own := [("_law_k", 10)]) (g := gName 10) (by rfl) scCalls.nd (pi_range1 (by rfl) G.range_ (pa_cons (pv 1) pa_nil)) (blkOk_by (N := nCalls) (sc := defScope (topS 51)) (by decide +kernel))
        (fun _ _ _ _ _ => pg_name (i := 10) scCalls.nd rfl (Or.inl rfl)) (fun _ _ _ _ _ => pts_nil) (fun _ _ _ _ _ => pe_ix (ix_listK K) (pv 2) (pe_op op_mod (pe_op op_add (pv 3) (pe_op op_mul (pv 4) (pv 10))) pe_int) (fun _ _ => rfl))) pa_nil)))) pss_nil)
    (pss_cons (ps_set (i := 5) scCalls.nd rfl (.inr rfl) pe_str)
    (pss_cons (ps_set (i := 6) scCalls.nd rfl (.inr rfl) (pe_join pe_str (pe_lc (own := [("_law_k", 10)]) (g := gName 10) (by rfl) scCalls.nd (pi_range1 (by rfl) G.range_ (pa_cons (pe_call O hr (by rfl) C.m C.kp C.b .nil pass0 (pa_cons (pv 0) (pa_cons pe_int pa_nil))) pa_nil)) (blkOk_by (N := nCalls) (sc := defScope (topS 51)) (by decide +kernel))
        (fun _ _ _ _ _ => pg_name (i := 10) scCalls.nd rfl (Or.inl rfl)) (fun _ _ _ _ _ => pts_nil) (fun _ _ _ _ _ => pe_ix ix_str (pv 5) (pe_call O hr (by rfl) C.m C.kp C.b .nil pass0 (pa_cons (pv 0) (pa_cons pe_int pa_nil))) (fun _ _ => rfl)))))
    (pss_cons (ps_asg (pe_tup (pa_cons (pe_call O hr (by rfl) C.m C.kp C.b .nil pass0 (pa_cons (pv 0) (pa_cons (pe_op op_add (pe_callB call_len_str (by rfl) G.len_ PySem.boot_len (pa_cons (pv 6) pa_nil)) pe_int) pa_nil))) (pa_cons (pe_call O hr (by rfl) C.m C.kp C.b .nil pass0 (pa_cons (pv 0) (pa_cons pe_int pa_nil))) pa_nil)))
      (pg_tup rfl (pgs_cons (pg_name (i := 7) scCalls.nd rfl (.inr rfl)) (pgs_cons (pg_name (i := 8) scCalls.nd rfl (.inr rfl)) pgs_nil))))
    (pss_cons (ps_setLc (i := 9) (own := [("_law_k", 10)]) (g := gName 10) (by rfl) scCalls.nd rfl rfl (sw_true rfl rfl rfl (by decide +kernel)) (pi_range1 (by rfl) G.range_ (pa_cons (pv 1) pa_nil)) (blkOk_by (N := nCalls) (sc := defScope (topS 51)) (by decide +kernel))
        (fun _ _ _ _ _ => pg_name (i := 10) scCalls.nd rfl (Or.inl rfl)) (fun _ _ _ _ _ => pts_nil) (fun _ _ _ _ _ => pe_ix ix_str (pv 5) (pe_op op_mod (pe_op op_add (pv 8) (pe_op op_mul (pv 4) (pv 10))) pe_int) (fun _ _ => rfl)))
    (pss_one (ps_ret (pe_callB cr_sortedS (by rfl) G.sorted_ (by decide +kernel) (pa_cons (pe_lc (own := [("_law_sign", 11)]) (g := gName 11) (by rfl) scCalls.nd (pi_list (pv 9)) (blkOk_by (N := nCalls) (sc := defScope (topS 51)) (by decide +kernel))
        (fun _ _ _ _ _ => pg_name (i := 11) scCalls.nd rfl (Or.inl rfl)) (fun _ _ _ _ _ => pts_nil) (fun _ _ _ _ _ => pe_op op_add_str (pe_op op_add_str (pe_slice sl_str (pv 6) po_none (po_some (pv 7))) (pv 11)) (pe_slice sl_str (pv 6) (po_some (pv 7)) po_none))) pa_nil)))))))))), ?_⟩
  -- own
  refine ⟨(by show 12 ≤ sizeLine; decide), fun Ow nO => ?_⟩
  have s1 : Same H (upd H Ow (.lst (ownL.map V.str))) := same_upd nO
  have hO1 : (upd H Ow (.lst (ownL.map V.str))) Ow = some (.lst (ownL.map V.str)) := upd_same
  have hpO : Ow ≠ p := hp.ne nO
  refine ⟨_, rfl, p, 12, rfl, hp.same s1, by decide, by decide, fun first H2 hf sb2 hp2 => ?_⟩
  have b2 := (Sb.of s1).trans sb2
  have hO2 := sb2 _ _ hpO hO1
  refine ⟨(by show 4 ≤ sizeLine; decide), fun Sx nS => ⟨_, rfl, p, 4, rfl, hp2.same (same_upd nS), by decide, by decide, fun r H3 hr3 sb3 hp3 => ?_⟩⟩
  have hS3 := sb3 _ _ (hp2.ne nS) (upd_same (H := H2) (a := Sx))
  have b3 := b2.trans ((Sb.of (same_upd nS)).trans sb3)
  have hO3 := sb3 _ _ hpO (same_upd (o := .lst [.int 1, .int 5, .int 7, .int 11]) nS _ _ hO2)
  obtain ⟨st, hst, hs4⟩ : ∃ st : Nat, ([V.int 1, .int 5, .int 7, .int 11] : List V)[r]? = some (.int (st : Nat)) ∧ St4 st := by
    have h4 : r = 0 ∨ r = 1 ∨ r = 2 ∨ r = 3 := by omega
    rcases h4 with rfl | rfl | rfl | rfl
    · exact ⟨1, rfl, .inl rfl⟩
    · exact ⟨5, rfl, .inr (.inl rfl)⟩
    · exact ⟨7, rfl, .inr (.inr (.inl rfl))⟩
    · exact ⟨11, rfl, .inr (.inr (.inr rfl))⟩
  have hst11 : st ≤ 11 := by rcases hs4 with rfl | rfl | rfl | rfl <;> decide
  refine ⟨Sx, _, _, .int (st : Nat), rfl, rfl, SqL.of hS3, atI_nat hst, (by show 2 ≤ sizeLine; decide), fun T nT => ?_⟩
  have sT := same_upd (o := .tup [.int (first : Nat), .int (st : Nat)]) nT
  refine ⟨T, _, rfl, SqT.of upd_same, rfl, .int (first : Nat), _, rfl, .int (st : Nat), _, rfl, rfl, ?_⟩
  have b4 := b3.trans (Sb.of sT)
  have hO4 := sT _ _ hO3
  refine ⟨_, rfl, p, 3, rfl, hp3.same sT, by decide, by decide, fun r2 H5 hr5 sb5 hp5 => ⟨rfl, _, rfl, ?_⟩⟩
  have b5 := b4.trans sb5
  have hO5 := sb5 _ _ hpO hO4
  have mulOk : ∀ i : Nat, CMul ((st : Nat) : Int) (0 + ((i : Nat) : Int)) := fun i => .inl ⟨by omega, by omega⟩
  by_cases hm : V.int (r2 : Nat) = V.int 1
  · rw [decide_eq_true hm]
    refine iteT ?_
    refine ⟨_, rfl, _, rfl, by omega, by omega, fun D nD => ?_⟩
    rw [Int.toNat_natCast]
    have nDH := Sb.none hp5 b5 nD
    refine turn_rng (lo := 0) (fun i H6 => Same H5 H6 ∧ H6 D = some (.lst ((stp ownL "" first st 12 i).map V.str))) ⟨same_upd nD, upd_same⟩ ?_ ?_
    · rintro i H6 hi ⟨s6, hD6⟩
      have hlt : (first + st * i) % 12 < ownL.length := Nat.mod_lt _ (by decide)
      refine ⟨rfl, _, rfl, _, rfl, _, rfl, _, rfl, _, _, rfl, rfl, mulOk i, _, _, rfl, rfl, _, _, rfl, rfl, (by show (0 : Int) < 12; decide), Ow, _, (((first + st * i) % 12 : Nat) : Int), .str (ownL.getD ((first + st * i) % 12) ""), rfl, ?_, SqL.of (s6 _ _ hO5), atI_nat (get_map ?_), _, hD6, ?_, ?_, ?_⟩
      · show V.int ((((first : Nat) : Int) + ((st : Nat) : Int) * (0 + ((i : Nat) : Int))) % 12) = _
        rw [step_cast first st i 12]
        rfl
      · exact get_getD hlt
      · rw [List.length_map, stp_len]
        exact small1000 (by omega)
      · exact fun c o ec => by
          rw [upd_ne (ne_of_none ec nD)]
          exact s6 _ _ ec
      · rw [upd_same, stp_succ, List.map_append]
        rfl
    · rintro H6 ⟨s6, hD6⟩
      have cok : CallsOk (stp ownL "" first st 12 m) := ⟨stp_nd ownL_nd rfl (by decide) (fun i j hi hj e => cop12 hs4 hi hj e) h8, fun x hx => ownL_ok x (stp_mem rfl (by decide) hx), by rw [stp_len]; exact h1, by rw [stp_len]; exact h8⟩
      exact ⟨D, _, rfl, SqL.of hD6, by rw [stp_len]; omega, fun ys pp hpm _ np => q pp ys _ (cok.perm hpm) (Sb.none (hp5.same s6) (b5.trans (Sb.of s6)) np) upd_same (b5.trans (Sb.of (s6.trans (same_upd np)))) (hp5.same (s6.trans (same_upd np)))⟩
  rw [decide_eq_false hm]
  refine iteF ?_
  refine ⟨⟨_, rfl⟩, _, rfl, p, 6, rfl, hp5, by decide, by decide, fun cnt H6 hc sb6 hp6 => ⟨_, rfl, by omega, by omega, fun D nD => ?_⟩⟩
  rw [Int.toNat_natCast]
  have b6 := b5.trans sb6
  have nDH := Sb.none hp6 b6 nD
  have npD : D ≠ p := hp.ne nDH
  have letS : letters.length ≤ sizeLine := small (by decide +kernel)
  refine turn_rng (lo := 0) (fun i H7 => ∃ cs : List Nat, cs.length = i ∧ (∀ c ∈ cs, c ∈ letC) ∧ Sb p H H7 ∧ PoolAt H7 p ∧ H7 D = some (.lst ((cs.map chr1).map V.str))) ⟨[], rfl, fun c hc => (by cases hc), b6.trans (Sb.of (same_upd nD)), hp6.same (same_upd nD), upd_same⟩ ?_ ?_
  · rintro i H7 hi ⟨cs, cl, cm, b7, hp7, hD7⟩
    refine ⟨rfl, _, rfl, _, rfl, p, 26, rfl, hp7, by decide, by decide, fun j H8 hj sb8 hp8 => ?_⟩
    have hj2 : j < letC.length := by
      rw [letC_len]
      omega
    refine ⟨letters, _, letC[j], rfl, rfl, letS, atI_nat (List.getElem?_eq_getElem hj2), _, sb8 _ _ npD hD7, ?_, cs ++ [letC[j]], ?_, ?_, ?_, ?_, ?_⟩
    · rw [List.length_map, List.length_map]
      exact small1000 (by omega)
    · rw [List.length_append, cl]
      rfl
    · intro c hc
      rcases List.mem_append.mp hc with hc | hc
      · exact cm c hc
      · rw [List.mem_singleton.mp hc]
        exact List.getElem_mem hj2
    · intro b o nb e
      rw [upd_ne (ne_of_none e nDH)]
      exact sb8 _ _ nb (b7 _ _ nb e)
    · obtain ⟨a, d, c, e, h⟩ := hp8
      exact ⟨a, d, c, by rw [upd_ne npD.symm]; exact e, h⟩
    · rw [upd_same, List.map_append, List.map_append]
      rfl
  rintro H7 ⟨cs, cl, cm, b7, hp7, hD7⟩
  refine ⟨_, D, cs.map chr1, rfl, rfl, .inl (SqL.of hD7), ?_, ?_⟩
  · rw [sum_chr]
    show cs.length + (cs.map chr1).length * 0 ≤ 16777216
    omega
  have hz : (Txt.join "" (cs.map chr1)).cps.toList = cs := join_chr cs
  have hzl : (Txt.join "" (cs.map chr1)).length = cs.length := by rw [str_len, hz]
  show tSeq _ _ _ (List.set _ _ (some (V.str (Txt.join "" (cs.map chr1))))) H7
  generalize Txt.join "" (cs.map chr1) = z at *
  have hz5 : z.length ≤ 5 := by omega
  have hzS : z.length ≤ sizeLine := small (by omega)
  refine ⟨_, rfl, _, rfl, z, rfl, hzS, _, _, rfl, rfl, p, _, rfl, hp7, by omega, by omega, fun cut H8 hcut sb8 hp8 => ⟨_, rfl, p, 26, rfl, hp8, by decide, by decide, fun bg H9 hbg sb9 hp9 => ⟨(by show 2 ≤ sizeLine; decide), fun T2 nT2 => ⟨T2, _, rfl, SqT.of upd_same, rfl, .int (cut : Nat), _, rfl, .int (bg : Nat), _, rfl, rfl, ?_⟩⟩⟩⟩
  have sT2 := same_upd (o := .tup [.int (cut : Nat), .int (bg : Nat)]) nT2
  have b10 := ((b7.trans sb8).trans sb9).trans (Sb.of sT2)
  have hp10 := hp9.same sT2
  generalize upd H9 T2 (.tup [.int (cut : Nat), .int (bg : Nat)]) = H10 at *
  have hcz : cut ≤ z.length := by omega
  refine ⟨_, rfl, _, rfl, by omega, by omega, fun D2 nD2 => ?_⟩
  rw [Int.toNat_natCast]
  refine turn_rng (lo := 0) (fun i H11 => Same H10 H11 ∧ H11 D2 = some (.lst (((stp letC 0 bg st 26 i).map chr1).map V.str))) ⟨same_upd nD2, upd_same⟩ ?_ ?_
  · rintro i H11 hi ⟨s11, hD11⟩
    have hlt : (bg + st * i) % 26 < letC.length := by
      rw [letC_len]
      exact Nat.mod_lt _ (by decide)
    refine ⟨rfl, _, rfl, _, rfl, _, rfl, _, rfl, _, _, rfl, rfl, mulOk i, _, _, rfl, rfl, _, _, rfl, rfl, (by show (0 : Int) < 26; decide), letters, (((bg + st * i) % 26 : Nat) : Int), letC.getD ((bg + st * i) % 26) 0, rfl, ?_, letS, atI_nat (get_getD hlt), _, hD11, ?_, ?_, ?_⟩
    · show V.int ((((bg : Nat) : Int) + ((st : Nat) : Int) * (0 + ((i : Nat) : Int))) % 26) = _
      rw [step_cast bg st i 26]
      rfl
    · rw [List.length_map, List.length_map, stp_len]
      exact small1000 (by omega)
    · exact fun c o ec => by
        rw [upd_ne (ne_of_none ec nD2)]
        exact s11 _ _ ec
    · rw [upd_same, stp_succ, List.map_append, List.map_append]
      rfl
  rintro H11 ⟨s11, hD11⟩
  have b11 := b10.trans (Sb.of s11)
  have hp11 := hp10.same s11
  have ndS : (stp letC 0 bg st 26 m).Nodup := stp_nd letC_nd letC_len (by decide) (fun i j hi hj e => cop26 hs4 hi hj e) h8
  have memS : ∀ c ∈ stp letC 0 bg st 26 m, c ∈ letC := fun c hc => stp_mem letC_len (by decide) hc
  have lenS : (stp letC 0 bg st 26 m).length = m := stp_len _ _ _ _ _ _
  generalize stp letC 0 bg st 26 m = gs at *
  refine ⟨_, rfl, D2, rfl, ⟨_, SqL.of hD11⟩, fun D3 nD3 => ?_⟩
  refine turn_list (K := K) (a := D2) (xs := (gs.map chr1).map V.str) (fun i H12 => Same H11 H12 ∧ H12 D3 = some (.lst (((gs.take i).map (nmS z cut)).map V.str))) ⟨same_upd nD3, upd_same⟩ (fun i H12 _ ⟨s12, _⟩ => SqL.of (s12 _ _ hD11)) ?_ ?_
  · rintro i x H12 hx ⟨s12, hD12⟩
    obtain ⟨y, hy, rfl⟩ := map_get hx
    obtain ⟨c, hc, rfl⟩ := map_get hy
    have hi := lt_of_get hc
    have l1 := cutS_length z none (some (cut : Nat))
    have l2 := cutS_length z (some (cut : Nat)) none
    refine ⟨rfl, _, rfl, _, rfl, _, rfl, z, rfl, hzS, _, rfl, _, _, rfl, rfl, ?_, _, rfl, _, rfl, _, rfl, z, rfl, hzS, _, _, rfl, rfl, ?_, _, hD12, ?_, ?_, ?_⟩
    · show _ + 1 ≤ sizeLine
      exact small (by omega)
    · rw [str_app_len]
      show _ + 1 + _ ≤ sizeLine
      exact small (by omega)
    · rw [List.length_map, List.length_map, List.length_take]
      exact small1000 (by omega)
    · exact fun c o ec => by
        rw [upd_ne (ne_of_none ec nD3)]
        exact s12 _ _ ec
    · rw [upd_same, List.take_add_one, hc, List.map_append, List.map_append]
      rfl
  · rintro H12 ⟨s12, hD12⟩
    rw [List.length_map, List.length_map, List.take_length] at hD12
    have cok : CallsOk (gs.map (nmS z cut)) := ⟨nmS_nd hcz ndS, fun x hx => ?_, by rw [List.length_map]; omega, by rw [List.length_map]; omega⟩
    · exact ⟨D3, _, rfl, SqL.of hD12, by rw [List.length_map]; omega, fun ys pp hpm _ np => q pp ys _ (cok.perm hpm) (Sb.none (hp11.same s12) (b11.trans (Sb.of s12)) np) upd_same (b11.trans (Sb.of (s12.trans (same_upd np)))) (hp11.same (s12.trans (same_upd np)))⟩
    · obtain ⟨c, hc, rfl⟩ := List.mem_map.mp hx
      exact nmS_ok hcz hz5 (memS c hc) (by rw [hz]; exact cm)
end
end FW
end
section
/-! W17: the law's _law_tree. -/
namespace FW
open PySem PySem.Spec PyProof.Rows L2 FM FR RZ
theorem cutV_mid (xs : List V) (i j : Nat) (h : i ≤ j) (hj : j ≤ xs.length) : cutV xs (some (i : Nat)) (some (j : Nat)) = (xs.drop i).take (j - i) := by
  unfold cutV
  rw [HT.sIx_nat, HT.sIx_nat, Nat.min_eq_left hj, Nat.min_eq_left (Nat.le_trans h hj)]
theorem cutV_from (xs : List V) (i : Nat) (h : i ≤ xs.length) : cutV xs (some (i : Nat)) none = xs.drop i := by
  unfold cutV
  rw [HT.sIx_none, HT.sIx_nat, Nat.min_eq_left h, List.take_of_length_le]
  rw [List.length_drop]
  exact Nat.le_refl _
theorem PlsAt.drop {H : Hp} {ps : List Pn} {vs : List V} (h : PlsAt H ps vs) (n : Nat) : PlsAt H (ps.drop n) (vs.drop n) :=
  PlsAt.of (by rw [List.length_drop, List.length_drop, h.len]) fun i v p e1 e2 => by
    rw [List.getElem?_drop] at e1 e2
    obtain ⟨q, e3, e4⟩ := h.get e1
    rw [e2] at e3
    cases e3
    exact e4
theorem take_some {α : Type} {l : List α} {n i : Nat} {x : α} (h : (l.take n)[i]? = some x) : l[i]? = some x := by
  rw [List.getElem?_take] at h
  by_cases hlt : i < n
  · rw [if_pos hlt] at h
    exact h
  · rw [if_neg hlt] at h
    cases h
theorem PlsAt.take {H : Hp} {ps : List Pn} {vs : List V} (h : PlsAt H ps vs) (n : Nat) : PlsAt H (ps.take n) (vs.take n) :=
  PlsAt.of (by rw [List.length_take, List.length_take, h.len]) fun i v p e1 e2 => by
    obtain ⟨q, e3, e4⟩ := h.get (take_some e1)
    rw [take_some e2] at e3
    cases e3
    exact e4
/-- the texts among values -/
def unStr : V → Option Str
  | .str s => some s
  | _ => none
theorem unStr_map (cs : List Str) : (cs.map V.str).filterMap unStr = cs := by
  induction cs with
  | nil => rfl
  | cons c r ih =>
    rw [List.map_cons, List.filterMap_cons]
    show c :: (r.map V.str).filterMap unStr = c :: r
    rw [ih]
theorem map_unStr : ∀ {ys : List V}, (∀ y ∈ ys, ∃ s, y = V.str s) → ys = (ys.filterMap unStr).map V.str
  | [], _ => rfl
  | y :: r, h => by
    obtain ⟨s, rfl⟩ := h y List.mem_cons_self
    rw [List.filterMap_cons]
    show V.str s :: r = V.str s :: (r.filterMap unStr).map V.str
    rw [← map_unStr fun y hy => h y (List.mem_cons_of_mem _ hy)]
theorem perm_strs {ys : List V} {cs : List Str} (h : ys.Perm (cs.map V.str)) : ∃ cs' : List Str, ys = cs'.map V.str ∧ cs'.Perm cs := by
  refine ⟨ys.filterMap unStr, map_unStr fun y hy => ?_, ?_⟩
  · obtain ⟨s, _, e⟩ := List.mem_map.mp (h.mem_iff.mp hy)
    exact ⟨s, e.symm⟩
  · have := h.filterMap unStr
    rw [unStr_map] at this
    exact this
theorem lvs_lns (cs : List Str) : lvs (cs.map Pl.ln) = cs := by
  induction cs with
  | nil => exact lvs_nil
  | cons c r ih =>
    rw [List.map_cons, lvs_cons, ih, lv_ln]
    rfl
theorem plsAt_lns (H : Hp) (cs : List Str) : PlsAt H (cs.map Pl.ln) (cs.map V.str) :=
  PlsAt.of (by rw [List.length_map, List.length_map]) fun i v p e1 e2 => by
    obtain ⟨s, h1, rfl⟩ := map_get e1
    obtain ⟨s', h2, rfl⟩ := map_get e2
    rw [h1] at h2
    cases h2
    exact plAt_ln.mpr rfl
section
variable {P : Program} {w : World} {K : PySem.W.Frag} {mg : Str → Option Value} {base : Heap} {f : Addr} {fd : FuncData}
theorem scTree : FnScope ["_law_pool_here", "_law_calls_here", "_law_left", "_law_many", "_law_at"] ["_law_pool_here", "_law_calls_here"] (defScope (topS 54)) := ⟨rfl, rfl, rfl, by decide +kernel, rfl, by decide +kernel, by decide +kernel⟩
def spTree : Sp := fun vs H Q _ => ∃ (p c : Addr) (cs : List Str), vs = [.ref p, .ref c] ∧ PoolAt H p ∧ H c = some (.lst (cs.map V.str)) ∧ CallsOk cs ∧
  ∀ (v : V) (t : Pn) (H' : Hp), PlAt H' t v → Wf t → t.lv.Perm cs → Sb p H H' → PoolAt H' p → Q v H'
def lenOf (σ : L2.St) (H : Hp) : Nat := match σ[2]? with
  | some (some (V.ref a)) => (match H a with | some (HO.lst xs) => xs.length | _ => 0)
  | _ => 0
set_option maxHeartbeats 4000000 in
theorem ok_tree {fw fm fs : Addr} {dw dm ds : FuncData} (F : Fun K "_law_tree" "_law_tree" (topS 54) f fd) (G : Gs mg) (C : Cal K mg "_law_draw" fw dw ["_law_pool_here", "_law_upto"]) (O : FnOk P w K mg base CX0 1 fw dw ["_law_pool_here", "_law_upto"] spDraw)
    (CM : Cal K mg "_law_mixed" fm dm ["_law_pool_here", "_law_things"]) (OM : FnOk P w K mg base CX0 2 fm dm ["_law_pool_here", "_law_things"] spMixed) (CS : Cal K mg "_law_sort" fs ds ["_law_pool_here"]) (OS : FnOk P w K mg base CX0 2 fs ds ["_law_pool_here"] spSort) :
    FnOk P w K mg base CX0 3 f fd ["_law_pool_here", "_law_calls_here"] spTree := by
  refine F.ok scTree (fun vs H Q E h => ?_) (fun cdv A outer s H vs Q E hr h => ?_)
  · obtain ⟨p, c, cs, rfl, _⟩ := h
    rfl
  obtain ⟨p, c, cs, rfl, hp, hc, ok, q⟩ := h
  have hr1 : Room 1 _ := hr.mono (by decide)
  refine ⟨_, pss_cons (ps_set (i := 2) scTree.nd rfl (.inl rfl) (pe_call OM hr (by rfl) CM.m CM.kp CM.b .nil pass0 (pa_cons (pv 0) (pa_cons (pv 1) pa_nil))))
    (pss_cons (ps_while PassesOwn.never (pt_cmpR op_gt (pe_callB call_len_seq (by rfl) G.len_ PySem.boot_len (pa_cons (pv 2) pa_nil)) pe_int (nomark _))
      (pss_cons (ps_set (i := 3) scTree.nd rfl (.inl rfl) (pe_op op_add pe_int (pe_call O hr1 (by rfl) C.m C.kp C.b .nil pass0 (pa_cons (pv 0) (pa_cons (pe_callB (call_min2 rfl) (by rfl) G.min_ (by decide +kernel) (pa_cons pe_int (pa_cons (pe_op op_sub (pe_callB call_len_seq (by rfl) G.len_ PySem.boot_len (pa_cons (pv 2) pa_nil)) pe_int) pa_nil))) pa_nil)))))
      (pss_cons (ps_set (i := 4) scTree.nd rfl (.inl rfl) (pe_call O hr1 (by rfl) C.m C.kp C.b .nil pass0 (pa_cons (pv 0) (pa_cons (pe_op op_add (pe_op op_sub (pe_callB call_len_seq (by rfl) G.len_ PySem.boot_len (pa_cons (pv 2) pa_nil)) (pv 3)) pe_int) pa_nil))))
      (pss_one (ps_set (i := 2) scTree.nd rfl (.inl rfl) (pe_op op_cat (pe_op op_cat (pe_slice sl_list (pv 2) po_none (po_some (pv 4)))
          (pe_lst (pa_cons (pe_tup (pa_cons (pe_call OS hr (by rfl) CS.m CS.kp CS.b .nil pass0 (pa_cons (pv 0) pa_nil)) (pa_cons (pe_callTy call_tupleF (by rfl) G.tuple_ (by decide +kernel) (pa_cons (pe_slice sl_list (pv 2) (po_some (pv 4)) (po_some (pe_op op_add (pv 4) (pv 3)))) pa_nil)) pa_nil))) pa_nil)))
        (pe_slice sl_list (pv 2) (po_some (pe_op op_add (pv 4) (pv 3))) po_none)))))))
    (pss_one (ps_ret (pe_ix ix_list (pv 2) pe_int (fun _ _ => rfl))))), ?_⟩
  have hlen := ok.len
  have hpos := ok.pos
  refine ⟨_, rfl, _, rfl, p, c, _, rfl, hp, hc, by rw [List.length_map]; omega, fun L0 ys H1 hpm nL0 hL0 sb1 hp1 => ?_⟩
  obtain ⟨cs', rfl, pm⟩ := perm_strs hpm
  refine while_by (fun (σ : L2.St) (H2 : Hp) => ∃ (L : Addr) (vs : List V) (ps : List Pn) (y3 y4 : Option V), σ = [some (.ref p), some (.ref c), some (.ref L), y3, y4] ∧ Sb p H H2 ∧ PoolAt H2 p ∧ H L = none ∧ H2 L = some (.lst vs) ∧ PlsAt H2 ps vs ∧ (∀ t ∈ ps, Wf t) ∧ (lvs ps).Perm cs ∧ 1 ≤ ps.length)
    lenOf ⟨L0, _, cs'.map Pl.ln, none, none, rfl, sb1, hp1, nL0, hL0, plsAt_lns _ _, ?_, by rw [lvs_lns]; exact pm, by rw [List.length_map, pm.length_eq]; exact hpos⟩ ?_ (fun σ H Q Q' hq c => ?_)
  · intro t ht
    obtain ⟨s, _, rfl⟩ := List.mem_map.mp ht
    exact wf_ln s
  · rintro σ H2 ⟨L, vs, ps, y3, y4, rfl, sb, hp2, nL, hL, hps, hw, hpl, hp1⟩
    have hvl := hps.len
    have hpn : ps.length ≤ 5 := by
      have := lvs_ge hw
      rw [hpl.length_eq] at this
      omega
    have npL : L ≠ p := hp.ne nL
    refine ⟨_, rfl, L, vs, rfl, .inl (SqL.of hL), _, _, rfl, rfl, _, rfl, ?_⟩
    by_cases h2 : (1 : Int) < ((vs.length : Nat) : Int)
    · rw [decide_eq_true h2]
      refine iteT ?_
      refine ⟨_, rfl, _, rfl, L, vs, rfl, .inl (SqL.of hL), _, _, rfl, rfl, _, _, rfl, p, _, rfl, hp2, ?_, ?_, fun r H3 hr3 sb3 hp3 => ⟨_, _, rfl, rfl, ?_⟩⟩
      · split <;> omega
      · split <;> omega
      have hr3' : r + 2 ≤ vs.length := by
        split at hr3 <;> omega
      clear hr3
      have hL3 := sb3 _ _ npL hL
      refine ⟨_, rfl, _, rfl, L, vs, rfl, .inl (SqL.of hL3), _, rfl, _, _, rfl, rfl, _, _, rfl, rfl, p, _, rfl, hp3, by omega, by omega, fun a H4 ha4 sb4 hp4 => ?_⟩
      have hal : a + (2 + r) ≤ vs.length := by omega
      have hL4 := sb4 _ _ npL hL3
      have b4 := (sb.trans sb3).trans sb4
      have hps4 : PlsAt H4 ps vs := by
        obtain ⟨_, e2⟩ := hp2.is
        obtain ⟨_, e3⟩ := hp3.is
        exact (hps.sb sb3 e2).sb sb4 e3
      -- left[:at]
      refine ⟨_, rfl, _, rfl, _, rfl, L, vs, rfl, SqL.of hL4, fun S1 nS1 => ?_⟩
      have s5 := same_upd (o := .lst (cutV vs none (some (a : Nat)))) nS1
      have e5 : (upd H4 S1 (.lst (cutV vs none (some (a : Nat))))) S1 = some (.lst (vs.take a)) := by rw [upd_same, cutV_to _ _ (by omega)]
      have nS1p : S1 ≠ p := hp4.ne nS1
      generalize upd H4 S1 (.lst (cutV vs none (some (a : Nat)))) = H5 at *
      have hp5 := hp4.same s5
      -- the kind
      refine ⟨_, rfl, p, rfl, hp5, fun k H6 sb6 hp6 => ?_⟩
      have hL6 := sb6 _ _ npL (s5 _ _ hL4)
      have e6 := sb6 _ _ nS1p e5
      have hps6 : PlsAt H6 ps vs := by
        obtain ⟨_, e2⟩ := hp5.is
        exact (hps4.same s5).sb sb6 e2
      have b6 := (b4.trans (Sb.of s5)).trans sb6
      -- tuple(left[at:at + many])
      have eam : V.int (((a : Nat) : Int) + (2 + ((r : Nat) : Int))) = V.int ((a + (2 + r) : Nat) : Int) := congrArg V.int (by omega)
      refine ⟨_, rfl, _, rfl, _, rfl, _, rfl, _, rfl, _, _, rfl, rfl, ((a + (2 + r) : Nat) : Int), eam, L, vs, rfl, SqL.of hL6, fun S2 nS2 => ?_⟩
      have s7 := same_upd (o := .lst (cutV vs (some (a : Nat)) (some ((a + (2 + r) : Nat) : Int)))) nS2
      have e7 : (upd H6 S2 (.lst (cutV vs (some (a : Nat)) (some ((a + (2 + r) : Nat) : Int))))) S2 = some (.lst ((vs.drop a).take (2 + r))) := by
        rw [upd_same, cutV_mid _ _ _ (by omega) hal]
        have : a + (2 + r) - a = 2 + r := by omega
        rw [this]
      generalize upd H6 S2 (.lst (cutV vs (some (a : Nat)) (some ((a + (2 + r) : Nat) : Int)))) = H7 at *
      refine ⟨S2, _, rfl, SqL.of e7, fun B its nB => ?_⟩
      have s8 := same_upd (o := .frz (tObj its) (.tup ((vs.drop a).take (2 + r)))) nB
      have e8 : (upd H7 B (.frz (tObj its) (.tup ((vs.drop a).take (2 + r))))) B = some (.frz (tObj its) (.tup ((vs.drop a).take (2 + r)))) := upd_same
      generalize upd H7 B (.frz (tObj its) (.tup ((vs.drop a).take (2 + r)))) = H8 at *
      refine ⟨(by show 2 ≤ sizeLine; decide), fun T nT => ?_⟩
      have s9 := same_upd (o := .tup [.str (kS k), .ref B]) nT
      have e9 : (upd H8 T (.tup [.str (kS k), .ref B])) T = some (.tup [.str (kS k), .ref B]) := upd_same
      generalize upd H8 T (.tup [.str (kS k), .ref B]) = H9 at *
      refine ⟨(by show 1 ≤ sizeLine; decide), fun L1 nL1 => ?_⟩
      have s10 := same_upd (o := .lst [.ref T]) nL1
      have e10 : (upd H9 L1 (.lst [.ref T])) L1 = some (.lst [.ref T]) := upd_same
      generalize upd H9 L1 (.lst [.ref T]) = H10 at *
      have s610 := (s7.trans (s8.trans (s9.trans s10)))
      refine ⟨S1, L1, _, _, rfl, rfl, s610 _ _ e6, e10, ?_, fun C1 nC1 => ?_⟩
      · rw [List.length_take]
        exact small (by show _ + 1 ≤ 1000; omega)
      have s11 := same_upd (o := .lst (vs.take a ++ [.ref T])) nC1
      have e11 : (upd H10 C1 (.lst (vs.take a ++ [.ref T]))) C1 = some (.lst (vs.take a ++ [.ref T])) := upd_same
      generalize upd H10 C1 (.lst (vs.take a ++ [.ref T])) = H11 at *
      refine ⟨_, rfl, _, rfl, _, rfl, _, _, rfl, rfl, ((a + (2 + r) : Nat) : Int), eam, L, vs, rfl, SqL.of (s11 _ _ (s610 _ _ hL6)), fun S3 nS3 => ?_⟩
      have s12 := same_upd (o := .lst (cutV vs (some ((a + (2 + r) : Nat) : Int)) none)) nS3
      have e12 : (upd H11 S3 (.lst (cutV vs (some ((a + (2 + r) : Nat) : Int)) none))) S3 = some (.lst (vs.drop (a + (2 + r)))) := by rw [upd_same, cutV_from _ _ hal]
      generalize upd H11 S3 (.lst (cutV vs (some ((a + (2 + r) : Nat) : Int)) none)) = H12 at *
      refine ⟨C1, S3, _, _, rfl, rfl, s12 _ _ e11, e12, ?_, fun C2 nC2 => ?_⟩
      · rw [List.length_append, List.length_take, List.length_drop]
        exact small (by show _ + 1 + _ ≤ 1000; omega)
      have s13 := same_upd (o := .lst (vs.take a ++ [.ref T] ++ vs.drop (a + (2 + r)))) nC2
      have e13 : (upd H12 C2 (.lst (vs.take a ++ [.ref T] ++ vs.drop (a + (2 + r))))) C2 = some (.lst (vs.take a ++ [.ref T] ++ vs.drop (a + (2 + r)))) := upd_same
      generalize upd H12 C2 (.lst (vs.take a ++ [.ref T] ++ vs.drop (a + (2 + r)))) = H13 at *
      have s913 := s10.trans (s11.trans (s12.trans s13))
      have s613 := s610.trans (s11.trans (s12.trans s13))
      have hps13 := hps6.same s613
      have b12 : Sb p H H12 := b6.trans (Sb.of (s610.trans (s11.trans s12)))
      have esp : ps = ps.take a ++ ((ps.drop a).take (2 + r) ++ ps.drop (a + (2 + r))) := by
        have e1 := List.take_append_drop a ps
        have e2 := List.take_append_drop (2 + r) (ps.drop a)
        rw [List.drop_drop] at e2
        rw [e2, e1]
      have hT : PlAt H13 (.jn k ((ps.drop a).take (2 + r))) (.ref T) := plAt_jn.mpr ⟨T, B, _, rfl, s913 _ _ e9, ⟨its, (s9.trans s913) _ _ e8⟩, (hps13.drop a).take (2 + r)⟩
      have hl13 : (vs.take a ++ [V.ref T] ++ vs.drop (a + (2 + r))).length < vs.length := by
        rw [List.length_append, List.length_append, List.length_take, List.length_drop]
        show _ + 1 + _ < _
        omega
      refine ⟨⟨C2, _, ps.take a ++ [.jn k ((ps.drop a).take (2 + r))] ++ ps.drop (a + (2 + r)), _, _, rfl, b6.trans (Sb.of s613), hp6.same s613, ?_, e13, ((hps13.take a).append (PlsAt.one hT)).append (hps13.drop _), ?_, ?_, ?_⟩, ?_⟩
      · exact Sb.none (hp6.same (s610.trans (s11.trans s12))) b12 nC2
      · intro t ht
        rcases List.mem_append.mp ht with ht | ht
        · rcases List.mem_append.mp ht with ht | ht
          · exact hw t (List.mem_of_mem_take ht)
          · rw [List.mem_singleton.mp ht]
            refine wf_jn.mpr ⟨?_, fun u hu => hw u (List.mem_of_mem_drop (List.mem_of_mem_take hu))⟩
            rw [List.length_take, List.length_drop]
            omega
        · exact hw t (List.mem_of_mem_drop ht)
      · have el : lvs (ps.take a ++ [.jn k ((ps.drop a).take (2 + r))] ++ ps.drop (a + (2 + r))) = lvs ps := by
          conv => rhs; rw [esp]
          rw [lvs_append, lvs_append, lvs_append, lvs_append, lvs_cons, lvs_nil, lv_jn, List.append_nil, List.append_assoc]
        rw [el]
        exact hpl
      · rw [List.length_append, List.length_append]
        show 1 ≤ _ + 1 + _
        omega
      · show (match H13 C2 with | some (.lst xs) => xs.length | _ => 0) < (match H2 L with | some (.lst xs) => xs.length | _ => 0)
        rw [e13, hL]
        exact hl13
    · rw [decide_eq_false h2]
      refine iteF ?_
      have h1 : ps.length = 1 := by omega
      match ps, h1 with
      | [t], _ =>
        obtain ⟨v, vs', rfl, ht, hn⟩ := plsAt_cons.mp hps
        rw [plsAt_nil.mp hn] at hL
        rw [lvs_cons, lvs_nil, List.append_nil] at hpl
        exact ⟨_, rfl, L, _, 0, v, rfl, rfl, SqL.of hL, rfl, q v t H2 ht (hw t List.mem_cons_self) hpl sb hp2⟩
  · obtain ⟨v, hv1, p2, ys, e1, e2, i, j, e3, e4, k, e5, c⟩ := c
    exact ⟨v, hv1, p2, ys, e1, e2, i, j, e3, e4, k, e5, hq _ _ c⟩
end
end FW
end
section
/-! M11: a dict of queues. -/
namespace FW
open PySem PySem.Spec PyProof.Rows L2 FM FR RZ
/-- entries: a line, its queue's address, its queue -/
abbrev Wt := List (Str × Addr × List Int)
def wkv (ps : Wt) : List (Key × V) := ps.map fun q => ((Sum.inr q.1 : Key), V.ref q.2.1)
theorem wkv_len (ps : Wt) : (wkv ps).length = ps.length := List.length_map _
theorem wkv_get {ps : Wt} (nd : (ps.map (·.1)).Nodup) {j : Nat} {q : Str × Addr × List Int} (h : ps[j]? = some q) : valV (wkv ps) (Sum.inr q.1 : Key) = some (.ref q.2.1) := by
  induction ps generalizing j with
  | nil => simp at h
  | cons p r ih =>
    obtain ⟨nd1, nd2⟩ := List.nodup_cons.mp (by simpa using nd : (p.1 :: r.map (·.1)).Nodup)
    unfold wkv valV
    rw [List.map_cons, List.find?_cons]
    cases j with
    | zero =>
      have : p = q := by simpa using h
      subst this
      rw [decide_eq_true rfl]
      rfl
    | succ j =>
      have hr : r[j]? = some q := by simpa using h
      have hne : p.1 ≠ q.1 := fun e => nd1 (by rw [e]; exact List.mem_map.mpr ⟨q, List.mem_of_getElem? hr, rfl⟩)
      rw [decide_eq_false (fun z => hne (Sum.inr.inj z))]
      exact ih nd2 hr
theorem wkv_put {ps : Wt} (nd : (ps.map (·.1)).Nodup) {j : Nat} {q : Str × Addr × List Int} (h : ps[j]? = some q) (b : Addr) (u : List Int) : putK (wkv ps) (Sum.inr q.1 : Key) (.ref b) = wkv (ps.set j (q.1, b, u)) := by
  have hj := lt_of_get h
  have hm : ((wkv ps).any fun kv => decide (kv.1 = (Sum.inr q.1 : Key))) = true := by
    refine List.any_eq_true.mpr ⟨((Sum.inr q.1 : Key), V.ref q.2.1), List.mem_map.mpr ⟨q, List.mem_of_getElem? h, rfl⟩, by simp⟩
  unfold putK
  rw [if_pos hm]
  apply List.ext_getElem?
  intro i
  unfold wkv
  rw [List.getElem?_map, List.getElem?_map, List.getElem?_map, List.getElem?_set]
  by_cases hij : j = i
  · subst hij
    rw [if_pos rfl, if_pos hj, h]
    simp
  · rw [if_neg hij]
    cases hi : ps[i]? with
    | none => rfl
    | some r =>
      have hne : ¬ (Sum.inr r.1 : Key) = Sum.inr q.1 := fun z => hij (by
        have e : r.1 = q.1 := Sum.inr.inj z
        exact nd_ix nd (get_map (f := (·.1)) h) (by rw [← e]; exact get_map (f := (·.1)) hi))
      simp [hne]
theorem wkv_nd {ps : Wt} (nd : (ps.map (·.1)).Nodup) : ((wkv ps).map (·.1)).Nodup := by
  unfold wkv
  rw [List.map_map]
  exact List.pairwise_map.mpr ((List.pairwise_map.mp nd).imp fun {a b} h e => h (Sum.inr.inj e))
theorem set_keys {ps : Wt} {j : Nat} {q : Str × Addr × List Int} (h : ps[j]? = some q) (b : Addr) (u : List Int) : (ps.set j (q.1, b, u)).map (·.1) = ps.map (·.1) := by
  rw [List.map_set]
  apply List.ext_getElem?
  intro i
  rw [List.getElem?_set]
  by_cases hij : j = i
  · subst hij
    rw [if_pos rfl, if_pos (by rw [List.length_map]; exact lt_of_get h), get_map (f := (·.1)) h]
  · rw [if_neg hij]
theorem mem_set {α : Type} {l : List α} {j : Nat} {v x : α} (h : x ∈ l.set j v) : x = v ∨ ∃ i, i ≠ j ∧ l[i]? = some x := by
  obtain ⟨i, hi⟩ := List.getElem?_of_mem h
  rw [List.getElem?_set] at hi
  by_cases hij : j = i
  · subst hij
    rw [if_pos rfl] at hi
    by_cases hl : j < l.length
    · rw [if_pos hl] at hi
      exact .inl (Option.some.inj hi).symm
    · rw [if_neg hl] at hi
      cases hi
  · rw [if_neg hij] at hi
    exact .inr ⟨i, fun e => hij e.symm, hi⟩
/-- the queues lie in the heap -/
def WtAt (mk : List V → HO) (H : Hp) (ps : Wt) : Prop := ∀ q ∈ ps, H q.2.1 = some (mk (q.2.2.map V.int))
theorem WtAt.same {mk : List V → HO} {H H' : Hp} {ps : Wt} (h : WtAt mk H ps) (s : Same H H') : WtAt mk H' ps := fun q hq => s _ _ (h q hq)
theorem WtAt.set {mk : List V → HO} {H : Hp} {ps : Wt} {j : Nat} {s : Str} {b : Addr} {u : List Int} (h : WtAt mk H ps) (hb : H b = some (mk (u.map V.int))) : WtAt mk H (ps.set j (s, b, u)) := fun q hq => by
  rcases mem_set hq with rfl | ⟨i, _, hi⟩
  · exact hb
  · exact h q (List.mem_of_getElem? hi)
/-- different lines' people are different -/
structure Dj (ps : Wt) (ns : List Int) : Prop where
  nd : ∀ q ∈ ps, q.2.2.Nodup
  dj : ∀ q ∈ ps, ∀ r ∈ ps, q.1 ≠ r.1 → ∀ x ∈ q.2.2, x ∉ r.2.2
  sub : ∀ q ∈ ps, ∀ x ∈ q.2.2, x ∈ ns
theorem Dj.mono {ps qs : Wt} {ns ms : List Int} (h : Dj ps ns) (hq : ∀ q ∈ qs, q ∈ ps) (hn : ∀ x ∈ ns, x ∈ ms) : Dj qs ms :=
  ⟨fun q m => h.nd q (hq q m), fun q m r m' => h.dj q (hq q m) r (hq r m'), fun q m x hx => hn x (h.sub q (hq q m) x hx)⟩
/-- one more person goes to the end of a line -/
theorem Dj.push {ps : Wt} {ns : List Int} {j : Nat} {q : Str × Addr × List Int} {x : Int} {b : Addr} (h : Dj ps ns) (nd : (ps.map (·.1)).Nodup) (hq : ps[j]? = some q) (hx : x ∉ ns) : Dj (ps.set j (q.1, b, q.2.2 ++ [x])) (ns ++ [x]) := by
  have hqm := List.mem_of_getElem? hq
  have hxp : ∀ r ∈ ps, x ∉ r.2.2 := fun r hr z => hx (h.sub r hr x z)
  have other : ∀ {i : Nat} {r : Str × Addr × List Int}, i ≠ j → ps[i]? = some r → q.1 ≠ r.1 := fun hij hr e => hij (nd_ix nd (get_map (f := (·.1)) hr) (by rw [← e]; exact get_map (f := (·.1)) hq))
  refine ⟨fun r hr => ?_, fun r hr s hs hne y hy => ?_, fun r hr y hy => ?_⟩
  · rcases mem_set hr with rfl | ⟨i, _, hi⟩
    · refine List.nodup_append.mpr ⟨h.nd q hqm, by simp, fun a ha c hc e => ?_⟩
      have : c = x := by simpa using hc
      subst this
      subst e
      exact hxp q hqm ha
    · exact h.nd r (List.mem_of_getElem? hi)
  · rcases mem_set hr with rfl | ⟨i, hij, hi⟩
    · rcases mem_set hs with rfl | ⟨k, hkj, hk⟩
      · exact absurd rfl hne
      · have hsm := List.mem_of_getElem? hk
        rcases List.mem_append.mp hy with hy | hy
        · exact h.dj q hqm s hsm hne y hy
        · have : y = x := by simpa using hy
          subst this
          exact hxp s hsm
    · have hrm := List.mem_of_getElem? hi
      rcases mem_set hs with rfl | ⟨k, hkj, hk⟩
      · intro hz
        rcases List.mem_append.mp hz with hz | hz
        · exact h.dj r hrm q hqm hne y hy hz
        · have : y = x := by simpa using hz
          subst this
          exact hxp r hrm hy
      · exact h.dj r hrm s (List.mem_of_getElem? hk) hne y hy
  · rcases mem_set hr with rfl | ⟨i, _, hi⟩
    · rcases List.mem_append.mp hy with hy | hy
      · exact List.mem_append_left _ (h.sub q hqm y hy)
      · exact List.mem_append_right _ hy
    · exact List.mem_append_left _ (h.sub r (List.mem_of_getElem? hi) y hy)
theorem paired_of {α β : Type} {R : α → β → Prop} : ∀ {as : List α} {bs : List β}, as.length = bs.length → (∀ (i : Nat) (a : α) (b : β), as[i]? = some a → bs[i]? = some b → R a b) → Paired R as bs
  | [], [], _, _ => .nil
  | [], b :: r, h, _ => by simp at h
  | a :: r, [], h, _ => by simp at h
  | a :: r, b :: s, h, f => .cons (f 0 a b rfl rfl) (paired_of (by simpa using h) fun i x y h1 h2 => f (i + 1) x y (by simpa using h1) (by simpa using h2))
end FW
end
section
/-! W18: the law's _law_folk. -/
namespace FW
open PySem PySem.Spec PyProof.Rows L2 FM FR RZ
theorem op_neETK {X : Cx} (K : PySem.W.Frag) (hu : X.A.units < cLine) (hK : X.K = K := by rfl) : OpR X (compareOp .NotEq) (fun x y H Q => ∃ a b xs, x = .ref a ∧ y = .ref b ∧ SqT K H a xs ∧ SqT K H b [] ∧ Q (.bl (!decide (xs = []))) H) := by
  subst hK
  exact op_neET hu
theorem CallsOk.ne {H : Hp} {c p : Addr} {cs : List Str} (ok : CallsOk cs) (hp : PoolAt H p) (hc : H c = some (.lst (cs.map V.str))) : c ≠ p := by
  rintro rfl
  obtain ⟨a, d, x, e, _⟩ := hp
  rw [hc] at e
  have h1 := ok.pos
  match cs, h1 with
  | s :: r, _ => cases e
section
variable {P : Program} {w : World} {K : PySem.W.Frag} {mg : Str → Option Value} {base : Heap} {f : Addr} {fd : FuncData}
abbrev nFolk : List Str := ["_law_pool_here", "_law_calls_here", "_law_inches_here", "_law_call", "_law_found", "_law_one_height", "_law_bare"]
theorem scFolk : FnScope nFolk ["_law_pool_here", "_law_calls_here", "_law_inches_here"] (defScope (topS 55)) := ⟨rfl, rfl, rfl, by decide +kernel, rfl, by decide +kernel, by decide +kernel⟩
def spFolk : Sp := fun vs H Q _ => ∃ (p c n : Addr) (cs : List Str) (ns : List Int), vs = [.ref p, .ref c, .ref n] ∧ PoolAt H p ∧ H c = some (.lst (cs.map V.str)) ∧ CallsOk cs ∧ H n = some (.lst (ns.map V.int)) ∧ n ≠ p ∧ ns.Nodup ∧ ns.length ≤ 8 ∧
  ∀ (r : Addr) (as : List Addr) (sel : Wt) (H' : Hp), (sel.map (·.1)).Nodup → (∀ q ∈ sel, q.1 ∈ cs) → Dj sel ns → as.length = sel.length → H' r = some (.tup (as.map V.ref)) →
    (∀ (i : Nat) (a : Addr) (q : Str × Addr × List Int), as[i]? = some a → sel[i]? = some q → H' a = some (.tup [.str q.1, .ref q.2.1])) → WtAt .tup H' sel → Sb p H H' → PoolAt H' p → Q (.ref r) H'
set_option maxHeartbeats 4000000 in
theorem ok_folk {fw : Addr} {dw : FuncData} (F : Fun K "_law_folk" "_law_folk" (topS 55) f fd) (G : Gs mg) (C : Cal K mg "_law_draw" fw dw ["_law_pool_here", "_law_upto"]) (O : FnOk P w K mg base CX0 1 fw dw ["_law_pool_here", "_law_upto"] spDraw) :
    FnOk P w K mg base CX0 2 f fd ["_law_pool_here", "_law_calls_here", "_law_inches_here"] spFolk := by
  refine F.ok scFolk (fun vs H Q E h => ?_) (fun cdv A outer s H vs Q E hr h => ?_)
  · obtain ⟨p, c, n, cs, ns, rfl, _⟩ := h
    rfl
  obtain ⟨p, c, n, cs, ns, rfl, hp, hc, ok, hn, nnp, ndn, hn8, q⟩ := h
  refine ⟨_, pss_cons (ps_set (i := 4) scFolk.nd rfl (.inr rfl) (pe_callTy (call_dictP rfl) (by rfl) G.dict_ (by decide +kernel) (pa_cons (pe_lc (own := [("_law_call", 3)]) (g := gName 3) (by rfl) scFolk.nd (pi_list (pv 1)) (blkOk_by (N := nFolk) (sc := defScope (topS 55)) (by decide +kernel))
        (fun _ _ _ _ _ => pg_name (i := 3) scFolk.nd rfl (Or.inl rfl)) (fun _ _ _ _ _ => pts_nil) (fun _ _ _ _ _ => pe_tup (pa_cons (pv 3) (pa_cons (pe_tup pa_nil) pa_nil)))) pa_nil)))
    (pss_cons (ps_for PassesOwn.never rfl (pi_list (pv 2)) (pg_name (i := 5) scFolk.nd rfl (.inl rfl))
      (pss_cons (ps_set (i := 3) scFolk.nd rfl (.inl rfl) (pe_ix ix_list (pv 1) (pe_call O hr (by rfl) C.m C.kp C.b .nil pass0 (pa_cons (pv 0) (pa_cons (pe_callB call_len_seq (by rfl) G.len_ PySem.boot_len (pa_cons (pv 1) pa_nil)) pa_nil))) (fun _ _ => rfl)))
      (pss_one (ps_dput (hu_of hr) (pv 4) (pv 3) (pe_op op_catA (pe_dget (hu_of hr) (pv 4) (pv 3) (fun _ _ => rfl)) (pe_tup (pa_cons (pv 5) pa_nil))) rfl))))
    (pss_cons (ps_set (i := 6) scFolk.nd rfl (.inr rfl) (pe_call O hr (by rfl) C.m C.kp C.b .nil pass0 (pa_cons (pv 0) (pa_cons pe_int pa_nil))))
    (pss_one (ps_ret (pe_callTy call_tuple_of (by rfl) G.tuple_ (by decide +kernel) (pa_cons (pe_lc (own := [("_law_call", 3)]) (g := gName 3) (by rfl) scFolk.nd (pi_list (pe_callB cr_sortedS (by rfl) G.sorted_ (by decide +kernel) (pa_cons (pv 1) pa_nil))) (blkOk_by (N := nFolk) (sc := defScope (topS 55)) (by decide +kernel))
        (fun _ _ _ _ _ => pg_name (i := 3) scFolk.nd rfl (Or.inl rfl)) (fun _ _ _ _ _ => pts_one (pw_or (pt_cmpR op_eq (pv 6) pe_int (nomark _)) (pw_or1 (pt_cmpR (op_neETK K hr.units0) (pe_dget (hu_of hr) (pv 4) (pv 3) (fun _ _ => rfl)) (pe_tup pa_nil) (nomark _)))).pt)
        (fun _ _ _ _ _ => pe_tup (pa_cons (pv 3) (pa_cons (pe_dget (hu_of hr) (pv 4) (pv 3) (fun _ _ => rfl)) pa_nil)))) pa_nil)))))), ?_⟩
  have h5 := ok.len
  have h1 := ok.pos
  refine ⟨_, rfl, c, rfl, ⟨_, SqL.of hc⟩, fun D nD => ?_⟩
  refine turn_list (K := K) (a := c) (xs := cs.map V.str) (fun i H2 => ∃ as es : List Addr, as.length = i ∧ es.length = i ∧ Same H H2 ∧ H2 D = some (.lst (as.map V.ref)) ∧
      ∀ (j : Nat) (a e : Addr) (s : Str), as[j]? = some a → es[j]? = some e → cs[j]? = some s → H2 a = some (.tup [.str s, .ref e]) ∧ H2 e = some (.tup []))
    ⟨[], [], rfl, rfl, same_upd nD, upd_same, fun j a e s h => by simp at h⟩ (fun i H2 _ ⟨_, _, _, _, sm, _⟩ => SqL.of (sm _ _ hc)) ?_ ?_
  · rintro i x H2 hx ⟨as, es, al, el, sm, hD, hall⟩
    obtain ⟨s, hs, rfl⟩ := map_get hx
    have hi := lt_of_get hs
    refine ⟨rfl, _, rfl, Nat.zero_le _, fun e ne => ⟨(by show 2 ≤ sizeLine; decide), fun T nT => ?_⟩⟩
    have s1 := same_upd (o := .tup []) ne
    have s2 := same_upd (o := .tup [.str s, .ref e]) nT
    have s12 := s1.trans s2
    have e1 : (upd (upd H2 e (.tup [])) T (.tup [.str s, .ref e])) e = some (.tup []) := s2 _ _ upd_same
    have e2 : (upd (upd H2 e (.tup [])) T (.tup [.str s, .ref e])) T = some (.tup [.str s, .ref e]) := upd_same
    generalize upd (upd H2 e (.tup [])) T (.tup [.str s, .ref e]) = H3 at *
    have hD3 := s12 _ _ hD
    have nDx : ∀ {b : Addr} {xs : List V}, H3 b = some (.tup xs) → b ≠ D := fun h => ne_of h hD3 (by intro z; cases z)
    refine ⟨_, hD3, ?_, as ++ [T], es ++ [e], by rw [List.length_append, al]; rfl, by rw [List.length_append, el]; rfl, fun b o eb => ?_, by rw [upd_same, List.map_append]; rfl, ?_⟩
    · rw [List.length_map]
      exact small1000 (by omega)
    · rw [upd_ne (ne_of_none eb nD)]
      exact s12 _ _ (sm _ _ eb)
    · intro j a e' s' h1 h2 h3
      by_cases hj : j < i
      · rw [List.getElem?_append_left (by omega)] at h1 h2
        obtain ⟨g1, g2⟩ := hall j a e' s' h1 h2 h3
        exact ⟨by rw [upd_ne (nDx (s12 _ _ g1))]; exact s12 _ _ g1, by rw [upd_ne (nDx (s12 _ _ g2))]; exact s12 _ _ g2⟩
      · have hj2 : j = i := by
          have := lt_of_get h1
          rw [List.length_append, al] at this
          simp at this
          omega
        subst hj2
        rw [List.getElem?_append_right (by omega), al, Nat.sub_self] at h1
        rw [List.getElem?_append_right (by omega), el, Nat.sub_self] at h2
        have : T = a := by simpa using h1
        subst this
        have : e = e' := by simpa using h2
        subst this
        rw [hs] at h3
        cases h3
        exact ⟨by rw [upd_ne (nDx e2)]; exact e2, by rw [upd_ne (nDx e1)]; exact e1⟩
  rintro H2 ⟨as, es, al, el, sm, hD, hall⟩
  rw [List.length_map] at al el
  let p0 : Wt := (cs.zip es).map fun z => (z.1, z.2, [])
  have k0 : p0.map (·.1) = cs := by
    show ((cs.zip es).map fun z => (z.1, z.2, ([] : List Int))).map (·.1) = cs
    rw [List.map_map]
    show (cs.zip es).map Prod.fst = cs
    exact List.map_fst_zip (by omega)
  have nd0 : (p0.map (·.1)).Nodup := by rw [k0]; exact ok.nd
  have l0 : p0.length = cs.length := by
    show ((cs.zip es).map _).length = _
    rw [List.length_map, List.length_zip]
    omega
  have g0 : ∀ {j : Nat} {q : Str × Addr × List Int}, p0[j]? = some q → cs[j]? = some q.1 ∧ es[j]? = some q.2.1 ∧ q.2.2 = [] := by
    intro j q hq
    obtain ⟨z, hz, rfl⟩ := map_get hq
    obtain ⟨z1, z2⟩ := List.getElem?_zip_eq_some.mp hz
    exact ⟨z1, z2, rfl⟩
  refine ⟨D, as, wkv p0, rfl, SqL.of hD, paired_of (by rw [wkv_len]; omega) ?_, fun d nd => ?_⟩
  · intro i a kv ha hkv
    obtain ⟨qq, hq, rfl⟩ := map_get hkv
    obtain ⟨g1, g2, g3⟩ := g0 hq
    exact SqT.of (hall i a _ _ ha g2 g1).1
  rw [merge_nd _ [] (by rw [List.nil_append]; exact wkv_nd nd0), List.nil_append]
  have s3 := same_upd (o := .dK (wkv p0)) nd
  have w0 : WtAt .tup (upd H2 d (.dK (wkv p0))) p0 := fun qq hq => by
    obtain ⟨j, hj⟩ := List.getElem?_of_mem hq
    obtain ⟨g1, g2, g3⟩ := g0 hj
    have hja : j < as.length := by have := lt_of_get g1; omega
    have ha : as[j]? = some as[j] := List.getElem?_eq_getElem hja
    rw [g3]
    exact s3 _ _ (hall j _ _ _ ha g2 g1).2
  have hd3 : (upd H2 d (.dK (wkv p0))) d = some (.dK (wkv p0)) := upd_same
  have sm3 := sm.trans s3
  have ndH := sm.free nd
  generalize upd H2 d (.dK (wkv p0)) = H3 at *
  have npd : d ≠ p := hp.ne ndH
  refine ⟨_, rfl, n, rfl, ⟨_, SqL.of (sm3 _ _ hn)⟩, ?_⟩
  have ncp := ok.ne hp hc
  have cd : ∀ {b : Addr} {o : HO}, H b = some o → b ≠ d := fun e => ne_of_none e ndH
  refine for_list (K := K) (a := n) (xs := ns.map V.int) (fun i σ H4 => ∃ (y3 y5 : Option V) (ps : Wt), σ = [some (.ref p), some (.ref c), some (.ref n), y3, some (.ref d), y5, none] ∧ Sb p H H4 ∧ PoolAt H4 p ∧ H4 d = some (.dK (wkv ps)) ∧ ps.map (·.1) = cs ∧ WtAt .tup H4 ps ∧ Dj ps (ns.take i))
    ⟨none, none, p0, rfl, Sb.of sm3, hp.same sm3, hd3, k0, w0, ⟨fun qq hq => ?_, fun qq hq r hr _ x hx => ?_, fun qq hq x hx => ?_⟩⟩ (fun i σ H4 _ ⟨_, _, _, _, sb, _⟩ => SqL.of (sb _ _ nnp hn)) ?_ ?_
  · obtain ⟨j, hj⟩ := List.getElem?_of_mem hq
    rw [(g0 hj).2.2]
    exact .nil
  · obtain ⟨j, hj⟩ := List.getElem?_of_mem hq
    rw [(g0 hj).2.2] at hx
    cases hx
  · obtain ⟨j, hj⟩ := List.getElem?_of_mem hq
    rw [(g0 hj).2.2] at hx
    cases hx
  · rintro i x σ H4 hx ⟨y3, y5, ps, rfl, sb4, hp4, hd4, hk4, hw4, dj⟩
    obtain ⟨h, hh, rfl⟩ := map_get hx
    have hi := lt_of_get hh
    have hc4 := sb4 _ _ ncp hc
    have ndk : (ps.map (·.1)).Nodup := by rw [hk4]; exact ok.nd
    have lk4 : ps.length = cs.length := by rw [← hk4, List.length_map]
    refine ⟨_, rfl, _, rfl, _, rfl, c, _, rfl, .inl (SqL.of hc4), p, _, rfl, hp4, by rw [List.length_map]; omega, by rw [List.length_map]; omega, fun r H5 hr5 sb5 hp5 => ?_⟩
    rw [List.length_map] at hr5
    have hrc : r < cs.length := by omega
    have hs := List.getElem?_eq_getElem hrc
    have hrp : r < ps.length := by omega
    have hq := List.getElem?_eq_getElem hrp
    have hqk : ps[r].1 = cs[r] := by
      have e1 := get_map (f := (·.1)) hq
      rw [hk4, hs] at e1
      exact (Option.some.inj e1).symm
    have hc5 := sb5 _ _ ncp hc4
    have hd5 := sb5 _ _ npd hd4
    have sb45 := sb4.trans sb5
    have hw5 : WtAt .tup H5 ps := fun qq hqq => sb5 _ _ (ne_of (hw4 qq hqq) (hp4.is.choose_spec) (by intro z; cases z)) (hw4 qq hqq)
    refine ⟨c, _, r, .str ps[r].1, rfl, rfl, SqL.of hc5, atI_nat (by rw [hqk]; exact get_map hs), ?_⟩
    have g5 := DGet.k (k := Sum.inr ps[r].1) hd5
    rw [wkv_get ndk hq] at g5
    have ha5 := hw5 _ (List.mem_of_getElem? hq)
    have hql : ps[r].2.2.length ≤ 8 := by
      have := nodup_len (dj.nd _ (List.mem_of_getElem? hq)) (dj.sub _ (List.mem_of_getElem? hq))
      rw [List.length_take] at this
      omega
    refine ⟨_, rfl, _, rfl, d, _, rfl, g5, _, rfl, (by show 1 ≤ sizeLine; decide), fun T nT => ?_⟩
    have s6 := same_upd (o := .tup [.int h]) nT
    have e6 : (upd H5 T (.tup [.int h])) T = some (.tup [.int h]) := upd_same
    generalize upd H5 T (.tup [.int h]) = H6 at *
    have ha6 := s6 _ _ ha5
    have et : ns.take (i + 1) = ns.take i ++ [h] := by rw [List.take_add_one, hh]; rfl
    -- the queue with one more at b: kept
    have fin : ∀ (b : Addr) (H7 : Hp), Same H6 H7 → H7 b = some (.tup ((ps[r].2.2 ++ [h]).map V.int)) → ∃ (y3' y5' : Option V) (ps' : Wt), ([some (.ref p), some (.ref c), some (.ref n), some (.str ps[r].1), some (.ref d), some (.int h), none] : L2.St) = [some (.ref p), some (.ref c), some (.ref n), y3', some (.ref d), y5', none] ∧
        Sb p H (upd H7 d (.dK (putK (wkv ps) (Sum.inr ps[r].1 : Key) (.ref b)))) ∧ PoolAt (upd H7 d (.dK (putK (wkv ps) (Sum.inr ps[r].1 : Key) (.ref b)))) p ∧ (upd H7 d (.dK (putK (wkv ps) (Sum.inr ps[r].1 : Key) (.ref b)))) d = some (.dK (wkv ps')) ∧ ps'.map (·.1) = cs ∧
        WtAt .tup (upd H7 d (.dK (putK (wkv ps) (Sum.inr ps[r].1 : Key) (.ref b)))) ps' ∧ Dj ps' (ns.take (i + 1)) := by
      intro b H7 s7 hb
      have hd7 := s7 _ _ (s6 _ _ hd5)
      have tnd : ∀ {b : Addr} {xs : List V}, H7 b = some (.tup xs) → b ≠ d := fun e => ne_of e hd7 (by intro z; cases z)
      have hw7 := (hw5.same s6).same s7
      rw [wkv_put ndk hq b (ps[r].2.2 ++ [h])]
      refine ⟨_, _, _, rfl, fun b2 o nb e => ?_, ?_, upd_same, by rw [set_keys hq]; exact hk4, ?_, ?_⟩
      · rw [upd_ne (cd e)]
        exact s7 _ _ (s6 _ _ (sb45 _ _ nb e))
      · obtain ⟨a, dd, x, e, h⟩ := (hp5.same s6).same s7
        exact ⟨a, dd, x, by rw [upd_ne npd.symm]; exact e, h⟩
      · intro qq hqq
        rcases mem_set hqq with rfl | ⟨k, _, hk⟩
        · rw [upd_ne (tnd hb)]
          exact hb
        · have e := hw7 _ (List.mem_of_getElem? hk)
          rw [upd_ne (tnd e)]
          exact e
      · rw [et]
        exact dj.push ndk hq (nodup_at ndn hh)
    have hlen : (wkv ps).length < sizeLine := by
      rw [wkv_len]
      exact small1000 (by omega)
    refine ⟨_, T, _, _, rfl, rfl, SqT.of ha6, SqT.of e6, ?_, fun hx => ?_, fun _ z => (by cases z), fun hx _ b nb => ?_⟩
    · rw [List.length_map]
      exact small (by show _ + 1 ≤ 1000; omega)
    · have hn0 : ps[r].2.2 = [] := List.map_eq_nil_iff.mp hx
      refine ⟨_, rfl, _, rfl, d, _, rfl, DPut.k (k := Sum.inr ps[r].1) (s6 _ _ hd5) hlen, ?_⟩
      refine fin T H6 (Same.refl _) ?_
      rw [hn0]
      exact e6
    · have s7 := same_upd (o := .tup (ps[r].2.2.map V.int ++ [.int h])) nb
      refine ⟨_, rfl, _, rfl, d, _, rfl, DPut.k (k := Sum.inr ps[r].1) (s7 _ _ (s6 _ _ hd5)) hlen, ?_⟩
      refine fin b _ s7 ?_
      rw [upd_same, List.map_append]
      rfl
  rintro σ H4 ⟨y3, y5, ps, rfl, sb4, hp4, hd4, hk4, hw4, dj⟩
  rw [List.length_map, List.take_length] at dj
  have ndk : (ps.map (·.1)).Nodup := by rw [hk4]; exact ok.nd
  refine ⟨_, rfl, p, 2, rfl, hp4, by decide, by decide, fun bare H5 hb5 sb5 hp5 => ?_⟩
  have hc5 := sb5 _ _ ncp (sb4 _ _ ncp hc)
  have hd5 := sb5 _ _ npd hd4
  have sb45 := sb4.trans sb5
  have hw5 : WtAt .tup H5 ps := fun qq hqq => sb5 _ _ (ne_of (hw4 qq hqq) (hp4.is.choose_spec) (by intro z; cases z)) (hw4 qq hqq)
  refine ⟨_, rfl, c, cs, rfl, SqL.of hc5, by omega, fun ys S hpm _ nS => ⟨S, rfl, ⟨_, SqL.of upd_same⟩, fun D2 nD2 => ?_⟩⟩
  have s6 := same_upd (o := .lst (ys.map V.str)) nS
  have e6 : (upd H5 S (.lst (ys.map V.str))) S = some (.lst (ys.map V.str)) := upd_same
  generalize upd H5 S (.lst (ys.map V.str)) = H6 at *
  have yl : ys.length ≤ 5 := by rw [hpm.length_eq]; exact h5
  refine turn_list (K := K) (a := S) (xs := ys.map V.str) (fun i H7 => ∃ (as : List Addr) (sel : Wt), Same H6 H7 ∧ H7 D2 = some (.lst (as.map V.ref)) ∧ as.length = sel.length ∧ as.length ≤ i ∧ (∀ q ∈ sel, q ∈ ps) ∧ (sel.map (·.1)).Sublist (ys.take i) ∧
      ∀ (j : Nat) (a : Addr) (q : Str × Addr × List Int), as[j]? = some a → sel[j]? = some q → H7 a = some (.tup [.str q.1, .ref q.2.1]))
    ⟨[], [], same_upd nD2, upd_same, rfl, Nat.le_refl _, fun q h => (by cases h), List.Sublist.refl _, fun j a q h => by simp at h⟩ (fun i H7 _ ⟨_, _, sm, _⟩ => SqL.of (sm _ _ e6)) ?_ ?_
  · rintro i x H7 hx ⟨as2, sel, sm7, hD7, al2, ai, hsel, hsub, hall2⟩
    obtain ⟨s, hs, rfl⟩ := map_get hx
    have hi := lt_of_get hs
    have hd7 := sm7 _ _ (s6 _ _ hd5)
    have hw7 := (hw5.same s6).same sm7
    obtain ⟨j, hj⟩ := List.getElem?_of_mem (show s ∈ ps.map (·.1) from by rw [hk4]; exact hpm.mem_iff.mp (List.mem_of_getElem? hs))
    obtain ⟨qq, hqq, rfl⟩ := map_get hj
    have hqm := List.mem_of_getElem? hqq
    have g7 := DGet.k (k := Sum.inr qq.1) hd7
    rw [wkv_get ndk hqq] at g7
    have et : ys.take (i + 1) = ys.take i ++ [qq.1] := by rw [List.take_add_one, hs]; rfl
    have skip : ∀ H8, Same H7 H8 → ∃ (as : List Addr) (sel : Wt), Same H6 H8 ∧ H8 D2 = some (.lst (as.map V.ref)) ∧ as.length = sel.length ∧ as.length ≤ i + 1 ∧ (∀ q ∈ sel, q ∈ ps) ∧ (sel.map (·.1)).Sublist (ys.take (i + 1)) ∧
        ∀ (j : Nat) (a : Addr) (q : Str × Addr × List Int), as[j]? = some a → sel[j]? = some q → H8 a = some (.tup [.str q.1, .ref q.2.1]) := fun H8 s8 =>
      ⟨as2, sel, sm7.trans s8, s8 _ _ hD7, al2, by omega, hsel, by rw [et]; exact hsub.trans (List.sublist_append_left _ _), fun j a q h1 h2 => s8 _ _ (hall2 j a q h1 h2)⟩
    have fin : ∀ H8, Same H7 H8 → ∀ T, H8 T = none → ∃ (as : List Addr) (sel : Wt), Same H6 (upd (upd H8 T (.tup [.str qq.1, .ref qq.2.1])) D2 (.lst (as2.map V.ref ++ [.ref T]))) ∧ (upd (upd H8 T (.tup [.str qq.1, .ref qq.2.1])) D2 (.lst (as2.map V.ref ++ [.ref T]))) D2 = some (.lst (as.map V.ref)) ∧ as.length = sel.length ∧ as.length ≤ i + 1 ∧ (∀ q ∈ sel, q ∈ ps) ∧ (sel.map (·.1)).Sublist (ys.take (i + 1)) ∧
        ∀ (j : Nat) (a : Addr) (q : Str × Addr × List Int), as[j]? = some a → sel[j]? = some q → (upd (upd H8 T (.tup [.str qq.1, .ref qq.2.1])) D2 (.lst (as2.map V.ref ++ [.ref T]))) a = some (.tup [.str q.1, .ref q.2.1]) := by
      intro H8 s8 T nT
      have s9 := same_upd (o := .tup [.str qq.1, .ref qq.2.1]) nT
      have e9 : (upd H8 T (.tup [.str qq.1, .ref qq.2.1])) T = some (.tup [.str qq.1, .ref qq.2.1]) := upd_same
      generalize upd H8 T (.tup [.str qq.1, .ref qq.2.1]) = H9 at *
      have hD9 := s9 _ _ (s8 _ _ hD7)
      have tnd : ∀ {b : Addr} {xs : List V}, H9 b = some (.tup xs) → b ≠ D2 := fun e => ne_of e hD9 (by intro z; cases z)
      refine ⟨as2 ++ [T], sel ++ [qq], fun b o eb => ?_, by rw [upd_same, List.map_append]; rfl, by rw [List.length_append, List.length_append, al2]; rfl, by rw [List.length_append]; show _ + 1 ≤ _; omega, fun q hq => ?_, ?_, fun j a q h1 h2 => ?_⟩
      · rw [upd_ne (ne_of_none eb nD2)]
        exact s9 _ _ (s8 _ _ (sm7 _ _ eb))
      · rcases List.mem_append.mp hq with hq | hq
        · exact hsel q hq
        · rw [List.mem_singleton.mp hq]
          exact hqm
      · rw [et, List.map_append]
        exact hsub.append (List.Sublist.refl _)
      · by_cases hj : j < as2.length
        · rw [List.getElem?_append_left hj] at h1
          rw [List.getElem?_append_left (by omega)] at h2
          have e := s9 _ _ (s8 _ _ (hall2 j a q h1 h2))
          rw [upd_ne (tnd e)]
          exact e
        · have hj2 : j = as2.length := by
            have := lt_of_get h1
            rw [List.length_append] at this
            simp at this
            omega
          subst hj2
          rw [List.getElem?_append_right (by omega), Nat.sub_self] at h1
          rw [List.getElem?_append_right (by omega), ← al2, Nat.sub_self] at h2
          have : T = a := by simpa using h1
          subst this
          have : qq = q := by simpa using h2
          subst this
          rw [upd_ne (tnd e9)]
          exact e9
    have small7 : (as2.map V.ref).length < sizeLine := by
      rw [List.length_map]
      exact small1000 (by omega)
    refine ⟨rfl, _, rfl, rfl, _, rfl, ?_⟩
    by_cases hb : V.int (bare : Nat) = V.int 0
    · rw [decide_eq_true hb]
      refine iteT (iteT ?_)
      exact ⟨_, rfl, _, rfl, _, rfl, d, _, rfl, g7, (by show 2 ≤ sizeLine; decide), fun T nT => ⟨_, (same_upd (o := .tup [.str qq.1, .ref qq.2.1]) nT) _ _ hD7, small7, fin H7 (Same.refl _) T nT⟩⟩
    · rw [decide_eq_false hb]
      refine iteF ⟨_, rfl, _, rfl, d, _, rfl, g7, Nat.zero_le _, fun e ne => ?_⟩
      have s8 := same_upd (o := .tup []) ne
      refine ⟨qq.2.1, e, _, rfl, rfl, SqT.of (s8 _ _ (hw7 _ hqm)), SqT.of upd_same, _, rfl, ?_⟩
      by_cases hz : qq.2.2.map V.int = []
      · rw [decide_eq_true hz]
        exact iteF (skip _ s8)
      · rw [decide_eq_false hz]
        refine iteT ?_
        have g8 := DGet.k (k := Sum.inr qq.1) (s8 _ _ hd7)
        rw [wkv_get ndk hqq] at g8
        exact ⟨_, rfl, _, rfl, _, rfl, d, _, rfl, g8, (by show 2 ≤ sizeLine; decide), fun T nT => ⟨_, (same_upd (o := .tup [.str qq.1, .ref qq.2.1]) nT) _ _ (s8 _ _ hD7), small7, fin _ s8 T nT⟩⟩
  · rintro H7 ⟨as2, sel, sm7, hD7, al2, ai, hsel, hsub, hall2⟩
    rw [List.length_map, List.take_length] at hsub
    refine ⟨D2, _, rfl, .inl ⟨SqL.of hD7, fun r nr => ?_⟩⟩
    have s8 := same_upd (o := .tup (as2.map V.ref)) nr
    have s68 := s6.trans (sm7.trans s8)
    exact q r as2 sel _ (hsub.nodup (hpm.nodup_iff.mpr ok.nd)) (fun qq hq => by rw [← hk4]; exact List.mem_map.mpr ⟨qq, hsel qq hq, rfl⟩) (dj.mono hsel fun _ h => h) al2 upd_same (fun j a qq h1 h2 => s8 _ _ (hall2 j a qq h1 h2))
      (fun qq hq => s68 _ _ (hw5 _ (hsel qq hq))) (sb45.trans (Sb.of s68)) (hp5.same s68)
end
end FW
end
section
/-! W19: the law's _law_leaves, _law_front. -/
namespace FW
open PySem PySem.Spec PyProof.Rows L2 FM FR RZ
section
variable {P : Program} {w : World} {K : PySem.W.Frag} {mg : Str → Option Value} {base : Heap} {f : Addr} {fd : FuncData}
/-! ### _law_leaves -/
theorem scLeaves : FnScope ["_law_tree_here", "_law_found", "_law_part"] ["_law_tree_here"] (defScope (topS 56)) := ⟨rfl, rfl, rfl, by decide +kernel, rfl, by decide +kernel, by decide +kernel⟩
def spLeaves (n : Nat) : Sp := fun vs H Q _ => ∃ (v : V) (t : Pn), vs = [v] ∧ PlAt H t v ∧ Wf t ∧ t.lv.length ≤ n ∧ t.lv.length ≤ 8 ∧
  ∀ (r : Addr) (H' : Hp), Same H H' → H r = none → H' r = some (.lst (t.lv.map V.str)) → Q (.ref r) H'
theorem leaves_none {k : Nat} : FnOk P w K mg base CX0 k f fd ["_law_tree_here"] (spLeaves 0) := by
  have no : ∀ vs H Q E, ¬ spLeaves 0 vs H Q E := fun vs H Q E h => by
    obtain ⟨v, t, _, _, hw, h0, _⟩ := h
    have := Wf.pos t hw
    omega
  exact ⟨fun vs H Q E h => absurd h (no vs H Q E), fun A outer s H args us vs Q E _ _ _ _ h => absurd h (no vs H Q E)⟩
theorem leaves_one {n : Nat} (F : Fun K "_law_leaves" "_law_leaves" (topS 56) f fd) (G : Gs mg) (C : Cal K mg "_law_leaves" f fd ["_law_tree_here"]) (O : FnOk P w K mg base CX0 n f fd ["_law_tree_here"] (spLeaves n)) :
    FnOk P w K mg base CX0 (n + 1) f fd ["_law_tree_here"] (spLeaves (n + 1)) := by
  refine F.ok scLeaves (fun vs H Q E h => ?_) (fun cdv A outer s H vs Q E hr h => ?_)
  · obtain ⟨v, t, rfl, _⟩ := h
    rfl
  obtain ⟨v, t, rfl, hp, hw, hn, h8, q⟩ := h
  refine ⟨_, pss_cons (ps_if (pt_val (pe_callB call_isi (by rfl) G.isinstance_ (by decide +kernel) (pa_cons (pv 0) (pa_cons (pe_bltn (by rfl) G.str_ (by decide +kernel) (v := .ty "str") rfl) pa_nil)))) (pss_one (ps_ret (pe_lst (pa_cons (pv 0) pa_nil)))) pss_nil)
    (pss_cons (ps_set (i := 1) scLeaves.nd rfl (.inl rfl) (pe_lst pa_nil))
    (pss_cons (ps_for PassesOwn.never rfl (pi_tup (pe_ix ix_tup (pv 0) pe_int (fun _ _ => rfl))) (pg_name (i := 2) scLeaves.nd rfl (.inl rfl))
      (pss_one (ps_expr (pe_bm PySem.F.plainAttrs_list PySem.F.slot_list_extend PySem.F.type_list_extend mt_extend (pv 1) (pa_cons (pe_call O hr (by rfl) C.m C.kp C.b .nil pass0 (pa_cons (pv 2) pa_nil)) pa_nil)))))
    (pss_one (ps_ret (pv 1))))), ?_⟩
  cases t with
  | ln s =>
    obtain rfl := plAt_ln.mp hp
    refine ⟨_, rfl, .str s, .ty "str", .type "str", .type "str", true, rfl, .ty _, .base (.str _), kit_ty (by decide +kernel), true, rfl, iteT ?_⟩
    refine ⟨_, rfl, (by show 1 ≤ sizeLine; decide), fun p np => ?_⟩
    refine q p _ (same_upd np) np ?_
    rw [upd_same, lv_ln]
    rfl
  | jn k ps =>
    obtain ⟨a, b, us, rfl, ha, hb, hps⟩ := plAt_jn.mp hp
    obtain ⟨hw1, hw2⟩ := wf_jn.mp hw
    refine ⟨_, rfl, .ref a, .ty "str", .type "tuple", .type "str", false, rfl, .ty _, .base (.tup ha), kit_ty (by decide +kernel), false, rfl, iteF ?_⟩
    have i1 : atI [V.str (kS k), V.ref b] 1 = some (.ref b) := atI_nat (j := 1) rfl
    rw [lv_jn] at h8 q
    refine ⟨Nat.zero_le _, fun Fo nF => ?_⟩
    have s1 := same_upd (o := .lst []) nF
    refine ⟨_, rfl, a, _, _, _, rfl, rfl, SqT.of (s1 _ _ ha), i1, b, rfl, ⟨_, (hb.same s1).t⟩, ?_⟩
    have hlen := hps.len
    refine for_tup (K := K) (a := b) (xs := us) (fun i σ H2 => ∃ y, σ = [some (.ref a), some (.ref Fo), y] ∧ Same H H2 ∧ H2 Fo = some (.lst ((lvs (ps.take i)).map V.str))) ⟨none, rfl, s1, by rw [upd_same, List.take_zero, lvs_nil]; rfl⟩
      (fun i σ H2 _ ⟨_, _, sm, _⟩ => (hb.same sm).t) ?_ ?_
    · rintro i x σ H2 hx ⟨y, rfl, sm, hF⟩
      obtain ⟨p, hpi, hpx⟩ := hps.get hx
      have hpm2 := List.mem_of_getElem? hpi
      have hlt := lv_part hw hpm2
      have ep : ps.take (i + 1) = ps.take i ++ [p] := by rw [List.take_add_one, hpi]; rfl
      have hle : (lvs (ps.take i)).length + p.lv.length ≤ 8 := by
        have e := split_at hpi
        rw [e, lvs_append, lvs_cons, List.length_append, List.length_append] at h8
        omega
      refine ⟨_, rfl, .inl ⟨rfl, _, .inl (.inl hF)⟩, _, rfl, x, p, rfl, hpx.same sm, hw2 p hpm2, by omega, by omega, fun r H3 s3 nr hr3 => ?_⟩
      refine ⟨Fo, r, _, _, rfl, rfl, s3 _ _ hF, hr3, ?_, _, rfl, fun c o e => ?_, ?_⟩
      · rw [List.length_map, List.length_map]
        exact small (by omega)
      · rw [upd_ne (ne_of_none e nF)]
        exact s3 _ _ (sm _ _ e)
      · rw [upd_same, ep, lvs_append, lvs_cons, lvs_nil, List.append_nil, List.map_append]
    · rintro σ H2 ⟨y, rfl, sm, hF⟩
      rw [hlen, List.take_length] at hF
      exact ⟨_, rfl, q Fo H2 sm nF hF⟩
theorem ok_leaves (F : Fun K "_law_leaves" "_law_leaves" (topS 56) f fd) (G : Gs mg) (C : Cal K mg "_law_leaves" f fd ["_law_tree_here"]) : ∀ n : Nat, FnOk P w K mg base CX0 n f fd ["_law_tree_here"] (spLeaves n)
  | 0 => leaves_none
  | n + 1 => leaves_one F G C (ok_leaves F G C n)
/-! ### _law_front -/
abbrev nFront : List Str := ["_law_tree_here", "_law_waiting", "_law_fronts", "_law_part", "_law_front_here"]
theorem scFront : FnScope nFront ["_law_tree_here", "_law_waiting"] (defScope (topS 57)) := ⟨rfl, rfl, rfl, by decide +kernel, rfl, by decide +kernel, by decide +kernel⟩
def FrOk (ps : Wt) (x : Int) : Prop := x = 0 ∨ ∃ q ∈ ps, q.2.2.head? = some x
def spFront (n : Nat) : Sp := fun vs H Q _ => ∃ (v : V) (d : Addr) (t : Pn) (ps : Wt), vs = [v, .ref d] ∧ PlAt H t v ∧ Wf t ∧ t.lv.length ≤ n ∧ t.lv.length ≤ 8 ∧ H d = some (.dK (wkv ps)) ∧ (ps.map (·.1)).Nodup ∧ (∀ s ∈ t.lv, s ∈ ps.map (·.1)) ∧ WtAt .lst H ps ∧ (∀ q ∈ ps, q.2.2.length ≤ 8) ∧
  ∀ (x : Int) (H' : Hp), Same H H' → FrOk ps x → Q (.int x) H'
theorem front_none {k : Nat} : FnOk P w K mg base CX0 k f fd ["_law_tree_here", "_law_waiting"] (spFront 0) := by
  have no : ∀ vs H Q E, ¬ spFront 0 vs H Q E := fun vs H Q E h => by
    obtain ⟨v, d, t, ps, _, _, hw, h0, _⟩ := h
    have := Wf.pos t hw
    omega
  exact ⟨fun vs H Q E h => absurd h (no vs H Q E), fun A outer s H args us vs Q E _ _ _ _ h => absurd h (no vs H Q E)⟩
set_option maxHeartbeats 2000000 in
theorem front_one {n : Nat} (F : Fun K "_law_front" "_law_front" (topS 57) f fd) (G : Gs mg) (C : Cal K mg "_law_front" f fd ["_law_tree_here", "_law_waiting"]) (O : FnOk P w K mg base CX0 n f fd ["_law_tree_here", "_law_waiting"] (spFront n)) :
    FnOk P w K mg base CX0 (n + 1) f fd ["_law_tree_here", "_law_waiting"] (spFront (n + 1)) := by
  refine F.ok scFront (fun vs H Q E h => ?_) (fun cdv A outer s H vs Q E hr h => ?_)
  · obtain ⟨v, d, t, ps, rfl, _⟩ := h
    rfl
  obtain ⟨v, d, t, wt, rfl, hp, hw, hn, h8, hd, ndk, hin, hwt, hq8, q⟩ := h
  refine ⟨_, pss_cons (ps_if (pt_val (pe_callB call_isi (by rfl) G.isinstance_ (by decide +kernel) (pa_cons (pv 0) (pa_cons (pe_bltn (by rfl) G.str_ (by decide +kernel) (v := .ty "str") rfl) pa_nil))))
      (pss_one (ps_ret (pe_ix ix_list (pe_op op_cat (pe_dget (hu_of hr) (pv 1) (pv 0) (fun _ _ => rfl)) (pe_lst (pa_cons pe_int pa_nil))) pe_int (fun _ _ => rfl)))) pss_nil)
    (pss_cons (ps_setLc (i := 2) (own := [("_law_part", 3)]) (g := gName 3) (by rfl) scFront.nd rfl rfl (sw_true rfl rfl rfl (by decide +kernel)) (pi_tup (pe_ix ix_tup (pv 0) pe_int (fun _ _ => rfl))) (blkOk_by (N := nFront) (sc := defScope (topS 57)) (by decide +kernel))
        (fun _ _ _ _ _ => pg_name (i := 3) scFront.nd rfl (Or.inl rfl)) (fun _ _ _ _ _ => pts_nil) (fun _ _ _ _ _ => pe_call O hr (by rfl) C.m C.kp C.b .nil pass0 (pa_cons (pv 3) (pa_cons (pv 1) pa_nil))))
    (pss_cons (ps_setLc (i := 2) (own := [("_law_front_here", 4)]) (g := gName 4) (by rfl) scFront.nd rfl rfl (sw_true rfl rfl rfl (by decide +kernel)) (pi_list (pv 2)) (blkOk_by (N := nFront) (sc := defScope (topS 57)) (by decide +kernel))
        (fun _ _ _ _ _ => pg_name (i := 4) scFront.nd rfl (Or.inl rfl)) (fun _ _ _ _ _ => pts_one (pt_cmpR op_gt (pv 4) pe_int (nomark _))) (fun _ _ _ _ _ => pv 4))
    (pss_cons (ps_if (pt_cmpR (op_eqE hr.units0) (pv 2) (pe_lst pa_nil) (nomark _)) (pss_one (ps_ret pe_int)) pss_nil)
    (pss_one (ps_ret (pe_ifExp (pt_cmpR op_eq (pe_ix ix_tup (pv 0) pe_int (fun _ _ => rfl)) pe_str (nomark _)) (pe_callB (cr_min rfl) (by rfl) G.min_ (by decide +kernel) (pa_cons (pv 2) pa_nil)) (pe_callB (cr_max rfl) (by rfl) G.max_ (by decide +kernel) (pa_cons (pv 2) pa_nil)))))))), ?_⟩
  cases t with
  | ln s =>
    obtain rfl := plAt_ln.mp hp
    refine ⟨_, rfl, .str s, .ty "str", .type "str", .type "str", true, rfl, .ty _, .base (.str _), kit_ty (by decide +kernel), true, rfl, iteT ?_⟩
    rw [lv_ln] at hin
    obtain ⟨j, hj⟩ := List.getElem?_of_mem (hin s (List.mem_singleton.mpr rfl))
    obtain ⟨qq, hqq, rfl⟩ := map_get hj
    have hqm := List.mem_of_getElem? hqq
    have g := DGet.k (k := Sum.inr qq.1) hd
    rw [wkv_get ndk hqq] at g
    refine ⟨_, rfl, _, rfl, d, _, rfl, g, (by show 1 ≤ sizeLine; decide), fun z nz => ?_⟩
    have s1 := same_upd (o := .lst [.int 0]) nz
    refine ⟨qq.2.1, z, _, _, rfl, rfl, s1 _ _ (hwt qq hqm), upd_same, ?_, fun p np => ?_⟩
    · rw [List.length_map]
      have := hq8 qq hqm
      exact small (by show _ + 1 ≤ 1000; omega)
    have s2 := same_upd (o := .lst (qq.2.2.map V.int ++ [.int 0])) np
    cases hz : qq.2.2 with
    | nil =>
      refine ⟨p, _, 0, .int 0, rfl, rfl, SqL.of upd_same, ?_, q 0 _ (s1.trans (by rw [hz] at s2; exact s2)) (.inl rfl)⟩
      exact atI_nat (j := 0) rfl
    | cons x r =>
      refine ⟨p, _, 0, .int x, rfl, rfl, SqL.of upd_same, ?_, q x _ (s1.trans (by rw [hz] at s2; exact s2)) (.inr ⟨qq, hqm, by rw [hz]; rfl⟩)⟩
      exact atI_nat (j := 0) rfl
  | jn k ps =>
    obtain ⟨a, b, us, rfl, ha, hb, hps⟩ := plAt_jn.mp hp
    obtain ⟨hw1, hw2⟩ := wf_jn.mp hw
    refine ⟨_, rfl, .ref a, .ty "str", .type "tuple", .type "str", false, rfl, .ty _, .base (.tup ha), kit_ty (by decide +kernel), false, rfl, iteF ?_⟩
    have i1 : atI [V.str (kS k), V.ref b] 1 = some (.ref b) := atI_nat (j := 1) rfl
    have i0 : atI [V.str (kS k), V.ref b] 0 = some (.str (kS k)) := atI_nat (j := 0) rfl
    rw [lv_jn] at h8 hin
    have hlen := hps.len
    have hpl := lvs_ge hw2
    refine ⟨_, rfl, a, _, _, _, rfl, rfl, SqT.of ha, i1, b, rfl, ⟨_, hb.t⟩, fun D nD => ?_⟩
    refine turn_tup (K := K) (a := b) (xs := us) (fun i H2 => Same H H2 ∧ ∃ fs : List Int, H2 D = some (.lst (fs.map V.int)) ∧ fs.length = i ∧ ∀ x ∈ fs, FrOk wt x) ⟨same_upd nD, [], upd_same, rfl, fun x h => (by cases h)⟩
      (fun i H2 _ ⟨sm, _⟩ => (hb.same sm).t) ?_ ?_
    · rintro i x H2 hx ⟨sm, fs, hD, fl, hfs⟩
      obtain ⟨p, hpi, hpx⟩ := hps.get hx
      have hpm2 := List.mem_of_getElem? hpi
      have hlt := lv_part hw hpm2
      have hi := lt_of_get hpi
      have hle : p.lv.length ≤ 8 ∧ ∀ s ∈ p.lv, s ∈ lvs ps := by
        refine ⟨?_, fun s hs => mem_lvs.mpr ⟨p, hpm2, hs⟩⟩
        rw [lv_jn] at hlt
        omega
      refine ⟨rfl, _, rfl, _, rfl, x, d, p, wt, rfl, hpx.same sm, hw2 p hpm2, by omega, hle.1, sm _ _ hd, ndk, fun s hs => hin s (hle.2 s hs), hwt.same sm, hq8, fun y H3 s3 hy => ?_⟩
      refine ⟨_, s3 _ _ hD, ?_, fun c o e => ?_, fs ++ [y], by rw [upd_same, List.map_append]; rfl, by rw [List.length_append, fl]; rfl, fun z hz => ?_⟩
      · rw [List.length_map]
        exact small1000 (by omega)
      · rw [upd_ne (ne_of_none e nD)]
        exact s3 _ _ (sm _ _ e)
      · rcases List.mem_append.mp hz with hz | hz
        · exact hfs z hz
        · rw [List.mem_singleton.mp hz]
          exact hy
    rintro H2 ⟨sm, fs, hD, fl, hfs⟩
    refine ⟨_, rfl, D, rfl, ⟨_, SqL.of hD⟩, fun D2 nD2 => ?_⟩
    refine turn_list (K := K) (a := D) (xs := fs.map V.int) (fun i H3 => Same H2 H3 ∧ ∃ gs : List Int, H3 D2 = some (.lst (gs.map V.int)) ∧ gs.length ≤ i ∧ ∀ x ∈ gs, FrOk wt x) ⟨same_upd nD2, [], upd_same, Nat.le_refl _, fun x h => (by cases h)⟩
      (fun i H3 _ ⟨sm3, _⟩ => SqL.of (sm3 _ _ hD)) ?_ ?_
    · rintro i x H3 hx ⟨sm3, gs, hD3, gl, hgs⟩
      obtain ⟨y, hy, rfl⟩ := map_get hx
      have hi := lt_of_get hy
      refine ⟨rfl, _, rfl, _, _, rfl, rfl, _, rfl, ?_⟩
      by_cases h0 : 0 < y
      · rw [decide_eq_true h0]
        refine iteT ⟨_, rfl, _, hD3, ?_, fun c o e => ?_, gs ++ [y], by rw [upd_same, List.map_append]; rfl, by rw [List.length_append]; show _ + 1 ≤ _; omega, fun z hz => ?_⟩
        · rw [List.length_map]
          exact small1000 (by omega)
        · rw [upd_ne (ne_of_none e nD2)]
          exact sm3 _ _ e
        · rcases List.mem_append.mp hz with hz | hz
          · exact hgs z hz
          · rw [List.mem_singleton.mp hz]
            exact hfs y (List.mem_of_getElem? hy)
      · rw [decide_eq_false h0]
        exact iteF ⟨sm3, gs, hD3, by omega, hgs⟩
    rintro H3 ⟨sm3, gs, hD3, gl, hgs⟩
    have s03 := sm.trans sm3
    refine ⟨_, rfl, Nat.zero_le _, fun e0 ne0 => ⟨D2, e0, _, rfl, rfl, SqL.of ((same_upd ne0) _ _ hD3), SqL.of upd_same, _, rfl, ?_⟩⟩
    have s4 := same_upd (o := .lst []) ne0
    have hD4 := s4 _ _ hD3
    by_cases hz : gs.map V.int = []
    · rw [decide_eq_true hz]
      exact iteT (q 0 _ (s03.trans s4) (.inl rfl))
    rw [decide_eq_false hz]
    refine iteF ?_
    have hpos : 0 < gs.length := by
      rcases Nat.eq_zero_or_pos gs.length with z | z
      · rw [List.length_eq_zero_iff.mp z] at hz
        exact absurd rfl hz
      · exact z
    refine ⟨_, rfl, a, _, _, _, rfl, rfl, SqT.of (s4 _ _ (s03 _ _ ha)), i0, rfl, _, rfl, ?_⟩
    have fin : ∀ m ∈ gs, Q (.int m) (upd H3 e0 (.lst [])) := fun m hm => q m _ (s03.trans s4) (hgs m hm)
    by_cases hk : V.str (kS k) = V.str "low"
    · rw [decide_eq_true hk]
      exact iteT ⟨_, rfl, D2, gs, rfl, SqL.of hD4, hpos, fun m hm _ => fin m hm⟩
    · rw [decide_eq_false hk]
      exact iteF ⟨_, rfl, D2, gs, rfl, SqL.of hD4, hpos, fun m hm _ => fin m hm⟩
theorem ok_front (F : Fun K "_law_front" "_law_front" (topS 57) f fd) (G : Gs mg) (C : Cal K mg "_law_front" f fd ["_law_tree_here", "_law_waiting"]) : ∀ n : Nat, FnOk P w K mg base CX0 n f fd ["_law_tree_here", "_law_waiting"] (spFront n)
  | 0 => front_none
  | n + 1 => front_one F G C (ok_front F G C n)
end
end FW
end
section
/-! M12: the people that a plan lets go. -/
namespace FW
open PySem PySem.Spec PyProof.Rows L2 FM FR RZ
theorem cutV_to' (xs : List V) (i : Nat) : cutV xs none (some (i : Nat)) = xs.take i := by
  by_cases h : i ≤ xs.length
  · exact cutV_to xs i h
  · unfold cutV
    rw [HT.sIx_none, HT.sIx_nat, Nat.min_eq_right (by omega), List.take_of_length_le (by omega : xs.length ≤ i)]
    simp
theorem cutV_from' (xs : List V) (i : Nat) : cutV xs (some (i : Nat)) none = xs.drop i := by
  by_cases h : i ≤ xs.length
  · exact cutV_from xs i h
  · unfold cutV
    rw [HT.sIx_none, HT.sIx_nat, Nat.min_eq_right (by omega), List.drop_of_length_le (by omega : xs.length ≤ i)]
    simp
def pop (x : Int) (l : List Int) : List Int := if l.take 1 = [x] then l.drop 1 else l
theorem pop_sub {x : Int} {l : List Int} : ∀ y ∈ pop x l, y ∈ l := by
  intro y hy
  unfold pop at hy
  split at hy
  · exact List.mem_of_mem_drop hy
  · exact hy
theorem pop_nd {x : Int} {l : List Int} (h : l.Nodup) : (pop x l).Nodup := by
  unfold pop
  split
  · exact List.Sublist.nodup (List.drop_sublist 1 l) h
  · exact h
theorem pop_len {x : Int} {l : List Int} : (pop x l).length ≤ l.length := by
  unfold pop
  split
  · rw [List.length_drop]
    omega
  · exact Nat.le_refl _
theorem pop_out {x : Int} {l : List Int} (nd : l.Nodup) (h : x ∈ l → l.head? = some x) : x ∉ pop x l := by
  intro hx
  unfold pop at hx
  cases l with
  | nil => simp at hx
  | cons a r =>
    by_cases e : a = x
    · subst e
      rw [if_pos (by rfl)] at hx
      exact (List.nodup_cons.mp nd).1 (by simpa using hx)
    · rw [if_neg (by simpa using e)] at hx
      have := h hx
      simp at this
      exact e this
/-- the queues with x taken from the fronts -/
structure Pp (ps qs : Wt) (x : Int) : Prop where
  keys : qs.map (·.1) = ps.map (·.1)
  pop : ∀ (i : Nat) (q r : Str × Addr × List Int), ps[i]? = some q → qs[i]? = some r → r.2.2 = FW.pop x q.2.2
theorem Pp.get {ps qs : Wt} {x : Int} (h : Pp ps qs x) {r : Str × Addr × List Int} (hr : r ∈ qs) : ∃ q ∈ ps, q.1 = r.1 ∧ r.2.2 = FW.pop x q.2.2 := by
  obtain ⟨i, hi⟩ := List.getElem?_of_mem hr
  have hl : qs.length = ps.length := by
    have := congrArg List.length h.keys
    rw [List.length_map, List.length_map] at this
    exact this
  have hlt := lt_of_get hi
  have hq : ps[i]? = some ps[i] := List.getElem?_eq_getElem (by omega)
  refine ⟨ps[i], List.mem_of_getElem? hq, ?_, h.pop i _ _ hq hi⟩
  have e1 := get_map (f := (·.1)) hq
  have e2 := get_map (f := (·.1)) hi
  rw [h.keys, e1] at e2
  exact Option.some.inj e2
theorem Pp.dj {ps qs : Wt} {x : Int} {ns : List Int} (h : Pp ps qs x) (d : Dj ps ns) : Dj qs ns := by
  refine ⟨fun r hr => ?_, fun r hr s hs hne y hy hz => ?_, fun r hr y hy => ?_⟩
  · obtain ⟨q, hq, e1, e2⟩ := h.get hr
    rw [e2]
    exact pop_nd (d.nd q hq)
  · obtain ⟨q, hq, e1, e2⟩ := h.get hr
    obtain ⟨q', hq', e1', e2'⟩ := h.get hs
    rw [e2] at hy
    rw [e2'] at hz
    exact d.dj q hq q' hq' (by rw [e1, e1']; exact hne) y (pop_sub y hy) (pop_sub y hz)
  · obtain ⟨q, hq, e1, e2⟩ := h.get hr
    rw [e2] at hy
    exact d.sub q hq y (pop_sub y hy)
theorem key_inj {ps : Wt} (nd : (ps.map (·.1)).Nodup) {q r : Str × Addr × List Int} (hq : q ∈ ps) (hr : r ∈ ps) (e : q.1 = r.1) : q = r := by
  obtain ⟨i, hi⟩ := List.getElem?_of_mem hq
  obtain ⟨j, hj⟩ := List.getElem?_of_mem hr
  have : i = j := nd_ix nd (get_map (f := (·.1)) hi) (by rw [e]; exact get_map (f := (·.1)) hj)
  subst this
  rw [hi] at hj
  exact Option.some.inj hj
theorem head_mem {x : Int} {l : List Int} (h : l.head? = some x) : x ∈ l := by
  cases l with
  | nil => cases h
  | cons a r =>
    have : a = x := by simpa using h
    subst this
    exact List.mem_cons_self
/-- who was let go stands in no queue -/
theorem Pp.out {ps qs : Wt} {x : Int} {ns : List Int} (h : Pp ps qs x) (d : Dj ps ns) (nd : (ps.map (·.1)).Nodup) (hx : ∃ q ∈ ps, q.2.2.head? = some x) : ∀ r ∈ qs, x ∉ r.2.2 := by
  obtain ⟨q0, h0, e0⟩ := hx
  intro r hr
  obtain ⟨q, hq, e1, e2⟩ := h.get hr
  rw [e2]
  refine pop_out (d.nd q hq) fun hm => ?_
  by_cases e : q0.1 = q.1
  · rw [← key_inj nd h0 hq e]
    exact e0
  · exact absurd hm (d.dj q0 h0 q hq e x (head_mem e0))
end FW
end
section
/-! W20: the law's _law_result. -/
namespace FW
open PySem PySem.Spec PyProof.Rows L2 FM FR RZ
section
variable {P : Program} {w : World} {K : PySem.W.Frag} {mg : Str → Option Value} {base : Heap} {f : Addr} {fd : FuncData}
abbrev nResult : List Str := ["_law_tree_here", "_law_folk_here", "_law_call", "_law_waiting", "_law_found", "_law_queue", "_law_front_here"]
theorem scResult : FnScope nResult ["_law_tree_here", "_law_folk_here"] (defScope (topS 58)) := ⟨rfl, rfl, rfl, by decide +kernel, rfl, by decide +kernel, by decide +kernel⟩
/-- a crowd in the heap -/
def FolkAt (H : Hp) (r : Addr) (lv : List Str) (sel : Wt) (ns : List Int) : Prop := ∃ as : List Addr, (sel.map (·.1)).Nodup ∧ (∀ q ∈ sel, q.1 ∈ lv) ∧ Dj sel ns ∧ as.length = sel.length ∧ H r = some (.tup (as.map V.ref)) ∧
  (∀ (i : Nat) (a : Addr) (q : Str × Addr × List Int), as[i]? = some a → sel[i]? = some q → H a = some (.tup [.str q.1, .ref q.2.1])) ∧ WtAt .tup H sel
def spResult : Sp := fun vs H Q _ => ∃ (v : V) (r : Addr) (t : Pn) (sel : Wt) (ns : List Int), vs = [v, .ref r] ∧ PlAt H t v ∧ Wf t ∧ t.lv.Nodup ∧ t.lv.length ≤ 5 ∧ FolkAt H r t.lv sel ns ∧ ns.length ≤ 8 ∧
  ∀ (a : Addr) (fs : List Int) (H' : Hp), Same H H' → H' a = some (.tup (fs.map V.int)) → fs.Nodup → (∀ x ∈ fs, x ∈ ns) → Q (.ref a) H'
def leftOf (σ : L2.St) (H : Hp) : Nat := match σ[4]? with
  | some (some (V.ref a)) => (match H a with | some (HO.lst xs) => 9 - xs.length | _ => 0)
  | _ => 0
set_option maxHeartbeats 4000000 in
theorem ok_result {fl ff : Addr} {dl df : FuncData} (F : Fun K "_law_result" "_law_result" (topS 58) f fd) (G : Gs mg) (CL : Cal K mg "_law_leaves" fl dl ["_law_tree_here"]) (OL : FnOk P w K mg base CX0 5 fl dl ["_law_tree_here"] (spLeaves 5))
    (CF : Cal K mg "_law_front" ff df ["_law_tree_here", "_law_waiting"]) (OF : FnOk P w K mg base CX0 5 ff df ["_law_tree_here", "_law_waiting"] (spFront 5)) :
    FnOk P w K mg base CX0 6 f fd ["_law_tree_here", "_law_folk_here"] spResult := by
  refine F.ok scResult (fun vs H Q E h => ?_) (fun cdv A outer s H vs Q E hr h => ?_)
  · obtain ⟨v, r, t, sel, ns, rfl, _⟩ := h
    rfl
  obtain ⟨v, r, t, sel, ns, rfl, hp, hw, ndl, h5, ⟨as, ndk, hin, djs, asl, hra, hpair, hws⟩, hn8, q⟩ := h
  refine ⟨_, pss_cons (ps_par (i := 3) (j := 4) rfl scResult.nd rfl rfl (by decide) rfl rfl (pa_cons (pe_callTy (call_dictP rfl) (by rfl) G.dict_ (by decide +kernel) (pa_cons (pe_lc (own := [("_law_call", 2)]) (g := gName 2) (by rfl) scResult.nd (pi_list (pe_call OL hr (by rfl) CL.m CL.kp CL.b .nil pass0 (pa_cons (pv 0) pa_nil))) (blkOk_by (N := nResult) (sc := defScope (topS 58)) (by decide +kernel))
        (fun _ _ _ _ _ => pg_name (i := 2) scResult.nd rfl (Or.inl rfl)) (fun _ _ _ _ _ => pts_nil) (fun _ _ _ _ _ => pe_tup (pa_cons (pv 2) (pa_cons (pe_lst pa_nil) pa_nil)))) pa_nil)) (pa_cons (pe_lst pa_nil) pa_nil)) rfl)
    (pss_cons (ps_for PassesOwn.never rfl (pi_tup (pv 1)) (pg_tup rfl (pgs_cons (pg_name (i := 2) scResult.nd rfl (.inl rfl)) (pgs_cons (pg_name (i := 5) scResult.nd rfl (.inl rfl)) pgs_nil)))
      (pss_one (ps_dput (hu_of hr) (pv 3) (pv 2) (pe_callTy call_list_of (by rfl) G.list_ (by decide +kernel) (pa_cons (pv 5) pa_nil)) rfl)))
    (pss_cons (ps_set (i := 6) scResult.nd rfl (.inl rfl) (pe_call OF hr (by rfl) CF.m CF.kp CF.b .nil pass0 (pa_cons (pv 0) (pa_cons (pv 3) pa_nil))))
    (pss_cons (ps_while PassesOwn.never (pt_cmpR op_gt (pv 6) pe_int (nomark _))
      (pss_cons (ps_expr (pe_bm PySem.F.plainAttrs_list PySem.F.slot_list_append PySem.F.type_list_append mt_append (pv 4) (pa_cons (pv 6) pa_nil)))
      (pss_cons (ps_for PassesOwn.never rfl (pi_list (pe_call OL hr (by rfl) CL.m CL.kp CL.b .nil pass0 (pa_cons (pv 0) pa_nil))) (pg_name (i := 2) scResult.nd rfl (.inl rfl))
        (pss_one (ps_dput (hu_of hr) (pv 3) (pv 2) (pe_slice sl_list (pe_dget (hu_of hr) (pv 3) (pv 2) (fun _ _ => rfl)) (po_some (pe_callTy call_int1 (by rfl) G.int_ (by decide +kernel) (pa_cons
          (pe_cmpR (op_eq1 hr.units0) (pe_slice sl_list (pe_dget (hu_of hr) (pv 3) (pv 2) (fun _ _ => rfl)) po_none (po_some pe_int)) (pe_lst (pa_cons (pv 6) pa_nil)) (nomark _)) pa_nil))) po_none) rfl)))
      (pss_one (ps_set (i := 6) scResult.nd rfl (.inl rfl) (pe_call OF hr (by rfl) CF.m CF.kp CF.b .nil pass0 (pa_cons (pv 0) (pa_cons (pv 3) pa_nil))))))))
    (pss_one (ps_ret (pe_callTy call_tuple_of (by rfl) G.tuple_ (by decide +kernel) (pa_cons (pv 4) pa_nil))))))), ?_⟩
  refine ⟨_, rfl, v, t, rfl, hp, hw, h5, by omega, fun r1 H1 s1 nr1 hr1 => ⟨r1, rfl, ⟨_, SqL.of hr1⟩, fun D nD => ?_⟩⟩
  generalize hlv : t.lv = lv at *
  have h5t : t.lv.length ≤ 5 := by rw [hlv]; exact h5
  have h8t : t.lv.length ≤ 8 := Nat.le_trans h5t (by decide)
  refine turn_list (K := K) (a := r1) (xs := lv.map V.str) (fun i H2 => ∃ as es : List Addr, as.length = i ∧ es.length = i ∧ Same H1 H2 ∧ H2 D = some (.lst (as.map V.ref)) ∧
      ∀ (j : Nat) (a e : Addr) (s : Str), as[j]? = some a → es[j]? = some e → lv[j]? = some s → H2 a = some (.tup [.str s, .ref e]) ∧ H2 e = some (.lst []) ∧ e ≠ D)
    ⟨[], [], rfl, rfl, same_upd nD, upd_same, fun j a e s h => by simp at h⟩ (fun i H2 _ ⟨_, _, _, _, sm, _⟩ => SqL.of (sm _ _ hr1)) ?_ ?_
  · rintro i x H2 hx ⟨as, es, al, el, sm, hD, hall⟩
    obtain ⟨s, hs, rfl⟩ := map_get hx
    have hi := lt_of_get hs
    refine ⟨rfl, _, rfl, Nat.zero_le _, fun e ne => ⟨(by show 2 ≤ sizeLine; decide), fun T nT => ?_⟩⟩
    have s1 := same_upd (o := .lst []) ne
    have s2 := same_upd (o := .tup [.str s, .ref e]) nT
    have s12 := s1.trans s2
    have neD : e ≠ D := (ne_of_none hD ne).symm
    have e1 : (upd (upd H2 e (.lst [])) T (.tup [.str s, .ref e])) e = some (.lst []) := s2 _ _ upd_same
    have e2 : (upd (upd H2 e (.lst [])) T (.tup [.str s, .ref e])) T = some (.tup [.str s, .ref e]) := upd_same
    generalize upd (upd H2 e (.lst [])) T (.tup [.str s, .ref e]) = H3 at *
    have hD3 := s12 _ _ hD
    have nDx : ∀ {b : Addr} {xs : List V}, H3 b = some (.tup xs) → b ≠ D := fun h => ne_of h hD3 (by intro z; cases z)
    refine ⟨_, hD3, ?_, as ++ [T], es ++ [e], by rw [List.length_append, al]; rfl, by rw [List.length_append, el]; rfl, fun b o eb => ?_, by rw [upd_same, List.map_append]; rfl, ?_⟩
    · rw [List.length_map]
      exact small1000 (by omega)
    · rw [upd_ne (ne_of_none eb nD)]
      exact s12 _ _ (sm _ _ eb)
    · intro j a e' s' h1 h2 h3
      by_cases hj : j < i
      · rw [List.getElem?_append_left (by omega)] at h1 h2
        obtain ⟨g1, g2, g3⟩ := hall j a e' s' h1 h2 h3
        exact ⟨by rw [upd_ne (nDx (s12 _ _ g1))]; exact s12 _ _ g1, by rw [upd_ne g3]; exact s12 _ _ g2, g3⟩
      · have hj2 : j = i := by
          have := lt_of_get h1
          rw [List.length_append, al] at this
          simp at this
          omega
        subst hj2
        rw [List.getElem?_append_right (by omega), al, Nat.sub_self] at h1
        rw [List.getElem?_append_right (by omega), el, Nat.sub_self] at h2
        have : T = a := by simpa using h1
        subst this
        have : e = e' := by simpa using h2
        subst this
        rw [hs] at h3
        cases h3
        exact ⟨by rw [upd_ne (nDx e2)]; exact e2, by rw [upd_ne neD]; exact e1, neD⟩
  rintro H2 ⟨as1, es, al, el, sm, hD, hall⟩
  rw [List.length_map] at al el
  let p0 : Wt := (lv.zip es).map fun z => (z.1, z.2, [])
  have k0 : p0.map (·.1) = lv := by
    show ((lv.zip es).map fun z => (z.1, z.2, ([] : List Int))).map (·.1) = lv
    rw [List.map_map]
    show (lv.zip es).map Prod.fst = lv
    exact List.map_fst_zip (by omega)
  have nd0 : (p0.map (·.1)).Nodup := by rw [k0]; exact ndl
  have l0 : p0.length = lv.length := by
    show ((lv.zip es).map _).length = _
    rw [List.length_map, List.length_zip]
    omega
  have g0 : ∀ {j : Nat} {q : Str × Addr × List Int}, p0[j]? = some q → lv[j]? = some q.1 ∧ es[j]? = some q.2.1 ∧ q.2.2 = [] := by
    intro j q hq
    obtain ⟨z, hz, rfl⟩ := map_get hq
    obtain ⟨z1, z2⟩ := List.getElem?_zip_eq_some.mp hz
    exact ⟨z1, z2, rfl⟩
  refine ⟨D, as1, wkv p0, rfl, SqL.of hD, paired_of (by rw [wkv_len]; omega) ?_, fun d nd => ?_⟩
  · intro i a kv ha hkv
    obtain ⟨qq, hq, rfl⟩ := map_get hkv
    obtain ⟨g1, g2, g3⟩ := g0 hq
    exact SqT.of (hall i a _ _ ha g2 g1).1
  rw [merge_nd _ [] (by rw [List.nil_append]; exact wkv_nd nd0), List.nil_append]
  have s3 := same_upd (o := .dK (wkv p0)) nd
  have w0 : WtAt .lst (upd H2 d (.dK (wkv p0))) p0 := fun qq hq => by
    obtain ⟨j, hj⟩ := List.getElem?_of_mem hq
    obtain ⟨g1, g2, g3⟩ := g0 hj
    have hja : j < as1.length := by have := lt_of_get g1; omega
    have ha : as1[j]? = some as1[j] := List.getElem?_eq_getElem hja
    rw [g3]
    exact s3 _ _ (hall j _ _ _ ha g2 g1).2.1
  have hd3 : (upd H2 d (.dK (wkv p0))) d = some (.dK (wkv p0)) := upd_same
  have sm3 := (s1.trans sm).trans s3
  have ndH := (s1.trans sm).free nd
  generalize upd H2 d (.dK (wkv p0)) = H3 at *
  refine ⟨Nat.zero_le _, fun Fo nF => ?_⟩
  have s4 := same_upd (o := .lst []) nF
  have hF4 : (upd H3 Fo (.lst [])) Fo = some (.lst []) := upd_same
  have hd4 := s4 _ _ hd3
  have w4 := w0.same s4
  have wF : ∀ q ∈ p0, q.2.1 ≠ Fo := fun qq hq => ne_of_none (w0 qq hq) nF
  have nFH : H Fo = none := sm3.free nF
  have sm4 := sm3.trans s4
  generalize upd H3 Fo (.lst []) = H4 at *
  have cd : ∀ {b : Addr} {o : HO}, H b = some o → b ≠ d := fun e => ne_of_none e ndH
  have cF : ∀ {b : Addr} {o : HO}, H b = some o → b ≠ Fo := fun e => ne_of_none e nFH
  have dF : d ≠ Fo := ne_of hd4 hF4 (by intro z; cases z)
  refine ⟨_, _, rfl, ?_⟩
  refine ⟨_, rfl, r, rfl, ⟨_, SqT.of (sm4 _ _ hra)⟩, ?_⟩
  refine for_tup (K := K) (a := r) (xs := as.map V.ref) (fun i σ H5 => ∃ (y2 y5 : Option V) (ps : Wt), σ = [some v, some (.ref r), y2, some (.ref d), some (.ref Fo), y5, none] ∧ Same H H5 ∧ H5 d = some (.dK (wkv ps)) ∧ ps.map (·.1) = lv ∧ WtAt .lst H5 ps ∧ (∀ q ∈ ps, q.2.1 ≠ Fo) ∧ H5 Fo = some (.lst []) ∧
      (∀ q ∈ ps, q.2.2 = [] ∨ ∃ k ∈ sel, k.1 = q.1 ∧ k.2.2 = q.2.2))
    ⟨none, none, p0, rfl, sm4, hd4, k0, w4, wF, hF4, fun qq hq => ?_⟩ (fun i σ H5 _ ⟨_, _, _, _, sm, _⟩ => SqT.of (sm _ _ hra)) ?_ ?_
  · obtain ⟨j, hj⟩ := List.getElem?_of_mem hq
    exact .inl (g0 hj).2.2
  · rintro i x σ H5 hx ⟨y2, y5, ps, rfl, sm5, hd5, hk5, hw5, hF5, hFo5, hc5⟩
    obtain ⟨a, ha, rfl⟩ := map_get hx
    have his : i < sel.length := by
      have := lt_of_get ha
      omega
    have hk := List.getElem?_eq_getElem his
    have hkm := List.mem_of_getElem? hk
    have hpr := sm5 _ _ (hpair i a _ ha hk)
    have hqu := sm5 _ _ (hws _ hkm)
    obtain ⟨j, hj⟩ := List.getElem?_of_mem (show sel[i].1 ∈ ps.map (·.1) from by rw [hk5]; exact hin _ hkm)
    obtain ⟨q0, hq0, eq0⟩ := map_get hj
    have ndk5 : (ps.map (·.1)).Nodup := by rw [hk5]; exact ndl
    refine ⟨a, _, rfl, SqT.of hpr, rfl, .str sel[i].1, _, rfl, .ref sel[i].2.1, _, rfl, rfl, ?_⟩
    refine ⟨_, rfl, sel[i].2.1, _, rfl, .inr (SqT.of hqu), fun l nl => ?_⟩
    have s6 := same_upd (o := .lst (sel[i].2.2.map V.int)) nl
    have hlen : (wkv ps).length < sizeLine := by
      rw [wkv_len]
      have := congrArg List.length hk5
      rw [List.length_map] at this
      exact small1000 (by omega)
    refine ⟨_, rfl, _, rfl, d, _, rfl, DPut.k (k := Sum.inr sel[i].1) (s6 _ _ hd5) hlen, ?_⟩
    rw [eq0]
    rw [wkv_put ndk5 hq0 l sel[i].2.2]
    have nlF : l ≠ Fo := (ne_of_none hFo5 nl).symm
    have nld : l ≠ d := (ne_of_none hd5 nl).symm
    have lnd : ∀ {b : Addr} {xs : List V}, H5 b = some (.lst xs) → b ≠ d := fun e => ne_of e hd5 (by intro z; cases z)
    refine ⟨_, _, _, rfl, fun b o e => ?_, upd_same, by rw [set_keys hq0]; exact hk5, fun qq hqq => ?_, fun qq hqq => ?_, ?_, fun qq hqq => ?_⟩
    · rw [upd_ne (cd e)]
      exact s6 _ _ (sm5 _ _ e)
    · rcases mem_set hqq with rfl | ⟨k, _, hk2⟩
      · rw [upd_ne nld]
        exact upd_same
      · have e := hw5 _ (List.mem_of_getElem? hk2)
        rw [upd_ne (lnd e)]
        exact s6 _ _ e
    · rcases mem_set hqq with rfl | ⟨k, _, hk2⟩
      · exact nlF
      · exact hF5 _ (List.mem_of_getElem? hk2)
    · rw [upd_ne dF.symm]
      exact s6 _ _ hFo5
    · rcases mem_set hqq with rfl | ⟨k, _, hk2⟩
      · exact .inr ⟨_, hkm, eq0, rfl⟩
      · exact hc5 _ (List.mem_of_getElem? hk2)
  rintro σ H5 ⟨y2, y5, ps, rfl, sm5, hd5, hk5, hw5, hF5, hFo5, hc5⟩
  have ndk5 : (ps.map (·.1)).Nodup := by rw [hk5]; exact ndl
  have dj5 : Dj ps ns := by
    refine ⟨fun qq hq => ?_, fun qq hq rr hr hne x hx hx2 => ?_, fun qq hq x hx => ?_⟩
    · rcases hc5 qq hq with e | ⟨k, hk, e1, e2⟩
      · rw [e]
        exact .nil
      · rw [← e2]
        exact djs.nd k hk
    · rcases hc5 qq hq with e | ⟨k, hk, e1, e2⟩
      · rw [e] at hx
        cases hx
      · rcases hc5 rr hr with e' | ⟨k', hk', e1', e2'⟩
        · rw [e'] at hx2
          cases hx2
        · rw [← e2] at hx
          rw [← e2'] at hx2
          exact djs.dj k hk k' hk' (by rw [e1, e1']; exact hne) x hx hx2
    · rcases hc5 qq hq with e | ⟨k, hk, e1, e2⟩
      · rw [e] at hx
        cases hx
      · rw [← e2] at hx
        exact djs.sub k hk x hx
  have q8 : ∀ {ps : Wt}, Dj ps ns → ∀ q ∈ ps, q.2.2.length ≤ 8 := fun d q hq => by
    have := nodup_len (d.nd q hq) (d.sub q hq)
    omega
  have inK : ∀ {ps : Wt}, ps.map (·.1) = lv → ∀ s ∈ t.lv, s ∈ ps.map (·.1) := fun e s hs => by rw [e, ← hlv]; exact hs
  refine ⟨_, rfl, _, rfl, v, d, t, ps, rfl, hp.same sm5, hw, h5t, h8t, hd5, ndk5, inK hk5, hw5, q8 dj5, fun x0 H6 s6 hx0 => ?_⟩
  refine while_by (fun (σ : L2.St) (H7 : Hp) => ∃ (y2 y5 : Option V) (ps : Wt) (fs : List Int) (x : Int), σ = [some v, some (.ref r), y2, some (.ref d), some (.ref Fo), y5, some (.int x)] ∧ Same H H7 ∧ H7 d = some (.dK (wkv ps)) ∧ ps.map (·.1) = lv ∧ WtAt .lst H7 ps ∧ (∀ q ∈ ps, q.2.1 ≠ Fo) ∧ Dj ps ns ∧
      H7 Fo = some (.lst (fs.map V.int)) ∧ fs.Nodup ∧ (∀ y ∈ fs, y ∈ ns) ∧ (∀ y ∈ fs, ∀ q ∈ ps, y ∉ q.2.2) ∧ FrOk ps x) leftOf
    ⟨y2, y5, ps, [], x0, rfl, sm5.trans s6, s6 _ _ hd5, hk5, hw5.same s6, hF5, dj5, s6 _ _ hFo5, .nil, fun y h => (by cases h), fun y h => (by cases h), hx0⟩ ?_ (fun σ H Q Q' hq c => ?_)
  · clear hx0
    rintro σ H7 ⟨z2, z5, ps, fs, x, rfl, sm7, hd7, hk7, hw7, hF7, dj, hFo7, ndf, fin, fout, hx⟩
    have ndk : (ps.map (·.1)).Nodup := by rw [hk7]; exact ndl
    refine ⟨_, rfl, _, _, rfl, rfl, _, rfl, ?_⟩
    have fl8 : fs.length ≤ 8 := by
      have := nodup_len ndf fin
      omega
    by_cases hx1 : 0 < x
    · rw [decide_eq_true hx1]
      refine iteT ?_
      have hq0 : ∃ q ∈ ps, q.2.2.head? = some x := by
        rcases hx with e | e
        · omega
        · exact e
      have hxn : x ∈ ns := by
        obtain ⟨q0, h0, e0⟩ := hq0
        exact dj.sub q0 h0 x (head_mem e0)
      have hxf : x ∉ fs := fun z => by
        obtain ⟨q0, h0, e0⟩ := hq0
        exact fout x z q0 h0 (head_mem e0)
      have ndf2 : (fs ++ [x]).Nodup := by
        refine List.nodup_append.mpr ⟨ndf, by simp, fun a ha c hc e => ?_⟩
        have : c = x := by simpa using hc
        subst this
        subst e
        exact hxf ha
      have fin2 : ∀ y ∈ fs ++ [x], y ∈ ns := fun y hy => by
        rcases List.mem_append.mp hy with hy | hy
        · exact fin y hy
        · rw [List.mem_singleton.mp hy]
          exact hxn
      have fl82 : (fs ++ [x]).length ≤ 8 := by
        have := nodup_len ndf2 fin2
        omega
      refine ⟨_, rfl, .inl ⟨rfl, _, .inl (.inl hFo7)⟩, _, rfl, Fo, _, _, rfl, rfl, hFo7, by rw [List.length_map]; exact small1000 (by omega), ?_⟩
      have sF : Sb Fo H7 (upd H7 Fo (.lst (fs.map V.int ++ [.int x]))) := Sb.upd
      have hFo8 : (upd H7 Fo (.lst (fs.map V.int ++ [.int x]))) Fo = some (.lst ((fs ++ [x]).map V.int)) := by rw [upd_same, List.map_append]; rfl
      generalize upd H7 Fo (.lst (fs.map V.int ++ [.int x])) = H8 at *
      have sm8 : Same H H8 := fun b o e => sF _ _ (cF e) (sm7 _ _ e)
      have hd8 := sF _ _ dF hd7
      have hw8 : WtAt .lst H8 ps := fun qq hq => sF _ _ (hF7 qq hq) (hw7 qq hq)
      refine ⟨_, rfl, v, t, rfl, hp.same sm8, hw, h5t, h8t, fun r2 H9 s9 nr2 hr2 => ⟨r2, rfl, ⟨_, SqL.of hr2⟩, ?_⟩⟩
      rw [hlv] at hr2
      have r2F : r2 ≠ Fo := (ne_of_none hFo8 nr2).symm
      have r2d : r2 ≠ d := (ne_of_none hd8 nr2).symm
      refine for_list (K := K) (a := r2) (xs := lv.map V.str) (fun j σ H10 => ∃ (y2 : Option V) (ps2 : Wt), σ = [some v, some (.ref r), y2, some (.ref d), some (.ref Fo), z5, some (.int x)] ∧ Same H H10 ∧ H10 d = some (.dK (wkv ps2)) ∧ ps2.map (·.1) = lv ∧ WtAt .lst H10 ps2 ∧ (∀ q ∈ ps2, q.2.1 ≠ Fo) ∧
          H10 Fo = some (.lst ((fs ++ [x]).map V.int)) ∧ H10 r2 = some (.lst (lv.map V.str)) ∧ ∀ (i : Nat) (q q' : Str × Addr × List Int), ps[i]? = some q → ps2[i]? = some q' → q'.2.2 = if i < j then pop x q.2.2 else q.2.2)
        ⟨z2, ps, rfl, sm8.trans s9, s9 _ _ hd8, hk7, hw8.same s9, hF7, s9 _ _ hFo8, hr2, fun i q q' h1 h2 => ?_⟩ (fun j σ H10 _ ⟨_, _, _, _, _, _, _, _, _, e, _⟩ => SqL.of e) ?_ ?_
      · rw [h1] at h2
        cases h2
        rw [if_neg (by omega)]
      · rintro j y σ H10 hy ⟨w2, ps2, rfl, sm10, hd10, hk10, hw10, hF10, hFo10, hr10, hpp⟩
        obtain ⟨s, hs, rfl⟩ := map_get hy
        have hj := lt_of_get hs
        have l2 : ps2.length = lv.length := by rw [← hk10, List.length_map]
        have l1 : ps.length = lv.length := by rw [← hk7, List.length_map]
        have ndk2 : (ps2.map (·.1)).Nodup := by rw [hk10]; exact ndl
        have hj2 : j < ps2.length := by omega
        have hj1 : j < ps.length := by omega
        have hq2 := List.getElem?_eq_getElem hj2
        have hq1 := List.getElem?_eq_getElem hj1
        have es : ps2[j].1 = s := by
          have e1 := get_map (f := (·.1)) hq2
          rw [hk10, hs] at e1
          exact (Option.some.inj e1).symm
        subst es
        have hv : ps2[j].2.2 = ps[j].2.2 := by
          have := hpp j _ _ hq1 hq2
          rw [if_neg (by omega)] at this
          exact this
        have g := DGet.k (k := Sum.inr ps2[j].1) hd10
        rw [wkv_get ndk2 hq2] at g
        have hl := hw10 _ (List.mem_of_getElem? hq2)
        have len8 := q8 dj _ (List.mem_of_getElem? hq1)
        rw [← hv] at len8
        -- waiting[call]
        refine ⟨_, rfl, _, rfl, d, _, rfl, g, _, rfl, _, rfl, d, _, rfl, g, _, rfl, ps2[j].2.1, _, rfl, SqL.of hl, fun S1 nS1 => ⟨_, rfl, (by show 1 ≤ sizeLine; decide), fun S2 nS2 => ?_⟩⟩
        have t1 := same_upd (o := .lst (cutV (ps2[j].2.2.map V.int) none (some 1))) nS1
        have e1 : (upd H10 S1 (.lst (cutV (ps2[j].2.2.map V.int) none (some 1)))) S1 = some (.lst ((ps2[j].2.2.take 1).map V.int)) := by
          rw [upd_same, List.map_take]
          exact congrArg (fun z => some (HO.lst z)) (cutV_to' _ 1)
        generalize upd H10 S1 (.lst (cutV (ps2[j].2.2.map V.int) none (some 1))) = H11 at *
        have t2 := same_upd (o := .lst [.int x]) nS2
        have e2 : (upd H11 S2 (.lst [.int x])) S2 = some (.lst [.int x]) := upd_same
        generalize upd H11 S2 (.lst [.int x]) = H12 at *
        have t12 := t1.trans t2
        refine ⟨S1, S2, ps2[j].2.2.take 1, x, rfl, rfl, SqL.of (t2 _ _ e1), by rw [List.length_take]; omega, SqL.of e2, .inr ⟨_, rfl, ?_⟩⟩
        -- the rest
        have rest : ∀ S3 : Addr, ∀ H13 : Hp, Same H12 H13 → H13 S3 = some (.lst ((pop x ps2[j].2.2).map V.int)) → H12 S3 = none → ∃ (y2 : Option V) (ps3 : Wt), ([some v, some (.ref r), some (.str ps2[j].1), some (.ref d), some (.ref Fo), z5, some (.int x)] : L2.St) = [some v, some (.ref r), y2, some (.ref d), some (.ref Fo), z5, some (.int x)] ∧
            Same H (upd H13 d (.dK (putK (wkv ps2) (Sum.inr ps2[j].1 : Key) (.ref S3)))) ∧ (upd H13 d (.dK (putK (wkv ps2) (Sum.inr ps2[j].1 : Key) (.ref S3)))) d = some (.dK (wkv ps3)) ∧ ps3.map (·.1) = lv ∧ WtAt .lst (upd H13 d (.dK (putK (wkv ps2) (Sum.inr ps2[j].1 : Key) (.ref S3)))) ps3 ∧ (∀ q ∈ ps3, q.2.1 ≠ Fo) ∧
            (upd H13 d (.dK (putK (wkv ps2) (Sum.inr ps2[j].1 : Key) (.ref S3)))) Fo = some (.lst ((fs ++ [x]).map V.int)) ∧ (upd H13 d (.dK (putK (wkv ps2) (Sum.inr ps2[j].1 : Key) (.ref S3)))) r2 = some (.lst (lv.map V.str)) ∧
            ∀ (i : Nat) (q q' : Str × Addr × List Int), ps[i]? = some q → ps3[i]? = some q' → q'.2.2 = if i < j + 1 then pop x q.2.2 else q.2.2 := by
          intro S3 H13 t3 e3 nS3
          have t13 := t12.trans t3
          have hd13 := t13 _ _ hd10
          have lnd : ∀ {b : Addr} {xs : List V}, H13 b = some (.lst xs) → b ≠ d := fun e => ne_of e hd13 (by intro z; cases z)
          rw [wkv_put ndk2 hq2 S3 (pop x ps2[j].2.2)]
          refine ⟨_, _, rfl, fun b o e => ?_, upd_same, by rw [set_keys hq2]; exact hk10, fun qq hqq => ?_, fun qq hqq => ?_, ?_, ?_, fun i q q' h1 h2 => ?_⟩
          · rw [upd_ne (cd e)]
            exact t13 _ _ (sm10 _ _ e)
          · rcases mem_set hqq with rfl | ⟨k, _, hk2⟩
            · rw [upd_ne (lnd e3)]
              exact e3
            · have e := t13 _ _ (hw10 _ (List.mem_of_getElem? hk2))
              rw [upd_ne (lnd e)]
              exact e
          · rcases mem_set hqq with rfl | ⟨k, _, hk2⟩
            · exact (ne_of_none (t12 _ _ hFo10) nS3).symm
            · exact hF10 _ (List.mem_of_getElem? hk2)
          · rw [upd_ne dF.symm]
            exact t13 _ _ hFo10
          · rw [upd_ne r2d]
            exact t13 _ _ hr10
          · rw [List.getElem?_set] at h2
            by_cases hij : j = i
            · subst hij
              rw [if_pos rfl, if_pos hj2] at h2
              rw [hq1] at h1
              cases h1
              cases h2
              rw [if_pos (by omega)]
              show pop x ps2[j].2.2 = _
              rw [hv]
            · rw [if_neg hij] at h2
              rw [hpp i q q' h1 h2]
              by_cases hlt : i < j
              · rw [if_pos hlt, if_pos (by omega)]
              · rw [if_neg hlt, if_neg (by omega)]
        have hl12 := t12 _ _ hl
        have hlen : (wkv ps2).length < sizeLine := by
          rw [wkv_len]
          exact small1000 (by omega)
        by_cases hc : ps2[j].2.2.take 1 = [x]
        · rw [decide_eq_true hc]
          refine ⟨1, rfl, ps2[j].2.1, _, rfl, SqL.of hl12, fun S3 nS3 => ?_⟩
          have t3 := same_upd (o := .lst (cutV (ps2[j].2.2.map V.int) (some 1) none)) nS3
          have e3 : (upd H12 S3 (.lst (cutV (ps2[j].2.2.map V.int) (some 1) none))) S3 = some (.lst ((pop x ps2[j].2.2).map V.int)) := by
            rw [upd_same]
            unfold pop
            rw [if_pos hc, List.map_drop]
            exact congrArg (fun z => some (HO.lst z)) (cutV_from' _ 1)
          exact ⟨_, rfl, _, rfl, d, _, rfl, DPut.k (k := Sum.inr ps2[j].1) (t3 _ _ (t12 _ _ hd10)) hlen, rest S3 _ t3 e3 nS3⟩
        · rw [decide_eq_false hc]
          refine ⟨0, rfl, ps2[j].2.1, _, rfl, SqL.of hl12, fun S3 nS3 => ?_⟩
          have t3 := same_upd (o := .lst (cutV (ps2[j].2.2.map V.int) (some 0) none)) nS3
          have e3 : (upd H12 S3 (.lst (cutV (ps2[j].2.2.map V.int) (some 0) none))) S3 = some (.lst ((pop x ps2[j].2.2).map V.int)) := by
            rw [upd_same]
            unfold pop
            rw [if_neg hc]
            exact congrArg (fun z => some (HO.lst z)) (cutV_from' _ 0)
          exact ⟨_, rfl, _, rfl, d, _, rfl, DPut.k (k := Sum.inr ps2[j].1) (t3 _ _ (t12 _ _ hd10)) hlen, rest S3 _ t3 e3 nS3⟩
      · rintro σ H10 ⟨w2, ps2, rfl, sm10, hd10, hk10, hw10, hF10, hFo10, hr10, hpp⟩
        rw [List.length_map] at hpp
        have ndk2 : (ps2.map (·.1)).Nodup := by rw [hk10]; exact ndl
        have pp : Pp ps ps2 x := ⟨by rw [hk10, hk7], fun i q q' h1 h2 => by
          have e := hpp i q q' h1 h2
          have hi := lt_of_get h1
          have l1 : ps.length = lv.length := by rw [← hk7, List.length_map]
          rw [if_pos (by omega)] at e
          exact e⟩
        have dj2 := pp.dj dj
        have out := pp.out dj ndk hq0
        refine ⟨_, rfl, _, rfl, v, d, t, ps2, rfl, hp.same sm10, hw, h5t, h8t, hd10, ndk2, inK hk10, hw10, q8 dj2, fun x' H11 s11 hx' => ?_⟩
        refine ⟨⟨_, _, ps2, fs ++ [x], x', rfl, sm10.trans s11, s11 _ _ hd10, hk10, hw10.same s11, hF10, dj2, s11 _ _ hFo10, ndf2, fin2, fun y hy q' hq' hyq => ?_, hx'⟩, ?_⟩
        · rcases List.mem_append.mp hy with hy | hy
          · obtain ⟨q1, hq1, _, e2⟩ := pp.get hq'
            rw [e2] at hyq
            exact fout y hy q1 hq1 (pop_sub y hyq)
          · rw [List.mem_singleton.mp hy] at hyq
            exact out q' hq' hyq
        · show (match H11 Fo with | some (.lst xs) => 9 - xs.length | _ => 0) < (match H7 Fo with | some (.lst xs) => 9 - xs.length | _ => 0)
          rw [s11 _ _ hFo10, hFo7]
          show 9 - ((fs ++ [x]).map V.int).length < 9 - (fs.map V.int).length
          rw [List.length_map, List.length_map, List.length_append]
          show 9 - (_ + 1) < _
          omega
    · rw [decide_eq_false hx1]
      refine iteF ?_
      refine ⟨_, rfl, Fo, _, rfl, .inl ⟨SqL.of hFo7, fun l nl => ?_⟩⟩
      exact q l fs _ (sm7.trans (same_upd nl)) upd_same ndf fin
  · obtain ⟨v, hv1, i, j, e3, e4, k, e5, c⟩ := c
    exact ⟨v, hv1, i, j, e3, e4, k, e5, hq _ _ c⟩
end
end FW
end
section
/-! W21: the law's _law_told, _law_more. -/
namespace FW
open PySem PySem.Spec PyProof.Rows L2 FM FR RZ
abbrev Asc (kn : List (Int × Str)) : Prop := kn.Pairwise (fun p q => p.1 < q.1)
theorem Asc.keys {kn : List (Int × Str)} : Asc kn ↔ (kn.map (·.1)).Pairwise (· < ·) := by
  unfold Asc
  exact List.pairwise_map.symm
theorem lk_iff {kn : List (Int × Str)} (h : (kn.map (·.1)).Nodup) {x : Int} {s : Str} : lk kn x = some s ↔ (x, s) ∈ kn := by
  unfold lk
  constructor
  · intro e
    cases hf : kn.find? (fun p => decide (p.1 = x)) with
    | none => rw [hf] at e; cases e
    | some p =>
      rw [hf] at e
      have e2 : p.2 = s := Option.some.inj e
      have e1 : p.1 = x := by simpa using List.find?_some hf
      rw [← e1, ← e2]
      exact List.mem_of_find?_eq_some hf
  · intro hm
    cases hf : kn.find? (fun p => decide (p.1 = x)) with
    | none =>
      have := List.find?_eq_none.mp hf _ hm
      simp at this
    | some p =>
      have e1 : p.1 = x := by simpa using List.find?_some hf
      have hp := List.mem_of_find?_eq_some hf
      obtain ⟨i, hi⟩ := List.getElem?_of_mem hp
      obtain ⟨j, hj⟩ := List.getElem?_of_mem hm
      have : i = j := nd_ix h (get_map (f := (·.1)) hi) (by rw [e1]; exact get_map (f := (·.1)) hj)
      subst this
      rw [hi] at hj
      cases hj
      rfl
section
variable {P : Program} {w : World} {K : PySem.W.Frag} {mg : Str → Option Value} {base : Heap} {f : Addr} {fd : FuncData}
/-! ### _law_told -/
abbrev nTold : List Str := ["_law_pool_here", "_law_calls_here", "_law_queue", "_law_found", "_law_inch"]
theorem scTold : FnScope nTold ["_law_pool_here", "_law_calls_here", "_law_queue"] (defScope (topS 59)) := ⟨rfl, rfl, rfl, by decide +kernel, rfl, by decide +kernel, by decide +kernel⟩
def spTold : Sp := fun vs H Q _ => ∃ (p c a : Addr) (cs : List Str) (ns : List Int), vs = [.ref p, .ref c, .ref a] ∧ PoolAt H p ∧ H c = some (.lst (cs.map V.str)) ∧ CallsOk cs ∧ H a = some (.tup (ns.map V.int)) ∧ RowOk ns ∧
  ∀ (r : Addr) (kn : List (Int × Str)) (H' : Hp), KnAt H' r kn → Asc kn → (∀ q ∈ kn, q.1 ∈ ns) → (∀ q ∈ kn, q.2 ∈ cs) → Sb p H H' → PoolAt H' p → Q (.ref r) H'
set_option maxHeartbeats 2000000 in
theorem ok_told {fw : Addr} {dw : FuncData} (F : Fun K "_law_told" "_law_told" (topS 59) f fd) (G : Gs mg) (C : Cal K mg "_law_draw" fw dw ["_law_pool_here", "_law_upto"]) (O : FnOk P w K mg base CX0 1 fw dw ["_law_pool_here", "_law_upto"] spDraw) :
    FnOk P w K mg base CX0 2 f fd ["_law_pool_here", "_law_calls_here", "_law_queue"] spTold := by
  refine F.ok scTold (fun vs H Q E h => ?_) (fun cdv A outer s H vs Q E hr h => ?_)
  · obtain ⟨p, c, a, cs, ns, rfl, _⟩ := h
    rfl
  obtain ⟨p, c, a, cs, ns, rfl, hp, hc, ok, ha, R, q⟩ := h
  refine ⟨_, pss_cons (ps_setLc (i := 3) (own := [("_law_inch", 4)]) (g := gName 4) (by rfl) scTold.nd rfl rfl (sw_true rfl rfl rfl (by decide +kernel)) (pi_list (pe_callB FR.cr_sortedT (by rfl) G.sorted_ (by decide +kernel) (pa_cons (pv 2) pa_nil))) (blkOk_by (N := nTold) (sc := defScope (topS 59)) (by decide +kernel))
        (fun _ _ _ _ _ => pg_name (i := 4) scTold.nd rfl (Or.inl rfl)) (fun _ _ _ _ _ => pts_one (pt_cmpR op_eq (pe_call O hr (by rfl) C.m C.kp C.b .nil pass0 (pa_cons (pv 0) (pa_cons pe_int pa_nil))) pe_int (nomark _)))
        (fun _ _ _ _ _ => pe_tup (pa_cons (pv 4) (pa_cons (pe_ix (ix_listK K) (pv 1) (pe_call O hr (by rfl) C.m C.kp C.b .nil pass0 (pa_cons (pv 0) (pa_cons (pe_callB (call_lenK K) (by rfl) G.len_ PySem.boot_len (pa_cons (pv 1) pa_nil)) pa_nil))) (fun _ _ => rfl)) pa_nil))))
    (pss_one (ps_ret (pe_callTy call_tupleF (by rfl) G.tuple_ (by decide +kernel) (pa_cons (pe_slice sl_list (pv 3) po_none (po_some (pe_call O hr (by rfl) C.m C.kp C.b .nil pass0 (pa_cons (pv 0) (pa_cons pe_int pa_nil))))) pa_nil)))), ?_⟩
  have h5 := ok.len
  have h1 := ok.pos
  have h8 := R.len
  have ncp := ok.ne hp hc
  refine ⟨_, rfl, a, ns, rfl, SqT.of ha, by omega, fun ns' S hpm hle nS => ⟨S, rfl, ⟨_, SqL.of upd_same⟩, fun D nD => ?_⟩⟩
  have s1 := same_upd (o := .lst (ns'.map V.int)) nS
  have e1 : (upd H S (.lst (ns'.map V.int))) S = some (.lst (ns'.map V.int)) := upd_same
  generalize upd H S (.lst (ns'.map V.int)) = H1 at *
  have npS := hp.ne nS
  have nDH : H D = none := s1.free nD
  have npD := hp.ne nDH
  have nlen : ns'.length ≤ 8 := by rw [hpm.length_eq]; exact h8
  have hlt : ns'.Pairwise (· < ·) := by
    have ndn : ns'.Nodup := hpm.nodup_iff.mpr R.nd
    exact (List.pairwise_and_iff.mpr ⟨hle, ndn⟩).imp fun {x y} ⟨h1, h2⟩ => by
      have : x ≠ y := h2
      omega
  refine turn_list (K := K) (a := S) (xs := ns'.map V.int) (fun i H2 => ∃ (as : List Addr) (kn : List (Int × Str)), Sb p H1 H2 ∧ PoolAt H2 p ∧ H2 D = some (.lst (as.map V.ref)) ∧ as.length = kn.length ∧ as.length ≤ i ∧ (kn.map (·.1)).Sublist (ns'.take i) ∧ (∀ q ∈ kn, q.2 ∈ cs) ∧
      ∀ (j : Nat) (b : Addr) (q : Int × Str), as[j]? = some b → kn[j]? = some q → H2 b = some (.tup [.int q.1, .str q.2]))
    ⟨[], [], Sb.of (same_upd nD), (hp.same s1).same (same_upd nD), upd_same, rfl, Nat.le_refl _, List.Sublist.refl _, fun q h => (by cases h), fun j b q h => by simp at h⟩ (fun i H2 _ ⟨_, _, sb, _⟩ => SqL.of (sb _ _ npS e1)) ?_ ?_
  · rintro i x H2 hx ⟨as, kn, sb2, hp2, hD, al, ai, hsub, hin, hall⟩
    obtain ⟨h, hh, rfl⟩ := map_get hx
    have hi := lt_of_get hh
    have et : ns'.take (i + 1) = ns'.take i ++ [h] := by rw [List.take_add_one, hh]; rfl
    refine ⟨rfl, _, rfl, p, 3, rfl, hp2, by decide, by decide, fun r H3 hr3 sb3 hp3 => ⟨rfl, _, rfl, ?_⟩⟩
    have sb13 := sb2.trans sb3
    have hD3 := sb3 _ _ npD hD
    have tp : ∀ {Hx : Hp} {b : Addr} {xs : List V}, PoolAt Hx p → Hx b = some (.tup xs) → b ≠ p := fun h1 h2 => ne_of h2 h1.is.choose_spec (by intro z; cases z)
    have hall3 : ∀ (j : Nat) (b : Addr) (q : Int × Str), as[j]? = some b → kn[j]? = some q → H3 b = some (.tup [.int q.1, .str q.2]) := fun j b q h1 h2 => sb3 _ _ (tp hp2 (hall j b q h1 h2)) (hall j b q h1 h2)
    by_cases hm : V.int (r : Nat) = V.int 0
    · rw [decide_eq_true hm]
      refine iteT ?_
      have hc3 := sb13 _ _ ncp (s1 _ _ hc)
      refine ⟨_, rfl, _, rfl, _, rfl, _, rfl, c, _, rfl, .inl (SqL.of hc3), p, _, rfl, hp3, by rw [List.length_map]; omega, by rw [List.length_map]; omega, fun r2 H4 hr4 sb4 hp4 => ?_⟩
      rw [List.length_map] at hr4
      have hs := List.getElem?_eq_getElem (show r2 < cs.length by omega)
      have hc4 := sb4 _ _ ncp hc3
      have hD4 := sb4 _ _ npD hD3
      refine ⟨c, _, r2, .str cs[r2], rfl, rfl, SqL.of hc4, atI_nat (get_map hs), (by show 2 ≤ sizeLine; decide), fun T nT => ?_⟩
      have s5 := same_upd (o := .tup [.int h, .str cs[r2]]) nT
      have e5 : (upd H4 T (.tup [.int h, .str cs[r2]])) T = some (.tup [.int h, .str cs[r2]]) := upd_same
      generalize upd H4 T (.tup [.int h, .str cs[r2]]) = H5 at *
      have hD5 := s5 _ _ hD4
      have tnd : ∀ {b : Addr} {xs : List V}, H5 b = some (.tup xs) → b ≠ D := fun e => ne_of e hD5 (by intro z; cases z)
      refine ⟨_, hD5, ?_, as ++ [T], kn ++ [(h, cs[r2])], fun b o nb e => ?_, ?_, by rw [upd_same, List.map_append]; rfl, by rw [List.length_append, List.length_append, al]; rfl, by rw [List.length_append]; show _ + 1 ≤ _; omega, ?_, fun q hq => ?_, fun j b q h1 h2 => ?_⟩
      · rw [List.length_map]
        exact small1000 (by omega)
      · rw [upd_ne (ne_of_none e nD)]
        exact s5 _ _ (sb4 _ _ nb (sb13 _ _ nb e))
      · obtain ⟨x1, x2, x3, e, hh⟩ := hp4.same s5
        exact ⟨x1, x2, x3, by rw [upd_ne npD.symm]; exact e, hh⟩
      · rw [et, List.map_append]
        exact hsub.append (List.Sublist.refl _)
      · rcases List.mem_append.mp hq with hq | hq
        · exact hin q hq
        · rw [List.mem_singleton.mp hq]
          exact List.getElem_mem _
      · by_cases hj : j < as.length
        · rw [List.getElem?_append_left hj] at h1
          rw [List.getElem?_append_left (by omega)] at h2
          have e3 := hall3 j b q h1 h2
          have e := s5 _ _ (sb4 _ _ (tp hp3 e3) e3)
          rw [upd_ne (tnd e)]
          exact e
        · have hj2 : j = as.length := by
            have := lt_of_get h1
            rw [List.length_append] at this
            simp at this
            omega
          subst hj2
          rw [List.getElem?_append_right (by omega), Nat.sub_self] at h1
          rw [List.getElem?_append_right (by omega), ← al, Nat.sub_self] at h2
          have : T = b := by simpa using h1
          subst this
          have : (h, cs[r2]) = q := by simpa using h2
          subst this
          rw [upd_ne (tnd e5)]
          exact e5
    · rw [decide_eq_false hm]
      exact iteF ⟨as, kn, sb13, hp3, hD3, al, by omega, by rw [et]; exact hsub.trans (List.sublist_append_left _ _), hin, hall3⟩
  rintro H2 ⟨as, kn, sb2, hp2, hD, al, ai, hsub, hin, hall⟩
  rw [List.length_map, List.take_length] at hsub
  refine ⟨_, rfl, _, rfl, p, 4, rfl, hp2, by decide, by decide, fun m H3 hm3 sb3 hp3 => ⟨_, rfl, D, _, rfl, SqL.of (sb3 _ _ npD hD), fun S2 nS2 => ?_⟩⟩
  have s4 := same_upd (o := .lst (cutV (as.map V.ref) none (some (m : Nat)))) nS2
  have e4 : (upd H3 S2 (.lst (cutV (as.map V.ref) none (some (m : Nat))))) S2 = some (.lst ((as.take m).map V.ref)) := by rw [upd_same, cutV_to', List.map_take]
  generalize upd H3 S2 (.lst (cutV (as.map V.ref) none (some (m : Nat)))) = H4 at *
  refine ⟨S2, _, rfl, SqL.of e4, fun l its nl => ?_⟩
  have s5 := same_upd (o := .frz (tObj its) (.tup ((as.take m).map V.ref))) nl
  refine q l (kn.take m) _ ⟨as.take m, ⟨its, upd_same⟩, by rw [List.length_take, List.length_take, al], fun j b pr h1 h2 => ?_⟩ ?_ (fun pr hpr => ?_) (fun pr hpr => hin pr (List.mem_of_mem_take hpr)) ?_ ((hp3.same s4).same s5)
  · have e2 := hall j b pr (take_some h1) (take_some h2)
    exact s5 _ _ (s4 _ _ (sb3 _ _ (ne_of e2 hp2.is.choose_spec (by intro z; cases z)) e2))
  · refine Asc.keys.mpr ?_
    rw [List.map_take]
    exact hlt.sublist ((List.take_sublist _ _).trans hsub)
  · exact hpm.mem_iff.mp (hsub.subset (List.mem_map.mpr ⟨pr, List.mem_of_mem_take hpr, rfl⟩))
  · exact ((Sb.of s1).trans (sb2.trans sb3)).trans ((Sb.of s4).trans (Sb.of s5))
/-! ### _law_more -/
abbrev nMore : List Str := ["_law_known_here", "_law_inch", "_law_call", "_law_pair"]
theorem scMore : FnScope nMore ["_law_known_here", "_law_inch", "_law_call"] (defScope (topS 60)) := ⟨rfl, rfl, rfl, by decide +kernel, rfl, by decide +kernel, by decide +kernel⟩
def spMore : Sp := fun vs H Q _ => ∃ (a : Addr) (h : Int) (l : Str) (kn : List (Int × Str)), vs = [.ref a, .int h, .str l] ∧ KnAt H a kn ∧ Asc kn ∧ kn.length ≤ 1000 ∧
  ∀ (r : Addr) (kn' : List (Int × Str)) (H' : Hp), Same H H' → KnAt H' r kn' → Asc kn' → (∀ q ∈ kn', q ∈ kn ∨ q = (h, l)) → lk kn' = put (lk kn) h l → Q (.ref r) H'
set_option maxHeartbeats 2000000 in
theorem ok_more (F : Fun K "_law_more" "_law_more" (topS 60) f fd) (G : Gs mg) : FnOk P w K mg base CX0 1 f fd ["_law_known_here", "_law_inch", "_law_call"] spMore := by
  refine F.ok scMore (fun vs H Q E h => ?_) (fun cdv A outer s H vs Q E hr h => ?_)
  · obtain ⟨a, h, l, kn, rfl, _⟩ := h
    rfl
  obtain ⟨a, h, l, kn, rfl, ⟨as, hta, al, hpr⟩, asc, hkl, q⟩ := h
  refine ⟨_, pss_one (ps_ret (pe_callTy call_tupleF (by rfl) G.tuple_ (by decide +kernel) (pa_cons (pe_callB (cr_sortedPr hr) (by rfl) G.sorted_ (by decide +kernel) (pa_cons (pe_op op_cat
      (pe_lc (own := [("_law_pair", 3)]) (g := gName 3) (by rfl) scMore.nd (pi_tup (pv 0)) (blkOk_by (N := nMore) (sc := defScope (topS 60)) (by decide +kernel))
        (fun _ _ _ _ _ => pg_name (i := 3) scMore.nd rfl (Or.inl rfl)) (fun _ _ _ _ _ => pts_one (pt_cmpR op_ne (pe_ix (ix_tupK K) (pv 3) pe_int (fun _ _ => rfl)) (pv 1) (nomark _))) (fun _ _ _ _ _ => pv 3))
      (pe_lst (pa_cons (pe_tup (pa_cons (pv 1) (pa_cons (pv 2) pa_nil))) pa_nil))) pa_nil)) pa_nil))), ?_⟩
  refine ⟨_, rfl, a, rfl, ⟨_, hta.t⟩, fun D nD => ?_⟩
  refine turn_tup (K := K) (a := a) (xs := as.map V.ref) (fun i H2 => ∃ ts : List PrT, Same H H2 ∧ H2 D = some (.lst (ts.map fun t => V.ref t.1)) ∧ ts.length ≤ i ∧ (∀ t ∈ ts, H2 t.1 = some (.tup [.int t.2.1, .str t.2.2])) ∧ ts.map (fun t => t.2) = (kn.take i).filter (fun q => decide (q.1 ≠ h)))
    ⟨[], same_upd nD, upd_same, Nat.le_refl _, fun t ht => (by cases ht), by rw [List.take_zero]; rfl⟩ (fun i H2 _ ⟨_, sm, _⟩ => (hta.same sm).t) ?_ ?_
  · rintro i x H2 hx ⟨ts, sm, hD, tl, hts, hf⟩
    obtain ⟨b, hb, rfl⟩ := map_get hx
    have hi := lt_of_get hb
    have hk := List.getElem?_eq_getElem (show i < kn.length by omega)
    have eb := sm _ _ (hpr i b _ hb hk)
    have et : (kn.take (i + 1)).filter (fun q => decide (q.1 ≠ h)) = (kn.take i).filter (fun q => decide (q.1 ≠ h)) ++ if kn[i].1 ≠ h then [kn[i]] else [] := by
      rw [List.take_add_one, hk, List.filter_append]
      congr 1
      show [kn[i]].filter _ = _
      rw [List.filter_cons, List.filter_nil]
      by_cases e : kn[i].1 = h
      · simp [e]
      · simp [e]
    refine ⟨rfl, _, rfl, b, _, 0, .int kn[i].1, rfl, rfl, SqT.of eb, atI_nat (j := 0) rfl, _, rfl, rfl, _, rfl, ?_⟩
    by_cases hm : V.int kn[i].1 = V.int h
    · rw [decide_eq_true hm]
      have hm2 : kn[i].1 = h := by injection hm
      refine iteF ⟨ts, sm, hD, by omega, hts, ?_⟩
      rw [et, if_neg (by simpa using hm2), List.append_nil]
      exact hf
    · rw [decide_eq_false hm]
      have hm2 : kn[i].1 ≠ h := fun z => hm (by rw [z])
      have tnd : ∀ {b : Addr} {xs : List V}, H2 b = some (.tup xs) → b ≠ D := fun e => ne_of e hD (by intro z; cases z)
      refine iteT ⟨_, rfl, _, hD, ?_, ts ++ [(b, kn[i])], fun c o e => ?_, by rw [upd_same, List.map_append]; rfl, by rw [List.length_append]; show _ + 1 ≤ _; omega, fun t ht => ?_, ?_⟩
      · rw [List.length_map]
        exact Nat.lt_of_le_of_lt (by omega : ts.length ≤ 1000) (small1000 (Nat.le_refl _))
      · rw [upd_ne (ne_of_none e nD)]
        exact sm _ _ e
      · rcases List.mem_append.mp ht with ht | ht
        · rw [upd_ne (tnd (hts t ht))]
          exact hts t ht
        · rw [List.mem_singleton.mp ht, upd_ne (tnd eb)]
          exact eb
      · rw [et, if_pos hm2, List.map_append, hf]
        rfl
  rintro H2 ⟨ts, sm, hD, tl, hts, hf⟩
  rw [List.length_map] at hf tl
  rw [al, List.take_length] at hf
  refine ⟨_, rfl, _, rfl, (by show 2 ≤ sizeLine; decide), fun T nT => ⟨(by show 1 ≤ sizeLine; decide), fun L nL => ?_⟩⟩
  have s3 := same_upd (o := .tup [.int h, .str l]) nT
  have e3 : (upd H2 T (.tup [.int h, .str l])) T = some (.tup [.int h, .str l]) := upd_same
  generalize upd H2 T (.tup [.int h, .str l]) = H3 at *
  have s4 := same_upd (o := .lst [.ref T]) nL
  have e4 : (upd H3 L (.lst [.ref T])) L = some (.lst [.ref T]) := upd_same
  generalize upd H3 L (.lst [.ref T]) = H4 at *
  refine ⟨D, L, _, _, rfl, rfl, s4 _ _ (s3 _ _ hD), e4, ?_, fun C nC => ?_⟩
  · rw [List.length_map]
    show _ + 1 ≤ sizeLine
    have := small1000 (Nat.le_refl 1000)
    omega
  let us : List PrT := ts ++ [(T, h, l)]
  have eus : ts.map (fun t => V.ref t.1) ++ [V.ref T] = us.map fun t => V.ref t.1 := by
    show _ = (ts ++ [(T, h, l)]).map _
    rw [List.map_append]
    rfl
  have s5 := same_upd (o := .lst (ts.map (fun t => V.ref t.1) ++ [V.ref T])) nC
  have e5 : (upd H4 C (.lst (ts.map (fun t => V.ref t.1) ++ [V.ref T]))) C = some (.lst (us.map fun t => V.ref t.1)) := by rw [upd_same, eus]
  generalize upd H4 C (.lst (ts.map (fun t => V.ref t.1) ++ [V.ref T])) = H5 at *
  have hus : ∀ t ∈ us, H5 t.1 = some (.tup [.int t.2.1, .str t.2.2]) := fun t ht => by
    rcases List.mem_append.mp ht with ht | ht
    · exact s5 _ _ (s4 _ _ (s3 _ _ (hts t ht)))
    · rw [List.mem_singleton.mp ht]
      exact s5 _ _ (s4 _ _ e3)
  refine ⟨C, us, rfl, SqL.of e5, fun t ht => SqT.of (hus t ht), fun ws p hpm hle np => ?_⟩
  have s6 := same_upd (o := .lst (ws.map fun t => V.ref t.1)) np
  have e6 : (upd H5 p (.lst (ws.map fun t => V.ref t.1))) p = some (.lst (ws.map fun t => V.ref t.1)) := upd_same
  generalize upd H5 p (.lst (ws.map fun t => V.ref t.1)) = H6 at *
  refine ⟨p, _, rfl, SqL.of e6, fun r its nr => ?_⟩
  have s7 := same_upd (o := .frz (tObj its) (.tup (ws.map fun t => V.ref t.1))) nr
  have ndkn : (kn.map (·.1)).Nodup := (Asc.keys.mp asc).imp fun {x y} h e => by omega
  have mus : us.map (fun t => t.2) = kn.filter (fun q => decide (q.1 ≠ h)) ++ [(h, l)] := by
    show (ts ++ [(T, h, l)]).map _ = _
    rw [List.map_append, hf]
    rfl
  have ndu : ((us.map fun t => t.2).map (·.1)).Nodup := by
    rw [mus, List.map_append]
    refine List.nodup_append.mpr ⟨?_, by simp, fun x hx y hy e => ?_⟩
    · exact List.Sublist.nodup (List.Sublist.map _ List.filter_sublist) ndkn
    · have : y = h := by simpa using hy
      subst this
      obtain ⟨q, hq, rfl⟩ := List.mem_map.mp hx
      have := (List.mem_filter.mp hq).2
      simp at this
      exact this e
  have pw : (ws.map fun t => t.2).Perm (us.map fun t => t.2) := hpm.map _
  have ndw : ((ws.map fun t => t.2).map (·.1)).Nodup := (pw.map _).nodup_iff.mpr ndu
  refine q r (ws.map fun t => t.2) _ (sm.trans (s3.trans (s4.trans (s5.trans (s6.trans s7))))) ⟨ws.map (·.1), ⟨its, by rw [upd_same, List.map_map]; rfl⟩, by rw [List.length_map, List.length_map], fun j b pr h1 h2 => ?_⟩ ?_ (fun pr hpr => ?_) ?_
  · obtain ⟨t, ht, rfl⟩ := map_get h1
    obtain ⟨t', ht', rfl⟩ := map_get h2
    rw [ht] at ht'
    cases ht'
    exact s7 _ _ (s6 _ _ (hus t (hpm.mem_iff.mp (List.mem_of_getElem? ht))))
  · refine Asc.keys.mpr ?_
    have h1 : ((ws.map fun t => t.2).map (·.1)).Pairwise (· ≤ ·) := by
      rw [List.map_map]
      exact List.pairwise_map.mpr hle
    exact (List.pairwise_and_iff.mpr ⟨h1, ndw⟩).imp fun {x y} ⟨h1, h2⟩ => by
      have : x ≠ y := h2
      omega
  · have hm := pw.mem_iff.mp hpr
    rw [mus] at hm
    rcases List.mem_append.mp hm with hm | hm
    · exact .inl (List.mem_filter.mp hm).1
    · exact .inr (List.mem_singleton.mp hm)
  · funext x
    have key : ∀ s : Str, lk (ws.map fun t => t.2) x = some s ↔ put (lk kn) h l x = some s := fun s => by
      rw [lk_iff ndw, pw.mem_iff, mus, List.mem_append]
      unfold put
      by_cases e : x = h
      · subst e
        rw [if_pos rfl]
        constructor
        · rintro (hm | hm)
          · have := (List.mem_filter.mp hm).2
            simp at this
          · have := List.mem_singleton.mp hm
            cases this
            rfl
        · intro e
          cases e
          exact .inr (List.mem_singleton.mpr rfl)
      · rw [if_neg e, lk_iff ndkn]
        constructor
        · rintro (hm | hm)
          · exact (List.mem_filter.mp hm).1
          · have := List.mem_singleton.mp hm
            cases this
            exact absurd rfl e
        · intro hm
          exact .inl (List.mem_filter.mpr ⟨hm, by simpa using e⟩)
    cases h1 : lk (ws.map fun t => t.2) x with
    | some s => exact ((key s).mp h1).symm
    | none =>
      cases h2 : put (lk kn) h l x with
      | none => rfl
      | some s =>
        rw [(key s).mpr h2] at h1
        cases h1
end
end FW
end
section
namespace FW
open PySem PySem.Spec PyProof.Rows L2 FM FR RZ
section
variable {P : Program} {w : World} {K : PySem.W.Frag} {mg : Str → Option Value} {base : Heap} {f : Addr} {fd : FuncData}
theorem kb_known {x : Str} {st : Stmt} (F : Fun K x x st f fd) (h : ∀ (kV doc pm : Value) (an : Option Addr) (cdv ct u1 u2 z : Value), bindArgs (PySem.W.fnOf x x (defArgs st) (defBody st) (defScope st) .none kV doc pm an cdv ct) ⟨[u1, u2], [(Str.ofString "known", z)]⟩ = pure [(Str.ofString "plan", u1), (Str.ofString "row", u2), (Str.ofString "known", z)]) :
    KBn K fd ["plan", "row", "known"] 2 ["known"] (fun us ws => us ++ ws) (fun vs zs => vs ++ zs) := by
  obtain ⟨oc, od, kV, doc, pm, an, cdv, ct, osl, rfl, lk, hcd⟩ := F.ex
  refine ⟨fun s us ws X l1 l2 => BindsTo.of_looks fun M => PySem.W.Looks.of_pure ?_, fun r1 r2 => r1.append r2⟩
  match us, ws, l1, l2 with
  | [u1, u2], [z], _, _ => exact h kV doc pm an cdv ct u1 u2 z
theorem kb_count (F : Fun K "count_sources" "count_sources" (topS 44) f fd) : KBn K fd ["plan", "row", "known"] 2 ["known"] (fun us ws => us ++ ws) (fun vs zs => vs ++ zs) := kb_known F fun _ _ _ _ _ _ _ _ _ => rfl
theorem kb_first (F : Fun K "first_sources" "first_sources" (topS 45) f fd) : KBn K fd ["plan", "row", "known"] 2 ["known"] (fun us ws => us ++ ws) (fun vs zs => vs ++ zs) := kb_known F fun _ _ _ _ _ _ _ _ _ => rfl
end
end FW
end
section
/-! W22: the law's _law_adds_up, _law_paired. -/
namespace FW
open PySem PySem.Spec PyProof.Rows L2 FM FR RZ
theorem turn_zip {K : PySem.W.Frag} {a b : Addr} {xs ys : List V} {B : (Hp → Prop) → V → Hp → Prop} {H0 : Hp} {Qd : Hp → Prop} (hl : xs.length = ys.length) (Pv : Nat → Hp → Prop) (h0 : Pv 0 H0) (hq : ∀ i H, Pv i H → SqT K H a xs ∧ SqT K H b ys)
    (hs : ∀ (i : Nat) (x y : V) (T : Addr) (H : Hp), xs[i]? = some x → ys[i]? = some y → Pv i H → H T = none → B (Pv (i + 1)) (.ref T) (upd H T (.tup [x, y]))) (hd : ∀ H, Pv xs.length H → Qd H) :
    ∃ W : Nat → Nat → Hp → Prop, (∃ m, W 0 m H0) ∧ ∀ i m H, W i m H →
      ((ItzT K a b).stop i H ∧ Qd H) ∨ ((ItzT K a b).go i H ∧ ∃ Nx : Hp → Prop, (∀ H', Nx H' → ∃ m', m' < m ∧ W (i + 1) m' H') ∧ ∀ x H', (ItzT K a b).yld i H x H' → B Nx x H') := by
  refine ⟨fun i m H => m = xs.length - i ∧ i ≤ xs.length ∧ Pv i H, ⟨xs.length, rfl, Nat.zero_le _, h0⟩, ?_⟩
  rintro i m H ⟨rfl, hi, p⟩
  obtain ⟨qx, qy⟩ := hq i H p
  by_cases hlt : i < xs.length
  · have hx : xs[i]? = some xs[i] := List.getElem?_eq_getElem hlt
    have hlt2 : i < ys.length := by omega
    have hy : ys[i]? = some ys[i] := List.getElem?_eq_getElem hlt2
    refine .inr ⟨⟨xs, ys, _, _, qx, qy, hx, hy⟩, Pv (i + 1), fun H' p' => ⟨xs.length - (i + 1), by omega, rfl, hlt, p'⟩, fun v H' y => ?_⟩
    obtain ⟨T, x', y', rfl, hT, rfl, f1, f2⟩ := y
    exact hs i x' y' T H (f1 xs qx) (f2 ys qy) p hT
  · have e : i = xs.length := by omega
    subst e
    exact .inl ⟨⟨xs, ys, qx, qy, Or.inl (Nat.le_refl _)⟩, hd H p⟩
theorem sum_ints {α : Type} (f : α → Nat) : ∀ l : List α, (l.map fun x => ((f x : Nat) : Int)).sum = ((sumOf l f : Nat) : Int)
  | [] => rfl
  | x :: r => by
    rw [List.map_cons, List.sum_cons, sum_ints f r, sumOf_cons]
    push_cast
    rfl
theorem KnOk.len {t : Pn} {ns : List Int} {kn : List (Int × Str)} (h : KnOk t ns kn) (R : RowOk ns) : kn.length ≤ 8 := by
  have h1 : (kn.map (·.1)).Nodup := (Asc.keys.mp h.asc).imp fun {x y} h e => by omega
  have h2 : ∀ x ∈ kn.map (·.1), x ∈ ns := fun x hx => by
    obtain ⟨p, hp, rfl⟩ := List.mem_map.mp hx
    exact h.row p hp
  have h3 := nodup_len h1 h2
  rw [List.length_map] at h3
  have := R.len
  omega
theorem KnOk.more {t : Pn} {ns : List Int} {kn kn' : List (Int × Str)} {h : Int} {l : Str} (K : KnOk t ns kn) (hh : h ∈ ns) (hl : l ∈ t.lv) (asc : Asc kn') (hm : ∀ q ∈ kn', q ∈ kn ∨ q = (h, l)) : KnOk t ns kn' :=
  ⟨asc, fun q hq => by
    rcases hm q hq with e | rfl
    · exact K.row q e
    · exact hh, fun q hq => by
    rcases hm q hq with e | rfl
    · exact K.ln q e
    · exact hl⟩
/-- a callee with a keyword, as the module has it -/
structure CalK (K : PySem.W.Frag) (mg : Str → Option Value) (x : Str) (f : Addr) : Prop where
  m : mg x = some (.ref f)
  kp : PySem.W.keepIn K (.ref f) = true
section
variable {P : Program} {w : World} {K : PySem.W.Frag} {mg : Str → Option Value} {base : Heap} {f : Addr} {fd : FuncData}
/-! ### _law_adds_up -/
abbrev nAdds : List Str := ["_law_tree_here", "_law_calls_here", "_law_queue", "_law_known_here", "_law_whole", "_law_inch", "_law_some", "_law_call"]
theorem scAdds : FnScope nAdds ["_law_tree_here", "_law_calls_here", "_law_queue", "_law_known_here"] (defScope (topS 61)) := ⟨rfl, rfl, rfl, by decide +kernel, rfl, by decide +kernel, by decide +kernel⟩
def spAdds : Sp := fun vs H Q _ => ∃ (v : V) (c a b : Addr) (t : Pn) (cs : List Str) (ns : List Int) (kn : List (Int × Str)), vs = [v, .ref c, .ref a, .ref b] ∧ PlAt H t v ∧ PlOk t ∧ H c = some (.lst (cs.map V.str)) ∧ t.lv.Perm cs ∧ H a = some (.tup (ns.map V.int)) ∧ RowOk ns ∧ KnAt H b kn ∧ KnOk t ns kn ∧
  ∀ H', Same H H' → Q (.int (Sf (lk kn) (flat t) ns : Nat)) H'
set_option maxHeartbeats 2000000 in
theorem ok_adds {fc fm : Addr} {dc dm : FuncData} (F : Fun K "_law_adds_up" "_law_adds_up" (topS 61) f fd) (G : Gs mg) (CC : CalK K mg "count_sources" fc) (KC : KBn K dc ["plan", "row", "known"] 2 ["known"] (fun us ws => us ++ ws) (fun vs zs => vs ++ zs)) (OC : FnOk P w K mg base CX0 13 fc dc ["plan", "row", "known"] spCount)
    (CM : Cal K mg "_law_more" fm dm ["_law_known_here", "_law_inch", "_law_call"]) (OM : FnOk P w K mg base CX0 1 fm dm ["_law_known_here", "_law_inch", "_law_call"] spMore) :
    FnOk P w K mg base CX0 14 f fd ["_law_tree_here", "_law_calls_here", "_law_queue", "_law_known_here"] spAdds := by
  refine F.ok scAdds (fun vs H Q E h => ?_) (fun cdv A outer s H vs Q E hr h => ?_)
  · obtain ⟨v, c, a, b, t, cs, ns, kn, rfl, _⟩ := h
    rfl
  obtain ⟨v, c, a, b, t, cs, ns, kn, rfl, hp, T, hc, pm, ha, R, hk, KO, q⟩ := h
  have hr1 : Room 1 _ := hr.mono (by decide)
  refine ⟨_, pss_cons (ps_set (i := 4) scAdds.nd rfl (.inl rfl) (pe_callN OC hr (by rfl) CC.m CC.kp KC pass0 (pa_cons (pv 0) (pa_cons (pv 2) pa_nil)) (pk_cons (pv 3) pk_nil)))
    (pss_cons (ps_for PassesOwn.never rfl (pi_tup (pv 2)) (pg_name (i := 5) scAdds.nd rfl (.inr rfl))
      (pss_one (ps_if (pt_cmp (pc_dnotin (hu_of hr) (pv 5) (pe_callTy (call_dictT rfl) (by rfl) G.dict_ (by decide +kernel) (pa_cons (pv 3) pa_nil))))
        (pss_cons (ps_setLc (i := 6) (own := [("_law_call", 7)]) (g := gName 7) (by rfl) scAdds.nd rfl rfl (sw_true rfl rfl rfl (by decide +kernel)) (pi_list (pv 1)) (blkOk_by (N := nAdds) (sc := defScope (topS 61)) (by decide +kernel))
          (fun _ _ _ _ _ => pg_name (i := 7) scAdds.nd rfl (Or.inl rfl)) (fun _ _ _ _ _ => pts_nil)
          (fun _ _ _ _ _ => pe_callN OC hr (by rfl) CC.m CC.kp KC pass0 (pa_cons (pv 0) (pa_cons (pv 2) pa_nil)) (pk_cons (pe_call OM (hr.mono (by decide)) (by rfl) CM.m CM.kp CM.b .nil pass0 (pa_cons (pv 3) (pa_cons (pv 5) (pa_cons (pv 7) pa_nil)))) pk_nil)))
        (pss_one (ps_if (pt_cmpR op_ne (pe_callB (cr_sum rfl) (by rfl) G.sum_ (by decide +kernel) (pa_cons (pv 6) pa_nil)) (pv 4) (nomark _)) (pss_one (ps_ret pe_bl)) pss_nil))) pss_nil)))
    (pss_one (ps_ret (pv 4)))), ?_⟩
  have k8 := KO.len R
  have c5 : cs.length ≤ 5 := by
    rw [← pm.length_eq]
    exact T.len
  have ndc : cs.Nodup := pm.nodup_iff.mp T.nd
  refine ⟨_, rfl, _, rfl, _, rfl, rfl, rfl, v, a, b, t, ns, kn, rfl, hp, T, ha, R, hk, KO, fun H1 s1 => ?_⟩
  refine ⟨_, rfl, a, rfl, ⟨_, SqT.of (s1 _ _ ha)⟩, ?_⟩
  refine for_tup (K := K) (a := a) (xs := ns.map V.int) (fun i σ H2 => ∃ (y5 y6 : Option V), σ = [some v, some (.ref c), some (.ref a), some (.ref b), some (.int (Sf (lk kn) (flat t) ns : Nat)), y5, y6, none] ∧ Same H H2)
    ⟨none, none, rfl, s1⟩ (fun i σ H2 _ ⟨_, _, _, sm⟩ => SqT.of (sm _ _ ha)) ?_ ?_
  · rintro i x σ H2 hx ⟨y5, y6, rfl, sm⟩
    obtain ⟨h, hh, rfl⟩ := map_get hx
    have hm := List.mem_of_getElem? hh
    obtain ⟨as, hk1, hk2, hk3⟩ := hk.same sm
    refine ⟨_, rfl, _, rfl, b, as, dkv kn, rfl, hk1, kn_pairs hk2 hk3, fun d nd => ?_⟩
    rw [merge_kn KO.asc]
    have s3 := same_upd (o := .dK (dkv kn)) nd
    have g := DGet.k (k := Sum.inl h) (upd_same (H := H2) (a := d) (o := .dK (dkv kn)))
    rw [valV_dkv] at g
    have sm3 := sm.trans s3
    generalize upd H2 d (.dK (dkv kn)) = H3 at *
    refine ⟨d, _, rfl, g, _, rfl, ?_⟩
    cases hkh : lk kn h with
    | some l => exact iteF ⟨_, _, rfl, sm3⟩
    | none =>
      refine iteT ?_
      refine ⟨_, rfl, c, rfl, ⟨_, SqL.of (sm3 _ _ hc)⟩, fun D nD => ?_⟩
      refine turn_list (K := K) (a := c) (xs := cs.map V.str) (fun j H4 => Same H3 H4 ∧ H4 D = some (.lst (((cs.take j).map fun l => ((Sf (put (lk kn) h l) (flat t) ns : Nat) : Int)).map V.int))) ⟨same_upd nD, upd_same⟩
        (fun j H4 _ ⟨sm4, _⟩ => SqL.of (sm4 _ _ (sm3 _ _ hc))) ?_ ?_
      · rintro j y H4 hy ⟨sm4, hD⟩
        obtain ⟨l, hl, rfl⟩ := map_get hy
        have hj := lt_of_get hl
        have hlt : l ∈ t.lv := pm.mem_iff.mpr (List.mem_of_getElem? hl)
        have sm34 := sm3.trans sm4
        refine ⟨rfl, _, rfl, _, rfl, _, rfl, _, rfl, _, rfl, b, h, l, kn, rfl, hk.same sm34, KO.asc, by omega, fun r kn' H5 s5 hk5 asc5 hm5 e5 => ?_⟩
        have sm5 := sm34.trans s5
        refine ⟨rfl, rfl, v, a, r, t, ns, kn', rfl, hp.same sm5, T, sm5 _ _ ha, R, hk5, KO.more hm hlt asc5 hm5, fun H6 s6 => ?_⟩
        rw [e5]
        refine ⟨_, s6 _ _ (s5 _ _ hD), ?_, fun c o ec => ?_, ?_⟩
        · rw [List.length_map, List.length_map, List.length_take]
          exact small1000 (by omega)
        · rw [upd_ne (ne_of_none ec nD)]
          exact s6 _ _ (s5 _ _ (sm4 _ _ ec))
        · rw [upd_same, List.take_add_one, hl, List.map_append, List.map_append]
          rfl
      · rintro H4 ⟨sm4, hD⟩
        rw [List.length_map, List.take_length] at hD
        refine ⟨_, rfl, D, _, rfl, SqL.of hD, _, rfl, rfl, _, rfl, ?_⟩
        rw [sum_ints, Sf_sum ndc hkh (flat t) (fun s hs => pm.mem_iff.mp ((flat_perm t).mem_iff.mp hs)) ns R.nd hm]
        rw [decide_eq_true rfl]
        exact iteF ⟨_, _, rfl, sm3.trans sm4⟩
  · rintro σ H2 ⟨y5, y6, rfl, sm⟩
    exact ⟨_, rfl, q H2 sm⟩
/-! ### _law_paired -/
abbrev nPaired : List Str := ["_law_queue", "_law_homes", "_law_inch", "_law_home"]
theorem scPaired : FnScope nPaired ["_law_queue", "_law_homes"] (defScope (topS 63)) := ⟨rfl, rfl, rfl, by decide +kernel, rfl, by decide +kernel, by decide +kernel⟩
def spPaired : Sp := fun vs H Q _ => ∃ (a b : Addr) (ns : List Int) (ss : List Str), vs = [.ref a, .ref b] ∧ H a = some (.tup (ns.map V.int)) ∧ H b = some (.tup (ss.map V.str)) ∧ ss.length = ns.length ∧ ns.Nodup ∧ ns.length ≤ 8 ∧
  ∀ (d : Addr) (H' : Hp), Same H H' → H' d = some (.dK (dkv (ns.zip ss))) → Q (.ref d) H'
theorem ok_paired (F : Fun K "_law_paired" "_law_paired" (topS 63) f fd) (G : Gs mg) : FnOk P w K mg base CX0 1 f fd ["_law_queue", "_law_homes"] spPaired := by
  refine F.ok scPaired (fun vs H Q E h => ?_) (fun cdv A outer s H vs Q E hr h => ?_)
  · obtain ⟨a, b, ns, ss, rfl, _⟩ := h
    rfl
  obtain ⟨a, b, ns, ss, rfl, ha, hb, hl, ndn, h8, q⟩ := h
  refine ⟨_, pss_one (ps_ret (pe_callTy (call_dictP rfl) (by rfl) G.dict_ (by decide +kernel) (pa_cons (pe_lc (own := [("_law_inch", 2), ("_law_home", 3)]) (g := gTup K 2 (gCons (gName 2) (gCons (gName 3) gNil))) (by rfl) scPaired.nd
      (pi_zipA (by rfl) G.zip_ (pa_cons (pv 0) (pa_cons (pv 1) pa_nil))) (blkOk_by (N := nPaired) (sc := defScope (topS 63)) (by decide +kernel))
      (fun _ _ _ _ _ => pg_tupK K rfl (pgs_cons (pg_name (i := 2) scPaired.nd rfl (Or.inl rfl)) (pgs_cons (pg_name (i := 3) scPaired.nd rfl (Or.inl rfl)) pgs_nil)))
      (fun _ _ _ _ _ => pts_nil) (fun _ _ _ _ _ => pe_tup (pa_cons (pv 2) (pa_cons (pv 3) pa_nil)))) pa_nil))), ?_⟩
  refine ⟨_, rfl, _, rfl, a, b, _, _, rfl, .inr ⟨SqT.of ha, SqT.of hb, fun D nD => ?_⟩⟩
  refine turn_zip (K := K) (a := a) (b := b) (xs := ns.map V.int) (ys := ss.map V.str) (by rw [List.length_map, List.length_map, hl]) (fun i H2 => ∃ as : List Addr, Same H H2 ∧ as.length = i ∧ H2 D = some (.lst (as.map V.ref)) ∧
      ∀ (j : Nat) (e : Addr) (q : Int × Str), as[j]? = some e → (ns.zip ss)[j]? = some q → H2 e = some (.tup [.int q.1, .str q.2]))
    ⟨[], same_upd nD, rfl, upd_same, fun j e q h => by simp at h⟩ (fun i H2 ⟨_, sm, _⟩ => ⟨SqT.of (sm _ _ ha), SqT.of (sm _ _ hb)⟩) ?_ ?_
  · rintro i x y T H2 hx hy ⟨as, sm, al, hD, hall⟩ nT
    obtain ⟨h, hh, rfl⟩ := map_get hx
    obtain ⟨l, hl2, rfl⟩ := map_get hy
    have hi := lt_of_get hh
    have s3 := same_upd (o := .tup [.int h, .str l]) nT
    have e3 : (upd H2 T (.tup [.int h, .str l])) T = some (.tup [.int h, .str l]) := upd_same
    generalize upd H2 T (.tup [.int h, .str l]) = H3 at *
    refine ⟨T, _, rfl, SqT.of e3, rfl, .int h, _, rfl, .str l, _, rfl, rfl, rfl, _, rfl, _, rfl, (by show 2 ≤ sizeLine; decide), fun T2 nT2 => ?_⟩
    have s4 := same_upd (o := .tup [.int h, .str l]) nT2
    have e4 : (upd H3 T2 (.tup [.int h, .str l])) T2 = some (.tup [.int h, .str l]) := upd_same
    generalize upd H3 T2 (.tup [.int h, .str l]) = H4 at *
    have s34 := s3.trans s4
    have hD4 := s34 _ _ hD
    have tnd : ∀ {b : Addr} {xs : List V}, H4 b = some (.tup xs) → b ≠ D := fun e => ne_of e hD4 (by intro z; cases z)
    refine ⟨_, hD4, ?_, as ++ [T2], fun c o ec => ?_, by rw [List.length_append, al]; rfl, by rw [upd_same, List.map_append]; rfl, fun j e qq h1 h2 => ?_⟩
    · rw [List.length_map]
      exact small1000 (by omega)
    · rw [upd_ne (ne_of_none ec nD)]
      exact s34 _ _ (sm _ _ ec)
    · by_cases hj : j < as.length
      · rw [List.getElem?_append_left hj] at h1
        have e := s34 _ _ (hall j e qq h1 h2)
        rw [upd_ne (tnd e)]
        exact e
      · have hj2 : j = as.length := by
          have := lt_of_get h1
          rw [List.length_append] at this
          simp at this
          omega
        subst hj2
        rw [List.getElem?_append_right (by omega), Nat.sub_self] at h1
        have : T2 = e := by simpa using h1
        subst this
        obtain ⟨z1, z2⟩ := List.getElem?_zip_eq_some.mp h2
        rw [al, hh] at z1
        rw [al, hl2] at z2
        cases z1
        cases z2
        rw [upd_ne (tnd e4)]
        exact e4
  · rintro H2 ⟨as, sm, al, hD, hall⟩
    rw [List.length_map] at al
    have zl : (ns.zip ss).length = ns.length := by
      rw [List.length_zip]
      omega
    have keys : ((dkv (ns.zip ss)).map (·.1)).Nodup := by
      unfold dkv
      rw [List.map_map]
      have e : (ns.zip ss).map ((fun x => x.1) ∘ fun p => ((Sum.inl p.1 : Key), V.str p.2)) = ((ns.zip ss).map Prod.fst).map Sum.inl := by
        rw [List.map_map]
        rfl
      rw [e, List.map_fst_zip (by omega)]
      exact List.pairwise_map.mpr (ndn.imp fun {x y} h e => h (Sum.inl.inj e))
    refine ⟨D, as, dkv (ns.zip ss), rfl, SqL.of hD, kn_pairs (by omega) hall, fun d nd => ?_⟩
    rw [merge_nd _ [] (by rw [List.nil_append]; exact keys), List.nil_append]
    exact q d _ (sm.trans (same_upd nd)) upd_same
end
end FW
end
section
/-! W23: the law's _law_first_right. -/
namespace FW
open PySem PySem.Spec PyProof.Rows L2 FM FR RZ
theorem Gk_append (kn : Int → Option Str) (a b : List (Int × Str)) : Gk kn (a ++ b) = Gk (Gk kn a) b := by
  unfold Gk
  rw [List.foldl_append]
/-- what is known once all are -/
theorem Gk_at {ns : List Int} {ss : List Str} (kn : Int → Option Str) (nd : ns.Nodup) {i : Nat} {h : Int} {s : Str} (h1 : ns[i]? = some h) (h2 : ss[i]? = some s) : Gk kn (ns.zip ss) h = some s := by
  have hz : (ns.zip ss)[i]? = some (h, s) := List.getElem?_zip_eq_some.mpr ⟨h1, h2⟩
  have e := split_at hz
  rw [e, Gk_append]
  show Gk (put (Gk kn ((ns.zip ss).take i)) h s) ((ns.zip ss).drop (i + 1)) h = some s
  rw [Gk_out, put_same]
  intro p hp
  obtain ⟨j, hj⟩ := List.getElem?_of_mem hp
  rw [List.getElem?_drop] at hj
  obtain ⟨z1, _⟩ := List.getElem?_zip_eq_some.mp hj
  intro ep
  rw [ep] at z1
  have := nd_ix nd h1 z1
  omega
theorem zip_take {α β : Type} : ∀ (l : List α) (m : List β) (i : Nat), (l.take i).zip (m.take i) = (l.zip m).take i
  | _, _, 0 => by simp
  | [], m, i + 1 => by simp
  | a :: l, [], i + 1 => by simp
  | a :: l, b :: m, i + 1 => by
    show (a, b) :: (l.take i).zip (m.take i) = (a, b) :: (l.zip m).take i
    rw [zip_take l m i]
theorem zip_succ {ns : List Int} {ss : List Str} {i : Nat} {h : Int} {s : Str} (h1 : ns[i]? = some h) (h2 : ss[i]? = some s) : (ns.take (i + 1)).zip (ss.take (i + 1)) = (ns.take i).zip (ss.take i) ++ [(h, s)] := by
  have hz : (ns.zip ss)[i]? = some (h, s) := List.getElem?_zip_eq_some.mpr ⟨h1, h2⟩
  rw [zip_take, zip_take, List.take_add_one, hz]
  rfl
section
variable {P : Program} {w : World} {K : PySem.W.Frag} {mg : Str → Option Value} {base : Heap} {f : Addr} {fd : FuncData}
abbrev nFR : List Str := ["_law_tree_here", "_law_calls_here", "_law_queue", "_law_known_here", "_law_whole", "_law_homes", "_law_by", "_law_ahead", "_law_inch", "_law_home", "_law_call", "_law_pair"]
theorem scFR : FnScope nFR ["_law_tree_here", "_law_calls_here", "_law_queue", "_law_known_here", "_law_whole"] (defScope (topS 62)) := ⟨rfl, rfl, rfl, by decide +kernel, rfl, by decide +kernel, by decide +kernel⟩
def spFR : Sp := fun vs H Q _ => ∃ (v : V) (c a b : Addr) (t : Pn) (cs : List Str) (ns : List Int) (kn : List (Int × Str)), vs = [v, .ref c, .ref a, .ref b, .int (Sf (lk kn) (flat t) ns : Nat)] ∧ PlAt H t v ∧ PlOk t ∧ H c = some (.lst (cs.map V.str)) ∧ t.lv.Perm cs ∧ H a = some (.tup (ns.map V.int)) ∧ RowOk ns ∧ KnAt H b kn ∧ KnOk t ns kn ∧
  ∀ H', Same H H' → Q (.bl true) H'
set_option maxHeartbeats 4000000 in
theorem ok_fr {fc fm fs fp fq : Addr} {dc dm ds dp dq : FuncData} (F : Fun K "_law_first_right" "_law_first_right" (topS 62) f fd) (G : Gs mg) (CC : CalK K mg "count_sources" fc) (KC : KBn K dc ["plan", "row", "known"] 2 ["known"] (fun us ws => us ++ ws) (fun vs zs => vs ++ zs)) (OC : FnOk P w K mg base CX0 13 fc dc ["plan", "row", "known"] spCount)
    (CM : Cal K mg "_law_more" fm dm ["_law_known_here", "_law_inch", "_law_call"]) (OM : FnOk P w K mg base CX0 1 fm dm ["_law_known_here", "_law_inch", "_law_call"] spMore)
    (CS : CalK K mg "first_sources" fs) (KS : KBn K ds ["plan", "row", "known"] 2 ["known"] (fun us ws => us ++ ws) (fun vs zs => vs ++ zs)) (OS : FnOk P w K mg base CX0 13 fs ds ["plan", "row", "known"] spFirst)
    (CP : Cal K mg "is_possible" fp dp ["plan", "row", "sources"]) (OP : FnOk P w K mg base CX0 10 fp dp ["plan", "row", "sources"] (spFind (.bl true)))
    (CQ : Cal K mg "_law_paired" fq dq ["_law_queue", "_law_homes"]) (OQ : FnOk P w K mg base CX0 1 fq dq ["_law_queue", "_law_homes"] spPaired) :
    FnOk P w K mg base CX0 14 f fd ["_law_tree_here", "_law_calls_here", "_law_queue", "_law_known_here", "_law_whole"] spFR := by
  refine F.ok scFR (fun vs H Q E h => ?_) (fun cdv A outer s H vs Q E hr h => ?_)
  · obtain ⟨v, c, a, b, t, cs, ns, kn, rfl, _⟩ := h
    rfl
  obtain ⟨v, c, a, b, t, cs, ns, kn, rfl, hp, T, hc, pm, ha, R, hk, KO, q⟩ := h
  have hr1 : Room 1 _ := hr.mono (by decide)
  have hr10 : Room 10 _ := hr.mono (by decide)
  refine ⟨_, pss_cons (ps_set (i := 5) scFR.nd rfl (.inl rfl) (pe_callN OS hr (by rfl) CS.m CS.kp KS pass0 (pa_cons (pv 0) (pa_cons (pv 2) pa_nil)) (pk_cons (pv 3) pk_nil)))
    (pss_cons (ps_if (pw_or (pt_cmp (pc_isN (pv 5))) (pw_or1 (pt_cmpR op_eq (pv 4) pe_int (nomark _)))).pt
      (pss_one (ps_ret (pe_and (pe_cmp (pc_isN (pv 5)) rfl) (pe_one (pe_cmpR op_eq (pv 4) pe_int (nomark _)))))) pss_nil)
    (pss_cons (ps_if (pw_or (pt_cmpR op_ne (pe_callB call_len_seq (by rfl) G.len_ PySem.boot_len (pa_cons (pv 5) pa_nil)) (pe_callB call_len_seq (by rfl) G.len_ PySem.boot_len (pa_cons (pv 2) pa_nil)) (nomark _))
        (pw_or1 (pt_not (pt_val (pe_call OP hr10 (by rfl) CP.m CP.kp CP.b .nil pass0 (pa_cons (pv 0) (pa_cons (pv 2) (pa_cons (pv 5) pa_nil)))))))).pt (pss_one (ps_ret pe_bl)) pss_nil)
    (pss_cons (ps_asg (pe_tup (pa_cons (pe_call OQ hr1 (by rfl) CQ.m CQ.kp CQ.b .nil pass0 (pa_cons (pv 2) (pa_cons (pv 5) pa_nil))) (pa_cons (pv 3) pa_nil)))
      (pg_tup rfl (pgs_cons (pg_name (i := 6) scFR.nd rfl (.inr rfl)) (pgs_cons (pg_name (i := 7) scFR.nd rfl (.inl rfl)) pgs_nil))))
    (pss_cons (ps_if (pt_not (pt_val (pe_callB (cr_allK K rfl) (by rfl) G.all_ (by decide +kernel) (pa_cons (pe_lc (own := [("_law_pair", 11)]) (g := gName 11) (by rfl) scFR.nd (pi_tup (pv 3)) (blkOk_by (N := nFR) (sc := defScope (topS 62)) (by decide +kernel))
        (fun _ _ _ _ _ => pg_name (i := 11) scFR.nd rfl (Or.inl rfl)) (fun _ _ _ _ _ => pts_nil)
        (fun _ _ _ _ _ => pe_cmpR op_eq (pe_dget (hu_of hr) (pv 6) (pe_ix (ix_tupK K) (pv 11) pe_int (fun _ _ => rfl)) (fun _ _ => rfl)) (pe_ix (ix_tupK K) (pv 11) pe_int (fun _ _ => rfl)) (nomark _))) pa_nil)))) (pss_one (ps_ret pe_bl)) pss_nil)
    (pss_cons (ps_for PassesOwn.never rfl (pi_zipA (by rfl) G.zip_ (pa_cons (pv 2) (pa_cons (pv 5) pa_nil))) (pg_tup rfl (pgs_cons (pg_name (i := 8) scFR.nd rfl (.inl rfl)) (pgs_cons (pg_name (i := 9) scFR.nd rfl (.inl rfl)) pgs_nil)))
      (pss_cons (ps_for PassesOwn.never rfl (pi_list (pv 1)) (pg_name (i := 10) scFR.nd rfl (.inl rfl))
        (pss_one (ps_if (pw_and (pt_cmpR op_lt_str (pv 10) (pv 9) (nomark _)) (pw_and1 (pt_cmp (pc_dnotin (hu_of hr) (pv 8) (pe_callTy (call_dictT rfl) (by rfl) G.dict_ (by decide +kernel) (pa_cons (pv 3) pa_nil)))))).pt
          (pss_one (ps_if (pt_cmpR op_ne (pe_callN OC hr (by rfl) CC.m CC.kp KC pass0 (pa_cons (pv 0) (pa_cons (pv 2) pa_nil)) (pk_cons (pe_call OM hr1 (by rfl) CM.m CM.kp CM.b .nil pass0 (pa_cons (pv 7) (pa_cons (pv 8) (pa_cons (pv 10) pa_nil)))) pk_nil)) pe_int (nomark _)) (pss_one (ps_ret pe_bl)) pss_nil)) pss_nil)))
      (pss_one (ps_set (i := 7) scFR.nd rfl (.inl rfl) (pe_call OM hr1 (by rfl) CM.m CM.kp CM.b .nil pass0 (pa_cons (pv 7) (pa_cons (pv 8) (pa_cons (pv 9) pa_nil))))))))
    (pss_one (ps_ret (pe_cmpR op_eq (pe_callN OC hr (by rfl) CC.m CC.kp KC pass0 (pa_cons (pv 0) (pa_cons (pv 2) pa_nil)) (pk_cons (pv 7) pk_nil)) pe_int (nomark _))))))))), ?_⟩
  have k8 := KO.len R
  have R8 := R.len
  have ndkn : (kn.map (·.1)).Nodup := (Asc.keys.mp KO.asc).imp fun {x y} h e => by omega
  refine ⟨_, rfl, _, rfl, _, rfl, rfl, rfl, v, a, b, t, ns, kn, rfl, hp, T, ha, R, hk, KO, fun H1 s1 hz => ?_, fun r ss H1 s1 hr1 hz LE => ?_⟩
  · refine ⟨_, rfl, _, rfl, iteT (iteT ?_)⟩
    refine ⟨_, rfl, _, rfl, iteT ⟨_, rfl, rfl, ?_⟩⟩
    rw [hz]
    exact q H1 s1
  have hp1 := hp.same s1
  have ha1 := s1 _ _ ha
  have hsl := LE.len
  -- what all known says
  have gAt : ∀ {i : Nat} {h : Int}, ns[i]? = some h → ∃ s, ss[i]? = some s ∧ Gk (lk kn) (ns.zip ss) h = some s := fun {i h} hi => by
    have hlt := lt_of_get hi
    have hs := List.getElem?_eq_getElem (show i < ss.length by omega)
    exact ⟨_, hs, Gk_at (lk kn) R.nd hi hs⟩
  let hm : Int → Str := fun x => (Gk (lk kn) (ns.zip ss) x).getD letters
  have hall : ∀ x ∈ ns, Gk (lk kn) (ns.zip ss) x = some (hm x) := fun x hx => by
    obtain ⟨i, hi⟩ := List.getElem?_of_mem hx
    obtain ⟨s, _, e⟩ := gAt hi
    show _ = some ((Gk (lk kn) (ns.zip ss) x).getD letters)
    rw [e]
    rfl
  have hss : ∀ (i : Nat) (x : Int), ns[i]? = some x → ss[i]? = some (hm x) := fun i x hi => by
    obtain ⟨s, hs, e⟩ := gAt hi
    rw [hs]
    show some s = some ((Gk (lk kn) (ns.zip ss) x).getD letters)
    rw [e]
    rfl
  obtain ⟨one, okf⟩ := Sf_all (flat t) T.flat.nd ns hall LE.fin
  have okt : Ok hm t ns := Flat.ok t T.nd (flat t) (flat_rel t) ns okf
  refine ⟨_, rfl, _, rfl, ?_⟩
  rw [decide_eq_false (show ¬ V.ref r = V.non from fun z => nomatch z)]
  refine iteF ⟨_, rfl, rfl, _, rfl, ?_⟩
  rw [decide_eq_false (show ¬ V.int ((Sf (lk kn) (flat t) ns : Nat) : Int) = V.int 0 from fun z => hz (by injection z with z; omega))]
  refine iteF ?_
  refine ⟨_, rfl, r, _, rfl, .inr (SqT.of hr1), _, rfl, a, _, rfl, .inr (SqT.of ha1), rfl, _, rfl, ?_⟩
  rw [List.length_map, List.length_map, hsl, decide_eq_true rfl]
  refine iteF ?_
  refine ⟨_, rfl, _, rfl, _, rfl, v, a, r, t, ns, ss, hm, rfl, hp1, T, ha1, R, hr1, hsl, LE.ln, hss, okt, fun H2 s2 => ⟨true, rfl, iteF ?_⟩⟩
  have s12 := s1.trans s2
  have hr2 := s2 _ _ hr1
  refine ⟨_, rfl, _, rfl, a, r, ns, ss, rfl, s12 _ _ ha, hr2, hsl, R.nd, R8, fun d H3 s3 hd3 => ⟨_, rfl, (by show 2 ≤ sizeLine; decide), fun TT nTT => ⟨TT, _, rfl, SqT.of upd_same, rfl, .ref d, _, rfl, .ref b, _, rfl, rfl, ?_⟩⟩⟩
  have s4 := same_upd (o := .tup [.ref d, .ref b]) nTT
  have hd4 := s4 _ _ hd3
  have hr4 := s4 _ _ (s3 _ _ hr2)
  have s04 := (s12.trans s3).trans s4
  generalize upd H3 TT (.tup [.ref d, .ref b]) = H4 at *
  obtain ⟨as, hk1, hk2, hk3⟩ := hk.same s04
  have zk : ((ns.zip ss).map (·.1)).Nodup := by
    have e : (ns.zip ss).map (·.1) = ns := List.map_fst_zip (by omega)
    rw [e]
    exact R.nd
  refine ⟨_, rfl, b, rfl, ⟨_, hk1.t⟩, fun D nD => ?_⟩
  refine turn_tup (K := K) (a := b) (xs := as.map V.ref) (fun i H5 => Same H4 H5 ∧ H5 D = some (.lst (((as.take i).map fun _ => true).map V.bl))) ⟨same_upd nD, upd_same⟩ (fun i H5 _ ⟨sm, _⟩ => (hk1.same sm).t) ?_ ?_
  · rintro i x H5 hx ⟨sm, hD⟩
    obtain ⟨e, he, rfl⟩ := map_get hx
    have hi := lt_of_get he
    have hkn := List.getElem?_eq_getElem (show i < kn.length by omega)
    have hkm := List.mem_of_getElem? hkn
    have hpr := sm _ _ (hk3 i e _ he hkn)
    have hlk : lk kn kn[i].1 = some kn[i].2 := (lk_iff ndkn).mpr hkm
    obtain ⟨j, hj⟩ := List.getElem?_of_mem (KO.row _ hkm)
    obtain ⟨s, hs, _⟩ := gAt hj
    have es := LE.agree j _ s _ hj hs hlk
    have g := DGet.k (k := Sum.inl kn[i].1) (sm _ _ hd4)
    rw [valV_dkv, (lk_iff zk).mpr (List.mem_of_getElem? (List.getElem?_zip_eq_some.mpr ⟨hj, hs⟩) : (kn[i].1, s) ∈ ns.zip ss)] at g
    refine ⟨rfl, _, rfl, _, rfl, e, _, 0, .int kn[i].1, rfl, rfl, SqT.of hpr, atI_nat (j := 0) rfl, d, .str s, rfl, g, _, rfl, e, _, 1, .str kn[i].2, rfl, rfl, SqT.of hpr, atI_nat (j := 1) rfl, rfl, ?_⟩
    rw [decide_eq_true (show V.str s = V.str kn[i].2 from by rw [es])]
    refine ⟨_, hD, ?_, fun o u eo => ?_, ?_⟩
    · rw [List.length_map, List.length_map, List.length_take]
      exact small1000 (by omega)
    · rw [upd_ne (ne_of_none eo nD)]
      exact sm _ _ eo
    · rw [upd_same, List.take_add_one, he, List.map_append, List.map_append]
      rfl
  rintro H5 ⟨sm5, hD⟩
  have allT : ((as.take (as.map V.ref).length).map fun _ => true).all id = true := List.all_eq_true.mpr fun x hx => by
    obtain ⟨_, _, rfl⟩ := List.mem_map.mp hx
    rfl
  refine ⟨D, _, rfl, SqL.of hD, _, rfl, ?_⟩
  rw [allT]
  refine iteF ?_
  have s05 := s04.trans sm5
  have hr5 := sm5 _ _ hr4
  have hc5 := s05 _ _ hc
  have ha5 := s05 _ _ ha
  refine ⟨_, rfl, _, rfl, a, r, _, _, rfl, .inr ⟨SqT.of ha5, SqT.of hr5, ?_⟩⟩
  refine for_zipT (K := K) (a := a) (b := r) (xs := ns.map V.int) (ys := ss.map V.str) (by rw [List.length_map, List.length_map, hsl])
    (fun i σ H6 => ∃ (y8 y9 y10 : Option V) (ra : Addr) (kn' : List (Int × Str)), σ = [some v, some (.ref c), some (.ref a), some (.ref b), some (.int (Sf (lk kn) (flat t) ns : Nat)), some (.ref r), some (.ref d), some (.ref ra), y8, y9, y10, none] ∧ Same H5 H6 ∧ KnAt H6 ra kn' ∧ KnOk t ns kn' ∧
      lk kn' = Gk (lk kn) ((ns.take i).zip (ss.take i)))
    ⟨none, none, none, b, kn, rfl, Same.refl _, hk.same s05, KO, rfl⟩ (fun i σ H6 ⟨_, _, _, _, _, _, sm, _⟩ => ⟨SqT.of (sm _ _ ha5), SqT.of (sm _ _ hr5)⟩) ?_ ?_
  · rintro i x y TT2 σ H6 hx hy ⟨y8, y9, y10, ra, kn', rfl, sm6, hka, KO', ek⟩ nTT2
    obtain ⟨h, hh, rfl⟩ := map_get hx
    obtain ⟨s, hs, rfl⟩ := map_get hy
    have hhm := List.mem_of_getElem? hh
    have hsm := LE.ln s (List.mem_of_getElem? hs)
    have sT := same_upd (o := .tup [.int h, .str s]) nTT2
    have sm7 := sm6.trans sT
    have hka7 := hka.same sT
    have k8' := KO'.len R
    refine ⟨TT2, _, rfl, SqT.of upd_same, rfl, .int h, _, rfl, .str s, _, rfl, rfl, ?_⟩
    generalize upd H6 TT2 (.tup [.int h, .str s]) = H7 at *
    refine ⟨_, rfl, c, rfl, ⟨_, SqL.of (sm7 _ _ hc5)⟩, ?_⟩
    refine for_list (K := K) (a := c) (xs := cs.map V.str) (fun j σ H8 => ∃ y10 : Option V, σ = [some v, some (.ref c), some (.ref a), some (.ref b), some (.int (Sf (lk kn) (flat t) ns : Nat)), some (.ref r), some (.ref d), some (.ref ra), some (.int h), some (.str s), y10, none] ∧ Same H7 H8)
      ⟨y10, rfl, Same.refl _⟩ (fun j σ H8 _ ⟨_, _, sm⟩ => SqL.of (sm _ _ (sm7 _ _ hc5))) ?_ ?_
    · rintro j z σ H8 hz2 ⟨w10, rfl, sm8⟩
      obtain ⟨l, hl, rfl⟩ := map_get hz2
      have hlt : l ∈ t.lv := pm.mem_iff.mpr (List.mem_of_getElem? hl)
      have sm58 := sm7.trans sm8
      refine ⟨_, rfl, _, rfl, l, s, rfl, rfl, _, rfl, ?_⟩
      by_cases hls : l.cps.toList < s.cps.toList
      · rw [decide_eq_true hls]
        refine iteT ?_
        obtain ⟨as8, hk81, hk82, hk83⟩ := (hk.same s05).same sm58
        refine ⟨_, rfl, _, rfl, b, as8, dkv kn, rfl, hk81, kn_pairs hk82 hk83, fun d8 nd8 => ?_⟩
        rw [merge_kn KO.asc]
        have s9 := same_upd (o := .dK (dkv kn)) nd8
        have g := DGet.k (k := Sum.inl h) (upd_same (H := H8) (a := d8) (o := .dK (dkv kn)))
        rw [valV_dkv] at g
        have sm9 := sm8.trans s9
        generalize upd H8 d8 (.dK (dkv kn)) = H9 at *
        refine ⟨d8, _, rfl, g, _, rfl, ?_⟩
        cases hkh : lk kn h with
        | some l2 => exact iteF ⟨_, rfl, sm9⟩
        | none =>
          refine iteT ?_
          have hle : leS s l = false := decide_eq_false fun z => List.not_lt.mpr z hls
          have zero := LE.less i h s l hh hs hkh hlt hle
          refine ⟨_, rfl, _, rfl, _, rfl, _, rfl, _, rfl, ra, h, l, kn', rfl, hka7.same sm9, KO'.asc, by omega, fun r' kn2 H10 s10 hk10 asc10 hm10 e10 => ?_⟩
          have sm510 := (sm7.trans sm9).trans s10
          refine ⟨rfl, rfl, v, a, r', t, ns, kn2, rfl, hp.same (s05.trans sm510), T, sm510 _ _ ha5, R, hk10, KO'.more hhm hlt asc10 hm10, fun H11 s11 => ⟨rfl, _, rfl, ?_⟩⟩
          rw [e10, ek, zero, decide_eq_true (show V.int ((0 : Nat) : Int) = V.int 0 from rfl)]
          exact iteF ⟨_, rfl, sm9.trans (s10.trans s11)⟩
      · rw [decide_eq_false hls]
        exact iteF (iteF ⟨_, rfl, sm8⟩)
    · rintro σ H8 ⟨w10, rfl, sm8⟩
      refine ⟨_, rfl, _, rfl, _, rfl, ra, h, s, kn', rfl, hka7.same sm8, KO'.asc, by omega, fun r' kn2 H9 s9 hk9 asc9 hm9 e9 => ?_⟩
      refine ⟨_, _, _, r', kn2, rfl, sm7.trans (sm8.trans s9), hk9, KO'.more hhm hsm asc9 hm9, ?_⟩
      rw [e9, ek, zip_succ hh hs, Gk_snoc]
  · rintro σ H6 ⟨y8, y9, y10, ra, kn', rfl, sm6, hka, KO', ek⟩
    rw [List.length_map, List.take_length, List.take_of_length_le (by omega : ss.length ≤ ns.length)] at ek
    have s06 := s05.trans sm6
    refine ⟨_, rfl, _, rfl, _, rfl, rfl, rfl, v, a, ra, t, ns, kn', rfl, hp.same s06, T, s06 _ _ ha, R, hka, KO', fun H7 s7 => ⟨rfl, ?_⟩⟩
    rw [ek, one, decide_eq_true (show V.int ((1 : Nat) : Int) = V.int 1 from rfl)]
    exact q H7 (s06.trans s7)
end
end FW
end
section
/-! W24: the law's _law_right, law. -/
namespace FW
open PySem PySem.Spec PyProof.Rows L2 FM FR RZ
section
variable {P : Program} {w : World} {K : PySem.W.Frag} {mg : Str → Option Value} {base : Heap} {f : Addr} {fd : FuncData}
abbrev nRight : List Str := ["_law_pool_here", "_law_calls_here", "_law_inches_here", "_law_tree_here", "_law_queue", "_law_known_here", "_law_whole"]
theorem scRight : FnScope nRight ["_law_pool_here"] (defScope (topS 64)) := ⟨rfl, rfl, rfl, by decide +kernel, rfl, by decide +kernel, by decide +kernel⟩
def spRight : Sp := fun vs H Q _ => ∃ p : Addr, vs = [.ref p] ∧ PoolAt H p ∧ ∀ H', Sb p H H' → Q (.bl true) H'
theorem one_plus (p : Addr) (r : Nat) : [V.ref p, V.int (1 + ((r : Nat) : Int))] = [V.ref p, V.int ((1 + r : Nat) : Int)] := by
  have : (1 : Int) + ((r : Nat) : Int) = ((1 + r : Nat) : Int) := by omega
  rw [this]
set_option maxHeartbeats 4000000 in
theorem ok_right {fw fc fi ft fr fk fd2 fa ff : Addr} {dw dc di dt dr dk dd da df : FuncData} (F : Fun K "_law_right" "_law_right" (topS 64) f fd) (G : Gs mg) (C : Cal K mg "_law_draw" fw dw ["_law_pool_here", "_law_upto"]) (O : FnOk P w K mg base CX0 1 fw dw ["_law_pool_here", "_law_upto"] spDraw)
    (CC : Cal K mg "_law_calls" fc dc ["_law_pool_here", "_law_many"]) (OC : FnOk P w K mg base CX0 2 fc dc ["_law_pool_here", "_law_many"] spCalls)
    (CI : Cal K mg "_law_inches" fi di ["_law_pool_here", "_law_many"]) (OI : FnOk P w K mg base CX0 2 fi di ["_law_pool_here", "_law_many"] spInches)
    (CT : Cal K mg "_law_tree" ft dt ["_law_pool_here", "_law_calls_here"]) (OT : FnOk P w K mg base CX0 3 ft dt ["_law_pool_here", "_law_calls_here"] spTree)
    (CR : Cal K mg "_law_result" fr dr ["_law_tree_here", "_law_folk_here"]) (OR : FnOk P w K mg base CX0 6 fr dr ["_law_tree_here", "_law_folk_here"] spResult)
    (CK : Cal K mg "_law_folk" fk dk ["_law_pool_here", "_law_calls_here", "_law_inches_here"]) (OK : FnOk P w K mg base CX0 2 fk dk ["_law_pool_here", "_law_calls_here", "_law_inches_here"] spFolk)
    (CD : Cal K mg "_law_told" fd2 dd ["_law_pool_here", "_law_calls_here", "_law_queue"]) (OD : FnOk P w K mg base CX0 2 fd2 dd ["_law_pool_here", "_law_calls_here", "_law_queue"] spTold)
    (CA : Cal K mg "_law_adds_up" fa da ["_law_tree_here", "_law_calls_here", "_law_queue", "_law_known_here"]) (OA : FnOk P w K mg base CX0 14 fa da ["_law_tree_here", "_law_calls_here", "_law_queue", "_law_known_here"] spAdds)
    (CF : Cal K mg "_law_first_right" ff df ["_law_tree_here", "_law_calls_here", "_law_queue", "_law_known_here", "_law_whole"]) (OF : FnOk P w K mg base CX0 14 ff df ["_law_tree_here", "_law_calls_here", "_law_queue", "_law_known_here", "_law_whole"] spFR) :
    FnOk P w K mg base CX0 15 f fd ["_law_pool_here"] spRight := by
  refine F.ok scRight (fun vs H Q E h => ?_) (fun cdv A outer s H vs Q E hr h => ?_)
  · obtain ⟨p, rfl, _⟩ := h
    rfl
  obtain ⟨p, rfl, hp, q⟩ := h
  have hr1 : Room 1 _ := hr.mono (by decide)
  have hr2 : Room 2 _ := hr.mono (by decide)
  have hr3 : Room 3 _ := hr.mono (by decide)
  have hr6 : Room 6 _ := hr.mono (by decide)
  refine ⟨_, pss_cons (ps_set (i := 1) scRight.nd rfl (.inl rfl) (pe_call OC hr2 (by rfl) CC.m CC.kp CC.b .nil pass0 (pa_cons (pv 0) (pa_cons (pe_op op_add pe_int (pe_call O hr1 (by rfl) C.m C.kp C.b .nil pass0 (pa_cons (pv 0) (pa_cons pe_int pa_nil)))) pa_nil))))
    (pss_cons (ps_par (i := 2) (j := 3) rfl scRight.nd rfl rfl (by decide) rfl rfl (pa_cons (pe_call OI hr2 (by rfl) CI.m CI.kp CI.b .nil pass0 (pa_cons (pv 0) (pa_cons (pe_op op_add pe_int (pe_call O hr1 (by rfl) C.m C.kp C.b .nil pass0 (pa_cons (pv 0) (pa_cons pe_int pa_nil)))) pa_nil)))
      (pa_cons (pe_call OT hr3 (by rfl) CT.m CT.kp CT.b .nil pass0 (pa_cons (pv 0) (pa_cons (pv 1) pa_nil))) pa_nil)) rfl)
    (pss_cons (ps_cut (ps_set (i := 4) scRight.nd rfl (.inl rfl) (pe_ifExp (pt_cmpR op_eq (pe_call O hr1 (by rfl) C.m C.kp C.b .nil pass0 (pa_cons (pv 0) (pa_cons pe_int pa_nil))) pe_int (nomark _))
      (pe_call OR hr6 (by rfl) CR.m CR.kp CR.b .nil pass0 (pa_cons (pv 3) (pa_cons (pe_call OK hr2 (by rfl) CK.m CK.kp CK.b .nil pass0 (pa_cons (pv 0) (pa_cons (pv 1) (pa_cons (pv 2) pa_nil)))) pa_nil)))
      (pe_callTy call_tuple_of (by rfl) G.tuple_ (by decide +kernel) (pa_cons (pv 2) pa_nil)))))
    (pss_cons (ps_for PassesOwn.never rfl (pi_list (pe_lst (pa_cons (pe_tupF pa_nil) (pa_cons (pe_call OD hr2 (by rfl) CD.m CD.kp CD.b .nil pass0 (pa_cons (pv 0) (pa_cons (pv 1) (pa_cons (pv 4) pa_nil)))) pa_nil)))) (pg_name (i := 5) scRight.nd rfl (.inl rfl))
      (pss_cons (ps_set (i := 6) scRight.nd rfl (.inl rfl) (pe_call OA hr (by rfl) CA.m CA.kp CA.b .nil pass0 (pa_cons (pv 3) (pa_cons (pv 1) (pa_cons (pv 4) (pa_cons (pv 5) pa_nil))))))
      (pss_one (ps_if (pw_or (pt_cmpR op_isF (pv 6) pe_bl (nomark _)) (pw_or1 (pt_not (pt_val (pe_call OF hr (by rfl) CF.m CF.kp CF.b .nil pass0 (pa_cons (pv 3) (pa_cons (pv 1) (pa_cons (pv 4) (pa_cons (pv 5) (pa_cons (pv 6) pa_nil)))))))))).pt (pss_one (ps_ret pe_bl)) pss_nil))))
    (pss_one (ps_ret pe_bl))))), ?_⟩
  -- calls
  refine ⟨_, rfl, _, rfl, p, 5, rfl, hp, by decide, by decide, fun r1 H1 hr1 sb1 hp1 => ⟨_, _, rfl, rfl, p, 1 + r1, one_plus p r1, hp1, by omega, by omega, fun c cs H2 ok nc hc2 sb2 hp2 => ?_⟩⟩
  have b2 := sb1.trans sb2
  have ncp : c ≠ p := hp1.ne nc
  -- inches, tree
  refine ⟨_, rfl, _, rfl, p, 8, rfl, hp2, by decide, by decide, fun r3 H3 hr3 sb3 hp3 => ⟨_, _, rfl, rfl, p, 1 + r3, one_plus p r3, hp3, by omega, by omega, fun n ns H4 ndn inr nl nn hn4 sb4 hp4 => ?_⟩⟩
  have nnp : n ≠ p := hp3.ne nn
  have b4 := (b2.trans sb3).trans sb4
  have hc4 := sb4 _ _ ncp (sb3 _ _ ncp hc2)
  refine ⟨_, rfl, _, rfl, p, c, cs, rfl, hp4, hc4, ok, fun v t H5 ht5 wf pm sb5 hp5 => ⟨_, _, rfl, ?_⟩⟩
  have b5 := b4.trans sb5
  have hc5 := sb5 _ _ ncp hc4
  have hn5 := sb5 _ _ nnp hn4
  have ndt : t.lv.Nodup := pm.nodup_iff.mpr ok.nd
  have lt5 : t.lv.length ≤ 5 := by rw [pm.length_eq]; exact ok.len
  have T : PlOk t := ⟨wf, fun s hs => ok.ln s (pm.mem_iff.mp hs), ndt, lt5⟩
  have n8 : ns.length ≤ 8 := by omega
  -- the row
  refine ⟨fun σ H' => ∃ (a : Addr) (qs : List Int), σ = [some (.ref p), some (.ref c), some (.ref n), some v, some (.ref a), none, none] ∧ Sb p H H' ∧ PoolAt H' p ∧ H' c = some (.lst (cs.map V.str)) ∧ PlAt H' t v ∧ H' a = some (.tup (qs.map V.int)) ∧ RowOk qs, ?_, ?_⟩
  · refine ⟨_, rfl, p, 2, rfl, hp5, by decide, by decide, fun r6 H6 hr6 sb6 hp6 => ⟨rfl, _, rfl, ?_⟩⟩
    have b6 := b5.trans sb6
    have hc6 := sb6 _ _ ncp hc5
    have hn6 := sb6 _ _ nnp hn5
    have ht6 : PlAt H6 t v := ht5.sb sb6 hp5.is.choose_spec
    by_cases hm : V.int (r6 : Nat) = V.int 0
    · rw [decide_eq_true hm]
      refine iteT ?_
      refine ⟨_, rfl, _, rfl, _, rfl, _, rfl, p, c, n, cs, ns, rfl, hp6, hc6, ok, hn6, nnp, ndn, n8, fun k as sel H7 kk kin dj al hk7 hpair hwt sb7 hp7 => ?_⟩
      have ht7 : PlAt H7 t v := ht6.sb sb7 hp6.is.choose_spec
      refine ⟨v, k, t, sel, ns, rfl, ht7, wf, ndt, lt5, ⟨as, kk, fun x hx => pm.mem_iff.mpr (kin x hx), dj, al, hk7, hpair, hwt⟩, n8, fun a fs H8 s8 ha8 ndf sub => ?_⟩
      have lf := nodup_len ndf sub
      exact ⟨a, fs, rfl, (b6.trans sb7).trans (Sb.of s8), hp7.same s8, s8 _ _ (sb7 _ _ ncp hc6), ht7.same s8, ha8, ⟨ndf, fun x hx => inr x (sub x hx), by omega⟩⟩
    · rw [decide_eq_false hm]
      refine iteF ⟨_, rfl, n, _, rfl, .inl ⟨SqL.of hn6, fun a na => ?_⟩⟩
      have s7 := same_upd (o := .tup (ns.map V.int)) na
      exact ⟨a, ns, rfl, b6.trans (Sb.of s7), hp6.same s7, s7 _ _ hc6, ht6.same s7, upd_same, ⟨ndn, inr, n8⟩⟩
  clear ht5 hp5 hc5 hn5
  rintro σ H6 ⟨a, qs, rfl, b6, hp6, hc6, ht6, ha6, R⟩
  refine ⟨Nat.zero_le _, fun e0 its0 ne0 => ⟨_, rfl, _, rfl, _, rfl, ?_⟩⟩
  have s7 := same_upd (o := .frz (tObj its0) (.tup [])) ne0
  have e7 : (upd H6 e0 (.frz (tObj its0) (.tup []))) e0 = some (.frz (tObj its0) (.tup [])) := upd_same
  generalize upd H6 e0 (.frz (tObj its0) (.tup [])) = H7 at *
  have ne0p : e0 ≠ p := hp6.ne ne0
  have ha7 := s7 _ _ ha6
  have hp7 := hp6.same s7
  refine ⟨p, c, a, cs, qs, rfl, hp7, s7 _ _ hc6, ok, ha7, R, fun k kn H8 hk8 asc8 row8 ln8 sb8 hp8 => ⟨(by show 2 ≤ sizeLine; decide), fun L nL => ?_⟩⟩
  have ha8 := sb8 _ _ (ne_of ha7 hp7.is.choose_spec (by intro z; cases z)) ha7
  have ht8 : PlAt H8 t v := (ht6.same s7).sb sb8 hp7.is.choose_spec
  have hc8 := sb8 _ _ ncp (s7 _ _ hc6)
  have e8 := sb8 _ _ ne0p e7
  have b8 := (b6.trans (Sb.of s7)).trans sb8
  have s9 := same_upd (o := .lst [.ref e0, .ref k]) nL
  have e9 : (upd H8 L (.lst [.ref e0, .ref k])) L = some (.lst [.ref e0, .ref k]) := upd_same
  generalize upd H8 L (.lst [.ref e0, .ref k]) = H9 at *
  have b9 := b8.trans (Sb.of s9)
  have known : ∀ (i : Nat) (x : V), ([.ref e0, .ref k] : List V)[i]? = some x → ∃ (b : Addr) (kn : List (Int × Str)), x = .ref b ∧ KnAt H9 b kn ∧ KnOk t qs kn := by
    intro i x hx
    match i, hx with
    | 0, hx =>
      have : V.ref e0 = x := by simpa using hx
      exact ⟨e0, [], this.symm, ⟨[], ⟨its0, s9 _ _ e8⟩, rfl, fun j b q h => by simp at h⟩, ⟨.nil, fun q h => (by cases h), fun q h => (by cases h)⟩⟩
    | 1, hx =>
      have : V.ref k = x := by simpa using hx
      exact ⟨k, kn, this.symm, hk8.same s9, ⟨asc8, row8, fun q hq => pm.mem_iff.mpr (ln8 q hq)⟩⟩
    | i + 2, hx => simp at hx
  refine ⟨L, rfl, ⟨_, SqL.of e9⟩, ?_⟩
  refine for_list (K := K) (a := L) (xs := [.ref e0, .ref k]) (fun i σ H10 => ∃ (y5 y6 : Option V), σ = [some (.ref p), some (.ref c), some (.ref n), some v, some (.ref a), y5, y6] ∧ Same H9 H10) ⟨none, none, rfl, Same.refl _⟩ (fun i σ H10 _ ⟨_, _, _, sm⟩ => SqL.of (sm _ _ e9)) ?_ ?_
  · rintro i x σ H10 hx ⟨y5, y6, rfl, sm⟩
    obtain ⟨b, kn2, rfl, hkb, KO⟩ := known i x hx
    have s910 := s9.trans sm
    refine ⟨_, rfl, _, rfl, _, rfl, _, rfl, v, c, a, b, t, cs, qs, kn2, rfl, ht8.same s910, T, s910 _ _ hc8, pm, s910 _ _ ha8, R, hkb.same sm, KO, fun H11 s11 => ?_⟩
    have s911 := s910.trans s11
    refine ⟨_, rfl, _, false, rfl, rfl, _, rfl, iteF ⟨_, rfl, _, rfl, _, rfl, _, rfl, _, rfl, v, c, a, b, t, cs, qs, kn2, rfl, ht8.same s911, T, s911 _ _ hc8, pm, s911 _ _ ha8, R, (hkb.same sm).same s11, KO, fun H12 s12 => ⟨true, rfl, iteF ?_⟩⟩⟩
    exact ⟨_, _, rfl, (sm.trans s11).trans s12⟩
  · rintro σ H10 ⟨y5, y6, rfl, sm⟩
    exact q H10 (b9.trans (Sb.of sm))
/-! ### law -/
theorem scLaw : FnScope ["_law_script", "_law_k"] ["_law_script"] (defScope (topS 65)) := ⟨rfl, rfl, rfl, by decide +kernel, rfl, by decide +kernel, by decide +kernel⟩
def spLaw (K : PySem.W.Frag) : Sp := fun vs H Q _ => ∃ (l : Addr) (ns : List Int), vs = [.ref l] ∧ SqL K H l (ns.map V.int) ∧ ∀ H', Same H H' → Q (.bl true) H'
theorem ok_law {fr fp fc : Addr} {dr dp dc : FuncData} (F : Fun K "law" "law" (topS 65) f fd) (G : Gs mg) (CR : Cal K mg "_law_right" fr dr ["_law_pool_here"]) (OR : FnOk P w K mg base CX0 15 fr dr ["_law_pool_here"] spRight)
    (CP : Cal K mg "_law_pool" fp dp ["_law_cell_here"]) (OP : FnOk P w K mg base CX0 1 fp dp ["_law_cell_here"] spPool) (CC : Cal K mg "_law_cell" fc dc ["_law_script", "_law_k"]) (OC : FnOk P w K mg base CX0 1 fc dc ["_law_script", "_law_k"] (spCellL K)) :
    FnOk P w K mg base CX0 16 f fd ["_law_script"] (spLaw K) := by
  refine F.ok scLaw (fun vs H Q E h => ?_) (fun cdv A outer s H vs Q E hr h => ?_)
  · obtain ⟨l, ns, rfl, _⟩ := h
    rfl
  obtain ⟨l, ns, rfl, hl, q⟩ := h
  have hr1 : Room 1 _ := hr.mono (by decide)
  refine ⟨_, pss_one (ps_ret (pe_callB (cr_allK K rfl) (by rfl) G.all_ (by decide +kernel) (pa_cons (pe_lc (own := [("_law_k", 1)]) (g := gName 1) (by rfl) scLaw.nd (pi_range1 (by rfl) G.range_ (pa_cons (pe_callB (call_max2 rfl) (by rfl) G.max_ (by decide +kernel) (pa_cons pe_int (pa_cons (pe_callB (call_min2 rfl) (by rfl) G.min_ (by decide +kernel)
        (pa_cons (pe_callB call_len_seq (by rfl) G.len_ PySem.boot_len (pa_cons (pv 0) pa_nil)) (pa_cons pe_int pa_nil))) pa_nil))) pa_nil)) (blkOk_by (N := ["_law_script", "_law_k"]) (sc := defScope (topS 65)) (by decide +kernel))
      (fun _ _ _ _ _ => pg_name (i := 1) scLaw.nd rfl (Or.inl rfl)) (fun _ _ _ _ _ => pts_nil)
      (fun _ _ _ _ _ => pe_call OR hr (by rfl) CR.m CR.kp CR.b .nil pass0 (pa_cons (pe_call OP hr1 (by rfl) CP.m CP.kp CP.b .nil pass0 (pa_cons (pe_call OC hr1 (by rfl) CC.m CC.kp CC.b .nil pass0 (pa_cons (pv 0) (pa_cons (pv 1) pa_nil))) pa_nil)) pa_nil))) pa_nil))), ?_⟩
  refine ⟨_, rfl, l, _, rfl, .inl hl, _, _, rfl, _, _, rfl, ?_⟩
  have hz : ∀ z : Int, ∃ u : Int, (if (if (4 : Int) < z then (4 : Int) else z) > 2 then (if (4 : Int) < z then (4 : Int) else z) else 2) = u ∧ 2 ≤ u ∧ u ≤ 4 := fun z => ⟨_, rfl, by split <;> omega, by
    split
    · split <;> omega
    · omega⟩
  obtain ⟨u, eu, u2, u4⟩ := hz (((ns.map V.int).length : Nat) : Int)
  refine ⟨u, congrArg (fun z : Int => [V.int z]) eu, by omega, by omega, fun D nD => ?_⟩
  refine turn_rng (lo := 0) (fun i H2 => Same H H2 ∧ H2 D = some (.lst (((List.range i).map fun _ => true).map V.bl))) ⟨same_upd nD, upd_same⟩ ?_ ?_
  · rintro i H2 hi ⟨sm, hD⟩
    have ei : (0 : Int) + ((i : Nat) : Int) = ((i : Nat) : Int) := by omega
    refine ⟨rfl, _, rfl, _, rfl, l, ns, i, (congrArg (fun z : Int => [V.ref l, V.int z]) ei), sm.seqL hl, by omega, fun c H3 s3 => ⟨c, rfl, fun p H4 s4 np hp4 => ⟨p, rfl, hp4, fun H5 sb5 => ?_⟩⟩⟩
    have s35 := Sb.same np s4 sb5
    refine ⟨_, s35 _ _ (s3 _ _ hD), ?_, fun o x eo => ?_, ?_⟩
    · rw [List.length_map, List.length_map, List.length_range]
      exact small1000 (by omega)
    · rw [upd_ne (ne_of_none eo nD)]
      exact s35 _ _ (s3 _ _ (sm _ _ eo))
    · rw [upd_same, List.range_succ, List.map_append, List.map_append]
      rfl
  · rintro H2 ⟨sm, hD⟩
    have allT : ((List.range u.toNat).map fun _ => true).all id = true := List.all_eq_true.mpr fun x hx => by
      obtain ⟨_, _, rfl⟩ := List.mem_map.mp hx
      rfl
    refine ⟨D, _, rfl, SqL.of hD, ?_⟩
    rw [allT]
    exact q H2 sm
end
end FW
end
section
/-! W25: all defs. -/
namespace FW
open PySem PySem.Spec PyProof.Rows L2 FM FR RZ
/-- a def as the module holds it -/
structure DefAt (K : PySem.W.Frag) (x : Str) (st : Stmt) (f : Addr) (fd : FuncData) : Prop where
  a : PySem.W.nsIn K mainGlobals x = some (some (.ref f))
  F : Fun K x x st f fd
theorem def_at {K : PySem.W.Frag} (x : Str) (st : Stmt) {f : Addr} {oc : Value} {od an : Option Addr} {osl : Array (Option Value)} {kV doc pm cdv ct : Value} (a : PySem.W.nsIn K mainGlobals x = some (some (.ref f)))
    (l : K.lookup f = some ⟨oc, od, .func (PySem.W.fnOf x x (defArgs st) (defBody st) (defScope st) .none kV doc pm an cdv ct), osl⟩) (c : PySem.W.codeIn K cdv x = true) (k : PySem.W.keepIn K (.ref f) = true) :
    DefAt K x st f (PySem.W.fnOf x x (defArgs st) (defBody st) (defScope st) .none kV doc pm an cdv ct) := ⟨a, fun_mk l c k⟩
section
variable {K : PySem.W.Frag} {mg : Str → Option Value} {h : Heap}
theorem DefAt.cal {x : Str} {st : Stmt} {f : Addr} {fd : FuncData} {ps : List Str} (D : DefAt K x st f fd) (KX : K.In h) (GN : h.Ns mainGlobals mg)
    (hb : ∀ (kV doc pm : Value) (an : Option Addr) (cdv ct : Value) (us : List Value), us.length = ps.length → bindArgs (PySem.W.fnOf x x (defArgs st) (defBody st) (defScope st) .none kV doc pm an cdv ct) ⟨us, []⟩ = pure (ps.zip us)) : Cal K mg x f fd ps :=
  ⟨PySem.W.mg_of KX GN D.a, D.F.kp, D.F.binds hb⟩
theorem DefAt.calK {x : Str} {st : Stmt} {f : Addr} {fd : FuncData} (D : DefAt K x st f fd) (KX : K.In h) (GN : h.Ns mainGlobals mg) : CalK K mg x f := ⟨PySem.W.mg_of KX GN D.a, D.F.kp⟩
theorem one_binds {x q : Str} {st : Stmt} {f : Addr} {fd : FuncData} (F : Fun K x x st f fd) (hb : ∀ (kV doc pm : Value) (an : Option Addr) (cdv ct u : Value), bindArgs (PySem.W.fnOf x x (defArgs st) (defBody st) (defScope st) .none kV doc pm an cdv ct) ⟨[u], []⟩ = pure [(q, u)]) (s : Shared) (u : Value) :
    BindsTo s fd ⟨[u], []⟩ [(q, u)] := by
  obtain ⟨oc, od, kV, doc, pm, an, cdv, ct, osl, rfl, lk, hcd⟩ := F.ex
  exact BindsTo.of_looks fun M => PySem.W.Looks.of_pure (hb kV doc pm an cdv ct u)
set_option maxHeartbeats 20000000 in
theorem law_all {P : Program} {w : World} (KX : K.In h) (GN : h.Ns mainGlobals mg)
    {f15 f16 f17 f18 f19 f20 f24 f25 f26 f27 f28 f29 f30 f32 f33 f34 f35 f36 f37 f38 f39 f40 f41 f42 f43 f44 f45 f47 f48 f49 f50 f51 f52 f53 f54 f55 f56 f57 f58 f59 f60 f61 f62 f63 f64 f65 : Addr} {d15 d16 d17 d18 d19 d20 d24 d25 d26 d27 d28 d29 d30 d32 d33 d34 d35 d36 d37 d38 d39 d40 d41 d42 d43 d44 d45 d47 d48 d49 d50 d51 d52 d53 d54 d55 d56 d57 d58 d59 d60 d61 d62 d63 d64 d65 : FuncData}
    (D15 : DefAt K "is_integer" (topS 15) f15 d15)
    (D16 : DefAt K "is_height" (topS 16) f16 d16)
    (D17 : DefAt K "check_row" (topS 17) f17 d17)
    (D18 : DefAt K "is_kind" (topS 18) f18 d18)
    (D19 : DefAt K "goes_behind" (topS 19) f19 d19)
    (D20 : DefAt K "trains_of" (topS 20) f20 d20)
    (D24 : DefAt K "is_line" (topS 24) f24 d24)
    (D25 : DefAt K "is_part" (topS 25) f25 d25)
    (D26 : DefAt K "is_plan" (topS 26) f26 d26)
    (D27 : DefAt K "check_plan" (topS 27) f27 d27)
    (D28 : DefAt K "lines_in" (topS 28) f28 d28)
    (D29 : DefAt K "least_line" (topS 29) f29 d29)
    (D30 : DefAt K "flat_form" (topS 30) f30 d30)
    (D32 : DefAt K "check_sources" (topS 32) f32 d32)
    (D33 : DefAt K "check_known" (topS 33) f33 d33)
    (D34 : DefAt K "check_asked" (topS 34) f34 d34)
    (D35 : DefAt K "part_with" (topS 35) f35 d35)
    (D36 : DefAt K "fault_in" (topS 36) f36 d36)
    (D37 : DefAt K "is_possible" (topS 37) f37 d37)
    (D38 : DefAt K "find_fault" (topS 38) f38 d38)
    (D39 : DefAt K "home_of" (topS 39) f39 d39)
    (D40 : DefAt K "people_from" (topS 40) f40 d40)
    (D41 : DefAt K "ways_together" (topS 41) f41 d41)
    (D42 : DefAt K "ways_to" (topS 42) f42 d42)
    (D43 : DefAt K "with_person" (topS 43) f43 d43)
    (D44 : DefAt K "count_sources" (topS 44) f44 d44)
    (D45 : DefAt K "first_sources" (topS 45) f45 d45)
    (D47 : DefAt K "_law_cell" (topS 47) f47 d47)
    (D48 : DefAt K "_law_pool" (topS 48) f48 d48)
    (D49 : DefAt K "_law_draw" (topS 49) f49 d49)
    (D50 : DefAt K "_law_mixed" (topS 50) f50 d50)
    (D51 : DefAt K "_law_calls" (topS 51) f51 d51)
    (D52 : DefAt K "_law_inches" (topS 52) f52 d52)
    (D53 : DefAt K "_law_sort" (topS 53) f53 d53)
    (D54 : DefAt K "_law_tree" (topS 54) f54 d54)
    (D55 : DefAt K "_law_folk" (topS 55) f55 d55)
    (D56 : DefAt K "_law_leaves" (topS 56) f56 d56)
    (D57 : DefAt K "_law_front" (topS 57) f57 d57)
    (D58 : DefAt K "_law_result" (topS 58) f58 d58)
    (D59 : DefAt K "_law_told" (topS 59) f59 d59)
    (D60 : DefAt K "_law_more" (topS 60) f60 d60)
    (D61 : DefAt K "_law_adds_up" (topS 61) f61 d61)
    (D62 : DefAt K "_law_first_right" (topS 62) f62 d62)
    (D63 : DefAt K "_law_paired" (topS 63) f63 d63)
    (D64 : DefAt K "_law_right" (topS 64) f64 d64)
    (D65 : DefAt K "law" (topS 65) f65 d65)
    (b_abs : PySem.W.nsIn K mainGlobals "abs" = some none)
    (b_all : PySem.W.nsIn K mainGlobals "all" = some none)
    (b_bool : PySem.W.nsIn K mainGlobals "bool" = some none)
    (b_dict : PySem.W.nsIn K mainGlobals "dict" = some none)
    (b_divmod : PySem.W.nsIn K mainGlobals "divmod" = some none)
    (b_enumerate : PySem.W.nsIn K mainGlobals "enumerate" = some none)
    (b_int : PySem.W.nsIn K mainGlobals "int" = some none)
    (b_isinstance : PySem.W.nsIn K mainGlobals "isinstance" = some none)
    (b_len : PySem.W.nsIn K mainGlobals "len" = some none)
    (b_list : PySem.W.nsIn K mainGlobals "list" = some none)
    (b_max : PySem.W.nsIn K mainGlobals "max" = some none)
    (b_min : PySem.W.nsIn K mainGlobals "min" = some none)
    (b_range : PySem.W.nsIn K mainGlobals "range" = some none)
    (b_sorted : PySem.W.nsIn K mainGlobals "sorted" = some none)
    (b_str : PySem.W.nsIn K mainGlobals "str" = some none)
    (b_sum : PySem.W.nsIn K mainGlobals "sum" = some none)
    (b_tuple : PySem.W.nsIn K mainGlobals "tuple" = some none)
    (b_zip : PySem.W.nsIn K mainGlobals "zip" = some none)
    {u0 u1 u2 u3 u4 u5 u6 u7 : Value}
    (z0 : PySem.W.nsIn K mainGlobals "MOST_HEIGHT" = some (some u0)) (r0 : RelV (.int 999) u0)
    (z1 : PySem.W.nsIn K mainGlobals "MOST_PEOPLE" = some (some u1)) (r1 : RelV (.int 40) u1)
    (z2 : PySem.W.nsIn K mainGlobals "MOST_LINES" = some (some u2)) (r2 : RelV (.int 8) u2)
    (z3 : PySem.W.nsIn K mainGlobals "SMALL" = some (some u3)) (r3 : RelV (.int 12) u3)
    (z4 : PySem.W.nsIn K mainGlobals "LOW" = some (some u4)) (r4 : RelV (.str "low") u4)
    (z5 : PySem.W.nsIn K mainGlobals "HIGH" = some (some u5)) (r5 : RelV (.str "high") u5)
    (z6 : PySem.W.nsIn K mainGlobals "LETTERS" = some (some u6)) (r6 : RelV (.str letters) u6)
    (z7 : PySem.W.nsIn K mainGlobals "MOST_LETTERS" = some (some u7)) (r7 : RelV (.int 6) u7)
    {fa : Addr} (hmg : mg "law" = some (.ref fa)) :
    ∃ fd : FuncData, (∀ (s : Shared) (u : Value), BindsTo s fd ⟨[u], []⟩ [(Str.ofString "_law_script", u)]) ∧
      ∀ base : Heap, K.In base → base.Ns mainGlobals mg → FnOk P w K mg base CX0 16 fa fd ["_law_script"] (spLaw K) := by
  have G : Gs mg := ⟨PySem.W.mg_none_of KX GN b_abs, PySem.W.mg_none_of KX GN b_all, PySem.W.mg_none_of KX GN b_bool, PySem.W.mg_none_of KX GN b_dict, PySem.W.mg_none_of KX GN b_divmod, PySem.W.mg_none_of KX GN b_enumerate, PySem.W.mg_none_of KX GN b_int, PySem.W.mg_none_of KX GN b_isinstance, PySem.W.mg_none_of KX GN b_len, PySem.W.mg_none_of KX GN b_list, PySem.W.mg_none_of KX GN b_max, PySem.W.mg_none_of KX GN b_min, PySem.W.mg_none_of KX GN b_range, PySem.W.mg_none_of KX GN b_sorted, PySem.W.mg_none_of KX GN b_str, PySem.W.mg_none_of KX GN b_sum, PySem.W.mg_none_of KX GN b_tuple, PySem.W.mg_none_of KX GN b_zip,
    ⟨_, PySem.W.mg_of KX GN z0, r0⟩, ⟨_, PySem.W.mg_of KX GN z1, r1⟩, ⟨_, PySem.W.mg_of KX GN z2, r2⟩, ⟨_, PySem.W.mg_of KX GN z3, r3⟩, ⟨_, PySem.W.mg_of KX GN z4, r4⟩, ⟨_, PySem.W.mg_of KX GN z5, r5⟩, ⟨_, PySem.W.mg_of KX GN z6, r6⟩, ⟨_, PySem.W.mg_of KX GN z7, r7⟩⟩
  have C15 : Cal K mg "is_integer" f15 d15 ["value", "least", "most"] := D15.cal KX GN (fun _ _ _ _ _ _ us hl => match us, hl with | [_, _, _], _ => rfl)
  have C16 : Cal K mg "is_height" f16 d16 ["value"] := D16.cal KX GN (fun _ _ _ _ _ _ us hl => match us, hl with | [_], _ => rfl)
  have C17 : Cal K mg "check_row" f17 d17 ["row"] := D17.cal KX GN (fun _ _ _ _ _ _ us hl => match us, hl with | [_], _ => rfl)
  have C18 : Cal K mg "is_kind" f18 d18 ["value"] := D18.cal KX GN (fun _ _ _ _ _ _ us hl => match us, hl with | [_], _ => rfl)
  have C19 : Cal K mg "goes_behind" f19 d19 ["head", "height", "kind"] := D19.cal KX GN (fun _ _ _ _ _ _ us hl => match us, hl with | [_, _, _], _ => rfl)
  have C20 : Cal K mg "trains_of" f20 d20 ["row", "kind"] := D20.cal KX GN (fun _ _ _ _ _ _ us hl => match us, hl with | [_, _], _ => rfl)
  have C24 : Cal K mg "is_line" f24 d24 ["value"] := D24.cal KX GN (fun _ _ _ _ _ _ us hl => match us, hl with | [_], _ => rfl)
  have C25 : Cal K mg "is_part" f25 d25 ["value", "lines"] := D25.cal KX GN (fun _ _ _ _ _ _ us hl => match us, hl with | [_, _], _ => rfl)
  have C26 : Cal K mg "is_plan" f26 d26 ["value"] := D26.cal KX GN (fun _ _ _ _ _ _ us hl => match us, hl with | [_], _ => rfl)
  have C27 : Cal K mg "check_plan" f27 d27 ["plan"] := D27.cal KX GN (fun _ _ _ _ _ _ us hl => match us, hl with | [_], _ => rfl)
  have C28 : Cal K mg "lines_in" f28 d28 ["plan"] := D28.cal KX GN (fun _ _ _ _ _ _ us hl => match us, hl with | [_], _ => rfl)
  have C29 : Cal K mg "least_line" f29 d29 ["plan"] := D29.cal KX GN (fun _ _ _ _ _ _ us hl => match us, hl with | [_], _ => rfl)
  have C30 : Cal K mg "flat_form" f30 d30 ["plan"] := D30.cal KX GN (fun _ _ _ _ _ _ us hl => match us, hl with | [_], _ => rfl)
  have C32 : Cal K mg "check_sources" f32 d32 ["plan", "row", "sources"] := D32.cal KX GN (fun _ _ _ _ _ _ us hl => match us, hl with | [_, _, _], _ => rfl)
  have C33 : Cal K mg "check_known" f33 d33 ["plan", "row", "known"] := D33.cal KX GN (fun _ _ _ _ _ _ us hl => match us, hl with | [_, _, _], _ => rfl)
  have C34 : Cal K mg "check_asked" f34 d34 ["plan", "row", "known"] := D34.cal KX GN (fun _ _ _ _ _ _ us hl => match us, hl with | [_, _, _], _ => rfl)
  have C35 : Cal K mg "part_with" f35 d35 ["parts", "line"] := D35.cal KX GN (fun _ _ _ _ _ _ us hl => match us, hl with | [_, _], _ => rfl)
  have C36 : Cal K mg "fault_in" f36 d36 ["plan", "row", "sources"] := D36.cal KX GN (fun _ _ _ _ _ _ us hl => match us, hl with | [_, _, _], _ => rfl)
  have C37 : Cal K mg "is_possible" f37 d37 ["plan", "row", "sources"] := D37.cal KX GN (fun _ _ _ _ _ _ us hl => match us, hl with | [_, _, _], _ => rfl)
  have C38 : Cal K mg "find_fault" f38 d38 ["plan", "row", "sources"] := D38.cal KX GN (fun _ _ _ _ _ _ us hl => match us, hl with | [_, _, _], _ => rfl)
  have C39 : Cal K mg "home_of" f39 d39 ["parts", "train", "known"] := D39.cal KX GN (fun _ _ _ _ _ _ us hl => match us, hl with | [_, _, _], _ => rfl)
  have C40 : Cal K mg "people_from" f40 d40 ["trains", "homes", "index", "mask"] := D40.cal KX GN (fun _ _ _ _ _ _ us hl => match us, hl with | [_, _, _, _], _ => rfl)
  have C41 : Cal K mg "ways_together" f41 d41 ["first", "second", "mask"] := D41.cal KX GN (fun _ _ _ _ _ _ us hl => match us, hl with | [_, _, _], _ => rfl)
  have C42 : Cal K mg "ways_to" f42 d42 ["plan", "people", "known"] := D42.cal KX GN (fun _ _ _ _ _ _ us hl => match us, hl with | [_, _, _], _ => rfl)
  have C43 : Cal K mg "with_person" f43 d43 ["known", "height", "line"] := D43.cal KX GN (fun _ _ _ _ _ _ us hl => match us, hl with | [_, _, _], _ => rfl)
  have M44 := D44.calK KX GN
  have M45 := D45.calK KX GN
  have C47 : Cal K mg "_law_cell" f47 d47 ["_law_script", "_law_k"] := D47.cal KX GN (fun _ _ _ _ _ _ us hl => match us, hl with | [_, _], _ => rfl)
  have C48 : Cal K mg "_law_pool" f48 d48 ["_law_cell_here"] := D48.cal KX GN (fun _ _ _ _ _ _ us hl => match us, hl with | [_], _ => rfl)
  have C49 : Cal K mg "_law_draw" f49 d49 ["_law_pool_here", "_law_upto"] := D49.cal KX GN (fun _ _ _ _ _ _ us hl => match us, hl with | [_, _], _ => rfl)
  have C50 : Cal K mg "_law_mixed" f50 d50 ["_law_pool_here", "_law_things"] := D50.cal KX GN (fun _ _ _ _ _ _ us hl => match us, hl with | [_, _], _ => rfl)
  have C51 : Cal K mg "_law_calls" f51 d51 ["_law_pool_here", "_law_many"] := D51.cal KX GN (fun _ _ _ _ _ _ us hl => match us, hl with | [_, _], _ => rfl)
  have C52 : Cal K mg "_law_inches" f52 d52 ["_law_pool_here", "_law_many"] := D52.cal KX GN (fun _ _ _ _ _ _ us hl => match us, hl with | [_, _], _ => rfl)
  have C53 : Cal K mg "_law_sort" f53 d53 ["_law_pool_here"] := D53.cal KX GN (fun _ _ _ _ _ _ us hl => match us, hl with | [_], _ => rfl)
  have C54 : Cal K mg "_law_tree" f54 d54 ["_law_pool_here", "_law_calls_here"] := D54.cal KX GN (fun _ _ _ _ _ _ us hl => match us, hl with | [_, _], _ => rfl)
  have C55 : Cal K mg "_law_folk" f55 d55 ["_law_pool_here", "_law_calls_here", "_law_inches_here"] := D55.cal KX GN (fun _ _ _ _ _ _ us hl => match us, hl with | [_, _, _], _ => rfl)
  have C56 : Cal K mg "_law_leaves" f56 d56 ["_law_tree_here"] := D56.cal KX GN (fun _ _ _ _ _ _ us hl => match us, hl with | [_], _ => rfl)
  have C57 : Cal K mg "_law_front" f57 d57 ["_law_tree_here", "_law_waiting"] := D57.cal KX GN (fun _ _ _ _ _ _ us hl => match us, hl with | [_, _], _ => rfl)
  have C58 : Cal K mg "_law_result" f58 d58 ["_law_tree_here", "_law_folk_here"] := D58.cal KX GN (fun _ _ _ _ _ _ us hl => match us, hl with | [_, _], _ => rfl)
  have C59 : Cal K mg "_law_told" f59 d59 ["_law_pool_here", "_law_calls_here", "_law_queue"] := D59.cal KX GN (fun _ _ _ _ _ _ us hl => match us, hl with | [_, _, _], _ => rfl)
  have C60 : Cal K mg "_law_more" f60 d60 ["_law_known_here", "_law_inch", "_law_call"] := D60.cal KX GN (fun _ _ _ _ _ _ us hl => match us, hl with | [_, _, _], _ => rfl)
  have C61 : Cal K mg "_law_adds_up" f61 d61 ["_law_tree_here", "_law_calls_here", "_law_queue", "_law_known_here"] := D61.cal KX GN (fun _ _ _ _ _ _ us hl => match us, hl with | [_, _, _, _], _ => rfl)
  have C62 : Cal K mg "_law_first_right" f62 d62 ["_law_tree_here", "_law_calls_here", "_law_queue", "_law_known_here", "_law_whole"] := D62.cal KX GN (fun _ _ _ _ _ _ us hl => match us, hl with | [_, _, _, _, _], _ => rfl)
  have C63 : Cal K mg "_law_paired" f63 d63 ["_law_queue", "_law_homes"] := D63.cal KX GN (fun _ _ _ _ _ _ us hl => match us, hl with | [_, _], _ => rfl)
  have C64 : Cal K mg "_law_right" f64 d64 ["_law_pool_here"] := D64.cal KX GN (fun _ _ _ _ _ _ us hl => match us, hl with | [_], _ => rfl)
  have C65 : Cal K mg "law" f65 d65 ["_law_script"] := D65.cal KX GN (fun _ _ _ _ _ _ us hl => match us, hl with | [_], _ => rfl)
  have e65 := C65.m
  rw [hmg] at e65
  have ef : fa = f65 := by injection e65 with e; injection e
  subst ef
  refine ⟨d65, fun s u => one_binds D65.F (fun _ _ _ _ _ _ _ => rfl) s u, fun base _ _ => ?_⟩
  have O15 := (ok_integer D15.F G : FnOk P w K mg base CX0 _ _ _ _ _)
  have O16 := (ok_height D16.F G C15 O15 : FnOk P w K mg base CX0 _ _ _ _ _)
  have O17 := (ok_row D17.F G C16 O16 : FnOk P w K mg base CX0 _ _ _ _ _)
  have O18 := (ok_kind D18.F G : FnOk P w K mg base CX0 _ _ _ _ _)
  have O19 := (ok_behind D19.F G : FnOk P w K mg base CX0 _ _ _ _ _)
  have O20 := (ok_trains D20.F C19 O19 : FnOk P w K mg base CX0 _ _ _ _ _)
  have O24 := (ok_line D24.F G : FnOk P w K mg base CX0 _ _ _ _ _)
  have O25 := (ok_part D25.F G C24 O24 C18 O18 C25 5 : FnOk P w K mg base CX0 _ _ _ _ _)
  have O26 := (ok_plan D26.F C25 O25 : FnOk P w K mg base CX0 _ _ _ _ _)
  have O27 := (ok_cplan D27.F C26 O26 : FnOk P w K mg base CX0 _ _ _ _ _)
  have O28 := (ok_lines D28.F G C28 5 : FnOk P w K mg base CX0 _ _ _ _ _)
  have O29 := (ok_least D29.F C28 O28 : FnOk P w K mg base CX0 _ _ _ _ _)
  have O30 := (ok_flat D30.F G C29 O29 C30 5 : FnOk P w K mg base CX0 _ _ _ _ _)
  have O32 := (ok_sources D32.F G C28 O28 : FnOk P w K mg base CX0 _ _ _ _ _)
  have O33 := (ok_known D33.F G C28 O28 C16 O16 : FnOk P w K mg base CX0 _ _ _ _ _)
  have O34 := (ok_asked D34.F G C27 O27 C17 O17 C33 O33 : FnOk P w K mg base CX0 _ _ _ _ _)
  have O35 := (ok_with D35.F G C28 O28 : FnOk P w K mg base CX0 _ _ _ _ _)
  have O36 := (ok_fault D36.F G C35 O35 C19 O19 : FnOk P w K mg base CX0 _ _ _ _ _)
  have O38 := (ok_find D38.F C27 O27 C17 O17 C32 O32 C36 O36 : FnOk P w K mg base CX0 _ _ _ _ _)
  have O37 := (ok_poss D37.F C38 O38 : FnOk P w K mg base CX0 _ _ _ _ _)
  have O39 := (ok_home D39.F G C28 O28 : FnOk P w K mg base CX0 _ _ _ _ _)
  have O40 := (ok_from D40.F G : FnOk P w K mg base CX0 _ _ _ _ _)
  have O41 := (ok_tog D41.F : FnOk P w K mg base CX0 _ _ _ _ _)
  have O42 := (ok_ways D42.F G C20 O20 C39 O39 C40 O40 C41 O41 C42 5 : FnOk P w K mg base CX0 _ _ _ _ _)
  have O43 := (ok_pers D43.F G : FnOk P w K mg base CX0 _ _ _ _ _)
  have O44 := (ok_count D44.F G C34 O34 C30 O30 C42 O42 : FnOk P w K mg base CX0 _ _ _ _ _)
  have O45 := (ok_first D45.F G C34 O34 C30 O30 C42 O42 C43 O43 C28 O28 : FnOk P w K mg base CX0 _ _ _ _ _)
  have O47 := (ok_cell D47.F G : FnOk P w K mg base CX0 _ _ _ _ _)
  have O48 := (ok_pool D48.F G : FnOk P w K mg base CX0 _ _ _ _ _)
  have O49 := (ok_draw D49.F G : FnOk P w K mg base CX0 _ _ _ _ _)
  have O50 := (ok_mixed D50.F G C49 O49 : FnOk P w K mg base CX0 _ _ _ _ _)
  have O51 := (ok_calls D51.F G C49 O49 : FnOk P w K mg base CX0 _ _ _ _ _)
  have O52 := (ok_inches D52.F G C49 O49 : FnOk P w K mg base CX0 _ _ _ _ _)
  have O53 := (ok_sort D53.F C49 O49 : FnOk P w K mg base CX0 _ _ _ _ _)
  have O54 := (ok_tree D54.F G C49 O49 C50 O50 C53 O53 : FnOk P w K mg base CX0 _ _ _ _ _)
  have O55 := (ok_folk D55.F G C49 O49 : FnOk P w K mg base CX0 _ _ _ _ _)
  have O56 := (ok_leaves D56.F G C56 5 : FnOk P w K mg base CX0 _ _ _ _ _)
  have O57 := (ok_front D57.F G C57 5 : FnOk P w K mg base CX0 _ _ _ _ _)
  have O58 := (ok_result D58.F G C56 O56 C57 O57 : FnOk P w K mg base CX0 _ _ _ _ _)
  have O59 := (ok_told D59.F G C49 O49 : FnOk P w K mg base CX0 _ _ _ _ _)
  have O60 := (ok_more D60.F G : FnOk P w K mg base CX0 _ _ _ _ _)
  have O61 := (ok_adds D61.F G M44 (kb_count D44.F) O44 C60 O60 : FnOk P w K mg base CX0 _ _ _ _ _)
  have O63 := (ok_paired D63.F G : FnOk P w K mg base CX0 _ _ _ _ _)
  have O62 := (ok_fr D62.F G M44 (kb_count D44.F) O44 C60 O60 M45 (kb_first D45.F) O45 C37 O37 C63 O63 : FnOk P w K mg base CX0 _ _ _ _ _)
  have O64 := (ok_right D64.F G C49 O49 C51 O51 C52 O52 C54 O54 C58 O58 C55 O55 C59 O59 C61 O61 C62 O62 : FnOk P w K mg base CX0 _ _ _ _ _)
  exact ok_law D65.F G C64 O64 C48 O48 C47 O47
end
end FW
end
set_option maxRecDepth 100000 in
set_option maxHeartbeats 0 in
open PySem PySem.W PyProof.Rows in
theorem PySem.Challenge.cw_frontmeets_k52_whole_one_more_known_pers_holds : PySem.Challenge.rw_frontmeets_k52_whole_one_more_known_pers.Holds := by
  w_on; o_law; k_headLK; (case hw => w_witness2)
  k_fill
  refine L2.walk_ofK (l := PySem.Challenge.rw_frontmeets_k52_whole_one_more_known_pers) (n := 63) (k := 16) (x := "_law_script") (CX := L2.CX0) (sp := FW.spLaw) rfl (by decide) rfl ⟨rfl, by decide, by decide⟩ (fun w h Y => PySem.W.kIn_of Y) ?F
    (fun _ _ a ns _ _ hS => ⟨a, ns, rfl, hS, fun _ _ => rfl⟩) (fun _ _ _ _ h => h)
  case F =>
    intro w mg fa h KX G hmg
    exact FW.law_all KX G (FW.def_at "is_integer" (FW.topS 15) (by k_is) (by k_is) (by k_is) (by k_is))
        (FW.def_at "is_height" (FW.topS 16) (by k_is) (by k_is) (by k_is) (by k_is))
        (FW.def_at "check_row" (FW.topS 17) (by k_is) (by k_is) (by k_is) (by k_is))
        (FW.def_at "is_kind" (FW.topS 18) (by k_is) (by k_is) (by k_is) (by k_is))
        (FW.def_at "goes_behind" (FW.topS 19) (by k_is) (by k_is) (by k_is) (by k_is))
        (FW.def_at "trains_of" (FW.topS 20) (by k_is) (by k_is) (by k_is) (by k_is))
        (FW.def_at "is_line" (FW.topS 24) (by k_is) (by k_is) (by k_is) (by k_is))
        (FW.def_at "is_part" (FW.topS 25) (by k_is) (by k_is) (by k_is) (by k_is))
        (FW.def_at "is_plan" (FW.topS 26) (by k_is) (by k_is) (by k_is) (by k_is))
        (FW.def_at "check_plan" (FW.topS 27) (by k_is) (by k_is) (by k_is) (by k_is))
        (FW.def_at "lines_in" (FW.topS 28) (by k_is) (by k_is) (by k_is) (by k_is))
        (FW.def_at "least_line" (FW.topS 29) (by k_is) (by k_is) (by k_is) (by k_is))
        (FW.def_at "flat_form" (FW.topS 30) (by k_is) (by k_is) (by k_is) (by k_is))
        (FW.def_at "check_sources" (FW.topS 32) (by k_is) (by k_is) (by k_is) (by k_is))
        (FW.def_at "check_known" (FW.topS 33) (by k_is) (by k_is) (by k_is) (by k_is))
        (FW.def_at "check_asked" (FW.topS 34) (by k_is) (by k_is) (by k_is) (by k_is))
        (FW.def_at "part_with" (FW.topS 35) (by k_is) (by k_is) (by k_is) (by k_is))
        (FW.def_at "fault_in" (FW.topS 36) (by k_is) (by k_is) (by k_is) (by k_is))
        (FW.def_at "is_possible" (FW.topS 37) (by k_is) (by k_is) (by k_is) (by k_is))
        (FW.def_at "find_fault" (FW.topS 38) (by k_is) (by k_is) (by k_is) (by k_is))
        (FW.def_at "home_of" (FW.topS 39) (by k_is) (by k_is) (by k_is) (by k_is))
        (FW.def_at "people_from" (FW.topS 40) (by k_is) (by k_is) (by k_is) (by k_is))
        (FW.def_at "ways_together" (FW.topS 41) (by k_is) (by k_is) (by k_is) (by k_is))
        (FW.def_at "ways_to" (FW.topS 42) (by k_is) (by k_is) (by k_is) (by k_is))
        (FW.def_at "with_person" (FW.topS 43) (by k_is) (by k_is) (by k_is) (by k_is))
        (FW.def_at "count_sources" (FW.topS 44) (by k_is) (by k_is) (by k_is) (by k_is))
        (FW.def_at "first_sources" (FW.topS 45) (by k_is) (by k_is) (by k_is) (by k_is))
        (FW.def_at "_law_cell" (FW.topS 47) (by k_is) (by k_is) (by k_is) (by k_is))
        (FW.def_at "_law_pool" (FW.topS 48) (by k_is) (by k_is) (by k_is) (by k_is))
        (FW.def_at "_law_draw" (FW.topS 49) (by k_is) (by k_is) (by k_is) (by k_is))
        (FW.def_at "_law_mixed" (FW.topS 50) (by k_is) (by k_is) (by k_is) (by k_is))
        (FW.def_at "_law_calls" (FW.topS 51) (by k_is) (by k_is) (by k_is) (by k_is))
        (FW.def_at "_law_inches" (FW.topS 52) (by k_is) (by k_is) (by k_is) (by k_is))
        (FW.def_at "_law_sort" (FW.topS 53) (by k_is) (by k_is) (by k_is) (by k_is))
        (FW.def_at "_law_tree" (FW.topS 54) (by k_is) (by k_is) (by k_is) (by k_is))
        (FW.def_at "_law_folk" (FW.topS 55) (by k_is) (by k_is) (by k_is) (by k_is))
        (FW.def_at "_law_leaves" (FW.topS 56) (by k_is) (by k_is) (by k_is) (by k_is))
        (FW.def_at "_law_front" (FW.topS 57) (by k_is) (by k_is) (by k_is) (by k_is))
        (FW.def_at "_law_result" (FW.topS 58) (by k_is) (by k_is) (by k_is) (by k_is))
        (FW.def_at "_law_told" (FW.topS 59) (by k_is) (by k_is) (by k_is) (by k_is))
        (FW.def_at "_law_more" (FW.topS 60) (by k_is) (by k_is) (by k_is) (by k_is))
        (FW.def_at "_law_adds_up" (FW.topS 61) (by k_is) (by k_is) (by k_is) (by k_is))
        (FW.def_at "_law_first_right" (FW.topS 62) (by k_is) (by k_is) (by k_is) (by k_is))
        (FW.def_at "_law_paired" (FW.topS 63) (by k_is) (by k_is) (by k_is) (by k_is))
        (FW.def_at "_law_right" (FW.topS 64) (by k_is) (by k_is) (by k_is) (by k_is))
        (FW.def_at "law" (FW.topS 65) (by k_is) (by k_is) (by k_is) (by k_is))
        (by k_is)
        (by k_is)
        (by k_is)
        (by k_is)
        (by k_is)
        (by k_is)
        (by k_is)
        (by k_is)
        (by k_is)
        (by k_is)
        (by k_is)
        (by k_is)
        (by k_is)
        (by k_is)
        (by k_is)
        (by k_is)
        (by k_is)
        (by k_is)
        (by k_is) (by exact ⟨_, rfl⟩)
        (by k_is) (by exact ⟨_, rfl⟩)
        (by k_is) (by exact ⟨_, rfl⟩)
        (by k_is) (by exact ⟨_, rfl⟩)
        (by k_is) (by exact ⟨_, rfl⟩)
        (by k_is) (by exact ⟨_, rfl⟩)
        (by k_is) (by exact ⟨_, rfl⟩)
        (by k_is) (by exact ⟨_, rfl⟩) hmg
