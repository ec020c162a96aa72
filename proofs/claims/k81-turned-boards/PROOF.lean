import PyProof.Rows.All
import Wide.All
import OpenK.AllK
import Wide.FinOn
import HandS.ForMost
import HandS.Codes
import HandS.Lambda
import HandS.Property
import HandS.Defaults
import HandS.NoneIn
import HandS.IsInst
import HandS.TupSets
import HandS.SortRule
import HandS.SortInts
import HandS.Strs
import KE.SortData
import HandS.Walk
import HandS.Comp
import HandS.SetBool
import KE.KStateDown
import HandS.Head0
import HandS.Head1
import HandS.Head2
import HandS.HeadEnd
import HandS.HeadHook1
import HandS.HeadHook2
import HandS.HeadHook3
import HandS.HeadHook4
import HandS.HeadNt
import HandS.HeadWalk
import PySem.Challenge.RW_sandthreads_k81_whole_looks_on_turned_bo
set_option Elab.async false
set_option maxRecDepth 100000
/-! Plain mathematics: closed walks of a reversible step, classes of squares, boards and their turns. -/
namespace Sand
/-! ### a reversible step on finitely many states -/
structure Flow (D S : Type) where
  V : D → Prop
  f : D → D
  R : D → D
  sq : D → S
  L : List D
  hL : ∀ d, V d → d ∈ L
  vf : ∀ d, V d → V (f d)
  vR : ∀ d, V d → V (R d)
  RR : ∀ d, V d → R (R d) = d
  sR : ∀ d, V d → sq (R d) = sq d
  nR : ∀ d, V d → R d ≠ d
  two : ∀ d e, V d → V e → sq d = sq e → e = d ∨ e = R d
  fRf : ∀ d, V d → f (R (f d)) = R d
  sf : ∀ d, V d → sq (f d) ≠ sq d

/-- the state behind n steps -/
def it {D : Type} (f : D → D) : Nat → D → D
  | 0, d => d
  | n + 1, d => it f n (f d)
theorem it_succ {D : Type} (f : D → D) : ∀ (n : Nat) (d : D), it f (n + 1) d = f (it f n d)
  | 0, _ => rfl
  | n + 1, d => it_succ f n (f d)
theorem it_add {D : Type} (f : D → D) : ∀ (m n : Nat) (d : D), it f (m + n) d = it f n (it f m d)
  | 0, n, d => by rw [Nat.zero_add]; rfl
  | m + 1, n, d => by rw [show m + 1 + n = (m + n) + 1 by omega]; exact it_add f m n (f d)

/-- more values than places: two are one -/
theorem pigeon {D : Type} [DecidableEq D] : ∀ (L : List D) (g : Nat → D), (∀ i, i ≤ L.length → g i ∈ L) → ∃ i j, i < j ∧ j ≤ L.length ∧ g i = g j
  | [], g, h => absurd (h 0 (Nat.le_refl _)) (by simp)
  | x :: L, g, h => by
    by_cases hx : ∃ i j, i < j ∧ j ≤ (x :: L).length ∧ g i = g j
    · exact hx
    · -- at most one place holds x: skip it
      have key : ∃ p, p ≤ L.length + 1 ∧ ∀ i, i ≤ L.length + 1 → i ≠ p → g i ≠ x := by
        by_cases hp : ∃ p, p ≤ L.length + 1 ∧ g p = x
        · obtain ⟨p, h1, h2⟩ := hp
          refine ⟨p, h1, fun i hi hne e => hx ?_⟩
          rcases Nat.lt_or_gt_of_ne hne with q | q
          · exact ⟨i, p, q, h1, by rw [e, h2]⟩
          · exact ⟨p, i, q, hi, by rw [e, h2]⟩
        · exact ⟨0, Nat.zero_le _, fun i hi _ e => hp ⟨i, hi, e⟩⟩
      obtain ⟨p, hp, hne⟩ := key
      obtain ⟨i, j, h1, h2, h3⟩ := pigeon L (fun i => g (if i < p then i else i + 1)) fun i hi => by
        by_cases q : i < p
        · rw [if_pos q]
          have := h i (by simp; omega)
          rcases List.mem_cons.mp this with e | e
          · exact absurd e (hne i (by omega) (by omega))
          · exact e
        · rw [if_neg q]
          have := h (i + 1) (by simp; omega)
          rcases List.mem_cons.mp this with e | e
          · exact absurd e (hne (i + 1) (by omega) (by omega))
          · exact e
      refine ⟨if i < p then i else i + 1, if j < p then j else j + 1, ?_, ?_, h3⟩
      · split <;> split <;> omega
      · simp only [List.length_cons]; split <;> omega

namespace Flow
variable {D S : Type} (F : Flow D S)
theorem vit : ∀ (n : Nat) (d : D), F.V d → F.V (it F.f n d)
  | 0, _, h => h
  | n + 1, d, h => vit n (F.f d) (F.vf d h)
theorem inj {d e : D} (hd : F.V d) (he : F.V e) (h : F.f d = F.f e) : d = e := by
  have h1 := F.fRf d hd
  rw [h, F.fRf e he] at h1
  rw [← F.RR d hd, ← h1, F.RR e he]
theorem it_inj : ∀ (n : Nat) {d e : D}, F.V d → F.V e → it F.f n d = it F.f n e → d = e
  | 0, _, _, _, _, h => h
  | n + 1, d, e, hd, he, h => F.inj hd he (it_inj n (F.vf d hd) (F.vf e he) h)
theorem period [DecidableEq D] (d : D) (hd : F.V d) : ∃ n, 1 ≤ n ∧ n ≤ F.L.length ∧ it F.f n d = d := by
  obtain ⟨i, j, h1, h2, h3⟩ := pigeon F.L (fun i => it F.f i d) fun i _ => F.hL _ (F.vit i d hd)
  refine ⟨j - i, by omega, by omega, ?_⟩
  have e : it F.f j d = it F.f i (it F.f (j - i) d) := by
    rw [← it_add, show j - i + i = j by omega]
  have h4 : it F.f i d = it F.f j d := h3
  rw [e] at h4
  exact (F.it_inj i hd (F.vit _ d hd) h4).symm
theorem it_mul {n : Nat} {d : D} (h : it F.f n d = d) : ∀ k : Nat, it F.f (k * n) d = d
  | 0 => by rw [Nat.zero_mul]; rfl
  | k + 1 => by rw [Nat.succ_mul, it_add, it_mul h k, h]
/-- one never comes back the other way -/
theorem noRev : ∀ (n : Nat) (d : D), F.V d → it F.f n d ≠ F.R d
  | 0, d, h => fun e => F.nR d h e.symm
  | 1, d, h => fun e => F.sf d h (by
      have e' : F.f d = F.R d := e
      rw [e', F.sR d h])
  | n + 2, d, h => fun e => by
    have e1 : F.f (it F.f n (F.f d)) = F.R d := (it_succ F.f n (F.f d)).symm.trans e
    have e2 := F.fRf d h
    rw [← e2] at e1
    exact noRev n (F.f d) (F.vf d h) (F.inj (F.vit n _ (F.vf d h)) (F.vR _ (F.vf d h)) e1)
/-- the way back -/
theorem rev : ∀ (n : Nat) (d : D), F.V d → it F.f n (F.R (it F.f n d)) = F.R d
  | 0, _, _ => rfl
  | n + 1, d, h => by
    rw [it_succ F.f n (F.R _)]
    have h1 := rev n (F.f d) (F.vf d h)
    have h2 : it F.f (n + 1) d = it F.f n (F.f d) := rfl
    rw [h2, h1]
    exact F.fRf d h
/-- two squares on one closed walk -/
def Conn (s t : S) : Prop := ∃ (d : D) (n : Nat), F.V d ∧ F.sq d = s ∧ F.sq (it F.f n d) = t
theorem back [DecidableEq D] {d e : D} {n : Nat} (hd : F.V d) (h : it F.f n d = e) : ∃ m, it F.f m e = d := by
  obtain ⟨p, h1, _, h2⟩ := F.period d hd
  refine ⟨n * p - n, ?_⟩
  rw [← h, ← it_add, show n + (n * p - n) = n * p by
    have : n * 1 ≤ n * p := Nat.mul_le_mul_left n h1
    omega]
  exact F.it_mul h2 n
theorem Conn.symm [DecidableEq D] {s t : S} : F.Conn s t → F.Conn t s := fun ⟨d, n, hd, h1, h2⟩ => by
  obtain ⟨m, hm⟩ := F.back hd (rfl : it F.f n d = it F.f n d)
  exact ⟨it F.f n d, m, F.vit n d hd, h2, by rw [hm]; exact h1⟩
theorem Conn.trans [DecidableEq D] {s t u : S} : F.Conn s t → F.Conn t u → F.Conn s u := fun ⟨d, n, hd, h1, h2⟩ ⟨e, m, he, h3, h4⟩ => by
  rcases F.two (it F.f n d) e (F.vit n d hd) he (by rw [h2, h3]) with q | q
  · exact ⟨d, n + m, hd, h1, by rw [it_add, ← q]; exact h4⟩
  · -- e = R (it n d): from R (it n d) one comes to R d and to the end
    have hr := F.rev n d hd
    rw [← q] at hr
    obtain ⟨k, hk⟩ := F.back he hr
    exact ⟨F.R d, k + m, F.vR d hd, by rw [F.sR d hd]; exact h1, by rw [it_add, hk]; exact h4⟩
theorem Conn.refl {d : D} (hd : F.V d) : F.Conn (F.sq d) (F.sq d) := ⟨d, 0, hd, rfl, rfl⟩
/-- at the first return to the square all squares of the walk have been seen -/
theorem seen [DecidableEq D] {d : D} (hd : F.V d) {n : Nat} (hn : 1 ≤ n) (hr : F.sq (it F.f n d) = F.sq d) (t : S) :
    F.Conn (F.sq d) t ↔ ∃ m, m < n ∧ F.sq (it F.f m d) = t := by
  have hp : it F.f n d = d := by
    rcases F.two d _ hd (F.vit n d hd) hr.symm with q | q
    · exact q
    · exact absurd q (F.noRev n d hd)
  have hmod : ∀ k, it F.f k d = it F.f (k % n) d := fun k => by
    conv => lhs; rw [← Nat.div_add_mod k n, Nat.mul_comm, it_add, F.it_mul hp]
  have fwd : ∀ k, F.sq (it F.f k d) = t → ∃ m, m < n ∧ F.sq (it F.f m d) = t := fun k h => ⟨k % n, Nat.mod_lt _ hn, by rw [← hmod]; exact h⟩
  constructor
  · rintro ⟨e, k, he, h1, h2⟩
    rcases F.two d e hd he h1.symm with q | q
    · rw [q] at h2
      exact fwd k h2
    · -- the other way round
      have h3 := F.rev k e he
      rw [q, F.RR d hd] at h3
      obtain ⟨m, hm⟩ := F.back (F.vR _ (F.vit k _ (F.vR d hd))) h3
      refine fwd m ?_
      rw [hm, F.sR _ (F.vit k _ (F.vR d hd)), ← q]
      exact h2
  · rintro ⟨m, _, h⟩
    exact ⟨d, m, hd, rfl, h⟩
end Flow

/-- two flows, the one drawn onto the other -/
structure Onto {D S D' S' : Type} (F : Flow D S) (F' : Flow D' S') (Φ : D → D') (φ : S → S') : Prop where
  v : ∀ d, F.V d → F'.V (Φ d)
  f : ∀ d, F.V d → F'.f (Φ d) = Φ (F.f d)
  R : ∀ d, F.V d → F'.R (Φ d) = Φ (F.R d)
  sq : ∀ d, F.V d → F'.sq (Φ d) = φ (F.sq d)
  inj : ∀ d e, F.V d → F.V e → φ (F.sq d) = φ (F.sq e) → F.sq d = F.sq e
namespace Onto
variable {D S D' S' : Type} {F : Flow D S} {F' : Flow D' S'} {Φ : D → D'} {φ : S → S'} (o : Onto F F' Φ φ)
include o
theorem it : ∀ (n : Nat) (d : D), F.V d → Sand.it F'.f n (Φ d) = Φ (Sand.it F.f n d)
  | 0, _, _ => rfl
  | n + 1, d, h => by
    show Sand.it F'.f n (F'.f (Φ d)) = _
    rw [o.f d h]
    exact it n (F.f d) (F.vf d h)
theorem conn {d e : D} (hd : F.V d) (he : F.V e) : F'.Conn (φ (F.sq d)) (φ (F.sq e)) ↔ F.Conn (F.sq d) (F.sq e) := by
  constructor
  · rintro ⟨x, n, hx, h1, h2⟩
    have key : ∀ g, F.V g → F.sq g = F.sq d → x = Φ g → F.Conn (F.sq d) (F.sq e) := fun g hg hs q => by
      rw [q, o.it n g hg, o.sq _ (F.vit n g hg)] at h2
      exact ⟨g, n, hg, hs, o.inj _ _ (F.vit n g hg) he h2⟩
    rcases F'.two (Φ d) x (o.v d hd) hx (by rw [o.sq d hd, h1]) with q | q
    · exact key d hd rfl q
    · rw [o.R d hd] at q
      exact key (F.R d) (F.vR d hd) (F.sR d hd) q
  · rintro ⟨x, n, hx, h1, h2⟩
    exact ⟨Φ x, n, o.v x hx, by rw [o.sq x hx, h1], by rw [o.it n x hx, o.sq _ (F.vit n x hx), h2]⟩
end Onto

/-! ### how many classes: one of each, in the order of a list -/
section
open Classical
variable {S : Type}
/-- from the left, what is alike to none that was taken is taken -/
noncomputable def reps (E : S → S → Prop) : List S → List S → List S
  | acc, [] => acc
  | acc, s :: l => if ∃ a, a ∈ acc ∧ E a s then reps E acc l else reps E (acc ++ [s]) l
/-- no two alike -/
def Apart (E : S → S → Prop) : List S → Prop
  | [] => True
  | a :: l => (∀ b, b ∈ l → ¬ E a b) ∧ Apart E l
theorem Apart.app {E : S → S → Prop} : ∀ {l : List S} {s : S}, Apart E l → (∀ a, a ∈ l → ¬ E a s) → Apart E (l ++ [s])
  | [], _, _, _ => ⟨fun _ h => absurd h (by simp), trivial⟩
  | a :: l, s, ⟨h1, h2⟩, h => ⟨fun b hb => by
      rcases List.mem_append.mp hb with q | q
      · exact h1 b q
      · rw [List.mem_singleton.mp q]
        exact h a (List.mem_cons_self ..), Apart.app h2 fun b hb => h b (List.mem_cons_of_mem _ hb)⟩
theorem reps_apart {E : S → S → Prop} : ∀ (l acc : List S), Apart E acc → Apart E (reps E acc l)
  | [], _, h => h
  | s :: l, acc, h => by
    unfold reps
    split
    · exact reps_apart l acc h
    · rename_i q
      exact reps_apart l _ (h.app fun a ha he => q ⟨a, ha, he⟩)
theorem reps_mem {E : S → S → Prop} : ∀ (l acc : List S) (x : S), x ∈ reps E acc l → x ∈ acc ∨ x ∈ l
  | [], _, _, h => .inl h
  | s :: l, acc, x, h => by
    unfold reps at h
    split at h
    · exact (reps_mem l acc x h).imp id fun z => List.mem_cons_of_mem _ z
    · rcases reps_mem l _ x h with z | z
      · rcases List.mem_append.mp z with y | y
        · exact .inl y
        · rw [List.mem_singleton.mp y]
          exact .inr (List.mem_cons_self ..)
      · exact .inr (List.mem_cons_of_mem _ z)
theorem reps_keep {E : S → S → Prop} : ∀ (l acc : List S) (x : S), x ∈ acc → x ∈ reps E acc l
  | [], _, _, h => h
  | s :: l, acc, x, h => by
    unfold reps
    split
    · exact reps_keep l acc x h
    · exact reps_keep l _ x (List.mem_append_left _ h)
theorem reps_all {E : S → S → Prop} (hE : ∀ s, E s s ∨ True) : ∀ (l acc : List S) (x : S), x ∈ l → E x x → ∃ a, a ∈ reps E acc l ∧ E a x
  | s :: l, acc, x, h, hx => by
    unfold reps
    rcases List.mem_cons.mp h with q | q
    · subst q
      split
      · rename_i z
        obtain ⟨a, h1, h2⟩ := z
        exact ⟨a, reps_keep l acc a h1, h2⟩
      · exact ⟨x, reps_keep l _ x (List.mem_append_right _ (List.mem_singleton.mpr rfl)), hx⟩
    · split
      · exact reps_all hE l acc x q hx
      · exact reps_all hE l _ x q hx
/-- no two of A alike, each alike to one of B: A is no longer -/
theorem apart_le {E : S → S → Prop} : ∀ (A B : List S), Apart E A → (∀ a b c, a ∈ A → c ∈ A → b ∈ B → E a b → E c b → E a c) → (∀ a, a ∈ A → ∃ b, b ∈ B ∧ E a b) → A.length ≤ B.length
  | [], _, _, _, _ => Nat.zero_le _
  | a :: A, B, ⟨h1, h2⟩, ht, hc => by
    obtain ⟨b, hb, hab⟩ := hc a (List.mem_cons_self ..)
    have q := apart_le A (B.erase b) h2 (fun x y z hx hz hy => ht x y z (List.mem_cons_of_mem _ hx) (List.mem_cons_of_mem _ hz) (List.mem_of_mem_erase hy)) fun x hx => by
      obtain ⟨y, hy, hxy⟩ := hc x (List.mem_cons_of_mem _ hx)
      refine ⟨y, ?_, hxy⟩
      have ne : y ≠ b := fun e => h1 x hx (ht a b x (List.mem_cons_self ..) (List.mem_cons_of_mem _ hx) hb hab (by rw [← e]; exact hxy))
      exact (List.mem_erase_of_ne ne).mpr hy
    rw [List.length_erase_of_mem hb] at q
    have := List.length_pos_of_mem hb
    simp only [List.length_cons]
    omega
/-- the classes of two lists that one map takes into each other are as many -/
theorem reps_len {T : Type} {E : S → S → Prop} {E' : T → T → Prop} {φ : S → T} {l : List S} {l' : List T} (h1 : ∀ s, s ∈ l → φ s ∈ l') (h2 : ∀ t, t ∈ l' → ∃ s, s ∈ l ∧ φ s = t)
    (hE : ∀ s t, s ∈ l → t ∈ l → (E' (φ s) (φ t) ↔ E s t)) (hr : ∀ s, s ∈ l → E s s) (hs : ∀ s t, s ∈ l → t ∈ l → E s t → E t s) (ht : ∀ s t u, s ∈ l → t ∈ l → u ∈ l → E s t → E t u → E s u) :
    (reps E' [] l').length = (reps E [] l).length := by
  have in1 : ∀ s, s ∈ reps E [] l → s ∈ l := fun s h => (reps_mem l [] s h).elim (fun z => absurd z (by simp)) id
  have in2 : ∀ s, s ∈ reps E' [] l' → s ∈ l' := fun s h => (reps_mem l' [] s h).elim (fun z => absurd z (by simp)) id
  have a1 : Apart E (reps E [] l) := reps_apart l [] trivial
  have a2 : Apart E' (reps E' [] l') := reps_apart l' [] trivial
  have mp : ∀ A : List S, (∀ s, s ∈ A → s ∈ l) → Apart E A → Apart E' (A.map φ) := by
    intro A
    induction A with
    | nil => intro _ _; trivial
    | cons a A ih =>
      intro hA hp
      refine ⟨fun b hb => ?_, ih (fun s h => hA s (List.mem_cons_of_mem _ h)) hp.2⟩
      obtain ⟨c, hc, e⟩ := List.mem_map.mp hb
      rw [← e]
      exact fun z => hp.1 c hc ((hE a c (hA a (List.mem_cons_self ..)) (hA c (List.mem_cons_of_mem _ hc))).mp z)
  have hs' : ∀ s t, s ∈ l' → t ∈ l' → E' s t → E' t s := fun s t p q z => by
    obtain ⟨x, hx, rfl⟩ := h2 s p
    obtain ⟨y, hy, rfl⟩ := h2 t q
    exact (hE y x hy hx).mpr (hs x y hx hy ((hE x y hx hy).mp z))
  have ht' : ∀ s t u, s ∈ l' → t ∈ l' → u ∈ l' → E' s t → E' t u → E' s u := fun s t u p q r z1 z2 => by
    obtain ⟨x, hx, rfl⟩ := h2 s p
    obtain ⟨y, hy, rfl⟩ := h2 t q
    obtain ⟨v, hv, rfl⟩ := h2 u r
    exact (hE x v hx hv).mpr (ht x y v hx hy hv ((hE x y hx hy).mp z1) ((hE y v hy hv).mp z2))
  have hr' : ∀ t, t ∈ l' → E' t t := fun t p => by
    obtain ⟨x, hx, rfl⟩ := h2 t p
    exact (hE x x hx hx).mpr (hr x hx)
  have mapIn : ∀ t, t ∈ (reps E [] l).map φ → t ∈ l' := fun t h => by
    obtain ⟨s, hs0, rfl⟩ := List.mem_map.mp h
    exact h1 s (in1 s hs0)
  have le1 : (reps E' [] l').length ≤ ((reps E [] l).map φ).length := by
    refine apart_le _ _ a2 (fun a b c ha hc hb h3 h4 => ht' a b c (in2 a ha) (mapIn b hb) (in2 c hc) h3 (hs' c b (in2 c hc) (mapIn b hb) h4)) fun a ha => ?_
    obtain ⟨x, hx, rfl⟩ := h2 a (in2 a ha)
    obtain ⟨r, hr1, hr2⟩ := reps_all (E := E) (fun _ => .inr trivial) l [] x hx (hr x hx)
    exact ⟨φ r, List.mem_map.mpr ⟨r, hr1, rfl⟩, (hE x r hx (in1 r hr1)).mpr (hs r x (in1 r hr1) hx hr2)⟩
  have le2 : ((reps E [] l).map φ).length ≤ (reps E' [] l').length := by
    refine apart_le _ _ (mp _ in1 a1) (fun a b c ha hc hb h3 h4 => ht' a b c (mapIn a ha) (in2 b hb) (mapIn c hc) h3 (hs' c b (mapIn c hc) (in2 b hb) h4)) fun a ha => ?_
    obtain ⟨r, hr1, hr2⟩ := reps_all (E := E') (fun _ => .inr trivial) l' [] a (mapIn a ha) (hr' a (mapIn a ha))
    exact ⟨r, hr1, hs' r a (in2 r hr1) (mapIn a ha) hr2⟩
  rw [List.length_map] at le1 le2
  omega
end
end Sand

set_option Elab.async false
set_option maxRecDepth 100000
namespace Sand
/-! ### boards, squares, points -/
abbrev Pt := Int × Int
structure Bd where
  w : Int
  h : Int
  k : Int → Int → Option Bool
/-- the two points of a square -/
def ends (s : Pt) : Pt × Pt := if (s.1 + s.2) % 2 = 0 then ((s.1, s.2 + 1), (s.1 + 1, s.2)) else ((s.1, s.2), (s.1 + 1, s.2 + 1))
def other (s p : Pt) : Pt := if p = (ends s).1 then (ends s).2 else (ends s).1
/-- which coordinates change at a point -/
def dirs (B : Bd) (p : Pt) : Bool × Bool :=
  if p.1 = 0 ∨ p.1 = 2 * B.w then (false, true) else
  if p.2 = 0 ∨ p.2 = 2 * B.h then (true, false) else
  match B.k p.1 p.2 with
  | some true => (true, false)
  | some false => (false, true)
  | none => (true, true)
/-- the square behind a point -/
def aft (d : Bool × Bool) (s p : Pt) : Pt := (if d.1 then 2 * p.1 - 1 - s.1 else s.1, if d.2 then 2 * p.2 - 1 - s.2 else s.2)
def after (B : Bd) (s p : Pt) : Pt := aft (dirs B p) s p
theorem dirs_some (B : Bd) (p : Pt) : (dirs B p).1 = true ∨ (dirs B p).2 = true := by
  unfold dirs
  split
  · exact .inr rfl
  · split
    · exact .inl rfl
    · split
      · exact .inl rfl
      · exact .inr rfl
      · exact .inl rfl
theorem dirs_x {B : Bd} {p : Pt} (h : (dirs B p).1 = true) : p.1 ≠ 0 ∧ p.1 ≠ 2 * B.w := by
  unfold dirs at h
  split at h
  · cases h
  · rename_i q
    exact ⟨fun e => q (.inl e), fun e => q (.inr e)⟩
theorem dirs_y {B : Bd} {p : Pt} (hp : (p.1 + p.2) % 2 = 1) (h : (dirs B p).2 = true) : p.2 ≠ 0 ∧ p.2 ≠ 2 * B.h := by
  unfold dirs at h
  split at h
  · rename_i q
    omega
  · split at h
    · cases h
    · rename_i q
      exact ⟨fun e => q (.inl e), fun e => q (.inr e)⟩
def On (B : Bd) (s : Pt) : Prop := 0 ≤ s.1 ∧ s.1 < 2 * B.w ∧ 0 ≤ s.2 ∧ s.2 < 2 * B.h
def IsEnd (s p : Pt) : Prop := (p.1 = s.1 ∨ p.1 = s.1 + 1) ∧ (p.2 = s.2 ∨ p.2 = s.2 + 1) ∧ (p.1 + p.2) % 2 = 1
theorem isEnd_iff (s p : Pt) : IsEnd s p ↔ p = (ends s).1 ∨ p = (ends s).2 := by
  obtain ⟨i, j⟩ := s
  obtain ⟨x, y⟩ := p
  unfold IsEnd ends
  simp only
  split <;> simp only [Prod.mk.injEq] <;> omega
theorem ends_ne (s : Pt) : (ends s).1 ≠ (ends s).2 := by
  unfold ends
  split <;> simp only [ne_eq, Prod.mk.injEq] <;> omega
theorem other_end {s p : Pt} (h : IsEnd s p) : IsEnd s (other s p) := by
  rw [isEnd_iff]
  unfold other
  split
  · exact .inr rfl
  · exact .inl rfl
theorem other_other {s p : Pt} (h : IsEnd s p) : other s (other s p) = p := by
  rcases (isEnd_iff s p).mp h with e | e
  · subst e
    unfold other
    simp only [if_true]
    rw [if_neg (ends_ne s).symm]
  · subst e
    unfold other
    rw [if_neg (ends_ne s).symm, if_pos rfl]
theorem other_ne {s p : Pt} (h : IsEnd s p) : other s p ≠ p := by
  rcases (isEnd_iff s p).mp h with e | e
  · subst e
    unfold other
    simp only [if_true]
    exact (ends_ne s).symm
  · subst e
    unfold other
    rw [if_neg (ends_ne s).symm]
    exact ends_ne s
theorem two_ends {s p q : Pt} (hp : IsEnd s p) (hq : IsEnd s q) : q = p ∨ q = other s p := by
  rcases (isEnd_iff s p).mp hp with e | e <;> rcases (isEnd_iff s q).mp hq with e' | e'
  · exact .inl (by rw [e, e'])
  · exact .inr (by rw [e', e]; unfold other; rw [if_pos rfl])
  · exact .inr (by rw [e', e]; unfold other; rw [if_neg (ends_ne s).symm])
  · exact .inl (by rw [e, e'])
theorem after_end (B : Bd) {s p : Pt} (h : IsEnd s p) : IsEnd (after B s p) p := by
  obtain ⟨i, j⟩ := s
  obtain ⟨x, y⟩ := p
  unfold IsEnd at h ⊢
  unfold after aft
  simp only at h ⊢
  cases (dirs B (x, y)).1 <;> cases (dirs B (x, y)).2 <;> simp only [if_true, Bool.false_eq_true, if_false] <;> omega
theorem after_on (B : Bd) {s p : Pt} (h : IsEnd s p) (ho : On B s) : On B (after B s p) := by
  have h1 := @dirs_x B p
  have h2 := @dirs_y B p h.2.2
  obtain ⟨i, j⟩ := s
  obtain ⟨x, y⟩ := p
  unfold IsEnd at h
  unfold On at ho ⊢
  unfold after aft
  simp only at h ho h1 h2 ⊢
  generalize (dirs B (x, y)).1 = a at h1 ⊢
  generalize (dirs B (x, y)).2 = b at h2 ⊢
  cases a <;> cases b <;> simp only [if_true, Bool.false_eq_true, if_false, forall_const] at h1 h2 ⊢ <;> omega
theorem after_after (B : Bd) (s p : Pt) : after B (after B s p) p = s := by
  obtain ⟨i, j⟩ := s
  obtain ⟨x, y⟩ := p
  unfold after aft
  cases (dirs B (x, y)).1 <;> cases (dirs B (x, y)).2 <;> simp only [if_true, Bool.false_eq_true, if_false] <;> refine Prod.ext ?_ ?_ <;> simp only <;> omega
theorem after_ne (B : Bd) (s p : Pt) : after B s p ≠ s := by
  have h := dirs_some B p
  obtain ⟨i, j⟩ := s
  obtain ⟨x, y⟩ := p
  unfold after aft
  generalize (dirs B (x, y)).1 = a at h ⊢
  generalize (dirs B (x, y)).2 = b at h ⊢
  intro e
  cases a <;> cases b <;> simp only [if_true, Bool.false_eq_true, if_false, Prod.mk.injEq, or_self] at h e <;> omega
/-- all squares, row of columns by column, as the program goes through them -/
def upto (n : Int) : List Int := (List.range n.toNat).map fun (i : Nat) => (i : Int)
theorem mem_upto {n i : Int} : i ∈ upto n ↔ 0 ≤ i ∧ i < n := by
  unfold upto
  simp only [List.mem_map, List.mem_range]
  constructor
  · rintro ⟨a, h, rfl⟩
    omega
  · rintro ⟨h1, h2⟩
    exact ⟨i.toNat, by omega, by omega⟩
def sqs (B : Bd) : List Pt := (upto (2 * B.w)).flatMap fun i => (upto (2 * B.h)).map fun j => (i, j)
theorem mem_sqs {B : Bd} {s : Pt} : s ∈ sqs B ↔ On B s := by
  obtain ⟨i, j⟩ := s
  unfold sqs On
  simp only [List.mem_flatMap, List.mem_map, mem_upto, Prod.mk.injEq]
  constructor
  · rintro ⟨a, ⟨h1, h2⟩, b, ⟨h3, h4⟩, rfl, rfl⟩
    exact ⟨h1, h2, h3, h4⟩
  · rintro ⟨h1, h2, h3, h4⟩
    exact ⟨i, ⟨h1, h2⟩, j, ⟨h3, h4⟩, rfl, rfl⟩
/-- the walk along the threads: a square and the point to which one goes -/
def flow (B : Bd) : Flow (Pt × Pt) Pt where
  V := fun d => On B d.1 ∧ IsEnd d.1 d.2
  f := fun d => (after B d.1 d.2, other (after B d.1 d.2) d.2)
  R := fun d => (d.1, other d.1 d.2)
  sq := fun d => d.1
  L := (sqs B).flatMap fun s => [(s, (ends s).1), (s, (ends s).2)]
  hL := fun d ⟨h1, h2⟩ => by
    obtain ⟨s, p⟩ := d
    refine List.mem_flatMap.mpr ⟨s, mem_sqs.mpr h1, ?_⟩
    rcases (isEnd_iff s p).mp h2 with e | e
    · rw [show p = (ends s).1 from e]; exact List.mem_cons_self ..
    · rw [show p = (ends s).2 from e]; exact List.mem_cons_of_mem _ (List.mem_cons_self ..)
  vf := fun d ⟨h1, h2⟩ => ⟨after_on B h2 h1, other_end (after_end B h2)⟩
  vR := fun d ⟨h1, h2⟩ => ⟨h1, other_end h2⟩
  RR := fun d ⟨h1, h2⟩ => by
    show (d.1, other d.1 (other d.1 d.2)) = d
    rw [other_other h2]
  sR := fun _ _ => rfl
  nR := fun d ⟨h1, h2⟩ e => other_ne h2 (congrArg Prod.snd e)
  two := fun d e ⟨_, h2⟩ ⟨_, h4⟩ hs => by
    obtain ⟨s, p⟩ := d
    obtain ⟨t, q⟩ := e
    have hs : s = t := hs
    subst hs
    rcases two_ends h2 h4 with z | z
    · exact .inl (congrArg (fun y => (s, y)) z)
    · exact .inr (congrArg (fun y => (s, y)) z)
  fRf := fun d ⟨h1, h2⟩ => by
    obtain ⟨s, p⟩ := d
    show (after B (after B s p) (other (after B s p) (other (after B s p) p)), other (after B (after B s p) (other (after B s p) (other (after B s p) p))) (other (after B s p) (other (after B s p) p))) = (s, other s p)
    rw [other_other (after_end B h2), after_after]
  sf := fun d _ => after_ne B d.1 d.2
/-- two squares on one thread -/
def Cn (B : Bd) (s t : Pt) : Prop := (flow B).Conn s t
theorem Cn.symm {B : Bd} {s t : Pt} (h : Cn B s t) : Cn B t s := Flow.Conn.symm _ h
theorem Cn.trans {B : Bd} {s t u : Pt} (h : Cn B s t) (h' : Cn B t u) : Cn B s u := Flow.Conn.trans _ h h'
theorem On.st {B : Bd} {s : Pt} (h : On B s) : (flow B).V (s, (ends s).1) := ⟨h, (isEnd_iff _ _).mpr (.inl rfl)⟩
theorem Cn.refl {B : Bd} {s : Pt} (h : On B s) : Cn B s s := Flow.Conn.refl _ h.st
theorem Cn.on {B : Bd} {s t : Pt} (h : Cn B s t) : On B s ∧ On B t := by
  obtain ⟨d, n, hd, rfl, rfl⟩ := h
  exact ⟨hd.1, ((flow B).vit n d hd).1⟩
/-- one square of each thread, in the program's order; how many threads; the index of a square's thread -/
noncomputable def cls (B : Bd) : List Pt := reps (Cn B) [] (sqs B)
noncomputable def num (B : Bd) : Nat := (cls B).length
theorem cls_on {B : Bd} {s : Pt} (h : s ∈ cls B) : On B s := (reps_mem _ _ _ h).elim (fun z => absurd z (by simp)) mem_sqs.mp
theorem cls_apart (B : Bd) : Apart (Cn B) (cls B) := reps_apart _ _ trivial
theorem cls_all {B : Bd} {s : Pt} (h : On B s) : ∃ a, a ∈ cls B ∧ Cn B a s := reps_all (fun _ => .inr trivial) _ _ s (mem_sqs.mpr h) (Cn.refl h)
open Classical in
/-- the place of the first of a list to whose thread a square belongs -/
noncomputable def ixOf (B : Bd) : List Pt → Pt → Option Nat
  | [], _ => none
  | a :: l, s => if Cn B a s then some 0 else (ixOf B l s).map (· + 1)
/-! ### turns -/
inductive Way where
  | same | quarter | half | back | flip | mirror | cross | anti
  deriving DecidableEq
def Way.ex : Way → Bool
  | .quarter | .back | .cross | .anti => true
  | _ => false
/-- where a place comes, W and H the greatest coordinates -/
def plc (y : Way) (W H : Int) (p : Pt) : Pt := match y with
  | .same => p
  | .quarter => (H - p.2, p.1)
  | .half => (W - p.1, H - p.2)
  | .back => (p.2, W - p.1)
  | .flip => (p.1, H - p.2)
  | .mirror => (W - p.1, p.2)
  | .cross => (p.2, p.1)
  | .anti => (H - p.2, W - p.1)
theorem plc_inj {y : Way} {W H : Int} {p q : Pt} (h : plc y W H p = plc y W H q) : p = q := by
  obtain ⟨a, b⟩ := p
  obtain ⟨c, d⟩ := q
  cases y <;> simp only [plc, Prod.mk.injEq] at h ⊢ <;> omega
def sw (y : Way) (b : Bool) : Bool := if y.ex then !b else b
/-- the square's, the point's new place -/
abbrev sPl (y : Way) (B : Bd) (s : Pt) : Pt := plc y (2 * B.w - 1) (2 * B.h - 1) s
abbrev pPl (y : Way) (B : Bd) (p : Pt) : Pt := plc y (2 * B.w) (2 * B.h) p
structure Turned (y : Way) (B B' : Bd) : Prop where
  w : B'.w = if y.ex then B.h else B.w
  h : B'.h = if y.ex then B.w else B.h
  k : ∀ p : Pt, B'.k (pPl y B p).1 (pPl y B p).2 = (B.k p.1 p.2).map (sw y)
theorem Turned.on {y : Way} {B B' : Bd} (t : Turned y B B') {s : Pt} (h : On B s) : On B' (sPl y B s) := by
  obtain ⟨i, j⟩ := s
  have hw := t.w
  have hh := t.h
  unfold On at h ⊢
  cases y <;> simp only [plc, Way.ex, if_true, Bool.false_eq_true, if_false] at h hw hh ⊢ <;> rw [hw, hh] <;> omega
theorem Turned.onto {y : Way} {B B' : Bd} (t : Turned y B B') {s : Pt} (h : On B' s) : ∃ r, On B r ∧ sPl y B r = s := by
  obtain ⟨i, j⟩ := s
  have hw := t.w
  have hh := t.h
  unfold On at h
  rw [hw, hh] at h
  cases y <;> simp only [plc, Way.ex, if_true, Bool.false_eq_true, if_false, On] at h ⊢
  · exact ⟨(i, j), h, rfl⟩
  · exact ⟨(j, 2 * B.h - 1 - i), by simp only; omega, Prod.ext (by show 2 * B.h - 1 - (2 * B.h - 1 - i) = i; omega) rfl⟩
  · exact ⟨(2 * B.w - 1 - i, 2 * B.h - 1 - j), by simp only; omega, Prod.ext (by show 2 * B.w - 1 - (2 * B.w - 1 - i) = i; omega) (by show 2 * B.h - 1 - (2 * B.h - 1 - j) = j; omega)⟩
  · exact ⟨(2 * B.w - 1 - j, i), by simp only; omega, Prod.ext rfl (by show 2 * B.w - 1 - (2 * B.w - 1 - j) = j; omega)⟩
  · exact ⟨(i, 2 * B.h - 1 - j), by simp only; omega, Prod.ext rfl (by show 2 * B.h - 1 - (2 * B.h - 1 - j) = j; omega)⟩
  · exact ⟨(2 * B.w - 1 - i, j), by simp only; omega, Prod.ext (by show 2 * B.w - 1 - (2 * B.w - 1 - i) = i; omega) rfl⟩
  · exact ⟨(j, i), by simp only; omega, rfl⟩
  · exact ⟨(2 * B.w - 1 - j, 2 * B.h - 1 - i), by simp only; omega, Prod.ext (by show 2 * B.h - 1 - (2 * B.h - 1 - i) = i; omega) (by show 2 * B.w - 1 - (2 * B.w - 1 - j) = j; omega)⟩
theorem Turned.isEnd {y : Way} {B : Bd} {s p : Pt} (h : IsEnd s p) : IsEnd (sPl y B s) (pPl y B p) := by
  obtain ⟨i, j⟩ := s
  obtain ⟨a, b⟩ := p
  unfold IsEnd at h ⊢
  cases y <;> simp only [plc] at h ⊢ <;> omega
theorem Turned.other {y : Way} {B : Bd} {s p : Pt} (h : IsEnd s p) : other (sPl y B s) (pPl y B p) = pPl y B (Sand.other s p) := by
  rcases two_ends (Turned.isEnd (y := y) (B := B) h) (Turned.isEnd (y := y) (B := B) (other_end h)) with e | e
  · exact absurd (plc_inj e) (other_ne h)
  · exact e.symm
/-- the directions from what the place is -/
def dir (u v : Prop) [Decidable u] [Decidable v] (k : Option Bool) : Bool × Bool :=
  if u then (false, true) else if v then (true, false) else match k with
  | some true => (true, false)
  | some false => (false, true)
  | none => (true, true)
theorem dir_congr {u v u' v' : Prop} [Decidable u] [Decidable v] [Decidable u'] [Decidable v'] {k k' : Option Bool} (hu : u ↔ u') (hv : v ↔ v') (hk : k = k') : dir u v k = dir u' v' k' := by
  subst hk
  unfold dir
  by_cases h : u
  · rw [if_pos h, if_pos (hu.mp h)]
  · rw [if_neg h, if_neg fun z => h (hu.mpr z)]
    by_cases h2 : v
    · rw [if_pos h2, if_pos (hv.mp h2)]
    · rw [if_neg h2, if_neg fun z => h2 (hv.mpr z)]
theorem dir_swap {u v : Prop} [Decidable u] [Decidable v] {k : Option Bool} (h : ¬ (u ∧ v)) : dir v u (k.map not) = ((dir u v k).2, (dir u v k).1) := by
  unfold dir
  by_cases h1 : u
  · rw [if_pos h1, if_neg fun z => h ⟨h1, z⟩, if_pos h1]
  · by_cases h2 : v
    · simp only [if_neg h1, if_pos h2]
    · rw [if_neg h2, if_neg h1, if_neg h1, if_neg h2]
      cases k with
      | none => rfl
      | some b => cases b <;> rfl
theorem dirs_dir (B : Bd) (p : Pt) : dirs B p = dir (p.1 = 0 ∨ p.1 = 2 * B.w) (p.2 = 0 ∨ p.2 = 2 * B.h) (B.k p.1 p.2) := rfl
theorem Turned.dirs {y : Way} {B B' : Bd} (t : Turned y B B') {p : Pt} (hp : (p.1 + p.2) % 2 = 1) : dirs B' (pPl y B p) = if y.ex then ((Sand.dirs B p).2, (Sand.dirs B p).1) else Sand.dirs B p := by
  have hk := t.k p
  obtain ⟨a, b⟩ := p
  have hw := t.w
  have hh := t.h
  simp only at hp
  have hx : ¬ ((a = 0 ∨ a = 2 * B.w) ∧ (b = 0 ∨ b = 2 * B.h)) := by omega
  have sw1 : ∀ z : Way, z.ex = true → sw z = not := fun z e => funext fun c => by unfold sw; rw [if_pos e]
  have sw0 : ∀ z : Way, z.ex = false → sw z = id := fun z e => funext fun c => by unfold sw; rw [e]; rfl
  rw [dirs_dir, dirs_dir, hk]
  cases y
  all_goals
    simp only [plc, Way.ex, if_true, Bool.false_eq_true, if_false] at hw hh ⊢
    rw [hw, hh]
    first
      | (rw [← dir_swap hx, sw1 _ rfl]; exact dir_congr (by omega) (by omega) rfl)
      | (rw [← dir_swap hx, sw1 _ rfl]; done)
      | (rw [sw0 _ rfl, Option.map_id]; exact dir_congr (by omega) (by omega) rfl)
theorem Turned.after {y : Way} {B B' : Bd} (t : Turned y B B') {s p : Pt} (h : IsEnd s p) : after B' (sPl y B s) (pPl y B p) = sPl y B (Sand.after B s p) := by
  unfold Sand.after
  rw [t.dirs h.2.2]
  obtain ⟨i, j⟩ := s
  obtain ⟨a, b⟩ := p
  generalize Sand.dirs B (a, b) = d
  obtain ⟨c, e⟩ := d
  cases y <;> cases c <;> cases e <;> simp only [aft, plc, Way.ex, if_true, Bool.false_eq_true, if_false] <;> refine Prod.ext ?_ ?_ <;> simp only <;> omega
theorem Turned.drawn {y : Way} {B B' : Bd} (t : Turned y B B') : Onto (flow B) (flow B') (fun d => (sPl y B d.1, pPl y B d.2)) (sPl y B) where
  v := fun d ⟨h1, h2⟩ => ⟨t.on h1, Turned.isEnd h2⟩
  f := fun d ⟨h1, h2⟩ => by
    show (Sand.after B' (sPl y B d.1) (pPl y B d.2), Sand.other (Sand.after B' (sPl y B d.1) (pPl y B d.2)) (pPl y B d.2)) = (sPl y B (Sand.after B d.1 d.2), pPl y B (Sand.other (Sand.after B d.1 d.2) d.2))
    rw [t.after h2, Turned.other (after_end B h2)]
  R := fun d ⟨h1, h2⟩ => by
    show (sPl y B d.1, Sand.other (sPl y B d.1) (pPl y B d.2)) = (sPl y B d.1, pPl y B (Sand.other d.1 d.2))
    rw [Turned.other h2]
  sq := fun _ _ => rfl
  inj := fun _ _ _ _ h => plc_inj h
theorem Turned.cn {y : Way} {B B' : Bd} (t : Turned y B B') {r s : Pt} (hr : On B r) (hs : On B s) : Cn B' (sPl y B r) (sPl y B s) ↔ Cn B r s := t.drawn.conn hr.st hs.st
theorem Turned.num {y : Way} {B B' : Bd} (t : Turned y B B') : num B' = num B := by
  refine reps_len (φ := sPl y B) (fun s h => mem_sqs.mpr (t.on (mem_sqs.mp h))) (fun s h => ?_) (fun r s hr hs => t.cn (mem_sqs.mp hr) (mem_sqs.mp hs)) (fun s h => Cn.refl (mem_sqs.mp h)) (fun _ _ _ _ => Cn.symm) (fun _ _ _ _ _ _ => Cn.trans)
  obtain ⟨r, h1, h2⟩ := t.onto (mem_sqs.mp h)
  exact ⟨r, mem_sqs.mpr h1, h2⟩
/-! ### mirrors -/
abbrev Mir := Int × Int × Bool
def add (B : Bd) (m : Mir) : Bd := { B with k := fun a b => if a = m.1 ∧ b = m.2.1 then some m.2.2 else B.k a b }
def tMir (y : Way) (B : Bd) (m : Mir) : Mir := ((pPl y B (m.1, m.2.1)).1, (pPl y B (m.1, m.2.1)).2, sw y m.2.2)
theorem Turned.add {y : Way} {B B' : Bd} (t : Turned y B B') (m : Mir) : Turned y (add B m) (add B' (tMir y B m)) := by
  refine ⟨t.w, t.h, fun p => ?_⟩
  have hk := t.k p
  have e : ∀ q : Pt, pPl y (Sand.add B m) q = pPl y B q := fun _ => rfl
  rw [e]
  show (if (pPl y B p).1 = (pPl y B (m.1, m.2.1)).1 ∧ (pPl y B p).2 = (pPl y B (m.1, m.2.1)).2 then some (sw y m.2.2) else B'.k (pPl y B p).1 (pPl y B p).2) = ((if p.1 = m.1 ∧ p.2 = m.2.1 then some m.2.2 else B.k p.1 p.2)).map (sw y)
  by_cases h : p.1 = m.1 ∧ p.2 = m.2.1
  · have ep : p = (m.1, m.2.1) := Prod.ext h.1 h.2
    rw [if_pos h, if_pos ⟨by rw [ep], by rw [ep]⟩]
    rfl
  · rw [if_neg h, if_neg fun z => h ?_, hk]
    have ep : p = (m.1, m.2.1) := plc_inj (Prod.ext z.1 z.2)
    exact ⟨congrArg Prod.fst ep, congrArg Prod.snd ep⟩
def grow (B : Bd) (ms : List Mir) : Bd := ms.foldl add B
theorem grow_w (B : Bd) : ∀ ms : List Mir, (grow B ms).w = B.w ∧ (grow B ms).h = B.h := fun ms => by
  induction ms generalizing B with
  | nil => exact ⟨rfl, rfl⟩
  | cons m ms ih => exact ih (add B m)
theorem Turned.grow {y : Way} : ∀ (ms : List Mir) {B B' : Bd}, Turned y B B' → Turned y (grow B ms) (grow B' (ms.map (tMir y B)))
  | [], _, _, t => t
  | m :: ms, B, B', t => Turned.grow ms (t.add m)
end Sand

set_option Elab.async false
set_option linter.all false
set_option maxRecDepth 100000
set_option maxHeartbeats 4000000
/-! Data that is never changed, seen in a part G of the heap H; steps that keep it. -/
namespace Sand
open PySem PySem.Spec PyProof.Rows L2
/-- no code object's table -/
def NT (o : HO) : Prop := ∀ ps, o ≠ .tbl ps
/-- neither a table nor a code object: what a def may store to -/
def Pl : HO → Prop
  | .tbl _ => False
  | .ext _ => False
  | _ => True
theorem Pl.nt {o : HO} (h : Pl o) : NT o := fun ps e => by rw [e] at h; exact h
/-- something stands there (tables aside) -/
def Std (H : Hp) (b : Addr) : Prop := ∃ o, H b = some o ∧ NT o
theorem Std.not {H : Hp} {b : Addr} (h : H b = none) : ¬ Std H b := fun ⟨o, e, _⟩ => by rw [h] at e; cases e
/-- from (G, H) to (G', H'): but for M and tables nothing that stood is changed; G only grows, by new things -/
structure Go (tb : Addr × Str) (M : Addr → Prop) (G H G' H' : Hp) : Prop where
  kp : ∀ b o, H b = some o → NT o → ¬ M b → H' b = some o
  ex : ∀ b, Std H b → Std H' b
  gg : Same G G'
  gh : Same G' H'
  nc : ∀ b o', Std H b → G' b = some o' → G b = some o'
  nt : ∀ b o, G' b = some o → NT o
  tt : LamX.TabS H' tb.1 tb.2
  t0 : LamX.TabS H tb.1 tb.2
/-- a part of things that stay, the table as it should be -/
abbrev Vw (tb : Addr × Str) (G H : Hp) : Prop := Go tb (fun _ => False) G H G H
section
variable {tb : Addr × Str} {M : Addr → Prop} {G H G1 H1 G2 H2 : Hp} {D p : Addr} {o o' : HO}
theorem Go.vw (h : Go tb M G H G1 H1) : Vw tb G1 H1 := ⟨fun _ _ e _ _ => e, fun _ e => e, fun _ _ e => e, h.gh, fun _ _ _ e => e, h.nt, h.tt, h.tt⟩
theorem Go.refl (h : Vw tb G H) : Go tb M G H G H := ⟨fun _ _ e _ _ => e, fun _ e => e, fun _ _ e => e, h.gh, fun _ _ _ e => e, h.nt, h.tt, h.tt⟩
theorem Go.weak {M' : Addr → Prop} (h : Go tb M G H G1 H1) (w : ∀ b, M b → M' b) : Go tb M' G H G1 H1 := ⟨fun b o e n m => h.kp b o e n fun z => m (w b z), h.ex, h.gg, h.gh, h.nc, h.nt, h.tt, h.t0⟩
/-- with a smaller view -/
theorem Go.small (h : Go tb M G H G1 H1) : Go tb M G H G H1 := ⟨h.kp, h.ex, fun _ _ e => e, fun b o e => h.gh b o (h.gg b o e), fun _ _ _ e => e, fun b o e => h.nt b o (h.gg b o e), h.tt, h.t0⟩
theorem Go.trans (h : Go tb M G H G1 H1) (k : Go tb M G1 H1 G2 H2) : Go tb M G H G2 H2 :=
  ⟨fun b o e n m => k.kp b o (h.kp b o e n m) n m, fun b e => k.ex b (h.ex b e), fun b o e => k.gg b o (h.gg b o e), k.gh, fun b o' e e' => h.nc b o' e (k.nc b o' (h.ex b e) e'), k.nt, k.tt, h.t0⟩
/-- a new thing, not in the view -/
theorem Go.new (h : Go tb M G H G1 H1) (hp : H1 p = none) : Go tb M G H G1 (upd H1 p o) := by
  have ke : ∀ b u, H1 b = some u → upd H1 p o b = some u := fun b u e => by rw [upd_ne (ne_of_none e hp)]; exact e
  refine ⟨fun b u e n m => ke b u (h.kp b u e n m), fun b e => ?_, h.gg, fun b u e => ke b u (h.gh b u e), h.nc, h.nt, h.tt.ext ke, h.t0⟩
  obtain ⟨u, e1, e2⟩ := h.ex b e
  exact ⟨u, ke b u e1, e2⟩
/-- a new thing of the view -/
theorem Go.newG (h : Go tb M G H G1 H1) (hp : H1 p = none) (ho : Pl o) : Go tb M G H (upd G1 p o) (upd H1 p o) := by
  have n := h.new (o := o) hp
  have gp : G1 p = none := h.gh.free hp
  refine ⟨n.kp, n.ex, fun b u e => ?_, fun b u e => ?_, fun b u' e e' => ?_, fun b u e => ?_, n.tt, n.t0⟩
  · have e1 := h.gg b u e
    rw [upd_ne (ne_of_none e1 gp)]; exact e1
  · by_cases hb : b = p
    · rw [hb, upd_same] at e ⊢; exact e
    · rw [upd_ne hb] at e ⊢; exact h.gh b u e
  · have hb : b ≠ p := fun z => Std.not hp (z ▸ h.ex b e)
    rw [upd_ne hb] at e'
    exact h.nc b u' e e'
  · by_cases hb : b = p
    · rw [hb, upd_same] at e
      rw [← Option.some.inj e]; exact ho.nt
    · rw [upd_ne hb] at e; exact h.nt b u e
/-- a thing of one's own is changed -/
theorem Go.put (h : Go tb M G H G1 H1) (hD : H1 D = some o) (po : Pl o) (ow : ¬ Std H D ∨ M D) (gD : G1 D = none) (po' : Pl o') : Go tb M G H G1 (upd H1 D o') := by
  have nT : tb.1 ≠ D := by
    obtain ⟨ps, e, _⟩ := h.tt
    exact ne_of e hD fun z => by rw [← z] at po; exact po
  refine ⟨fun b u e n m => ?_, fun b e => ?_, h.gg, fun b u e => ?_, h.nc, h.nt, ?_, h.t0⟩
  · have hb : b ≠ D := fun z => by
      rcases ow with q | q
      · exact q ⟨u, z ▸ e, n⟩
      · exact m (z ▸ q)
    rw [upd_ne hb]; exact h.kp b u e n m
  · by_cases hb : b = D
    · rw [hb]; exact ⟨o', upd_same, po'.nt⟩
    · obtain ⟨u, e1, e2⟩ := h.ex b e
      exact ⟨u, by rw [upd_ne hb]; exact e1, e2⟩
  · rw [upd_ne fun z => by rw [z, gD] at e; cases e]
    exact h.gh b u e
  · obtain ⟨ps, e1, e2, e3⟩ := h.tt
    refine ⟨ps, by rw [upd_ne nT]; exact e1, e2, fun pos cv hc => ?_⟩
    obtain ⟨c, h1, h2⟩ := e3 pos cv hc
    refine ⟨c, h1, ?_⟩
    rw [upd_ne (ne_of h2 hD fun z => by rw [← z] at po; exact po)]; exact h2
/-- what was one's own comes into the view -/
theorem Go.freeze (h : Go tb M G H G1 H1) (hD : H1 D = some o) (po : Pl o) (h0 : ¬ Std H D) (gD : G1 D = none) : Go tb M G H (upd G1 D o) H1 := by
  refine ⟨h.kp, h.ex, fun b u e => ?_, fun b u e => ?_, fun b u' e e' => ?_, fun b u e => ?_, h.tt, h.t0⟩
  · have e1 := h.gg b u e
    rw [upd_ne (ne_of_none e1 gD)]; exact e1
  · by_cases hb : b = D
    · rw [hb, upd_same] at e
      rw [hb, ← e]; exact hD
    · rw [upd_ne hb] at e; exact h.gh b u e
  · have hb : b ≠ D := fun z => h0 (z ▸ e)
    rw [upd_ne hb] at e'
    exact h.nc b u' e e'
  · by_cases hb : b = D
    · rw [hb, upd_same] at e
      rw [← Option.some.inj e]; exact po.nt
    · rw [upd_ne hb] at e; exact h.nt b u e
/-- what stands outside the view stays outside -/
theorem Go.out (h : Go tb M G H G1 H1) (hD : H D = some o) (po : Pl o) (gD : G D = none) : G1 D = none := by
  cases e : G1 D with
  | none => rfl
  | some u => rw [h.nc D u ⟨o, hD, po.nt⟩ e] at gD; cases gD
theorem Go.loc (h : Go tb M G H G1 H1) (hD : H D = some o) (po : Pl o) (m : ¬ M D) : H1 D = some o := h.kp D o hD po.nt m
theorem Go.fresh (h : Go tb M G H G1 H1) (hp : H1 p = none) : ¬ Std H p := fun z => Std.not hp (h.ex p z)
theorem Go.seqL {K : PySem.W.Frag} {a : Addr} {xs : List V} (h : Go tb M G H G1 H1) (m : ¬ M a) (e : SqL K H a xs) : SqL K H1 a xs := by
  rcases e with e | e
  · rcases e with e | ⟨u, e⟩
    · exact .inl (.inl (h.kp _ _ e (fun _ z => by cases z) m))
    · exact .inl (.inr ⟨u, h.kp _ _ e (fun _ z => by cases z) m⟩)
  · exact .inr e
/-- a lambda was made: tables may have grown -/
theorem Go.ext (h : Go tb M G H G1 H1) (e : LamX.ExtN H1 H2) (t : LamX.TabS H2 tb.1 tb.2) : Go tb M G H G1 H2 :=
  ⟨fun b o q n m => e b o (h.kp b o q n m) n, fun b q => let ⟨u, a, n⟩ := h.ex b q; ⟨u, e b u a n, n⟩, h.gg, fun b o q => e b o (h.gh b o q) (h.nt b o q), h.nc, h.nt, t, h.t0⟩
end
/-! ### data in the view -/
mutual
inductive At (G : Hp) : V → PyData → Prop
  | non : At G .non .none
  | bl (b : Bool) : At G (.bl b) (.bool b)
  | int (i : Int) : At G (.int i) (.int i)
  | str (x : Str) : At G (.str x) (.str x)
  | lst {a : Addr} {xs : List V} {ds : List PyData} : G a = some (.lst xs) → AtAll G xs ds → At G (.ref a) (.list ds)
  | tup {a : Addr} {xs : List V} {ds : List PyData} : G a = some (.tup xs) → AtAll G xs ds → At G (.ref a) (.tuple ds)
inductive AtAll (G : Hp) : List V → List PyData → Prop
  | nil : AtAll G [] []
  | cons {v : V} {vs : List V} {d : PyData} {ds : List PyData} : At G v d → AtAll G vs ds → AtAll G (v :: vs) (d :: ds)
end
mutual
theorem At.mono {G G' : Hp} (s : Same G G') : ∀ (d : PyData) {v : V}, At G v d → At G' v d
  | .none, _, h => by cases h; exact .non
  | .bool b, _, h => by cases h; exact .bl b
  | .int i, _, h => by cases h; exact .int i
  | .str x, _, h => by cases h; exact .str x
  | .list ds, _, h => by cases h with | lst e a => exact .lst (s _ _ e) (AtAll.mono s ds a)
  | .tuple ds, _, h => by cases h with | tup e a => exact .tup (s _ _ e) (AtAll.mono s ds a)
  | .dict _, _, h => by cases h
theorem AtAll.mono {G G' : Hp} (s : Same G G') : ∀ (ds : List PyData) {vs : List V}, AtAll G vs ds → AtAll G' vs ds
  | [], _, h => by cases h; exact .nil
  | d :: ds, _, h => by cases h with | cons a b => exact .cons (At.mono s d a) (AtAll.mono s ds b)
end
mutual
theorem At.dp {K : PySem.W.Frag} {G H : Hp} (s : Same G H) : ∀ (d : PyData) {v : V}, At G v d → Dp K H v d
  | .none, _, h => by cases h; exact .non
  | .bool b, _, h => by cases h; exact .bl b
  | .int i, _, h => by cases h; exact .int i
  | .str x, _, h => by cases h; exact .str x
  | .list ds, _, h => by cases h with | lst e a => exact .lst (SqL.of (s _ _ e)) (AtAll.dp s ds a)
  | .tuple ds, _, h => by cases h with | tup e a => exact .tup (SqT.of (s _ _ e)) (AtAll.dp s ds a)
  | .dict _, _, h => by cases h
theorem AtAll.dp {K : PySem.W.Frag} {G H : Hp} (s : Same G H) : ∀ (ds : List PyData) {vs : List V}, AtAll G vs ds → DpAll K H vs ds
  | [], _, h => by cases h; exact .nil
  | d :: ds, _, h => by cases h with | cons a b => exact .cons (At.dp s d a) (AtAll.dp s ds b)
end
section
variable {G : Hp} {v : V} {vs ws : List V} {ds es : List PyData}
theorem At.int_ {i : Int} (h : At G v (.int i)) : v = .int i := by cases h; rfl
theorem At.str_ {x : Str} (h : At G v (.str x)) : v = .str x := by cases h; rfl
theorem At.lst_ (h : At G v (.list ds)) : ∃ a xs, v = .ref a ∧ G a = some (.lst xs) ∧ AtAll G xs ds := by cases h with | lst e a => exact ⟨_, _, rfl, e, a⟩
theorem At.tup_ (h : At G v (.tuple ds)) : ∃ a xs, v = .ref a ∧ G a = some (.tup xs) ∧ AtAll G xs ds := by cases h with | tup e a => exact ⟨_, _, rfl, e, a⟩
theorem AtAll.nil_ (h : AtAll G vs []) : vs = [] := by cases h; rfl
theorem AtAll.cons_ {d : PyData} (h : AtAll G vs (d :: ds)) : ∃ v ws, vs = v :: ws ∧ At G v d ∧ AtAll G ws ds := by cases h with | cons a b => exact ⟨_, _, rfl, a, b⟩
theorem AtAll.length : ∀ {ds : List PyData} {vs : List V}, AtAll G vs ds → vs.length = ds.length
  | [], _, h => by cases h; rfl
  | d :: ds, _, h => by cases h with | cons a b => simp [AtAll.length b]
theorem AtAll.get : ∀ {ds : List PyData} {vs : List V} {i : Nat} {v : V}, AtAll G vs ds → vs[i]? = some v → ∃ d, ds[i]? = some d ∧ At G v d
  | [], _, _, _, h, e => by cases h; simp at e
  | d :: ds, _, 0, _, h, e => by cases h with | cons a b => simp at e; subst e; exact ⟨d, rfl, a⟩
  | d :: ds, _, i + 1, _, h, e => by cases h with | cons a b => exact (AtAll.get b (by simpa using e)).imp fun _ z => ⟨by simpa using z.1, z.2⟩
theorem AtAll.at_ : ∀ {ds : List PyData} {vs : List V} {i : Nat} {d : PyData}, AtAll G vs ds → ds[i]? = some d → ∃ v, vs[i]? = some v ∧ At G v d
  | [], _, _, _, h, e => by simp at e
  | d :: ds, _, 0, _, h, e => by cases h with | cons a b => simp at e; subst e; exact ⟨_, rfl, a⟩
  | d :: ds, _, i + 1, _, h, e => by cases h with | cons a b => exact (AtAll.at_ b (by simpa using e)).imp fun _ z => ⟨by simpa using z.1, z.2⟩
theorem AtAll.app : ∀ {ds : List PyData} {vs : List V}, AtAll G vs ds → AtAll G ws es → AtAll G (vs ++ ws) (ds ++ es)
  | [], _, h, k => by cases h; exact k
  | d :: ds, _, h, k => by cases h with | cons a b => exact .cons a (AtAll.app b k)
theorem AtAll.snoc {d : PyData} (h : AtAll G vs ds) (k : At G v d) : AtAll G (vs ++ [v]) (ds ++ [d]) := h.app (.cons k .nil)
theorem AtAll.ints : ∀ {ns : List Int}, AtAll G (ns.map V.int) (ns.map PyData.int)
  | [] => .nil
  | n :: ns => .cons (.int n) AtAll.ints
theorem AtAll.ints_ : ∀ {ns : List Int} {vs : List V}, AtAll G vs (ns.map PyData.int) → vs = ns.map V.int
  | [], _, h => by cases h; rfl
  | n :: ns, _, h => by
    obtain ⟨v, ws, rfl, a, b⟩ := h.cons_
    rw [a.int_, AtAll.ints_ b]; rfl
theorem AtAll.take : ∀ (n : Nat) {ds : List PyData} {vs : List V}, AtAll G vs ds → AtAll G (vs.take n) (ds.take n)
  | 0, _, _, _ => .nil
  | n + 1, [], _, h => by cases h; exact .nil
  | n + 1, d :: ds, _, h => by cases h with | cons a b => exact .cons a (AtAll.take n b)
theorem AtAll.drop : ∀ (n : Nat) {ds : List PyData} {vs : List V}, AtAll G vs ds → AtAll G (vs.drop n) (ds.drop n)
  | 0, _, _, h => h
  | n + 1, [], _, h => by cases h; exact .nil
  | n + 1, d :: ds, _, h => by cases h with | cons a b => exact AtAll.drop n b
theorem AtAll.set : ∀ {ds : List PyData} {vs : List V} (i : Nat) {d : PyData}, AtAll G vs ds → At G v d → AtAll G (vs.set i v) (ds.set i d)
  | [], _, _, _, h, _ => by cases h; exact .nil
  | e :: ds, _, 0, _, h, k => by cases h with | cons a b => exact .cons k b
  | e :: ds, _, i + 1, _, h, k => by cases h with | cons a b => exact .cons a (AtAll.set i b k)
end
/-! ### squares, points, mirrors as data -/
def pD (s : Pt) : PyData := .tuple [.int s.1, .int s.2]
def kS (b : Bool) : Str := if b then "-" else "|"
def mD (m : Mir) : PyData := .tuple [.int m.1, .int m.2.1, .str (kS m.2.2)]
theorem At.pt {G : Hp} {v : V} {s : Pt} (h : At G v (pD s)) : ∃ a, v = .ref a ∧ G a = some (.tup [.int s.1, .int s.2]) := by
  obtain ⟨a, xs, e, g, h⟩ := At.tup_ h
  obtain ⟨x, ws, rfl, hx, h⟩ := h.cons_
  obtain ⟨y, ws, rfl, hy, h⟩ := h.cons_
  rw [h.nil_, hx.int_, hy.int_] at g
  exact ⟨a, e, g⟩
theorem At.ofPt {G : Hp} {a : Addr} {s : Pt} (g : G a = some (.tup [.int s.1, .int s.2])) : At G (.ref a) (pD s) := .tup g (.cons (.int _) (.cons (.int _) .nil))
theorem At.mir {G : Hp} {v : V} {m : Mir} (h : At G v (mD m)) : ∃ a, v = .ref a ∧ G a = some (.tup [.int m.1, .int m.2.1, .str (kS m.2.2)]) := by
  obtain ⟨a, xs, e, g, h⟩ := At.tup_ h
  obtain ⟨x, ws, rfl, hx, h⟩ := h.cons_
  obtain ⟨y, ws, rfl, hy, h⟩ := h.cons_
  obtain ⟨z, ws, rfl, hz, h⟩ := h.cons_
  rw [h.nil_, hx.int_, hy.int_, hz.str_] at g
  exact ⟨a, e, g⟩
theorem At.ofMir {G : Hp} {a : Addr} {m : Mir} (g : G a = some (.tup [.int m.1, .int m.2.1, .str (kS m.2.2)])) : At G (.ref a) (mD m) := .tup g (.cons (.int _) (.cons (.int _) (.cons (.str _) .nil)))
theorem pD_eqv (s t : Pt) : PyData.eqv (pD s) (pD t) = decide (s = t) := by
  obtain ⟨a, b⟩ := s
  obtain ⟨c, d⟩ := t
  simp [pD, PyData.eqv, PyData.eqvAll, Prod.mk.injEq]
  by_cases h1 : a = c <;> by_cases h2 : b = d <;> simp [h1, h2]
theorem pD_shaped (s : Pt) : SeqAt.shaped (pD s) = true := rfl
end Sand

set_option Elab.async false
set_option linter.all false
set_option maxRecDepth 100000
set_option maxHeartbeats 4000000
namespace Sand
open PySem PySem.Spec PyProof.Rows L2
/-! ### the text by places -/
def top (i : Nat) : Stmt := PySem.Challenge.pw_sandthreads_k81_whole_looks_on_turned_bo.main.body.getD i (.Pass ⟨0, 0, 0, 0⟩)
abbrev s_ends_of : Stmt := top 12
abbrev s_square_after : Stmt := top 13
abbrev s_other_end : Stmt := top 14
abbrev s_thread_from : Stmt := top 15
abbrev s_all_threads : Stmt := top 16
abbrev s_thread_count : Stmt := top 17
abbrev s_check_square : Stmt := top 20
abbrev s_check_offered : Stmt := top 21
abbrev s_check_looks : Stmt := top 22
abbrev s_choices : Stmt := top 23
abbrev s_thread_indexes : Stmt := top 24
abbrev s_agrees : Stmt := top 25
abbrev s_fitting_boards : Stmt := top 26
abbrev s_fitting : Stmt := top 27
abbrev s_best_look : Stmt := top 28
abbrev s_fitting_counts : Stmt := top 29
abbrev s_is_inside : Stmt := top 34
abbrev s_check_mirror : Stmt := top 35
abbrev s_kinds_of : Stmt := top 36
abbrev s_other_kind : Stmt := top 37
abbrev s_moved_place : Stmt := top 38
abbrev s_grown_by : Stmt := top 41
abbrev s__law_hand : Stmt := top 45
abbrev s__law_take : Stmt := top 46
abbrev s__law_points : Stmt := top 47
abbrev s__law_sizes : Stmt := top 48
abbrev s__law_scene : Stmt := top 49
abbrev s__law_pairs : Stmt := top 50
abbrev s__law_links : Stmt := top 51
abbrev s__law_labels : Stmt := top 52
abbrev s__law_square : Stmt := top 53
abbrev s__law_fits : Stmt := top 54
abbrev s__law_truths : Stmt := top 55
abbrev s__law_same : Stmt := top 56
abbrev s__law_place : Stmt := top 57
abbrev s__law_set : Stmt := top 58
abbrev s__law_pair : Stmt := top 59
abbrev s__law_lives : Stmt := top 60
abbrev s_law : Stmt := top 61
abbrev s_Board___init__ : Stmt := inClass (top 39) 0
abbrev s_Board_width : Stmt := inClass (top 39) 1
abbrev s_Board_height : Stmt := inClass (top 39) 2
abbrev s_Board_mirrors : Stmt := inClass (top 39) 3
abbrev s_Board_mirror_at : Stmt := inClass (top 39) 6
abbrev s_Board_with_mirror : Stmt := inClass (top 39) 7
abbrev s_Board_turned : Stmt := inClass (top 39) 9
abbrev s_LiveBoard___init__ : Stmt := inClass (top 42) 0
abbrev s_LiveBoard_take_in : Stmt := inClass (top 42) 6
abbrev s_LiveBoard_add_all : Stmt := inClass (top 42) 7
end Sand

set_option Elab.async false
set_option linter.all false
set_option maxRecDepth 100000
set_option maxHeartbeats 4000000
/-! Defs, methods, classes, properties of the text by where they stand; their promises by their bodies. -/
namespace Sand
open PySem PySem.Spec PyProof.Rows L2
/-- the def st stands behind the module's name x -/
structure DefAt (K : PySem.W.Frag) (mg : Str → Option Value) (x : Str) (st : Stmt) : Prop where
  ex : ∃ f fd, Fun K x x st f fd ∧ mg x = some (.ref f)
/-- the def st is the method m of the class at C -/
structure MetAt (K : PySem.W.Frag) (C : Addr) (m q : Str) (st : Stmt) : Prop where
  ex : ∃ f fd, Fun K m q st f fd ∧ Meth K C m f
/-- the class at C is made by the name x, st its __init__ -/
structure MakAt (K : PySem.W.Frag) (mg : Str → Option Value) (x : Str) (C : Addr) (q : Str) (st : Stmt) : Prop where
  ex : ∃ f fd, Fun K "__init__" q st f fd ∧ Mk K C f ∧ mg x = some (.ref C)
/-- the def st is the getter of the property m of the class at C -/
structure PrpAt (K : PySem.W.Frag) (C : Addr) (m q : Str) (st : Stmt) : Prop where
  ex : ∃ p g fd, Fun K m q st g fd ∧ PropOf K C m p g
/-- how arguments come to the parameters of a def without defaults -/
abbrev Bd0 (x q : Str) (st : Stmt) (ps : List Str) : Prop := ∀ (kV doc pm : Value) (an : Option Addr) (cdv ct : Value) (us : List Value), us.length = ps.length →
  bindArgs (PySem.W.fnOf x q (defArgs st) (defBody st) (defScope st) .none kV doc pm an cdv ct) ⟨us, []⟩ = pure (ps.zip us)
/-- a property that may be read -/
structure Prp (P : Program) (w : World) (K : PySem.W.Frag) (mg : Str → Option Value) (base : Heap) (k : Nat) (C : Addr) (m : Str) (sp : Sp) : Prop where
  ex : ∃ p g fd ps, Cls K C ∧ PropOf K C m p g ∧ FnOk P w K mg base CX0 k g fd ps sp ∧ Binds K fd ps []
section
variable {P : Program} {w : World} {K : PySem.W.Frag} {mg : Str → Option Value} {base : Heap}
/-- what a body must show -/
abbrev Body (P : Program) (w : World) (K : PySem.W.Frag) (mg : Str → Option Value) (base : Heap) (k : Nat) (q : Str) (st : Stmt) (N : List Str) (sp : Sp) : Prop :=
  ∀ (f : Addr) (cdv : Value) (A : Around) (outer : List Env) (s : Shared) (H : Hp) (vs : List V) (Q : VK) (E : XK), Room k (A.deeper (envOfC q (defScope st) s.heap.objs.size f cdv)) → sp vs H Q E →
    ∃ t, PSs (cxOf CX0 P w K mg base N q (defScope st) f cdv A outer s H E).nox (defBody st) t ∧ t { nx := fun _ H' => Q .non H', rt := Q } (start N vs) H
theorem DefAt.cal {x : Str} {st : Stmt} {N ps : List Str} {k : Nat} {sp : Sp} (D : DefAt K mg x st) (b : Bd0 x x st ps) (S : FnScope N ps (defScope st)) (len : ∀ vs H Q E, sp vs H Q E → vs.length = ps.length) (hb : Body P w K mg base k x st N sp) : C8.Cal P w K mg base (k + 1) x sp [] := by
  obtain ⟨f, fd, F, hm⟩ := D.ex
  exact ⟨f, fd, ps, [], F.ok S len (hb f), hm, F.kp, F.binds b, .nil⟩
theorem MetAt.met {C : Addr} {m q : Str} {st : Stmt} {N ps : List Str} {k : Nat} {sp : Sp} (D : MetAt K C m q st) (c : Cls K C) (b : Bd0 m q st ps) (S : FnScope N ps (defScope st)) (len : ∀ vs H Q E, sp vs H Q E → vs.length = ps.length) (hb : Body P w K mg base k q st N sp) : C8.Met P w K mg base (k + 1) C m sp [] := by
  obtain ⟨f, fd, F, hm⟩ := D.ex
  exact ⟨f, fd, ps, [], c, hm, F.ok S len (hb f), F.binds b, .nil⟩
theorem MakAt.mak {x : Str} {C : Addr} {q : Str} {st : Stmt} {N ps : List Str} {k : Nat} {sp : Sp} (D : MakAt K mg x C q st) (b : Bd0 "__init__" q st ps) (S : FnScope N ps (defScope st)) (len : ∀ vs H Q E, sp vs H Q E → vs.length = ps.length) (hb : Body P w K mg base k q st N sp) : C8.Mak P w K mg base (k + 1) x C sp [] := by
  obtain ⟨f, fd, F, hM, hm⟩ := D.ex
  exact ⟨f, fd, ps, [], hM, F.ok S len (hb f), hm, F.binds b, .nil⟩
theorem PrpAt.prp {C : Addr} {m q : Str} {st : Stmt} {N ps : List Str} {k : Nat} {sp : Sp} (D : PrpAt K C m q st) (c : Cls K C) (b : Bd0 m q st ps) (S : FnScope N ps (defScope st)) (len : ∀ vs H Q E, sp vs H Q E → vs.length = ps.length) (hb : Body P w K mg base k q st N sp) : Prp P w K mg base (k + 1) C m sp := by
  obtain ⟨p, g, fd, F, hp⟩ := D.ex
  exact ⟨p, g, fd, ps, c, hp, F.ok S len (hb g), F.binds b⟩
end
section
variable {X : Cx} {k j : Nat} {C : Addr} {m : Str} {sp : Sp} {pos : Pos} {e : Expr} {ta : TE}
theorem pe_pr (c : Prp X.prog X.w X.K X.mg X.base k C m sp) (hr : Room j X.A) (hk : k + 1 ≤ j) (he : PE X e ta) (hab : attributeBase e m X.env (eval e X.env) = eval e X.env) : PE X (.Attribute e m pos) (tProp C sp [] E0 ta) := by
  obtain ⟨p, g, fd, ps, hc, hp, F, b⟩ := c.ex
  exact pe_prop he hc hp F (hr.mono hk) b .nil (fun _ _ _ _ _ _ _ h => h.elim) hab
end
theorem same_upd {G : Hp} {p : Addr} {o : HO} (h : G p = none) : Same G (upd G p o) := fun b u e => by rw [upd_ne (ne_of_none e h)]; exact e
/-- a new thing of the view, and that the view has only grown -/
theorem Go.mk' {tb : Addr × Str} {M : Addr → Prop} {G H G1 H1 : Hp} {p : Addr} {o : HO} (h : Go tb M G H G1 H1) (hp : H1 p = none) (ho : Pl o) : Go tb M G H (upd G1 p o) (upd H1 p o) ∧ Same G1 (upd G1 p o) ∧ upd G1 p o p = some o :=
  ⟨h.newG hp ho, same_upd (h.gh.free hp), upd_same⟩
theorem Go.tup {tb : Addr × Str} {M : Addr → Prop} {G H G1 H1 : Hp} {p : Addr} (h : Go tb M G H G1 H1) (hp : H1 p = none) (xs : List V) : Go tb M G H (upd G1 p (.tup xs)) (upd H1 p (.tup xs)) ∧ Same G1 (upd G1 p (.tup xs)) ∧ upd G1 p (.tup xs) p = some (.tup xs) := h.mk' hp trivial
theorem Go.lst {tb : Addr × Str} {M : Addr → Prop} {G H G1 H1 : Hp} {p : Addr} (h : Go tb M G H G1 H1) (hp : H1 p = none) (xs : List V) : Go tb M G H (upd G1 p (.lst xs)) (upd H1 p (.lst xs)) ∧ Same G1 (upd G1 p (.lst xs)) ∧ upd G1 p (.lst xs) p = some (.lst xs) := h.mk' hp trivial
theorem blT {p : Prop} [Decidable p] (h : p) : V.bl (decide p) = V.bl true := congrArg V.bl (decide_eq_true h)
theorem blF {p : Prop} [Decidable p] (h : ¬ p) : V.bl (decide p) = V.bl false := congrArg V.bl (decide_eq_false h)
theorem bnT {p : Prop} [Decidable p] (h : ¬ p) : V.bl (!decide p) = V.bl true := by rw [decide_eq_false h]; rfl
theorem bnF {p : Prop} [Decidable p] (h : p) : V.bl (!decide p) = V.bl false := by rw [decide_eq_true h]; rfl
theorem vi {a b : Int} (h : a = b) : V.int a = V.int b := by rw [h]
theorem vi_ne {a b : Int} (h : a ≠ b) : ¬ V.int a = V.int b := fun e => h (V.int.inj e)
theorem vs_ne {a b : Str} (h : a ≠ b) : ¬ V.str a = V.str b := fun e => h (V.str.inj e)
/-- the def st stands behind the name x, c its code object -/
structure DefAtC (K : PySem.W.Frag) (mg : Str → Option Value) (x : Str) (st : Stmt) (c : Addr) : Prop where
  ex : ∃ (f : Addr) (oc : Value) (od : Option Addr) (kV doc pm : Value) (an : Option Addr) (ct : Value) (osl : Array (Option Value)),
    K.lookup f = some ⟨oc, od, .func (PySem.W.fnOf x x (defArgs st) (defBody st) (defScope st) .none kV doc pm an (.ref c) ct), osl⟩ ∧ PySem.W.codeIn K (.ref c) x = true ∧ PySem.W.keepIn K (.ref f) = true ∧ mg x = some (.ref f)
theorem DefAtC.cal {P : Program} {w : World} {K : PySem.W.Frag} {mg : Str → Option Value} {base : Heap} {x : Str} {st : Stmt} {c : Addr} {N ps : List Str} {k : Nat} {sp : Sp} (D : DefAtC K mg x st c) (b : Bd0 x x st ps) (S : FnScope N ps (defScope st)) (len : ∀ vs H Q E, sp vs H Q E → vs.length = ps.length)
    (hb : ∀ (f : Addr) (A : Around) (outer : List Env) (s : Shared) (H : Hp) (vs : List V) (Q : VK) (E : XK), Room k (A.deeper (envOfC x (defScope st) s.heap.objs.size f (.ref c))) → sp vs H Q E →
      ∃ t, PSs (cxOf CX0 P w K mg base N x (defScope st) f (.ref c) A outer s H E).nox (defBody st) t ∧ t { nx := fun _ H' => Q .non H', rt := Q } (start N vs) H) : C8.Cal P w K mg base (k + 1) x sp [] := by
  obtain ⟨f, oc, od, kV, doc, pm, an, ct, osl, lk, hc, hk, hm⟩ := D.ex
  refine ⟨f, _, ps, [], fn_of lk hc S len fun A outer s H vs Q E hr h => ?_, hm, hk, .all (b kV doc pm an (.ref c) ct), .nil⟩
  obtain ⟨t, h1, h2⟩ := hb f A outer s H vs Q E hr h
  exact ⟨t, h1.nox, h2⟩
/-- for i, x in enumerate(a list that stays) -/
theorem for_enum {K : PySem.W.Frag} {a : Addr} {xs : List V} {g : TG} {tb : TS} {D : Ends} {σ : L2.St} {H : Hp} (Pv : Nat → L2.St → Hp → Prop) (h0 : Pv 0 σ H) (hl : ∀ i σ H, i ≤ xs.length → Pv i σ H → SqL K H a xs)
    (hs : ∀ (i : Nat) x T σ H, xs[i]? = some x → Pv i σ H → H T = none → g (.ref T) σ (upd H T (.tup [.int (i : Int), x])) fun σ2 H2 => tb { D with nx := Pv (i + 1), ct := Pv (i + 1), bk := D.nx } σ2 H2) (hd : ∀ σ H, Pv xs.length σ H → D.nx σ H) :
    ∃ W : Nat → Nat → L2.St → Hp → Prop, (∃ m, W 0 m σ H) ∧ ∀ i m σ H, W i m σ H →
      ((Ite K a).stop i H ∧ D.nx σ H) ∨ ((Ite K a).go i H ∧ ∃ N : L2.St → Hp → Prop, (∀ σ' H', N σ' H' → ∃ m', m' < m ∧ W (i + 1) m' σ' H') ∧ ∀ x H', (Ite K a).yld i H x H' → g x σ H' fun σ2 H2 => tb { D with nx := N, ct := N, bk := D.nx } σ2 H2) := by
  refine ⟨fun i m σ H => m = xs.length - i ∧ i ≤ xs.length ∧ Pv i σ H, ⟨_, rfl, Nat.zero_le _, h0⟩, ?_⟩
  rintro i m σ H ⟨rfl, hi, p⟩
  have q := hl i σ H hi p
  rcases Nat.lt_or_eq_of_le hi with hlt | e
  · refine .inr ⟨⟨xs, xs[i], q, by simp [hlt]⟩, Pv (i + 1), fun σ' H' p' => ⟨xs.length - (i + 1), by omega, rfl, hlt, p'⟩, fun x H' y => ?_⟩
    obtain ⟨T, y0, rfl, hT, rfl, z⟩ := y
    exact hs i y0 T σ H (z xs q) p hT
  · subst e
    exact .inl ⟨⟨xs, q, Nat.le_refl _⟩, hd σ H p⟩
/-- what is handed back: new data, all else as it was -/
def Ret (tb : Addr × Str) (M : Addr → Prop) (G H : Hp) (R : Hp → V → Prop) (Q : VK) : Prop := ∀ G' H' u, Go tb M G H G' H' → R G' u → Q u H'
abbrev no : Addr → Prop := fun _ => False
/-- the places of one's own objects in a heap of pairs -/
theorem len2 : (2 : Nat) ≤ sizeLine := by decide
theorem len3 : (3 : Nat) ≤ sizeLine := by decide
theorem len1 : (1 : Nat) ≤ sizeLine := by decide
theorem len0 : (0 : Nat) ≤ sizeLine := by decide
/-! ### a board: width, height, a dict of mirrors -/
def eM (m : Mir) : List Key × V := ([Sum.inl m.1, Sum.inl m.2.1], .str (kS m.2.2))
def bF (a b : V) (d : Addr) : List (Str × V) := [("wide", a), ("high", b), ("kinds", .ref d)]
/-- the mirror at a place -/
def lk (ms : List Mir) (x y : Int) : Option Bool := (ms.find? fun m => decide (m.1 = x ∧ m.2.1 = y)).map (·.2.2)
def Ins (B : Bd) (x y : Int) : Prop := 0 < x ∧ x < 2 * B.w ∧ 0 < y ∧ y < 2 * B.h ∧ (x + y) % 2 = 1
def Plcs (ms : List Mir) : List Pt := ms.map fun m => (m.1, m.2.1)
/-- these mirrors are B's, n of them -/
structure Mirs (B : Bd) (n : Nat) (ms : List Mir) : Prop where
  len : ms.length = n
  nd : (Plcs ms).Nodup
  ins : ∀ m, m ∈ ms → Ins B m.1 m.2.1
  k : ∀ x y, B.k x y = lk ms x y
/-- a board B with n mirrors stands at p -/
def BoardAt (C : Addr) (G : Hp) (p : Addr) (B : Bd) (n : Nat) : Prop := ∃ (dx d : Addr) (ms : List Mir), G p = some (.ins C dx (bF (.int B.w) (.int B.h) d)) ∧ G d = some (.dT (ms.map eM)) ∧ ms.length = n ∧ (Plcs ms).Nodup ∧ (∀ m, m ∈ ms → Ins B m.1 m.2.1) ∧
  (∀ x y, B.k x y = lk ms x y) ∧ 1 ≤ B.w ∧ 1 ≤ B.h ∧ B.w ≤ 9 ∧ B.h ≤ 9
theorem lk_mem {x y : Int} {b : Bool} : ∀ {ms : List Mir}, (Plcs ms).Nodup → (lk ms x y = some b ↔ (x, y, b) ∈ ms)
  | [], _ => by unfold lk; simp
  | m :: ms, h => by
    have h' : ((m.1, m.2.1) :: Plcs ms).Nodup := h
    obtain ⟨h1, h2⟩ := List.nodup_cons.mp h'
    by_cases e : m.1 = x ∧ m.2.1 = y
    · have ep : m = (x, y, m.2.2) := Prod.ext e.1 (Prod.ext e.2 rfl)
      have el : lk (m :: ms) x y = some m.2.2 := by unfold lk; rw [List.find?_cons_of_pos (by simp [e])]; rfl
      rw [el, List.mem_cons]
      refine ⟨fun z => .inl ?_, fun z => z.elim (fun q => ?_) fun q => absurd (List.mem_map.mpr ⟨_, q, by rw [e.1, e.2]⟩) h1⟩
      · rw [← Option.some.inj z]; exact ep.symm
      · rw [← q]
    · have el : lk (m :: ms) x y = lk ms x y := by unfold lk; rw [List.find?_cons_of_neg (by simpa using e)]
      rw [el, lk_mem h2, List.mem_cons]
      exact ⟨.inr, fun z => z.elim (fun q => absurd ⟨by rw [← q], by rw [← q]⟩ e) id⟩
theorem lk_ext {ms ms' : List Mir} (h : (Plcs ms).Nodup) (h' : (Plcs ms').Nodup) (e : ∀ m, m ∈ ms ↔ m ∈ ms') (x y : Int) : lk ms x y = lk ms' x y := by
  cases q : lk ms x y with
  | some b => exact ((lk_mem h').mpr ((e _).mp ((lk_mem h).mp q))).symm
  | none =>
    cases q' : lk ms' x y with
    | none => rfl
    | some b => rw [(lk_mem h).mpr ((e _).mpr ((lk_mem h').mp q'))] at q; cases q
theorem Mirs.perm {B : Bd} {n : Nat} {ms ms' : List Mir} (h : Mirs B n ms) (p : ms'.Perm ms) : Mirs B n ms' := by
  have nd' : (Plcs ms').Nodup := (p.map _).nodup_iff.mpr h.nd
  exact ⟨by rw [p.length_eq, h.len], nd', fun m hm => h.ins m (p.mem_iff.mp hm), fun x y => by rw [h.k, lk_ext nd' h.nd (fun m => p.mem_iff)]⟩
theorem BoardAt.parts {C : Addr} {G : Hp} {p : Addr} {B : Bd} {n : Nat} (h : BoardAt C G p B n) : ∃ (dx d : Addr) (ms : List Mir), G p = some (.ins C dx (bF (.int B.w) (.int B.h) d)) ∧ G d = some (.dT (ms.map eM)) ∧ Mirs B n ms ∧ 1 ≤ B.w ∧ 1 ≤ B.h ∧ B.w ≤ 9 ∧ B.h ≤ 9 := by
  obtain ⟨dx, d, ms, h1, h2, h3, h4, h5, h6, h7⟩ := h
  exact ⟨dx, d, ms, h1, h2, ⟨h3, h4, h5, h6⟩, h7⟩
/-- the board of these mirrors -/
def bOf (w h : Int) (ms : List Mir) : Bd := ⟨w, h, lk ms⟩
theorem BoardAt.mono {C : Addr} {G G' : Hp} {p : Addr} {B : Bd} {n : Nat} (s : Same G G') (h : BoardAt C G p B n) : BoardAt C G' p B n := by
  obtain ⟨dx, d, ms, h1, h2, h⟩ := h
  exact ⟨dx, d, ms, s _ _ h1, s _ _ h2, h⟩
theorem bF_wide (a b : V) (d : Addr) : (bF a b d).lookup ("wide" : Str) = some a := by unfold bF; rw [List.lookup_cons, show (("wide" : Str) == ("wide" : Str)) = true by decide +kernel]
theorem bF_high (a b : V) (d : Addr) : (bF a b d).lookup ("high" : Str) = some b := by
  unfold bF; rw [List.lookup_cons, show (("high" : Str) == ("wide" : Str)) = false by decide +kernel]
  simp only [List.lookup_cons]
  rw [show (("high" : Str) == ("high" : Str)) = true by decide +kernel]
theorem bF_kinds (a b : V) (d : Addr) : (bF a b d).lookup ("kinds" : Str) = some (.ref d) := by
  unfold bF; rw [List.lookup_cons, show (("kinds" : Str) == ("wide" : Str)) = false by decide +kernel]
  simp only [List.lookup_cons]
  rw [show (("kinds" : Str) == ("high" : Str)) = false by decide +kernel, show (("kinds" : Str) == ("kinds" : Str)) = true by decide +kernel]
theorem bF_no (a b : V) (d : Addr) {m : Str} (h1 : (m == ("wide" : Str)) = false) (h2 : (m == ("high" : Str)) = false) (h3 : (m == ("kinds" : Str)) = false) : (bF a b d).lookup m = none := by
  unfold bF; simp only [List.lookup_cons, h1, h2, h3, List.lookup_nil]
/-- what the walk asks of the text -/
structure Txt (K : PySem.W.Frag) (mg : Str → Option Value) (C L : Addr) : Prop where
  cB : Cls K C
  cL : Cls K L
  nW : NoAttr K C "wide"
  nH : NoAttr K C "high"
  nK : NoAttr K C "kinds"
  nN : NoAttr K L "now"
  nA : NoAttr K L "added"
  nC : NoAttr K L "counts"
  len : mg "len" = none
  range : mg "range" = none
  min : mg "min" = none
  max : mg "max" = none
  sorted : mg "sorted" = none
  enumerate : mg "enumerate" = none
  list : mg "list" = none
  int : mg "int" = none
  abs : mg "abs" = none
  isinstance : mg "isinstance" = none
  bool : mg "bool" = none
  str : mg "str" = none
  tuple : mg "tuple" = none
  g_WORDS : ∃ a, (∃ u, mg "WORDS" = some u ∧ RelV (.ref a) u) ∧ ∀ H, SqT K H a [.str "same", .str "apart"]
  g_KINDS : ∃ a, (∃ u, mg "KINDS" = some u ∧ RelV (.ref a) u) ∧ ∀ H, SqT K H a [.str "-", .str "|"]
  g_WAYS : ∃ a, (∃ u, mg "WAYS" = some u ∧ RelV (.ref a) u) ∧ ∀ H, SqT K H a [.str "same", .str "quarter", .str "half", .str "back", .str "flip", .str "mirror", .str "cross", .str "anti"]
  g_EXCHANGING : ∃ a, (∃ u, mg "EXCHANGING" = some u ∧ RelV (.ref a) u) ∧ ∀ H, SqT K H a [.str "quarter", .str "back", .str "cross", .str "anti"]
end Sand

set_option Elab.async false
set_option linter.all false
set_option maxRecDepth 100000
set_option maxHeartbeats 4000000
/-! min(a list of two things, key = a lambda of one parameter that reads captured names): both keys are asked, then compared. -/
namespace Sand
open PySem PySem.Spec PyProof.Rows L2 LamX
/-- a lambda's names: the parameter a, captured ones, the module's -/
structure LamP (sc scope : Scope) (a : Str) : Prop where
  kind : scope.kind = .function
  co : scope.isCoroutine = false
  gen : scope.isGenerator = false
  par : scope.names.lookup a = some .local
  loc : ∀ y ∈ scope.names, y.2 = .local → y.1 = a
  nocell : ∀ y ∈ scope.names, y.2 ≠ .cell
  free : ∀ y ∈ scope.names, y.2 = .free → sc.names.lookup y.1 = some .cell ∨ sc.names.lookup y.1 = some .free
def lamPB (sc scope : Scope) (a : Str) : Bool :=
  decide (scope.kind = .function) && !scope.isCoroutine && !scope.isGenerator && decide (scope.names.lookup a = some .local) &&
    scope.names.all fun y => (!decide (y.2 = .local) || decide (y.1 = a)) && !decide (y.2 = .cell) && (!decide (y.2 = .free) || decide (sc.names.lookup y.1 = some .cell) || decide (sc.names.lookup y.1 = some .free))
theorem lamP_by {sc scope : Scope} {a : Str} (h : lamPB sc scope a = true) : LamP sc scope a := by
  unfold lamPB at h
  simp only [Bool.and_eq_true, Bool.or_eq_true, Bool.not_eq_true', decide_eq_true_eq, decide_eq_false_iff_not, List.all_eq_true] at h
  obtain ⟨⟨⟨⟨h1, h2⟩, h3⟩, h4⟩, h5⟩ := h
  refine ⟨h1, h2, h3, h4, fun y hy e => ?_, fun y hy => (h5 y hy).1.2, fun y hy e => ?_⟩
  · rcases (h5 y hy).1.1 with z | z
    · exact absurd e z
    · exact z
  · rcases (h5 y hy).2 with (z | z) | z
    · exact absurd e z
    · exact .inl z
    · exact .inr z
section
variable {X : Cx} {pins : List (Addr × Obj)} {σ : L2.St} {H : Hp} {s : Shared}
theorem LamP.has {scope : Scope} {a : Str} (P : LamP X.env.scope scope a) (ok : X.Ok) : ∀ y ∈ scope.names, y.2 = .free → ∃ c, X.env.cells.lookup y.1 = some c := fun y hy e =>
  (P.free y hy e).elim (fun k => ok.has _ (.inl k)) (fun k => ok.has _ (.inr k))
/-- the lambda's frame, entered with u at its parameter -/
theorem lamP_start {A : Around} {outer : List Env} {E : XK} {scope : Scope} {f c' : Addr} {h₁ : Heap} {tk ia : Nat} {a : Str} {x : V} {u : Value} (I : Inv X pins σ H s) (P : LamP X.env.scope scope a) (e0 : Env0 X.prog X.w X.K X.mg X.base A outer s H) (hd : A.handled = none)
    (hns : h₁.Ns s.heap.objs.size fun y => ([(a, u)] : List (Str × Value)).reverse.lookup y) (kp : ∀ b o, s.heap.get? b = some o → h₁.get? b = some o) (hi : X.N[ia]? = some a) (nd : X.N.Nodup) (r : RelV x u) :
    Inv (lamCx X A outer s H E scope f c') [] (σ.set ia (some x)) H { s with heap := h₁, toks := tk } := by
  have hfree := P.has I.ok
  have cm : ∀ {y c}, (cloFrom X.env.cells scope.names []).lookup y = some c → X.env.cells.lookup y = some c := fun {y c} e => by
    rcases cloFrom_mem (PySem.mem_of_lookup e) with hm | ⟨h1, h2⟩
    · cases hm
    · obtain ⟨c1, hc⟩ := hfree _ h1 rfl
      have hc : X.env.cells.lookup y = some c1 := hc
      have e2 : c = c1 := by
        rw [h2, hc] <;> rfl
      rw [e2]; exact hc
  have look : ∀ {y}, scope.names.lookup y = some .free → ∃ c, (cloFrom X.env.cells scope.names []).lookup y = some c := fun {y} hl =>
    mem_lookup (cloFrom_has (cells := X.env.cells) (acc := []) (show (y, NameKind.free) ∈ scope.names from PySem.mem_of_lookup hl))
  have cellK : ∀ {c : Addr} {v : Option Value}, s.heap.IsCell c v → h₁.IsCell c v := fun {c v} ⟨o, ho, hd⟩ => ⟨o, kp _ _ ho, hd⟩
  have noA : ∀ b : Addr, b ∉ (lamCx X A outer s H E scope f c').ex := fun b z => absurd (show b ∈ ([] : List Addr) from z) (by simp)
  have ok : (lamCx X A outer s H E scope f c').Ok := by
    refine ⟨e0.mod, P.kind, rfl, rfl, Nat.le_refl _, fun y z c e1 e2 => I.ok.inj y z c (cm e1) (cm e2), fun y hy => ?_, fun y c z _ => ?_, fun _ => hd, Around.frames_deeper e0.frames, .inr ⟨rfl, rfl⟩, fun b z => absurd z (noA b), e0.bs, e0.bsz, fun b _ _ => noA b,
      fun b z => absurd z (noA b), e0.funs, e0.frf⟩
    · have hy : scope.names.lookup y = some .cell ∨ scope.names.lookup y = some .free := hy
      rcases hy with hy | hy
      · exact absurd rfl (P.nocell _ (PySem.mem_of_lookup hy))
      · exact look hy
    · have z : false = true := z
      cases z
  refine ⟨ok, rfl, e0.bare, Un.kept kp, ⟨_, hns, fun i y v e1 e2 e3 => ?_⟩, fun y c e => ?_, e0.hok.fresh (Nat.le_refl _), fun y c e => I.freeC y c (cm e), fun q hq => absurd (show q ∈ ([] : List (Addr × Obj)) ++ [] from hq) (by simp), e0.hok.kept kp, ?_⟩
  · have e3 : Vis scope y := e3
    have e1 : X.N[i]? = some y := e1
    rcases e3 with k | k | k
    · -- the parameter
      have ya : y = a := P.loc _ (PySem.mem_of_lookup k) rfl
      have ii : i = ia := nodup_ix nd e1 (by rw [ya]; exact hi)
      subst ii
      have hlt : i < σ.length := by
        rw [I.len]
        exact (List.getElem?_eq_some_iff.mp hi).1
      have ev : some (some x) = some (some v) := by
        have q := e2
        rw [List.getElem?_set_self hlt] at q
        exact q
      obtain rfl : x = v := Option.some.inj (Option.some.inj ev)
      refine ⟨u, r, .inl ⟨k, ?_⟩⟩
      rw [ya]
      show ([(a, u)] : List (Str × Value)).reverse.lookup a = some u
      simp
    · exact absurd rfl (P.nocell _ (PySem.mem_of_lookup k))
    · -- a captured name
      have ni : i ≠ ia := fun z => by
        rw [z, hi] at e1
        obtain rfl := Option.some.inj e1
        rw [P.par] at k
        cases k
      have e2' : σ[i]? = some (some v) := by
        rw [List.getElem?_set_ne (Ne.symm ni)] at e2
        exact e2
      obtain ⟨m, hn, hl⟩ := I.loc
      have hvis : Vis X.env.scope y := (P.free _ (PySem.mem_of_lookup k) rfl).elim (fun k => .inr (.inl k)) (fun k => .inr (.inr k))
      obtain ⟨w', r', q⟩ := hl i y v e1 e2' hvis
      obtain ⟨c2, h2⟩ := look k
      refine ⟨w', r', .inr ⟨.inr k, c2, h2, ?_⟩⟩
      have c1 := cm h2
      rcases q with ⟨k', _⟩ | ⟨_, c3, e', z⟩
      · have k' : X.env.scope.names.lookup y = some .local := k'
        rcases P.free _ (PySem.mem_of_lookup k) rfl with k2 | k2 <;> rw [show X.env.scope.names.lookup y = _ from k2] at k' <;> cases k'
      · rw [c1] at e'
        cases e'
        exact cellK z
  · obtain ⟨w', z⟩ := I.cell y c (cm e)
    exact ⟨w', cellK z⟩
  · rw [List.length_set]
    exact I.len
/-- the lambda is called -/
theorem lamP_call {scope : Scope} {f c' : Addr} {a : Str} {params : Arguments} {body : Expr} {pm ctv : Value} {k ia : Nat} {x : V} {u : Value} {Q : VK} {E' : Value → Shared → Prop} {tb : TE} (I : Inv X pins σ H s) (P : LamP X.env.scope scope a)
    (hf : s.heap.get? f = some (PySem.W.kla_obj "<lambda>" (X.env.qual ++ "<lambda>") params body scope (cloFrom X.env.cells scope.names []) pm c' ctv))
    (hbind : ∀ (q : Str) (cl : List (Str × Addr)) (pm cv ctv v : Value), bindArgs (PySem.W.kla_fn "<lambda>" q params body scope cl pm cv ctv) ⟨[v], []⟩ = pure [(a, v)])
    (hr : Room (k + 1) X.A.in1) (hbody : ∀ (A : Around) (outer : List Env) (s : Shared) (H : Hp) (E : XK), Room k (A.deeper (lamEnv X scope s.heap.objs.size f c')) → PE (lamCx X A outer s H E scope f c') body tb)
    (hi : X.N[ia]? = some a) (nd : X.N.Nodup) (hc : H c' = some (CodeO c' (X.env.qual ++ "<lambda>"))) (r : RelV x u) (ht : tb (σ.set ia (some x)) H Q) :
    wpAny (model X.prog X.w) X.A.in1 (call (.ref f) [u]) (EP X pins σ Q) E' s := by
  obtain ⟨⟨oc, vs, t, hoc, hdc, hvc⟩, _, _⟩ := I.hok c' _ hc
  have rc : codeAny (model X.prog X.w) X.A.in1 (.call (.ref f) ⟨[u], []⟩) (CR (L2.CX X.prog X.w) X.stack X.prog X.w H s Q (fun _ _ _ => False)) s := by
    refine PySem.W.kla_callFunE hr.depth hf rfl P.co P.gen rfl ⟨c', oc, vs, t, rfl, hoc, hdc, hvc⟩ ?_
    rw [hbind]
    refine wpAny_pure (wpAny_newFunctionEnv P.nocell (fun y hy => ?_) (fun h₁ hns hsb => ⟨I.nolimit.fresh _ hsb, ?_⟩) P.kind)
    · obtain rfl : y = (a, u) := List.mem_singleton.mp hy
      exact P.par
    · show codeAny _ _ (.expr body (lamEnv X scope s.heap.objs.size f c')) _ _
      have kp : ∀ b o, s.heap.get? b = some o → h₁.get? b = some o := fun b o e => hsb.extBut b o (Nat.ne_of_lt (Heap.lt_size e)) (Heap.get?_push_of_some _ e)
      have J := lamP_start (E := fun _ _ _ => False) (f := f) (c' := c') (tk := s.toks + ([(a, u)] : List (Str × Value)).length) I P I.env0.in1 hr.hd hns kp hi nd r
      refine PySem.W.kla_codeExpr (wpAny_mono ((hbody _ _ s H _ (hr.deeper _)).run [] _ _ H Q J ht) (fun v s' hq => ?_) fun e s' hq => hq)
      obtain ⟨w', H', J', rv, q⟩ := hq
      exact ⟨w', H', J'.os, J'.bare, J'.base, J'.hok, rv, q⟩
  refine wpAny_call (codeAny_mono rc fun r s' hq => ?_)
  cases r with
  | error e =>
    obtain ⟨_, _, _, _, _, _, _, _, _, _, _, _, z⟩ := (show L2.CX X.prog X.w X.stack H s (fun _ _ _ => False) e s' from hq)
    exact z.elim
  | ok fl =>
    cases fl with
    | ret u => exact I.after hq
    | next => exact False.elim hq
    | brk => exact False.elim hq
    | cont => exact False.elim hq
/-- what the two keys and the rest must give; S: the list in which min keeps its best -/
def rMinL (K : PySem.W.Frag) (q : Str) (T : List (Addr × Str)) (ia : Nat) (tb : TE) (σ : L2.St) (Q : VK) : V → Hp → Prop := fun x H1 => ∃ (l : Addr) (v0 v1 : V), x = .ref l ∧ H1 l = some (.lst [v0, v1]) ∧ Tabs T H1 ∧
  ∀ (c' S : Addr) (H2 : Hp), ExtN H1 H2 → Tabs T H2 → H2 c' = some (CodeO c' q) → H2 S = none →
    tb (σ.set ia (some v0)) (upd H2 S (.lst [])) fun k0 H3 => H3 S = some (.lst []) ∧ H3 l = some (.lst [v0, v1]) ∧ H3 c' = some (CodeO c' q) ∧
      tb (σ.set ia (some v1)) (upd H3 S (.lst [v0, k0])) fun k1 H4 => H4 S = some (.lst [v0, k0]) ∧ H4 l = some (.lst [v0, v1]) ∧
        (∃ (a b : Addr) (ns ms : List Int), k1 = .ref a ∧ k0 = .ref b ∧ SqT K H4 a (ns.map V.int) ∧ SqT K H4 b (ms.map V.int)) ∧ ∀ v, v = v0 ∨ v = v1 → Q v (upd H4 S (.lst []))
def tMinL (K : PySem.W.Frag) (q : Str) (T : List (Addr × Str)) (te : TE) (ia : Nat) (tb : TE) : TE := fun σ H Q => te σ H (rMinL K q T ia tb σ Q)
def one_ (R : V → Hp → Prop) : List V → Hp → Prop := fun vs H => match vs with
  | [x] => R x H
  | _ => False
section
variable {X : Cx} {pins : List (Addr × Obj)} {σ : L2.St} {H : Hp} {s : Shared}
theorem isList_of {l : Addr} {xs : List V} (I : Inv X pins σ H s) (h : H l = some (.lst xs)) : ∃ its : List Value, Vals xs its ∧ s.heap.IsList l its.toArray := by
  obtain ⟨_, its, n, r, e⟩ := (show ObjOk X.prog X.w H s.heap l (.lst xs) from I.hok l _ h)
  exact ⟨its, r, _, e, rfl, n, rfl⟩
/-- an object of one's own stays pinned -/
theorem Inv.pin1 {b : Addr} {o : Obj} (I : Inv X pins σ H s) (e : s.heap.get? b = some o) (n : H b = none) (nL : b ≠ X.env.locals) (nf : b ∉ X.fs) (nc : ∀ v, o.data ≠ .cell v) : Inv X ((b, o) :: pins) σ H s :=
  I.pins_of fun p hp => by
    rcases List.mem_cons.mp hp with z | z
    · rw [z]; exact ⟨e, n, nL, nf, nc⟩
    · exact I.pin p (List.mem_append_right _ z)
theorem Inv.unpin1 {p : Addr × Obj} (I : Inv X (p :: pins) σ H s) : Inv X pins σ H s := I.pins_of fun q hq => I.pin q (List.mem_append_right _ (List.mem_cons_of_mem _ hq))
theorem Inv.pin_hd {p : Addr × Obj} (I : Inv X (p :: pins) σ H s) : s.heap.get? p.1 = some p.2 ∧ H p.1 = none ∧ p.1 ≠ X.env.locals ∧ p.1 ∉ X.fs ∧ ∀ v, p.2.data ≠ .cell v := I.pin p (List.mem_append_right _ (List.mem_cons_self ..))
/-- a list of one's own is written -/
theorem Inv.putL {S : Addr} {xs ys : List V} {us ws : List Value} {n : Nat} (I : Inv X pins σ H s) (hS : H S = some (.lst xs)) (e : s.heap.get? S = some (seqObj "list" us.toArray n)) (r : Vals ys ws) (hl : ys.length ≤ sizeLine) :
    Inv X pins σ (upd H S (.lst ys)) { s with heap := s.heap.update S (Obj.mapSeq fun _ => ws.toArray) } := by
  have e2 := get?_update_seq e fun _ => ws.toArray
  have sb := Heap.SameBut.update s.heap S (Obj.mapSeq fun _ => ws.toArray)
  exact I.write (e := S) (t' := s.toks) (by rw [hS]; trivial) (.inl rfl) (fun b u hb hu => (sb.2 b hb).trans hu) ⟨_, e2⟩ ⟨hl, ws, _, r, e2⟩
theorem min_args (a v : Value) : argsOk "min" ⟨[a], [(Str.ofString "key", v)]⟩ := by unfold argsOk; kernel_rfl
/-- an iterator of one's own at it, i things of the list at l gone by -/
structure ItSt (X : Cx) (pins : List (Addr × Obj)) (σ : L2.St) (it l : Addr) (i : Nat) (H : Hp) (s : Shared) : Prop where
  inv : Inv X pins σ H s
  at_ : s.heap.IsListIter it l i
  fr : H it = none
  nL : it ≠ X.env.locals
  nf : it ∉ X.fs
  ge : X.s_0.heap.objs.size ≤ it
  nc : ∀ x c, X.env.cells.lookup x = some c → c ≠ it
  np : ∀ p ∈ X.pn ++ pins, p.1 ≠ it
theorem ItSt.pinned {it l : Addr} {i : Nat} (I : ItSt X pins σ it l i H s) : ∃ o, Inv X ((it, o) :: pins) σ H s ∧ o.cls = .type "list_iterator" ∧ o.data = .fields #[.ref l, .int i 0] := by
  obtain ⟨o, e, c, d⟩ := I.at_
  exact ⟨o, Inv.pin1 I.inv e I.fr I.nL I.nf (fun v z => by rw [d] at z; cases z), c, d⟩
theorem ItSt.back {it l : Addr} {i : Nat} {H' : Hp} {s' : Shared} {o : Obj} (I : ItSt X pins σ it l i H s) (J : Inv X ((it, o) :: pins) σ H' s') (c : o.cls = .type "list_iterator") (d : o.data = .fields #[.ref l, .int i 0]) : ItSt X pins σ it l i H' s' := by
  obtain ⟨e, n, _⟩ := Inv.pin_hd J
  exact ⟨Inv.unpin1 J, ⟨o, e, c, d⟩, n, I.nL, I.nf, I.ge, I.nc, I.np⟩
theorem ItSt.next {it l : Addr} {i : Nat} {xs : List V} {x : V} {A : Around} {Q : Option Value → Shared → Prop} {E : Value → Shared → Prop} (I : ItSt X pins σ it l i H s) (hh : A.handled = none) (hl : H l = some (.lst xs)) (hx : xs[i]? = some x)
    (h : ∀ u s', ItSt X pins σ it l (i + 1) H s' → RelV x u → (∀ b o, b ≠ it → s.heap.get? b = some o → s'.heap.get? b = some o) → Q (some u) s') : wpAny (model X.prog X.w) A (pyNext (.ref it)) Q E s := by
  obtain ⟨its, r, hs⟩ := isList_of I.inv hl
  have nl : l ≠ it := ne_of_none hl I.fr
  have W := Walks.list (prog := X.prog) (w := X.w) (A := A) hh it l nl its.toArray
  have hi : i < its.toArray.size := by
    rw [List.size_toArray, ← r.length]
    exact (List.getElem?_eq_some_iff.mp hx).1
  refine W.item i s _ _ hi ⟨I.at_, hs⟩ fun v h' tk' hP hst hk => ?_
  have hv : its[i]? = some v := by simpa using hP
  obtain ⟨u, hu, ru⟩ := Vals.get r hx
  rw [hv] at hu
  obtain rfl := Option.some.inj hu
  have k' : ∀ b o, b ≠ it → s.heap.get? b = some o → h'.get? b = some o := fun b o hb e => hk b o (by simpa using hb) e
  exact h v _ ⟨I.inv.turned (t' := tk') k' I.fr I.nL (.inr I.ge) I.nc I.np, hst.1, I.fr, I.nL, I.nf, I.ge, I.nc, I.np⟩ ru k'
theorem ItSt.stop {it l : Addr} {xs : List V} {A : Around} {Q : Option Value → Shared → Prop} {E : Value → Shared → Prop} (I : ItSt X pins σ it l xs.length H s) (hh : A.handled = none) (hl : H l = some (.lst xs))
    (h : ∀ s', Inv X pins σ H s' → (∀ b o, b ≠ it → s.heap.get? b = some o → s'.heap.get? b = some o) → Q none s') : wpAny (model X.prog X.w) A (pyNext (.ref it)) Q E s := by
  obtain ⟨its, r, hs⟩ := isList_of I.inv hl
  have nl : l ≠ it := ne_of_none hl I.fr
  have W := Walks.list (prog := X.prog) (w := X.w) (A := A) hh it l nl its.toArray
  have hi : its.toArray.size = xs.length := by rw [List.size_toArray, ← r.length]
  refine W.done s _ _ ⟨by rw [hi]; exact I.at_, hs⟩ fun h' tk' hk => ?_
  have k' : ∀ b o, b ≠ it → s.heap.get? b = some o → h'.get? b = some o := fun b o hb e => hk b o (by simpa using hb) e
  exact h _ (I.inv.turned (t' := tk') k' I.fr I.nL (.inr I.ge) I.nc I.np) k'
theorem ItSt.put {it l S : Addr} {i n : Nat} {xs ys : List V} {us ws : List Value} (I : ItSt X pins σ it l i H s) (hS : H S = some (.lst xs)) (e : s.heap.get? S = some (seqObj "list" us.toArray n)) (r : Vals ys ws) (hl : ys.length ≤ sizeLine) :
    ItSt X pins σ it l i (upd H S (.lst ys)) { s with heap := s.heap.update S (Obj.mapSeq fun _ => ws.toArray) } := by
  have ne : it ≠ S := (ne_of_none hS I.fr).symm
  obtain ⟨o, e1, c, d⟩ := I.at_
  exact ⟨Inv.putL I.inv hS e r hl, ⟨o, ((Heap.SameBut.update s.heap S (Obj.mapSeq fun _ => ws.toArray)).2 it ne).trans e1, c, d⟩, by rw [upd_ne ne]; exact I.fr, I.nL, I.nf, I.ge, I.nc, I.np⟩
/-- what the heap holds at a tracked list -/
theorem lst_at {S : Addr} {xs : List V} (I : Inv X pins σ H s) (h : H S = some (.lst xs)) : ∃ (its : List Value) (n : Nat), Vals xs its ∧ s.heap.get? S = some (seqObj "list" its.toArray n) := by
  obtain ⟨_, its, n, r, e⟩ := (show ObjOk X.prog X.w H s.heap S (.lst xs) from I.hok S _ h)
  exact ⟨its, n, r, e⟩
abbrev lamO (X : Cx) (params : Arguments) (body : Expr) (scope : Scope) (pm : Value) (c' : Addr) (ctv : Value) : Obj := PySem.W.kla_obj "<lambda>" (X.env.qual ++ "<lambda>") params body scope (cloFrom X.env.cells scope.names []) pm c' ctv
theorem nm_min : (toString "min" ++ toString ".loop" : String) = "min.loop" := by decide
theorem vals_nil_ {us : List Value} (h : Vals [] us) : us = [] := by cases h; rfl
theorem vals_two {x y : V} {us : List Value} (h : Vals [x, y] us) : ∃ u w, us = [u, w] ∧ RelV x u ∧ RelV y w := by
  cases h with
  | cons a b => cases b with
    | cons c d => cases d; exact ⟨_, _, rfl, a, c⟩
section
variable {scope : Scope} {f c' l it S : Addr} {a : Str} {params : Arguments} {body : Expr} {pm ctv : Value} {k ia : Nat} {v0 v1 k0 : V} {R : Result → Shared → Prop} {tb : TE}
/-- what does not change between the turns -/
structure MinK (X : Cx) (scope : Scope) (a : Str) (params : Arguments) (body : Expr) (f c' : Addr) (k ia : Nat) (tb : TE) : Prop where
  P : LamP X.env.scope scope a
  bind : ∀ (q : Str) (cl : List (Str × Addr)) (pm cv ctv v : Value), bindArgs (PySem.W.kla_fn "<lambda>" q params body scope cl pm cv ctv) ⟨[v], []⟩ = pure [(a, v)]
  hr : Room (k + 1) X.A.in1
  body : ∀ (A : Around) (outer : List Env) (s : Shared) (H : Hp) (E : XK), Room k (A.deeper (lamEnv X scope s.heap.objs.size f c')) → PE (lamCx X A outer s H E scope f c') body tb
  hi : X.N[ia]? = some a
  nd : X.N.Nodup
theorem turnA (M : MinK X scope a params body f c' k ia tb) (I : ItSt X ((f, lamO X params body scope pm c' ctv) :: pins) σ it l 0 H s) (hS : H S = some (.lst [])) (hl : H l = some (.lst [v0, v1])) (hc : H c' = some (CodeO c' (X.env.qual ++ "<lambda>")))
    {Ps : VK} (h : tb (σ.set ia (some v0)) H Ps) (hp : ∀ k0 H3, Ps k0 H3 → H3 S = some (.lst []) ∧ ∀ s', ItSt X ((f, lamO X params body scope pm c' ctv) :: pins) σ it l 1 (upd H3 S (.lst [v0, k0])) s' → codeAny (model X.prog X.w) X.A (.builtin "min.loop" ⟨[.ref it, .ref f, .ref S], []⟩) R s') :
    codeAny (model X.prog X.w) X.A (.builtin "min.loop" ⟨[.ref it, .ref f, .ref S], []⟩) R s := by
  obtain ⟨its, n, r, e⟩ := lst_at I.inv hS
  obtain rfl := vals_nil_ r
  refine codeAny_builtin PySem.F.entry_min_loop ?_
  rw [Around.under_plainId PySem.F.plain_min_loop _]
  show wpAny _ X.A.in1 (seqItems? (.ref S) >>= _) _ _ _
  refine wpAny_bind (wpAny_seqItems e rfl ?_)
  show wpAny _ X.A.in1 (tryCatch (pyNext (.ref it)) _ >>= _) _ _ _
  refine wpAny_bind (wpAny_tryCatch (I.next M.hr.hd hl (x := v0) rfl fun u s1 I1 ru k1 => ?_))
  obtain ⟨o, Ip, oc, od⟩ := I1.pinned
  have of_ := (Inv.pin_hd (Inv.unpin1 Ip)).1
  show wpAny _ X.A.in1 (tryCatch (holding [u] (call (.ref f) [u])) _ >>= _) _ _ _
  refine wpAny_bind (wpAny_tryCatch (wpAny_holding (thn (lamP_call Ip M.P of_ M.bind M.hr M.body M.hi M.nd hc ru h) fun w0 s3 ⟨k0, H3, J, rk, qq⟩ => ?_)))
  obtain ⟨q1, q2⟩ := hp k0 H3 qq
  have I3 := I1.back J oc od
  obtain ⟨its3, n3, r3, e3⟩ := lst_at I3.inv q1
  show wpAny _ X.A.in1 (updateSeq S (fun _ => #[u, w0]) >>= _) _ _ _
  refine wpAny_bind (wpAny_updateSeq e3 rfl ?_ (by rw [vals_nil_ r3]; decide))
  rw [nm_min]
  exact wpAny_pure ⟨plainId_quiet PySem.F.plain_min_loop _, q2 _ (I3.put q1 e3 (us := its3) (ws := [u, w0]) (.cons ru (.cons rk .nil)) len2)⟩
theorem turnB (M : MinK X scope a params body f c' k ia tb) (I : ItSt X ((f, lamO X params body scope pm c' ctv) :: pins) σ it l 1 H s) (hS : H S = some (.lst [v0, k0])) (hl : H l = some (.lst [v0, v1])) (hc : H c' = some (CodeO c' (X.env.qual ++ "<lambda>")))
    {Ps : VK} (h : tb (σ.set ia (some v1)) H Ps) (hp : ∀ k1 H4, Ps k1 H4 → H4 S = some (.lst [v0, k0]) ∧ (∃ (a b : Addr) (ns ms : List Int), k1 = .ref a ∧ k0 = .ref b ∧ SqT X.K H4 a (ns.map V.int) ∧ SqT X.K H4 b (ms.map V.int)) ∧
      ∀ v kx H5 s', v = v0 ∨ v = v1 → H5 S = some (.lst [v, kx]) → (∀ b, b ≠ S → H5 b = H4 b) → ItSt X ((f, lamO X params body scope pm c' ctv) :: pins) σ it l 2 H5 s' → codeAny (model X.prog X.w) X.A (.builtin "min.loop" ⟨[.ref it, .ref f, .ref S], []⟩) R s') :
    codeAny (model X.prog X.w) X.A (.builtin "min.loop" ⟨[.ref it, .ref f, .ref S], []⟩) R s := by
  obtain ⟨its, n, r, e⟩ := lst_at I.inv hS
  obtain ⟨u0, w0, rfl, ru0, rw0⟩ := vals_two r
  refine codeAny_builtin PySem.F.entry_min_loop ?_
  rw [Around.under_plainId PySem.F.plain_min_loop _]
  show wpAny _ X.A.in1 (seqItems? (.ref S) >>= _) _ _ _
  refine wpAny_bind (wpAny_seqItems e rfl ?_)
  show wpAny _ X.A.in1 (tryCatch (pyNext (.ref it)) _ >>= _) _ _ _
  refine wpAny_bind (wpAny_tryCatch (I.next M.hr.hd hl (x := v1) rfl fun u s1 I1 ru k1 => ?_))
  obtain ⟨o, Ip, oc, od⟩ := I1.pinned
  have of_ := (Inv.pin_hd (Inv.unpin1 Ip)).1
  show wpAny _ X.A.in1 (tryCatch (holding [u] (call (.ref f) [u])) _ >>= _) _ _ _
  refine wpAny_bind (wpAny_tryCatch (wpAny_holding (thn (lamP_call Ip M.P of_ M.bind M.hr M.body M.hi M.nd hc ru h) fun w1 s3 ⟨k1, H4, J, rk, qq⟩ => ?_)))
  obtain ⟨q1, ⟨a1, b1, ns, ms, ek1, ek0, t1, t2⟩, q2⟩ := hp k1 H4 qq
  have I3 := I1.back J oc od
  subst ek1 ek0
  cases rk
  cases rw0
  obtain ⟨its3, n3, r3, e3⟩ := lst_at I3.inv q1
  obtain ⟨x3, y3, rfl, rx3, ry3⟩ := vals_two r3
  obtain ⟨i1, p1, tt1, _⟩ := I3.inv.tuple t1
  obtain ⟨i2, p2, tt2, _⟩ := I3.inv.tuple t2
  show wpAny _ X.A.in1 (tryCatch (holding [u, .ref a1] (compareOp .Lt (.ref a1) (.ref b1) >>= _)) _ >>= _) _ _ _
  refine wpAny_bind (wpAny_tryCatch (wpAny_holding (wpAny_bind (HT.lt_tupInts tt1 tt2 (intsAre_of p1) (intsAre_of p2) M.hr.units0 ?_))))
  refine wpAny_bind (wpAny_holding (wpAny_truthy_bool ?_))
  refine wpAny_bind (wpAny_letGo (wpAny_pure ?_))
  cases HT.lexLt ns ms with
  | true =>
    simp only [if_true]
    refine wpAny_bind ?_
    refine wpAny_updateSeq e3 rfl (wpAny_bind (wpAny_letGo ?_))
    rw [nm_min]
    exact wpAny_pure ⟨plainId_quiet PySem.F.plain_min_loop _, q2 v1 _ _ _ (.inr rfl) upd_same (fun b hb => upd_ne hb) (I3.put q1 e3 (us := [x3, y3]) (ws := [u, .ref a1]) (ys := [v1, .ref a1]) (.cons ru (.cons rfl .nil)) len2)⟩
  | false =>
    simp only [Bool.false_eq_true, if_false]
    refine wpAny_bind (wpAny_letGo ?_)
    rw [nm_min]
    exact wpAny_pure ⟨plainId_quiet PySem.F.plain_min_loop _, q2 v0 _ _ _ (.inl rfl) q1 (fun b hb => rfl) I3⟩
theorem turnC (hh : X.A.in1.handled = none) {v kx : V} (I : ItSt X ((f, lamO X params body scope pm c' ctv) :: pins) σ it l 2 H s) (hS : H S = some (.lst [v, kx])) (hl : H l = some (.lst [v0, v1]))
    (h : ∀ u s', RelV v u → Inv X ((f, lamO X params body scope pm c' ctv) :: pins) σ (upd H S (.lst [])) s' → R (.ok (.ret u)) s') :
    codeAny (model X.prog X.w) X.A (.builtin "min.loop" ⟨[.ref it, .ref f, .ref S], []⟩) R s := by
  obtain ⟨its, n, r, e⟩ := lst_at I.inv hS
  obtain ⟨u0, w0, rfl, ru0, rw0⟩ := vals_two r
  refine codeAny_builtin PySem.F.entry_min_loop ?_
  rw [Around.under_plainId PySem.F.plain_min_loop _]
  show wpAny _ X.A.in1 (seqItems? (.ref S) >>= _) _ _ _
  refine wpAny_bind (wpAny_seqItems e rfl ?_)
  show wpAny _ X.A.in1 (tryCatch (pyNext (.ref it)) _ >>= _) _ _ _
  refine wpAny_bind (wpAny_tryCatch (ItSt.stop (xs := [v0, v1]) I hh hl fun s1 I1 k1 => ?_))
  have ne : S ≠ it := ne_of_none hS I.fr
  have e1 := k1 S _ ne e
  show wpAny _ X.A.in1 (updateSeq S (fun _ => #[]) >>= _) _ _ _
  refine wpAny_bind (wpAny_updateSeq e1 rfl (wpAny_bind (wpAny_letGo (wpAny_pure ?_))))
  exact h u0 _ ru0 (Inv.putL I1 hS e1 (us := [u0, w0]) (ws := []) .nil (Nat.zero_le _))
end
/-- min over two things: I0 the state behind the lambda's making -/
theorem min_two {scope : Scope} {f c' l : Addr} {a : Str} {params : Arguments} {body : Expr} {pm ctv : Value} {k ia : Nat} {v0 v1 : V} {Q : VK} {E' : Value → Shared → Prop} {tb : TE} (I0 : Inv X pins σ H s) (P : LamP X.env.scope scope a)
    (hf : s.heap.get? f = some (PySem.W.kla_obj "<lambda>" (X.env.qual ++ "<lambda>") params body scope (cloFrom X.env.cells scope.names []) pm c' ctv)) (hfn : H f = none) (hfs : f ∉ frs X.stack)
    (hbind : ∀ (q : Str) (cl : List (Str × Addr)) (pm cv ctv v : Value), bindArgs (PySem.W.kla_fn "<lambda>" q params body scope cl pm cv ctv) ⟨[v], []⟩ = pure [(a, v)])
    (hr : Room (k + 3) X.A) (hbody : ∀ (A : Around) (outer : List Env) (s : Shared) (H : Hp) (E : XK), Room k (A.deeper (lamEnv X scope s.heap.objs.size f c')) → PE (lamCx X A outer s H E scope f c') body tb)
    (hi : X.N[ia]? = some a) (nd : X.N.Nodup) (hc : H c' = some (CodeO c' (X.env.qual ++ "<lambda>"))) (hL : H l = some (.lst [v0, v1]))
    (h : ∀ S : Addr, H S = none → tb (σ.set ia (some v0)) (upd H S (.lst [])) fun k0 H3 => H3 S = some (.lst []) ∧ H3 l = some (.lst [v0, v1]) ∧ H3 c' = some (CodeO c' (X.env.qual ++ "<lambda>")) ∧
      tb (σ.set ia (some v1)) (upd H3 S (.lst [v0, k0])) fun k1 H4 => H4 S = some (.lst [v0, k0]) ∧ H4 l = some (.lst [v0, v1]) ∧
        (∃ (a b : Addr) (ns ms : List Int), k1 = .ref a ∧ k0 = .ref b ∧ SqT X.K H4 a (ns.map V.int) ∧ SqT X.K H4 b (ms.map V.int)) ∧ ∀ v, v = v0 ∨ v = v1 → Q v (upd H4 S (.lst []))) :
    wpAny (model X.prog X.w) X.A (call (.builtin "min") [.ref l] [(Str.ofString "key", .ref f)]) (EP X pins σ Q) E' s := by
  have hname : (toString "min" ++ toString ".loop" : String) = "min.loop" := by decide
  have hr1 : Room (k + 2) X.A.in1 := hr.in1
  have nfs : f ∉ X.fs := fun z => hfs (by
    rcases I0.ok.stk with q | ⟨q, _⟩
    · rw [q]; exact z
    · rw [q]
      obtain ⟨e, he, hx⟩ := List.mem_filterMap.mp z
      exact List.mem_filterMap.mpr ⟨e, List.mem_cons_of_mem _ he, hx⟩)
  have nfL : f ≠ X.env.locals := fun z => by
    obtain ⟨m, ⟨o, es, ep, ho, hd, _⟩, _⟩ := I0.loc
    rw [← z, hf] at ho
    cases ho
    cases hd
  have If := Inv.pin1 I0 hf hfn nfL nfs (fun v z => by cases z)
  obtain ⟨its, rl, hls⟩ := isList_of If hL
  refine kmk_tree PySem.F.kind_min PySem.F.plain_min PySem.F.entry_min (min_args _ _) ?_
  show wpAny _ X.A.in1 (Builtin.Builtins.bindParams "min" ["key", "default"] 0 ⟨[], [(Str.ofString "key", .ref f)]⟩ >>= _) _ _ s
  refine wpAny_bind (wpAny_of_eq (show Builtin.Builtins.bindParams "min" ["key", "default"] 0 ⟨[], [(Str.ofString "key", .ref f)]⟩ = pure [some (.ref f), none] from rfl) ?_)
  refine wpAny_bind (wpAny_pure (wpAny_bind (wpAny_pyIter_list hls (wpAny_bind (wpAny_newList ?_ (Nat.zero_le _))))))
  rw [hname]
  refine wpAny_pure ⟨plainId_quiet PySem.F.plain_min_loop _, ?_⟩
  -- the iterator, the list of the best
  have hlt : s.heap.objs.size = s.heap.objs.size := rfl
  generalize hit : s.heap.objs.size = it at *
  have hS0 : ((s.heap.push { cls := .type "list_iterator", data := .fields #[.ref l, .int 0 0] }).objs.size) = it + 1 := by rw [size_push', hit]
  have H_it : H it = none := I0.hok.fresh (Nat.le_of_eq hit)
  have geI : X.s_0.heap.objs.size ≤ it := by rw [← hit]; exact I0.sz
  have h1 : ∀ b o, s.heap.get? b = some o → (s.heap.push { cls := .type "list_iterator", data := .fields #[.ref l, .int 0 0] }).get? b = some o := fun b o e => Heap.get?_push_of_some _ e
  have J1 : Inv X ((f, PySem.W.kla_obj "<lambda>" (X.env.qual ++ "<lambda>") params body scope (cloFrom X.env.cells scope.names []) pm c' ctv) :: pins) σ H { s with heap := s.heap.push { cls := .type "list_iterator", data := .fields #[.ref l, .int 0 0] } } := If.kept (t' := s.toks) h1
  have HS : H (it + 1) = none := J1.hok.fresh (Nat.le_of_eq hS0)
  have gI : ((s.heap.push { cls := .type "list_iterator", data := .fields #[.ref l, .int 0 0] }).push { cls := .type "list", data := .seq #[] }).get? it = some { cls := .type "list_iterator", data := .fields #[.ref l, .int 0 0] } := by
    refine Heap.get?_push_of_some _ ?_
    rw [← hit]; exact Heap.get?_push_size _ rfl
  have gS : ((s.heap.push { cls := .type "list_iterator", data := .fields #[.ref l, .int 0 0] }).push { cls := .type "list", data := .seq #[] }).get? (it + 1) = some (seqObj "list" ([] : List Value).toArray 0) := by
    rw [← hS0]; exact Heap.get?_push_size _ rfl
  have J2 : Inv X ((f, PySem.W.kla_obj "<lambda>" (X.env.qual ++ "<lambda>") params body scope (cloFrom X.env.cells scope.names []) pm c' ctv) :: pins) σ (upd H (it + 1) (.lst []))
      { s with heap := (s.heap.push { cls := .type "list_iterator", data := .fields #[.ref l, .int 0 0] }).push { cls := .type "list", data := .seq #[] } } :=
    J1.laid (a := it + 1) (o := .lst []) (t' := s.toks) (fun b o e => Heap.get?_push_of_some _ e) (Nat.le_of_eq hS0) ⟨Nat.zero_le _, [], 0, .nil, gS⟩
  have ltS : ∀ b o, s.heap.get? b = some o → b ≠ it := fun b o e => by
    rw [← hit]; exact Nat.ne_of_lt (Heap.lt_size e)
  have It0 : ItSt X ((f, lamO X params body scope pm c' ctv) :: pins) σ it l 0 (upd H (it + 1) (.lst [])) { s with heap := (s.heap.push { cls := .type "list_iterator", data := .fields #[.ref l, .int 0 0] }).push { cls := .type "list", data := .seq #[] } } := by
    refine ⟨J2, ⟨_, gI, rfl, rfl⟩, by rw [upd_ne (Nat.ne_of_lt (Nat.lt_succ_self it))]; exact H_it, fun z => ?_, fun z => If.nofs (Nat.le_of_eq hit) z, geI, fun x c e z => ?_, fun p hp => ltS p.1 p.2 (If.pin p hp).1⟩
    · have q := If.lt
      rw [← z, ← hit] at q
      exact Nat.lt_irrefl _ q
    · obtain ⟨v, o, e1, _⟩ := If.cell x c e
      exact ltS c o e1 z
  have ne_c : c' ≠ it + 1 := ne_of_none hc HS
  have ne_l : l ≠ it + 1 := ne_of_none hL HS
  have M : MinK X scope a params body f c' k ia tb := ⟨P, hbind, hr1.mono (by omega), hbody, hi, nd⟩
  show codeAny (model X.prog X.w) X.A (.builtin "min.loop" ⟨[.ref it, .ref f, .ref (s.heap.push { cls := .type "list_iterator", data := .fields #[.ref l, .int 0 0] }).objs.size], []⟩) _ _
  rw [hS0]
  refine turnA M It0 upd_same (by rw [upd_ne ne_l]; exact hL) (by rw [upd_ne ne_c]; exact hc) (h (it + 1) HS) fun k0 H3 ⟨e1, e2, e3, q⟩ => ⟨e1, fun s1 I1 => ?_⟩
  have ne_l3 : l ≠ it + 1 := ne_l
  refine turnB M I1 upd_same (by rw [upd_ne ne_l]; exact e2) (by rw [upd_ne ne_c]; exact e3) q fun k1 H4 ⟨f1, f2, f3, q2⟩ => ⟨f1, f3, fun v kx H5 s2 hv g1 g2 I2 => ?_⟩
  refine turnC hr1.hd I2 g1 (by rw [g2 l ne_l]; exact f2) fun u s3 ru J => ?_
  have eH : upd H5 (it + 1) (.lst []) = upd H4 (it + 1) (.lst []) := funext fun b => by
    by_cases hb : b = it + 1
    · rw [hb, upd_same, upd_same]
    · rw [upd_ne hb, upd_ne hb, g2 b hb]
  rw [eH] at J
  exact ⟨v, _, Inv.unpin1 J, ru, q2 v hv⟩
/-- min(e, key = lambda a: body) -/
theorem pe_minlam {T : List (Addr × Str)} {e : Expr} {te : TE} {p lpos kpos pos : Pos} {scope : Scope} {a : Str} {params : Arguments} {body : Expr} {c P : Addr} {k ia : Nat} {tb : TE} (hg : Gl X "min") (hm : X.mg "min" = none) (he : PE X e te)
    (TB : TabB X.base X.mg c P) (hcode : X.env.code = .ref c) (hmT : (P, X.env.qual ++ "<lambda>") ∈ T) (hu : ∀ p ∈ T, p.1 = P → p.2 = X.env.qual ++ "<lambda>") (hr : Room (k + 3) X.A) (L : LamP X.env.scope scope a) (hdef : defaultsOf params X.env = ([], []))
    (hbind : ∀ (q : Str) (cl : List (Str × Addr)) (pm cv ctv v : Value), bindArgs (PySem.W.kla_fn "<lambda>" q params body scope cl pm cv ctv) ⟨[v], []⟩ = pure [(a, v)])
    (hbody : ∀ (f c' : Addr) (A : Around) (outer : List Env) (s : Shared) (H : Hp) (E : XK), Room k (A.deeper (lamEnv X scope s.heap.objs.size f c')) → PE (lamCx X A outer s H E scope f c') body tb) (hi : X.N[ia]? = some a) (nd : X.N.Nodup)
    (hs : starEach [e] X.env = [(false, eval e X.env)] := by rfl) :
    PE X (.Call (.Name "min" p) [e] [⟨some "key", .Lambda params body scope lpos, kpos⟩] pos) (tMinL X.K (X.env.qual ++ "<lambda>") T te ia tb) := by
  refine ⟨fun pins s σ H Q I h => ?_⟩
  refine wpAny_Call_Name_kw (ld_blt I hg hm PyProof.Rows.boot_min ?_ (by decide) (by decide))
  refine PyProof.Rows.callWith_kw (thn ((pa_cons he pa_nil (by rw [hs]; rfl)).run pos pins s σ H (one_ (rMinL X.K (X.env.qual ++ "<lambda>") T ia tb σ Q)) I h) fun us s1 ⟨vs, H1, I1, r1, q1⟩ => ?_) (by rw [hs]; rfl) (by rw [hs]; rfl) (by rfl) (by rfl)
  obtain ⟨x, rfl⟩ : ∃ x, vs = [x] := by
    unfold one_ at q1
    split at q1
    · exact ⟨_, rfl⟩
    · exact q1.elim
  obtain ⟨l, v0, v1, ex, hl, hT, q⟩ := (show rMinL X.K (X.env.qual ++ "<lambda>") T ia tb σ Q x H1 from q1)
  subst ex
  obtain ⟨u, rfl, ru⟩ : ∃ u, us = [u] ∧ RelV (.ref l) u := by
    cases r1 with
    | cons r r' => cases r'; exact ⟨_, rfl, r⟩
  cases ru
  show wpAny _ _ (evalAll [(do let v ← eval (.Lambda params body scope lpos) X.env; standAt pos; pure v)]) _ _ s1
  refine wpAny_evalAll_cons (wpAny_bind (lam_make2 I1 TB hcode hmT hu hT hdef (L.has I1.ok) fun f c' pm' ctv H2 s2 I2 eN T2 hf hfn hfr hco => wpAny_bind (wpAny_standAt (wpAny_pure (wpAny_evalAll_nil ?_)))))
  show wpAny _ _ (call (.builtin "min") [.ref l] [(Str.ofString "key", .ref f)]) _ _ s2
  exact min_two I2 L hf hfn hfr hbind hr (hbody f c') hi nd hco (eN _ _ hl (fun ps z => by cases z)) fun S hS => q c' S H2 eN T2 hco hS
end
end
end Sand

set_option Elab.async false
set_option linter.all false
set_option maxRecDepth 100000
set_option maxHeartbeats 4000000
namespace Sand
open PySem PySem.Spec PyProof.Rows L2
section
variable {P : Program} {w : World} {K : PySem.W.Frag} {mg : Str → Option Value} {base : Heap} {C L : Addr} {tb : Addr × Str}
-- 0 square, 1 i, 2 j
abbrev N_ends_of : List Str := ["square", "i", "j"]
theorem sc_ends_of : FnScope N_ends_of ["square"] (defScope s_ends_of) := C8.fnScope_by (by decide +kernel)
def spEnds (tb : Addr × Str) : Sp := fun vs H Q _ => ∃ (G : Hp) (v : V) (s : Pt), vs = [v] ∧ Vw tb G H ∧ At G v (pD s) ∧ Ret tb no G H (fun G' u => At G' u (.list [pD (ends s).1, pD (ends s).2])) Q
theorem ok_ends_of (D : DefAt K mg "ends_of" s_ends_of) : C8.Cal P w K mg base 1 "ends_of" (spEnds tb) [] := by
  refine D.cal (N := N_ends_of) (ps := ["square"]) (fun _ _ _ _ _ _ us hl => match us, hl with | [_], _ => rfl) sc_ends_of (fun vs H Q E h => ?_) (fun f cdv A outer s H vs Q E hr h => ?_)
  · obtain ⟨G, v, s, rfl, _⟩ := h
    rfl
  · obtain ⟨G, v, ⟨i, j⟩, rfl, g, ha, k⟩ := h
    obtain ⟨a, rfl, hG⟩ := ha.pt
    refine ⟨_, (pss_cons (ps_asg (pv 0) (pg_tup rfl (pgs_cons (pg_name (i := 1) sc_ends_of.nd rfl (Or.inl rfl)) (pgs_cons (pg_name (i := 2) sc_ends_of.nd rfl (Or.inl rfl)) pgs_nil))))
  (pss_cons (ps_if (pt_cmpR op_eq (pe_op op_and (pe_op op_add (pv 1) (pv 2)) pe_int) pe_int (nomark _)) (pss_one (ps_ret (pe_lst (pa_cons (pe_tup (pa_cons (pv 1) (pa_cons (pe_op op_add (pv 2) pe_int) pa_nil))) (pa_cons (pe_tup (pa_cons (pe_op op_add (pv 1) pe_int) (pa_cons (pv 2) pa_nil))) pa_nil))))) pss_nil)
  (pss_one (ps_ret (pe_lst (pa_cons (pe_tup (pa_cons (pv 1) (pa_cons (pv 2) pa_nil))) (pa_cons (pe_tup (pa_cons (pe_op op_add (pv 1) pe_int) (pa_cons (pe_op op_add (pv 2) pe_int) pa_nil))) pa_nil))))))), ?_⟩
    refine ⟨_, rfl, a, _, rfl, SqT.of (g.gh _ _ hG), rfl, _, _, rfl, _, _, rfl, rfl, ?_⟩
    by_cases e : (i + j) % 2 = 0
    · refine ⟨_, rfl, _, rfl, _, _, rfl, rfl, _, _, rfl, rfl, rfl, true, blT (vi (by rw [bitAnd_m1]; exact e)), iteT ?_⟩
      refine ⟨_, rfl, _, rfl, _, _, rfl, rfl, len2, fun p hp => ⟨_, rfl, _, _, rfl, rfl, _, rfl, len2, fun q hq => ⟨len2, fun l hl => ?_⟩⟩⟩
      obtain ⟨g1, s1, e1⟩ := (Go.refl (M := no) g).tup hp [.int i, .int (j + 1)]
      obtain ⟨g2, s2, e2⟩ := g1.tup hq [.int (i + 1), .int j]
      obtain ⟨g3, s3, e3⟩ := g2.lst hl [.ref p, .ref q]
      refine k _ _ _ g3 (.lst e3 (.cons (At.mono s3 _ (At.mono s2 _ (?_ : At _ _ (pD (ends (i, j)).1)))) (.cons (At.mono s3 _ (?_ : At _ _ (pD (ends (i, j)).2))) .nil)))
      · have e0 : (ends (i, j)).1 = (i, j + 1) := by unfold ends; rw [if_pos e]
        rw [e0]; exact At.ofPt e1
      · have e0 : (ends (i, j)).2 = (i + 1, j) := by unfold ends; rw [if_pos e]
        rw [e0]; exact At.ofPt e2
    · refine ⟨_, rfl, _, rfl, _, _, rfl, rfl, _, _, rfl, rfl, rfl, false, blF (vi_ne (by rw [bitAnd_m1]; exact e)), iteF ?_⟩
      refine ⟨_, rfl, _, rfl, len2, fun p hp => ⟨_, rfl, _, _, rfl, rfl, _, rfl, _, _, rfl, rfl, len2, fun q hq => ⟨len2, fun l hl => ?_⟩⟩⟩
      obtain ⟨g1, s1, e1⟩ := (Go.refl (M := no) g).tup hp [.int i, .int j]
      obtain ⟨g2, s2, e2⟩ := g1.tup hq [.int (i + 1), .int (j + 1)]
      obtain ⟨g3, s3, e3⟩ := g2.lst hl [.ref p, .ref q]
      refine k _ _ _ g3 (.lst e3 (.cons (At.mono s3 _ (At.mono s2 _ (?_ : At _ _ (pD (ends (i, j)).1)))) (.cons (At.mono s3 _ (?_ : At _ _ (pD (ends (i, j)).2))) .nil)))
      · have e0 : (ends (i, j)).1 = (i, j) := by unfold ends; rw [if_neg e]
        rw [e0]; exact At.ofPt e1
      · have e0 : (ends (i, j)).2 = (i + 1, j + 1) := by unfold ends; rw [if_neg e]
        rw [e0]; exact At.ofPt e2
end
end Sand

set_option Elab.async false
set_option linter.all false
set_option maxRecDepth 100000
set_option maxHeartbeats 4000000
namespace Sand
open PySem PySem.Spec PyProof.Rows L2
section
variable {P : Program} {w : World} {K : PySem.W.Frag} {mg : Str → Option Value} {base : Heap} {C L : Addr} {tb : Addr × Str}
-- 0 square, 1 point, 2 one, 3 other
abbrev N_other_end : List Str := ["square", "point", "one", "other"]
theorem sc_other_end : FnScope N_other_end ["square", "point"] (defScope s_other_end) := C8.fnScope_by (by decide +kernel)
def spOther (tb : Addr × Str) : Sp := fun vs H Q _ => ∃ (G : Hp) (v u : V) (s p : Pt), vs = [v, u] ∧ Vw tb G H ∧ At G v (pD s) ∧ At G u (pD p) ∧ Ret tb no G H (fun G' u => At G' u (pD (other s p))) Q
theorem ok_other_end (D : DefAt K mg "other_end" s_other_end) (c_ends_of : C8.Cal P w K mg base 1 "ends_of" (spEnds tb) []) : C8.Cal P w K mg base 2 "other_end" (spOther tb) [] := by
  refine D.cal (N := N_other_end) (ps := ["square", "point"]) (fun _ _ _ _ _ _ us hl => match us, hl with | [_, _], _ => rfl) sc_other_end (fun vs H Q E h => ?_) (fun f cdv A outer st H vs Q E hr h => ?_)
  · obtain ⟨G, v, u, s, p, rfl, _⟩ := h
    rfl
  · obtain ⟨G, v, u, s, p, rfl, g, hv, hu1, k⟩ := h
    refine ⟨_, (pss_cons (ps_asg (C8.pe_c c_ends_of hr (by decide) rfl (pa_cons (pv 0) pa_nil)) (pg_unl rfl (pgs_cons (pg_name (i := 2) sc_other_end.nd rfl (Or.inl rfl)) (pgs_cons (pg_name (i := 3) sc_other_end.nd rfl (Or.inl rfl)) pgs_nil))))
  (pss_one (ps_ret (pe_ifExp (pt_cmpR (op_eqD hr.units) (pv 1) (pv 2) (nomark _)) (pv 3) (pv 2))))), ?_⟩
    refine ⟨_, rfl, G, v, s, rfl, g, hv, fun G1 H1 l g1 hl => ?_⟩
    obtain ⟨a, xs, rfl, ha, hx⟩ := At.lst_ hl
    obtain ⟨x, ws, rfl, h1, hx⟩ := hx.cons_
    obtain ⟨y, ws, rfl, h2, hx⟩ := hx.cons_
    rw [hx.nil_] at ha
    refine ⟨a, [x, y], rfl, SqL.of (g1.gh _ _ ha), rfl, _, _, rfl, _, _, rfl, rfl, ?_⟩
    have hp := At.mono g1.gg _ hu1
    refine ⟨_, rfl, _, rfl, pD p, pD (ends s).1, At.dp g1.gh _ hp, At.dp g1.gh _ h1, rfl, rfl, ?_⟩
    rw [pD_eqv]
    by_cases e : p = (ends s).1
    · refine ⟨true, blT e, iteT ⟨_, rfl, k _ _ _ g1 ?_⟩⟩
      have e0 : other s p = (ends s).2 := by unfold other; rw [if_pos e]
      rw [e0]; exact h2
    · refine ⟨false, blF e, iteF ⟨_, rfl, k _ _ _ g1 ?_⟩⟩
      have e0 : other s p = (ends s).1 := by unfold other; rw [if_neg e]
      rw [e0]; exact h1
-- 0 self
abbrev N_Board_width : List Str := ["self"]
theorem sc_Board_width : FnScope N_Board_width ["self"] (defScope s_Board_width) := C8.fnScope_by (by decide +kernel)
def spWid (C : Addr) : Sp := fun vs H Q _ => ∃ (G : Hp) (p : Addr) (B : Bd) (n : Nat), vs = [.ref p] ∧ Same G H ∧ BoardAt C G p B n ∧ Q (.int B.w) H
theorem ok_width (D : PrpAt K C "width" "Board.width" s_Board_width) (T : Txt K mg C L) : Prp P w K mg base 1 C "width" (spWid C) := by
  refine D.prp T.cB (N := N_Board_width) (ps := ["self"]) (fun _ _ _ _ _ _ us hl => match us, hl with | [_], _ => rfl) sc_Board_width (fun vs H Q E h => ?_) (fun f cdv A outer st H vs Q E hr h => ?_)
  · obtain ⟨G, p, B, n, rfl, _⟩ := h
    rfl
  · obtain ⟨G, p, B, n, rfl, s, ⟨dx, d, ms, h1, _⟩, k⟩ := h
    refine ⟨_, pss_one (ps_ret (pe_fld (pv 0) rfl)), ?_⟩
    exact ⟨_, rfl, p, C, dx, _, _, rfl, s _ _ h1, T.cB, T.nW, bF_wide _ _ _, k⟩
-- 0 self
abbrev N_Board_height : List Str := ["self"]
theorem sc_Board_height : FnScope N_Board_height ["self"] (defScope s_Board_height) := C8.fnScope_by (by decide +kernel)
def spHei (C : Addr) : Sp := fun vs H Q _ => ∃ (G : Hp) (p : Addr) (B : Bd) (n : Nat), vs = [.ref p] ∧ Same G H ∧ BoardAt C G p B n ∧ Q (.int B.h) H
theorem ok_height (D : PrpAt K C "height" "Board.height" s_Board_height) (T : Txt K mg C L) : Prp P w K mg base 1 C "height" (spHei C) := by
  refine D.prp T.cB (N := N_Board_height) (ps := ["self"]) (fun _ _ _ _ _ _ us hl => match us, hl with | [_], _ => rfl) sc_Board_height (fun vs H Q E h => ?_) (fun f cdv A outer st H vs Q E hr h => ?_)
  · obtain ⟨G, p, B, n, rfl, _⟩ := h
    rfl
  · obtain ⟨G, p, B, n, rfl, s, ⟨dx, d, ms, h1, _⟩, k⟩ := h
    refine ⟨_, pss_one (ps_ret (pe_fld (pv 0) rfl)), ?_⟩
    exact ⟨_, rfl, p, C, dx, _, _, rfl, s _ _ h1, T.cB, T.nH, bF_high _ _ _, k⟩
-- 0 width, 1 height, 2 x, 3 y
abbrev N_is_inside : List Str := ["width", "height", "x", "y"]
theorem sc_is_inside : FnScope N_is_inside ["width", "height", "x", "y"] (defScope s_is_inside) := C8.fnScope_by (by decide +kernel)
def InsI (a b x y : Int) : Prop := 0 < x ∧ x < 2 * a ∧ 0 < y ∧ y < 2 * b ∧ (x + y) % 2 = 1
def spIns : Sp := fun vs H Q _ => ∃ a b x y : Int, vs = [.int a, .int b, .int x, .int y] ∧ ∀ r : Bool, (r = true ↔ InsI a b x y) → Q (.bl r) H
theorem ok_is_inside (D : DefAt K mg "is_inside" s_is_inside) : C8.Cal P w K mg base 1 "is_inside" spIns [] := by
  refine D.cal (N := N_is_inside) (ps := ["width", "height", "x", "y"]) (fun _ _ _ _ _ _ us hl => match us, hl with | [_, _, _, _], _ => rfl) sc_is_inside (fun vs H Q E h => ?_) (fun f cdv A outer st H vs Q E hr h => ?_)
  · obtain ⟨a, b, x, y, rfl, _⟩ := h
    rfl
  · obtain ⟨a, b, x, y, rfl, k⟩ := h
    refine ⟨_, (pss_one (ps_ret (pe_and (pe_chain op_lt op_lt pe_int (pv 2) (pe_op op_mul pe_int (pv 0))) (pe_and (pe_chain op_lt op_lt pe_int (pv 3) (pe_op op_mul pe_int (pv 1))) (pe_one (pe_cmpR op_eq (pe_op op_mod (pe_op op_add (pv 2) (pv 3)) pe_int) pe_int (nomark _))))))), ?_⟩
    have no_ : ¬ InsI a b x y → Q (.bl false) H := fun z => k false ⟨fun q => Bool.noConfusion q, fun q => (z q).elim⟩
    have c1 : ∀ i j : Int, CMul 2 i := fun i j => .inl ⟨by decide, by decide⟩
    refine ⟨_, rfl, _, _, rfl, rfl, ?_⟩
    by_cases h1 : 0 < x
    · refine ⟨true, blT h1, iteT ⟨_, rfl, _, _, rfl, rfl, c1 _ 0, _, _, rfl, rfl, ?_⟩⟩
      by_cases h2 : x < 2 * a
      · refine ⟨true, blT h2, iteT ⟨_, rfl, _, _, rfl, rfl, ?_⟩⟩
        by_cases h3 : 0 < y
        · refine ⟨true, blT h3, iteT ⟨_, rfl, _, _, rfl, rfl, c1 _ 0, _, _, rfl, rfl, ?_⟩⟩
          by_cases h4 : y < 2 * b
          · refine ⟨true, blT h4, iteT ⟨_, rfl, _, rfl, _, _, rfl, rfl, _, _, rfl, rfl, (by show (0 : Int) < 2; decide), rfl, ?_⟩⟩
            refine k _ ?_
            rw [decide_eq_true_iff]
            exact ⟨fun z => ⟨h1, h2, h3, h4, V.int.inj z⟩, fun z => vi z.2.2.2.2⟩
          · exact ⟨false, blF h4, iteF (no_ fun z => h4 z.2.2.2.1)⟩
        · exact ⟨false, blF h3, iteF ⟨false, rfl, iteF (no_ fun z => h3 z.2.2.1)⟩⟩
      · exact ⟨false, blF h2, iteF (no_ fun z => h2 z.2.1)⟩
    · exact ⟨false, blF h1, iteF ⟨false, rfl, iteF (no_ fun z => h1 z.1)⟩⟩
/-! ### mirrors by their places -/
theorem key_inj {a b c d : Int} (h : ([Sum.inl a, Sum.inl b] : List Key) = [Sum.inl c, Sum.inl d]) : a = c ∧ b = d := by
  simp only [List.cons.injEq, Sum.inl.injEq, and_true] at h
  exact h
def mV (o : Option Bool) : V := (o.map fun b => V.str (kS b)).getD .non
theorem val_eM (x y : Int) : ∀ ms : List Mir, valV (ms.map eM) ([Sum.inl x, Sum.inl y] : List Key) = (lk ms x y).map fun b => V.str (kS b)
  | [] => rfl
  | m :: ms => by
    have ih := val_eM x y ms
    rw [List.map_cons]
    by_cases e : m.1 = x ∧ m.2.1 = y
    · rw [valV_pos (by show ([Sum.inl m.1, Sum.inl m.2.1] : List Key) = _; rw [e.1, e.2])]
      unfold lk
      rw [List.find?_cons_of_pos (by simp [e])]
      rfl
    · rw [valV_neg (fun z => e (key_inj z)), ih]
      unfold lk
      rw [List.find?_cons_of_neg (by simpa using e)]
-- 0 self, 1 x, 2 y
abbrev N_Board_mirror_at : List Str := ["self", "x", "y"]
theorem sc_Board_mirror_at : FnScope N_Board_mirror_at ["self", "x", "y"] (defScope s_Board_mirror_at) := C8.fnScope_by (by decide +kernel)
def spMAt (tb : Addr × Str) (C : Addr) : Sp := fun vs H Q _ => ∃ (G : Hp) (p : Addr) (B : Bd) (n : Nat) (x y : Int), vs = [.ref p, .int x, .int y] ∧ Vw tb G H ∧ BoardAt C G p B n ∧ Ins B x y ∧ Ret tb no G H (fun _ u => u = mV (B.k x y)) Q
theorem ok_mirror_at (D : MetAt K C "mirror_at" "Board.mirror_at" s_Board_mirror_at) (T : Txt K mg C L) (c_is_inside : C8.Cal P w K mg base 1 "is_inside" spIns []) : C8.Met P w K mg base 2 C "mirror_at" (spMAt tb C) [] := by
  refine D.met T.cB (N := N_Board_mirror_at) (ps := ["self", "x", "y"]) (fun _ _ _ _ _ _ us hl => match us, hl with | [_, _, _], _ => rfl) sc_Board_mirror_at (fun vs H Q E h => ?_) (fun f cdv A outer st H vs Q E hr h => ?_)
  · obtain ⟨G, p, B, n, x, y, rfl, _⟩ := h
    rfl
  · obtain ⟨G, p, B, n, x, y, rfl, g, ⟨dx, d, ms, h1, h2, _, _, _, hk, _⟩, hi, k⟩ := h
    have hu := hu_of hr
    have h1' := g.gh _ _ h1
    have h2' := g.gh _ _ h2
    refine ⟨_, (pss_cons (ps_if (pt_not (pt_val (C8.pe_c c_is_inside hr (by decide) rfl (pa_cons (pe_fld (pv 0) rfl) (pa_cons (pe_fld (pv 0) rfl) (pa_cons (pv 1) (pa_cons (pv 2) pa_nil))))))) (pss_one ps_never) pss_nil)
  (pss_one (ps_ret (pe_dget1 hu (pe_fld (pv 0) rfl) (pe_tup (pa_cons (pv 1) (pa_cons (pv 2) pa_nil))) ⟨rfl, rfl, rfl, rfl⟩)))), ?_⟩
    refine ⟨_, rfl, p, C, dx, _, _, rfl, h1', T.cB, T.nW, bF_wide _ _ _, _, rfl, p, C, dx, _, _, rfl, h1', T.cB, T.nH, bF_high _ _ _, _, rfl, _, rfl, B.w, B.h, x, y, rfl, fun r hrr => ?_⟩
    have er : r = true := hrr.mpr hi
    subst er
    refine ⟨true, rfl, iteF ?_⟩
    refine ⟨_, rfl, p, C, dx, _, _, rfl, h1', T.cB, T.nK, bF_kinds _ _ _, d, rfl, .inr ⟨_, .inl h2'⟩, _, rfl, _, rfl, len2, fun q hq => ?_⟩
    refine ⟨_, DGet.t (k := [Sum.inl x, Sum.inl y]) (by rw [upd_ne (ne_of_none h2' hq)]; exact h2') upd_same, ?_⟩
    rw [val_eM]
    exact k _ _ _ ((Go.refl g).new hq) (by rw [hk]; rfl)
end
end Sand

set_option Elab.async false
set_option linter.all false
set_option maxRecDepth 100000
set_option maxHeartbeats 4000000
namespace Sand
open PySem PySem.Spec PyProof.Rows L2
section
variable {P : Program} {w : World} {K : PySem.W.Frag} {mg : Str → Option Value} {base : Heap} {C L : Addr} {tb : Addr × Str}
-- 0 board, 1 square, 2 point, 3 i, 4 j, 5 x, 6 y, 7 beside, 8 below, 9 kind
abbrev N_square_after : List Str := ["board", "square", "point", "i", "j", "x", "y", "beside", "below", "kind"]
theorem sc_square_after : FnScope N_square_after ["board", "square", "point"] (defScope s_square_after) := C8.fnScope_by (by decide +kernel)
def spAfter (tb : Addr × Str) (C : Addr) : Sp := fun vs H Q _ => ∃ (G : Hp) (p : Addr) (B : Bd) (n : Nat) (v u : V) (s q : Pt), vs = [.ref p, v, u] ∧ Vw tb G H ∧ BoardAt C G p B n ∧ At G v (pD s) ∧ At G u (pD q) ∧ IsEnd s q ∧ On B s ∧ Ret tb no G H (fun G' u' => At G' u' (pD (after B s q))) Q
theorem c2 (j : Int) : CMul 2 j := .inl ⟨by decide, by decide⟩
theorem after_eq {B : Bd} {s p : Pt} {d : Bool × Bool} (h : dirs B p = d) : after B s p = aft d s p := by unfold after; rw [h]
theorem ok_square_after (D : DefAt K mg "square_after" s_square_after) (c_width : Prp P w K mg base 1 C "width" (spWid C)) (c_height : Prp P w K mg base 1 C "height" (spHei C)) (c_mirror_at : C8.Met P w K mg base 2 C "mirror_at" (spMAt tb C) []) :
    C8.Cal P w K mg base 3 "square_after" (spAfter tb C) [] := by
  refine D.cal (N := N_square_after) (ps := ["board", "square", "point"]) (fun _ _ _ _ _ _ us hl => match us, hl with | [_, _, _], _ => rfl) sc_square_after (fun vs H Q E h => ?_) (fun f cdv A outer st H vs Q E hr h => ?_)
  · obtain ⟨G, p, B, n, v, u, s, q, rfl, _⟩ := h
    rfl
  · obtain ⟨G, p, B, n, v, u, ⟨i, j⟩, ⟨x, y⟩, rfl, g, hB, hv, hw, he, ho, k⟩ := h
    obtain ⟨a, rfl, ha⟩ := hv.pt
    obtain ⟨b, rfl, hb⟩ := hw.pt
    obtain ⟨dx, d, ms, h1, h2, _⟩ := id hB
    have h1' := g.gh _ _ h1
    refine ⟨_, (pss_cons (ps_asg (pv 1) (pg_tup rfl (pgs_cons (pg_name (i := 3) sc_square_after.nd rfl (Or.inl rfl)) (pgs_cons (pg_name (i := 4) sc_square_after.nd rfl (Or.inl rfl)) pgs_nil))))
  (pss_cons (ps_asg (pv 2) (pg_tup rfl (pgs_cons (pg_name (i := 5) sc_square_after.nd rfl (Or.inl rfl)) (pgs_cons (pg_name (i := 6) sc_square_after.nd rfl (Or.inl rfl)) pgs_nil))))
  (pss_cons (ps_par (i := 7) (j := 8) (by rfl) sc_square_after.nd rfl rfl (by decide) rfl rfl (pa_cons (pe_op op_sub (pe_op op_sub (pe_op op_mul pe_int (pv 5)) pe_int) (pv 3)) (pa_cons (pe_op op_sub (pe_op op_sub (pe_op op_mul pe_int (pv 6)) pe_int) (pv 4)) pa_nil)) (by rfl))
  (pss_cons (ps_if (PW.pt (pw_or (pt_cmpR op_eq (pv 5) pe_int (nomark _)) (pw_or1 (pt_cmpR op_eq (pv 5) (pe_op op_mul pe_int (pe_pr c_width hr (by decide) (pv 0) rfl)) (nomark _))))) (pss_one (ps_ret (pe_tup (pa_cons (pv 3) (pa_cons (pv 8) pa_nil))))) pss_nil)
  (pss_cons (ps_if (PW.pt (pw_or (pt_cmpR op_eq (pv 6) pe_int (nomark _)) (pw_or1 (pt_cmpR op_eq (pv 6) (pe_op op_mul pe_int (pe_pr c_height hr (by decide) (pv 0) rfl)) (nomark _))))) (pss_one (ps_ret (pe_tup (pa_cons (pv 7) (pa_cons (pv 4) pa_nil))))) pss_nil)
  (pss_cons (ps_set (i := 9) sc_square_after.nd rfl (Or.inl rfl) (C8.pe_mt c_mirror_at hr (by decide) (pv 0) (pa_cons (pv 5) (pa_cons (pv 6) pa_nil))))
  (pss_cons (ps_if (pt_cmpR op_eq (pv 9) pe_str (nomark _)) (pss_one (ps_ret (pe_tup (pa_cons (pv 7) (pa_cons (pv 4) pa_nil))))) pss_nil)
  (pss_cons (ps_if (pt_cmpR op_eq (pv 9) pe_str (nomark _)) (pss_one (ps_ret (pe_tup (pa_cons (pv 3) (pa_cons (pv 8) pa_nil))))) pss_nil)
  (pss_one (ps_ret (pe_tup (pa_cons (pv 7) (pa_cons (pv 8) pa_nil))))))))))))), ?_⟩
    refine ⟨_, rfl, a, _, rfl, SqT.of (g.gh _ _ ha), rfl, _, _, rfl, _, _, rfl, rfl, ?_⟩
    refine ⟨_, rfl, b, _, rfl, SqT.of (g.gh _ _ hb), rfl, _, _, rfl, _, _, rfl, rfl, ?_⟩
    refine ⟨_, rfl, _, _, rfl, rfl, c2 x, _, _, rfl, rfl, _, rfl, _, _, rfl, rfl, _, rfl, _, _, rfl, rfl, c2 y, _, _, rfl, rfl, _, rfl, _, _, rfl, rfl, _, _, rfl, ?_⟩
    -- a new pair is handed back
    have fin : ∀ (z : Pt) (H1 : Hp), Go tb no G H G H1 → after B (i, j) (x, y) = z → (∀ t, H1 t = none → Q (.ref t) (upd H1 t (.tup [.int z.1, .int z.2]))) := fun z H1 g1 e t ht => by
      obtain ⟨g2, s2, e2⟩ := g1.tup ht [.int z.1, .int z.2]
      exact k _ _ _ g2 (by rw [e]; exact At.ofPt e2)
    have g0 : Go tb no G H G H := Go.refl g
    refine ⟨_, rfl, rfl, ?_⟩
    by_cases x0 : x = 0
    · have ed : dirs B (x, y) = (false, true) := by unfold dirs; rw [if_pos (.inl x0)]
      exact ⟨true, blT (vi x0), iteT (iteT ⟨_, rfl, _, rfl, len2, fin (i, 2 * y - 1 - j) H g0 (after_eq ed)⟩)⟩
    refine ⟨false, blF (vi_ne x0), iteF ⟨_, rfl, _, rfl, p, dx, _, rfl, h1', G, p, B, n, rfl, g.gh, hB, _, _, rfl, rfl, c2 _, rfl, ?_⟩⟩
    by_cases x1 : x = 2 * B.w
    · have ed : dirs B (x, y) = (false, true) := by unfold dirs; rw [if_pos (.inr x1)]
      exact ⟨true, blT (vi x1), iteT ⟨_, rfl, _, rfl, len2, fin (i, 2 * y - 1 - j) H g0 (after_eq ed)⟩⟩
    refine ⟨false, blF (vi_ne x1), iteF ?_⟩
    have nx : ¬ (x = 0 ∨ x = 2 * B.w) := fun z => z.elim x0 x1
    refine ⟨_, rfl, rfl, ?_⟩
    by_cases y0 : y = 0
    · have ed : dirs B (x, y) = (true, false) := by unfold dirs; rw [if_neg nx, if_pos (.inl y0)]
      exact ⟨true, blT (vi y0), iteT (iteT ⟨_, rfl, _, rfl, len2, fin (2 * x - 1 - i, j) H g0 (after_eq ed)⟩)⟩
    refine ⟨false, blF (vi_ne y0), iteF ⟨_, rfl, _, rfl, p, dx, _, rfl, h1', G, p, B, n, rfl, g.gh, hB, _, _, rfl, rfl, c2 _, rfl, ?_⟩⟩
    by_cases y1 : y = 2 * B.h
    · have ed : dirs B (x, y) = (true, false) := by unfold dirs; rw [if_neg nx, if_pos (.inr y1)]
      exact ⟨true, blT (vi y1), iteT ⟨_, rfl, _, rfl, len2, fin (2 * x - 1 - i, j) H g0 (after_eq ed)⟩⟩
    refine ⟨false, blF (vi_ne y1), iteF ?_⟩
    have ny : ¬ (y = 0 ∨ y = 2 * B.h) := fun z => z.elim y0 y1
    have hin : Ins B x y := by
      unfold IsEnd at he
      unfold On at ho
      simp only at he ho
      unfold Ins
      omega
    -- the mirror
    refine ⟨_, rfl, p, dx, _, rfl, h1', bF_no _ _ _ (by decide +kernel) (by decide +kernel) (by decide +kernel), _, rfl, _, rfl, G, p, B, n, x, y, rfl, g, hB, hin, fun G1 H1 u1 g1 e1 => ?_⟩
    subst e1
    -- the view's own part alone is kept
    have g2 : Go tb no G H G H1 := g1.small
    have ed : dirs B (x, y) = match B.k x y with | some true => (true, false) | some false => (false, true) | none => (true, true) := by unfold dirs; (rw [if_neg nx, if_neg ny]) <;> rfl
    cases ek : B.k x y with
    | none =>
      rw [ek] at ed
      exact ⟨_, rfl, rfl, false, blF (by decide +kernel), iteF ⟨_, rfl, rfl, false, blF (by decide +kernel), iteF ⟨_, rfl, _, rfl, len2, fin (2 * x - 1 - i, 2 * y - 1 - j) H1 g2 (after_eq ed)⟩⟩⟩
    | some c =>
      rw [ek] at ed
      cases c with
      | true => exact ⟨_, rfl, rfl, true, blT (by decide +kernel), iteT ⟨_, rfl, _, rfl, len2, fin (2 * x - 1 - i, j) H1 g2 (after_eq ed)⟩⟩
      | false => exact ⟨_, rfl, rfl, false, blF (by decide +kernel), iteF ⟨_, rfl, rfl, true, blT (by decide +kernel), iteT ⟨_, rfl, _, rfl, len2, fin (i, 2 * y - 1 - j) H1 g2 (after_eq ed)⟩⟩⟩
end
end Sand

set_option Elab.async false
set_option linter.all false
set_option maxRecDepth 100000
set_option maxHeartbeats 4000000
namespace Sand
open PySem PySem.Spec PyProof.Rows L2
/-- the i-th square of a walk -/
def sqAt (B : Bd) (d : Pt × Pt) (i : Nat) : Pt := (it (flow B).f i d).1
def trail (B : Bd) (d : Pt × Pt) (n : Nat) : List Pt := (List.range n).map (sqAt B d)
theorem trail_succ (B : Bd) (d : Pt × Pt) (n : Nat) : trail B d (n + 1) = trail B d n ++ [sqAt B d n] := by
  unfold trail; rw [List.range_succ, List.map_append]; rfl
theorem flow_len {B : Bd} (h1 : B.w ≤ 9) (h2 : B.h ≤ 9) : (flow B).L.length ≤ 1000 := by
  have e : (flow B).L = (sqs B).flatMap fun s => [(s, (ends s).1), (s, (ends s).2)] := rfl
  have g : ∀ l : List Pt, (l.flatMap fun s => [(s, (ends s).1), (s, (ends s).2)]).length = 2 * l.length := fun l => by
    induction l with
    | nil => rfl
    | cons a l ih => rw [List.flatMap_cons, List.length_append, ih]; simp only [List.length_cons, List.length_nil]; omega
  have q : ∀ (l m : List Int), (l.flatMap fun i => m.map fun j => (i, j)).length = l.length * m.length := fun l m => by
    induction l with
    | nil => simp
    | cons a l ih => rw [List.flatMap_cons, List.length_append, ih, List.length_map, List.length_cons, Nat.succ_mul]; omega
  have u : ∀ n : Int, (upto n).length = n.toNat := fun n => by unfold upto; simp
  rw [e, g]
  unfold sqs
  rw [q, u, u]
  have a1 : (2 * B.w).toNat ≤ 18 := by omega
  have a2 : (2 * B.h).toNat ≤ 18 := by omega
  have := Nat.mul_le_mul a1 a2
  omega
theorem le_line {n : Nat} (h : n ≤ 1000000) : n < sizeLine := Nat.lt_of_le_of_lt h (by decide)
section
variable {P : Program} {w : World} {K : PySem.W.Frag} {mg : Str → Option Value} {base : Heap} {C L : Addr} {tb : Addr × Str}
-- 0 board*, 1 square*, 2 point, 3 thread, 4 at, 5 end
abbrev N_thread_from : List Str := ["board", "square", "point", "thread", "at", "end"]
theorem sc_thread_from : FnScope N_thread_from ["board", "square"] (defScope s_thread_from) := C8.fnScope_by (by decide +kernel)
def lamQ : Str := (envOfC "thread_from" (defScope s_thread_from) 0 0 .none).qual ++ "<lambda>"
def spThread (tb : Addr × Str) (C : Addr) : Sp := fun vs H Q _ => ∃ (G : Hp) (p : Addr) (B : Bd) (n : Nat) (v : V) (s : Pt), vs = [.ref p, v] ∧ Vw tb G H ∧ BoardAt C G p B n ∧ At G v (pD s) ∧ On B s ∧
  Ret tb no G H (fun G' u => ∃ T : List Pt, At G' u (.list (T.map pD)) ∧ T.length ≤ 1000 ∧ ∀ t, t ∈ T ↔ Cn B s t) Q
theorem ok_thread_from {c Pt_ : Addr} (D : DefAtC K mg "thread_from" s_thread_from c) (T : Txt K mg C L) (TB : LamX.TabB base mg c Pt_) (etb : tb = (Pt_, lamQ)) (c_ends_of : C8.Cal P w K mg base 1 "ends_of" (spEnds tb) []) (c_other_end : C8.Cal P w K mg base 2 "other_end" (spOther tb) [])
    (c_square_after : C8.Cal P w K mg base 3 "square_after" (spAfter tb C) []) : C8.Cal P w K mg base 8 "thread_from" (spThread tb C) [] := by
  refine D.cal (N := N_thread_from) (ps := ["board", "square"]) (fun _ _ _ _ _ _ us hl => match us, hl with | [_, _], _ => rfl) sc_thread_from (fun vs H Q E h => ?_) (fun f A outer st H vs Q E hr h => ?_)
  · obtain ⟨G, p, B, n, v, s, rfl, _⟩ := h
    rfl
  · obtain ⟨G, p, B, n, v, s, rfl, g, hB, hv, ho, k⟩ := h
    subst etb
    refine ⟨_, (pss_cons (ps_set (i := 2) sc_thread_from.nd rfl (Or.inl rfl) (pe_minlam (a := "end") (T := [(Pt_, lamQ)]) (ia := 5) (k := 3) rfl T.min (C8.pe_c c_ends_of hr (by decide) rfl (pa_cons (pv 1) pa_nil)) TB rfl (List.mem_singleton.mpr rfl) (fun q hq _ => by rw [List.mem_singleton.mp hq]; rfl) (hr.mono (by decide)) (lamP_by (sc := defScope s_thread_from) (a := "end") (by decide +kernel)) rfl (fun _ _ _ _ _ _ => rfl)
        (fun f c' A outer s H E hr => C8.pe_c c_square_after hr (by decide) rfl (pa_cons (pv 0) (pa_cons (pv 1) (pa_cons (pv 5) pa_nil)))) rfl sc_thread_from.nd))
  (pss_cons (ps_set (i := 3) sc_thread_from.nd rfl (Or.inl rfl) (pe_lst (pa_cons (pv 1) pa_nil)))
  (pss_cons (ps_set (i := 4) sc_thread_from.nd rfl (Or.inl rfl) (C8.pe_c c_square_after hr (by decide) rfl (pa_cons (pv 0) (pa_cons (pv 1) (pa_cons (pv 2) pa_nil)))))
  (pss_cons (ps_while PassesOwn.never (pt_cmpR (op_neD hr.units) (pv 4) (pv 1) (nomark _))
  (pss_cons (ps_expr (pe_bm PySem.F.plainAttrs_list PySem.F.slot_list_append PySem.F.type_list_append mt_append (pv 3) (pa_cons (pv 4) pa_nil)))
  (pss_cons (ps_set (i := 2) sc_thread_from.nd rfl (Or.inl rfl) (C8.pe_c c_other_end hr (by decide) rfl (pa_cons (pv 4) (pa_cons (pv 2) pa_nil))))
  (pss_one (ps_set (i := 4) sc_thread_from.nd rfl (Or.inl rfl) (C8.pe_c c_square_after hr (by decide) rfl (pa_cons (pv 0) (pa_cons (pv 4) (pa_cons (pv 2) pa_nil)))))))))
  (pss_one (ps_ret (pv 3))))))), ?_⟩
    refine ⟨_, rfl, G, v, s, rfl, g, hv, fun G1 H1 u g1 hu => ?_⟩
    have hpx : ∃ (dx : Addr) (fs : List (Str × V)), True := ⟨0, [], trivial⟩
    obtain ⟨l, xs, rfl, hl, hx⟩ := At.lst_ hu
    obtain ⟨v0, ws, rfl, a0, hx⟩ := hx.cons_
    obtain ⟨v1, ws, rfl, a1, hx⟩ := hx.cons_
    rw [hx.nil_] at hl
    refine ⟨l, v0, v1, rfl, g1.gh _ _ hl, fun q hq => ?_, fun c' S H2 eN T2 hco hS => ?_⟩
    · rw [List.mem_singleton.mp hq]; exact g1.tt
    have t2 : LamX.TabS H2 Pt_ lamQ := T2 (Pt_, lamQ) (List.mem_singleton.mpr rfl)
    have g2 : Go (Pt_, lamQ) no G H G1 H2 := g1.ext eN t2
    have gS : G1 S = none := g2.gh.free hS
    have nS := g2.fresh hS
    have ga : Go (Pt_, lamQ) no G H G1 (upd H2 S (.lst [])) := g2.new hS
    have hB1 := hB.mono ga.gg
    have hv1 := At.mono ga.gg _ hv
    have ie0 : IsEnd s (ends s).1 := (isEnd_iff _ _).mpr (.inl rfl)
    have ie1 : IsEnd s (ends s).2 := (isEnd_iff _ _).mpr (.inr rfl)
    have ntC : NT (LamX.CodeO c' lamQ) := fun ps z => by unfold LamX.CodeO at z; cases z
    have neC : c' ≠ S := ne_of_none hco hS
    -- the first key
    refine ⟨_, rfl, _, rfl, _, rfl, G1, p, B, n, v, v0, s, (ends s).1, rfl, ga.vw, hB1, hv1, a0, ie0, ho, fun G3 H3 k0 g3 hk0 => ?_⟩
    have gb := ga.trans g3
    have hS3 : H3 S = some (.lst []) := g3.loc upd_same trivial id
    have gS3 : G3 S = none := g3.out upd_same trivial gS
    have hc3 : H3 c' = some (LamX.CodeO c' lamQ) := g3.kp _ _ (by rw [upd_ne neC]; exact hco) ntC id
    refine ⟨hS3, g3.gh _ _ (g3.gg _ _ hl), hc3, ?_⟩
    have gc := gb.put (o' := .lst [v0, k0]) hS3 trivial (.inl nS) gS3 trivial
    -- the second
    refine ⟨_, rfl, _, rfl, _, rfl, G3, p, B, n, v, v1, s, (ends s).2, rfl, gc.vw, hB1.mono g3.gg, At.mono g3.gg _ hv1, At.mono g3.gg _ a1, ie1, ho, fun G4 H4 k1 g4 hk1 => ?_⟩
    have gd := gc.trans g4
    have hS4 : H4 S = some (.lst [v0, k0]) := g4.loc upd_same trivial id
    have gS4 : G4 S = none := g4.out upd_same trivial gS3
    obtain ⟨ka, rfl, hka⟩ := At.pt hk1
    obtain ⟨kb, rfl, hkb⟩ := At.pt (At.mono g4.gg _ hk0)
    refine ⟨hS4, g4.gh _ _ (g4.gg _ _ (g3.gg _ _ hl)), ⟨ka, kb, [_, _], [_, _], rfl, rfl, SqT.of (g4.gh _ _ hka), SqT.of (g4.gh _ _ hkb)⟩, fun v2 hv2 => ?_⟩
    have ge := gd.put (o' := .lst []) hS4 trivial (.inl nS) gS4 trivial
    -- the point that was taken
    obtain ⟨p0, ip0, ap0⟩ : ∃ p0, IsEnd s p0 ∧ At G4 v2 (pD p0) := by
      rcases hv2 with rfl | rfl
      · exact ⟨_, ie0, At.mono g4.gg _ (At.mono g3.gg _ a0)⟩
      · exact ⟨_, ie1, At.mono g4.gg _ (At.mono g3.gg _ a1)⟩
    clear hv2 gc gd g4 g3 gb ga g2
    generalize upd H4 S (.lst []) = H5 at ge ⊢
    -- thread = [square]
    refine ⟨_, rfl, len1, fun D hD => ?_⟩
    have gD : G4 D = none := ge.gh.free hD
    have nD := ge.fresh hD
    have gf := ge.new (o := .lst [v]) hD
    have hB4 := hB.mono ge.gg
    have hv4 := At.mono ge.gg _ hv
    refine ⟨_, rfl, _, rfl, _, rfl, G4, p, B, n, v, v2, s, p0, rfl, gf.vw, hB4, hv4, ap0, ip0, ho, fun G6 H6 u6 g6 h6 => ?_⟩
    have hV : (flow B).V (s, p0) := ⟨ho, ip0⟩
    obtain ⟨n0, n1, n2, n3⟩ := (flow B).period (s, p0) hV
    obtain ⟨bw, bh⟩ : B.w ≤ 9 ∧ B.h ≤ 9 := by
      obtain ⟨_, _, _, _, _, _, _, _, _, _, _, e1, e2⟩ := hB
      exact ⟨e1, e2⟩
    have n4 := Nat.le_trans n2 (flow_len bw bh)
    have step : ∀ i, it (flow B).f (i + 1) (s, p0) = (flow B).f (it (flow B).f i (s, p0)) := fun i => it_succ _ _ _
    have val : ∀ i, (flow B).V (it (flow B).f i (s, p0)) := fun i => (flow B).vit i _ hV
    refine ⟨fun m σ H' => ∃ (i : Nat) (G' : Hp) (xs : List V) (pv av : V), m = n0 - i ∧ i + 1 ≤ n0 ∧ σ = [some (.ref p), some v, some pv, some (.ref D), some av, none] ∧ Go (Pt_, lamQ) no G H G' H' ∧ G' D = none ∧ H' D = some (.lst xs) ∧
        AtAll G' xs ((trail B (s, p0) (i + 1)).map pD) ∧ At G' pv (pD (it (flow B).f i (s, p0)).2) ∧ At G' av (pD (sqAt B (s, p0) (i + 1))),
      ⟨n0 - 0, 0, G6, [v], v2, u6, rfl, n1, rfl, gf.trans g6, g6.out upd_same trivial gD, g6.loc upd_same trivial id, .cons (At.mono g6.gg _ hv4) .nil, At.mono g6.gg _ ap0, h6⟩, ?_⟩
    rintro m σ H' ⟨i, G', xs, pv, av, rfl, hi, rfl, gg, gD', hD', hxs, hpv, hav⟩
    have hvv := At.mono gg.gg _ hv
    refine ⟨_, rfl, _, rfl, pD (sqAt B (s, p0) (i + 1)), pD s, At.dp gg.gh _ hav, At.dp gg.gh _ hvv, rfl, rfl, ?_⟩
    rw [pD_eqv]
    have hlen : xs.length = i + 1 := by rw [hxs.length, List.length_map]; unfold trail; rw [List.length_map, List.length_range]
    by_cases e : sqAt B (s, p0) (i + 1) = s
    · -- back at the square
      refine ⟨false, bnF e, iteF ?_⟩
      have gz := gg.freeze hD' trivial nD gD'
      refine ⟨_, rfl, k _ _ _ gz ⟨trail B (s, p0) (i + 1), .lst upd_same (AtAll.mono (same_upd gD') _ hxs), ?_, fun t => ?_⟩⟩
      · unfold trail; rw [List.length_map, List.length_range]; omega
      · have q := (flow B).seen hV (n := i + 1) (by omega) e t
        refine ⟨fun ht => q.mpr ?_, fun hc => ?_⟩
        · obtain ⟨j, hj, e2⟩ := List.mem_map.mp ht
          exact ⟨j, List.mem_range.mp hj, e2⟩
        · obtain ⟨j, hj, e2⟩ := q.mp hc
          exact List.mem_map.mpr ⟨j, List.mem_range.mpr hj, e2⟩
    · refine ⟨true, bnT e, iteT ?_⟩
      have hi2 : i + 1 + 1 ≤ n0 := by
        by_cases z : i + 1 = n0
        · refine absurd ?_ e
          show (it (flow B).f (i + 1) (s, p0)).1 = s
          rw [z, n3]
        · omega
      refine ⟨fun σ' H'' => ∃ (G' : Hp) (xs : List V) (pv av : V), σ' = [some (.ref p), some v, some pv, some (.ref D), some av, none] ∧ Go (Pt_, lamQ) no G H G' H'' ∧ G' D = none ∧ H'' D = some (.lst xs) ∧
        AtAll G' xs ((trail B (s, p0) (i + 1 + 1)).map pD) ∧ At G' pv (pD (it (flow B).f (i + 1) (s, p0)).2) ∧ At G' av (pD (sqAt B (s, p0) (i + 1 + 1))),
        fun σ' H'' ⟨G', xs, pv, av, z⟩ => ⟨n0 - (i + 1), by omega, i + 1, G', xs, pv, av, rfl, hi2, z⟩, ?_⟩
      -- thread.append(at)
      refine ⟨_, rfl, .inl ⟨rfl, _, SqL.of hD'⟩, _, rfl, D, xs, av, rfl, rfl, hD', le_line (by omega), ?_⟩
      have gp := gg.put (o' := .lst (xs ++ [av])) hD' trivial (.inl nD) gD' trivial
      have hxs2 : AtAll G' (xs ++ [av]) ((trail B (s, p0) (i + 1 + 1)).map pD) := by
        rw [trail_succ B (s, p0) (i + 1), List.map_append]
        exact hxs.snoc hav
      -- point = other_end(at, point)
      refine ⟨_, rfl, _, rfl, G', av, pv, sqAt B (s, p0) (i + 1), (it (flow B).f i (s, p0)).2, rfl, gp.vw, hav, hpv, fun G7 H7 u7 g7 h7 => ?_⟩
      have g8 := gp.trans g7
      have e7 : other (sqAt B (s, p0) (i + 1)) (it (flow B).f i (s, p0)).2 = (it (flow B).f (i + 1) (s, p0)).2 := by
        unfold sqAt; rw [step i]; rfl
      have h7' : At G7 u7 (pD (it (flow B).f (i + 1) (s, p0)).2) := by rw [← e7]; exact h7
      have hav7 := At.mono g7.gg _ hav
      -- at = square_after(board, at, point)
      have vi1 := val (i + 1)
      refine ⟨_, rfl, _, rfl, _, rfl, G7, p, B, n, av, u7, sqAt B (s, p0) (i + 1), (it (flow B).f (i + 1) (s, p0)).2, rfl, g8.vw, hB.mono g8.gg, hav7, h7', vi1.2, vi1.1, fun G9 H9 u9 g9 h9 => ?_⟩
      refine ⟨G9, xs ++ [av], u7, u9, rfl, g8.trans g9, g9.out (g7.loc upd_same trivial id) trivial (g7.out upd_same trivial gD'), g9.loc (g7.loc upd_same trivial id) trivial id, AtAll.mono g9.gg _ (AtAll.mono g7.gg _ hxs2), At.mono g9.gg _ h7', ?_⟩
      have e9 : after B (sqAt B (s, p0) (i + 1)) (it (flow B).f (i + 1) (s, p0)).2 = sqAt B (s, p0) (i + 1 + 1) := by
        unfold sqAt; rw [step (i + 1)]; rfl
      rw [← e9]; exact h9
end
end Sand

set_option Elab.async false
set_option linter.all false
set_option maxRecDepth 100000
set_option maxHeartbeats 4000000
namespace Sand
open PySem PySem.Spec PyProof.Rows L2
/-! ### threads as lists -/
def thD (T : List Pt) : PyData := .list (T.map pD)
/-- of each head the thread, in order -/
def Ths (B : Bd) : List Pt → List (List Pt) → Prop
  | [], [] => True
  | a :: as, T :: Ts => ((∀ t, t ∈ T ↔ Cn B a t) ∧ T.length ≤ 1000) ∧ Ths B as Ts
  | _, _ => False
theorem Ths.len {B : Bd} : ∀ {as : List Pt} {Ts : List (List Pt)}, Ths B as Ts → Ts.length = as.length
  | [], [], _ => rfl
  | a :: as, T :: Ts, h => by rw [List.length_cons, List.length_cons, Ths.len h.2]
  | [], _ :: _, h => h.elim
  | _ :: _, [], h => h.elim
theorem Ths.snoc {B : Bd} {a : Pt} {T : List Pt} (hT : (∀ t, t ∈ T ↔ Cn B a t) ∧ T.length ≤ 1000) : ∀ {as : List Pt} {Ts : List (List Pt)}, Ths B as Ts → Ths B (as ++ [a]) (Ts ++ [T])
  | [], [], _ => ⟨hT, trivial⟩
  | b :: as, U :: Ts, h => ⟨h.1, Ths.snoc hT h.2⟩
  | [], _ :: _, h => h.elim
  | _ :: _, [], h => h.elim
theorem Ths.get {B : Bd} : ∀ {as : List Pt} {Ts : List (List Pt)} {i : Nat} {T : List Pt}, Ths B as Ts → Ts[i]? = some T → ∃ a, as[i]? = some a ∧ (∀ t, t ∈ T ↔ Cn B a t) ∧ T.length ≤ 1000
  | [], [], _, _, _, e => by simp at e
  | a :: as, T :: Ts, 0, _, h, e => by simp at e; subst e; exact ⟨a, rfl, h.1⟩
  | a :: as, T :: Ts, i + 1, _, h, e => by
    obtain ⟨b, e1, e2⟩ := Ths.get h.2 (by simpa using e)
    exact ⟨b, by simpa using e1, e2⟩
  | [], _ :: _, _, _, h, _ => h.elim
  | _ :: _, [], _, _, h, _ => h.elim
theorem reps_app {S : Type} {E : S → S → Prop} : ∀ (l m acc : List S), reps E acc (l ++ m) = reps E (reps E acc l) m
  | [], _, _ => rfl
  | s :: l, m, acc => by
    show reps E acc (s :: (l ++ m)) = _
    rw [reps]
    conv => rhs; rw [reps]
    split
    · exact reps_app l m acc
    · exact reps_app l m _
theorem reps_bound {S : Type} {E : S → S → Prop} : ∀ (l acc : List S), (reps E acc l).length ≤ acc.length + l.length
  | [], _ => Nat.le_refl _
  | s :: l, acc => by
    rw [reps]
    split
    · have := reps_bound (E := E) l acc
      rw [List.length_cons]; omega
    · have := reps_bound (E := E) l (acc ++ [s])
      rw [List.length_append, List.length_singleton] at this
      rw [List.length_cons]; omega
/-- the squares of the first i columns; of a column's first j rows -/
def rowN (i : Int) (j : Nat) : List Pt := (List.range j).map fun (b : Nat) => (i, (b : Int))
def colN (h : Nat) (i : Nat) : List Pt := (List.range i).flatMap fun (a : Nat) => rowN (a : Int) h
theorem rowN_succ (i : Int) (j : Nat) : rowN i (j + 1) = rowN i j ++ [(i, (j : Int))] := by unfold rowN; rw [List.range_succ, List.map_append]; rfl
theorem colN_succ (h i : Nat) : colN h (i + 1) = colN h i ++ rowN (i : Int) h := by unfold colN; rw [List.range_succ, List.flatMap_append]; simp
theorem colN_len (h : Nat) : ∀ i, (colN h i).length = i * h
  | 0 => by simp [colN]
  | i + 1 => by rw [colN_succ, List.length_append, colN_len h i, Nat.succ_mul]; unfold rowN; simp
theorem sqs_colN (B : Bd) : sqs B = colN (2 * B.h).toNat (2 * B.w).toNat := by
  unfold sqs colN rowN upto
  rw [List.flatMap_map]
  simp only [List.map_map]
  rfl
/-! ### dicts whose keys are squares -/
def pk (t : Pt) : List Key := [Sum.inl t.1, Sum.inl t.2]
theorem pk_inj {s t : Pt} (h : pk s = pk t) : s = t := Prod.ext (key_inj h).1 (key_inj h).2
theorem putK_len {κ : Type} [DecidableEq κ] (kvs : List (κ × V)) (k : κ) (v : V) : (putK kvs k v).length ≤ kvs.length + 1 := by
  unfold putK
  split
  · rw [List.length_map]; omega
  · rw [List.length_append, List.length_singleton]; omega
section
variable {P : Program} {w : World} {K : PySem.W.Frag} {mg : Str → Option Value} {base : Heap} {C L : Addr} {tb : Addr × Str}
-- 0 board, 1 seen, 2 threads, 3 i, 4 j, 5 thread, 6 square
abbrev N_all_threads : List Str := ["board", "seen", "threads", "i", "j", "thread", "square"]
theorem sc_all_threads : FnScope N_all_threads ["board"] (defScope s_all_threads) := C8.fnScope_by (by decide +kernel)
def spAll (tb : Addr × Str) (C : Addr) : Sp := fun vs H Q _ => ∃ (G : Hp) (p : Addr) (B : Bd) (n : Nat), vs = [.ref p] ∧ Vw tb G H ∧ BoardAt C G p B n ∧ Ret tb no G H (fun G' u => ∃ Ts, At G' u (.list (Ts.map thD)) ∧ Ths B (cls B) Ts) Q
/-- behind some squares: heads acc -/
def AllI (tb : Addr × Str) (B : Bd) (G H : Hp) (S D : Addr) (acc : List Pt) (G' H' : Hp) : Prop := ∃ (kvs : List (List Key × V)) (xs : List V) (Ts : List (List Pt)), Go tb no G H G' H' ∧ G' S = none ∧ G' D = none ∧ H' S = some (.dT kvs) ∧ H' D = some (.lst xs) ∧
  AtAll G' xs (Ts.map thD) ∧ Ths B acc Ts ∧ (∀ t, (valV kvs (pk t) ≠ none ↔ ∃ a, a ∈ acc ∧ Cn B a t)) ∧ kvs.length ≤ 1000 * acc.length
theorem ok_all_threads (D0 : DefAt K mg "all_threads" s_all_threads) (T : Txt K mg C L) (c_width : Prp P w K mg base 1 C "width" (spWid C)) (c_height : Prp P w K mg base 1 C "height" (spHei C)) (c_thread_from : C8.Cal P w K mg base 8 "thread_from" (spThread tb C) []) :
    C8.Cal P w K mg base 10 "all_threads" (spAll tb C) [] := by
  refine D0.cal (N := N_all_threads) (ps := ["board"]) (fun _ _ _ _ _ _ us hl => match us, hl with | [_], _ => rfl) sc_all_threads (fun vs H Q E h => ?_) (fun f cdv A outer st H vs Q E hr h => ?_)
  · obtain ⟨G, p, B, n, rfl, _⟩ := h
    rfl
  · obtain ⟨G, p, B, n, rfl, g, hB, k⟩ := h
    have hu := hu_of hr
    obtain ⟨dx, d, ms, h1, _, _, _, _, _, hw1, hh1, hw9, hh9⟩ := id hB
    refine ⟨_, (pss_cons (ps_set (i := 1) sc_all_threads.nd rfl (Or.inl rfl) pe_dnewT)
  (pss_cons (ps_set (i := 2) sc_all_threads.nd rfl (Or.inl rfl) (pe_lst pa_nil))
  (pss_cons (ps_for PassesOwn.never rfl (pi_range1 rfl T.range (pa_cons (pe_op op_mul pe_int (pe_pr c_width hr (by decide) (pv 0) rfl)) pa_nil)) (pg_name (i := 3) sc_all_threads.nd rfl (Or.inl rfl))
  (pss_one (ps_for PassesOwn.never rfl (pi_range1 rfl T.range (pa_cons (pe_op op_mul pe_int (pe_pr c_height hr (by decide) (pv 0) rfl)) pa_nil)) (pg_name (i := 4) sc_all_threads.nd rfl (Or.inl rfl))
  (pss_one (ps_if (pt_cmp (pc_dnotin hu (pe_tup (pa_cons (pv 3) (pa_cons (pv 4) pa_nil))) (pv 1))) (pss_cons (ps_set (i := 5) sc_all_threads.nd rfl (Or.inl rfl) (C8.pe_c c_thread_from hr (by decide) rfl (pa_cons (pv 0) (pa_cons (pe_tup (pa_cons (pv 3) (pa_cons (pv 4) pa_nil))) pa_nil))))
  (pss_cons (ps_for PassesOwn.never rfl (pi_list (pv 5)) (pg_name (i := 6) sc_all_threads.nd rfl (Or.inl rfl))
  (pss_one (ps_dput hu (pv 1) (pv 6) pe_bl rfl)))
  (pss_one (ps_expr (pe_bm PySem.F.plainAttrs_list PySem.F.slot_list_append PySem.F.type_list_append mt_append (pv 2) (pa_cons (pv 5) pa_nil)))))) pss_nil)))))
  (pss_one (ps_ret (pv 2)))))), ?_⟩
    -- seen = {}; threads = []
    refine fun S hS => ⟨len0, fun D hD => ?_⟩
    have g1 := (Go.refl (M := no) g).new (o := .dT []) hS
    have nS := (Go.refl (M := no) g).fresh hS
    have nD := g1.fresh hD
    have neSD : S ≠ D := ne_of_none (upd_same (H := H) (a := S) (o := .dT [])) hD
    have g2 := g1.new (o := .lst []) hD
    have i0 : AllI tb B G H S D [] G (upd (upd H S (.dT [])) D (.lst [])) := ⟨[], [], [], g2, g.gh.free hS, g1.gh.free hD, by rw [upd_ne neSD, upd_same], upd_same, .nil, trivial, fun t => ⟨fun z => absurd rfl z, fun ⟨a, ha, _⟩ => absurd ha (by simp)⟩, Nat.le_refl _⟩
    -- for i in range(2 * board.width)
    refine ⟨_, rfl, p, dx, _, rfl, g2.gh _ _ h1, G, p, B, n, rfl, g2.gh, hB, _, _, rfl, rfl, c2 _, 2 * B.w, rfl, by omega, by omega, ?_⟩
    refine for_range (lo := 0) (n := (2 * B.w).toNat) (fun i σ H' => ∃ (G' : Hp) (o3 o4 o5 o6 : Option V), σ = [some (.ref p), some (.ref S), some (.ref D), o3, o4, o5, o6] ∧ AllI tb B G H S D (reps (Cn B) [] (colN (2 * B.h).toNat i)) G' H')
      ⟨G, none, none, none, none, rfl, i0⟩ ?_ ?_
    · rintro i σ H1 hi ⟨G1, o3, o4, o5, o6, rfl, iv⟩
      have ez : (0 : Int) + (i : Int) = (i : Int) := Int.zero_add _
      rw [ez]
      obtain ⟨_, _, _, gg, _⟩ := id iv
      -- for j in range(2 * board.height)
      refine ⟨_, rfl, p, dx, _, rfl, gg.gh _ _ (gg.gg _ _ h1), G1, p, B, n, rfl, gg.gh, hB.mono gg.gg, _, _, rfl, rfl, c2 _, 2 * B.h, rfl, by omega, by omega, ?_⟩
      refine for_range (lo := 0) (n := (2 * B.h).toNat) (fun j σ H' => ∃ (G' : Hp) (o4 o5 o6 : Option V), σ = [some (.ref p), some (.ref S), some (.ref D), some (.int (i : Int)), o4, o5, o6] ∧ AllI tb B G H S D (reps (Cn B) (reps (Cn B) [] (colN (2 * B.h).toNat i)) (rowN (i : Int) j)) G' H')
        ⟨G1, o4, o5, o6, rfl, iv⟩ ?_ ?_
      · rintro j σ H2 hj ⟨G2, q4, q5, q6, rfl, iv2⟩
        have ez2 : (0 : Int) + (j : Int) = (j : Int) := Int.zero_add _
        rw [ez2]
        obtain ⟨kvs, xs, Ts, g3, gS, gD, hS2, hD2, hxs, hTs, hks, hkl⟩ := iv2
        have hon : On B ((i : Int), (j : Int)) := by
          unfold On; simp only; omega
        rw [rowN_succ, reps_app]
        have hacc : (reps (Cn B) (reps (Cn B) [] (colN (2 * B.h).toNat i)) (rowN (i : Int) j)).length ≤ 400 := by
          have b1 := reps_bound (E := Cn B) (rowN (i : Int) j) (reps (Cn B) [] (colN (2 * B.h).toNat i))
          have b2 := reps_bound (E := Cn B) (colN (2 * B.h).toNat i) []
          rw [colN_len] at b2
          have b3 : (rowN (i : Int) j).length = j := by unfold rowN; simp
          have b4 : i * (2 * B.h).toNat ≤ 18 * 18 := Nat.mul_le_mul (by omega) (by omega)
          simp only [List.length_nil] at b2
          omega
        generalize reps (Cn B) (reps (Cn B) [] (colN (2 * B.h).toNat i)) (rowN (i : Int) j) = acc at *
        -- if (i, j) not in seen
        refine ⟨_, rfl, _, rfl, len2, fun t ht => ⟨_, rfl, S, _, rfl, DGet.t (k := pk ((i : Int), (j : Int))) (by rw [upd_ne (ne_of_none hS2 ht)]; exact hS2) upd_same, _, rfl, ?_⟩⟩
        obtain ⟨g4, s4, e4⟩ := g3.tup ht [.int (i : Int), .int (j : Int)]
        have gS4 : upd G2 t (.tup [.int (i : Int), .int (j : Int)]) S = none := by rw [upd_ne (ne_of_none hS2 ht)]; exact gS
        have gD4 : upd G2 t (.tup [.int (i : Int), .int (j : Int)]) D = none := by rw [upd_ne (ne_of_none hD2 ht)]; exact gD
        have hS4 : upd H2 t (.tup [.int (i : Int), .int (j : Int)]) S = some (.dT kvs) := by rw [upd_ne (ne_of_none hS2 ht)]; exact hS2
        have hD4 : upd H2 t (.tup [.int (i : Int), .int (j : Int)]) D = some (.lst xs) := by rw [upd_ne (ne_of_none hD2 ht)]; exact hD2
        have hxs4 := AtAll.mono s4 _ hxs
        generalize upd G2 t (.tup [.int (i : Int), .int (j : Int)]) = G4 at *
        generalize upd H2 t (.tup [.int (i : Int), .int (j : Int)]) = H4 at *
        cases ek : valV kvs (pk ((i : Int), (j : Int))) with
        | some v =>
          -- it is seen
          refine iteF ⟨G4, _, _, _, rfl, ?_⟩
          have hs := (hks ((i : Int), (j : Int))).mp (by rw [ek]; simp)
          rw [reps, if_pos hs]
          exact ⟨kvs, xs, Ts, g4, gS4, gD4, hS4, hD4, hxs4, hTs, hks, hkl⟩
        | none =>
          refine iteT ?_
          have hns : ¬ ∃ a, a ∈ acc ∧ Cn B a ((i : Int), (j : Int)) := fun z => (hks _).mpr z ek
          rw [reps, if_neg hns]
          show (∃ v, _ ∧ _)
          -- thread = thread_from(board, (i, j))
          refine ⟨_, rfl, _, rfl, _, rfl, len2, fun t2 ht2 => ?_⟩
          obtain ⟨g5, s5, e5⟩ := g4.tup ht2 [.int (i : Int), .int (j : Int)]
          have hS5 : upd H4 t2 (.tup [.int (i : Int), .int (j : Int)]) S = some (.dT kvs) := by rw [upd_ne (ne_of_none hS4 ht2)]; exact hS4
          have hD5 : upd H4 t2 (.tup [.int (i : Int), .int (j : Int)]) D = some (.lst xs) := by rw [upd_ne (ne_of_none hD4 ht2)]; exact hD4
          have gS5 : upd G4 t2 (.tup [.int (i : Int), .int (j : Int)]) S = none := by rw [upd_ne (ne_of_none hS4 ht2)]; exact gS4
          have gD5 : upd G4 t2 (.tup [.int (i : Int), .int (j : Int)]) D = none := by rw [upd_ne (ne_of_none hD4 ht2)]; exact gD4
          refine ⟨_, p, B, n, _, ((i : Int), (j : Int)), rfl, g5.vw, hB.mono g5.gg, At.ofPt e5, hon, fun G6 H6 u g6 ⟨Tl, hT, hTl, hTm⟩ => ?_⟩
          obtain ⟨l, ys, rfl, hl, hys⟩ := At.lst_ hT
          have g7 := g5.trans g6
          have hS6 : H6 S = some (.dT kvs) := g6.loc hS5 trivial id
          have hD6 : H6 D = some (.lst xs) := g6.loc hD5 trivial id
          have gS6 : G6 S = none := g6.out hS5 trivial gS5
          have gD6 : G6 D = none := g6.out hD5 trivial gD5
          have hxs6 := AtAll.mono g6.gg _ (AtAll.mono s5 _ hxs4)
          have hyl : ys.length ≤ 1000 := by rw [hys.length, List.length_map]; exact hTl
          -- for square in thread: seen[square] = True
          refine ⟨_, rfl, l, rfl, ⟨_, SqL.of (g6.gh _ _ hl)⟩, ?_⟩
          refine for_list (K := K) (a := l) (xs := ys) (fun m σ H' => ∃ (o6 : Option V) (kv2 : List (List Key × V)), σ = [some (.ref p), some (.ref S), some (.ref D), some (.int (i : Int)), some (.int (j : Int)), some (.ref l), o6] ∧ Go tb no G H G6 H' ∧ H' S = some (.dT kv2) ∧ H' D = some (.lst xs) ∧
              (∀ t, (valV kv2 (pk t) ≠ none ↔ (∃ a, a ∈ acc ∧ Cn B a t) ∨ t ∈ Tl.take m)) ∧ kv2.length ≤ 1000 * acc.length + m)
            ⟨_, kvs, rfl, g7, hS6, hD6, fun t => by rw [hks t]; simp, hkl⟩ (fun m σ H' _ ⟨_, _, _, z, _⟩ => SqL.of (z.gh _ _ hl)) ?_ ?_
          · rintro m y σ H' hy ⟨o6, kv2, rfl, z1, z2, z3, z4, z5⟩
            obtain ⟨dy, hdy, hay⟩ := hys.get hy
            rw [List.getElem?_map] at hdy
            obtain ⟨t0, ht0, rfl⟩ : ∃ t0, Tl[m]? = some t0 ∧ pD t0 = dy := by
              cases q : Tl[m]? with
              | none => rw [q] at hdy; cases hdy
              | some t0 => rw [q] at hdy; exact ⟨t0, rfl, Option.some.inj hdy⟩
            obtain ⟨b, rfl, hb⟩ := hay.pt
            have hm : m < ys.length := (List.getElem?_eq_some_iff.mp hy).1
            refine ⟨_, rfl, _, rfl, S, _, rfl, DPut.t (k := pk t0) z2 (z1.gh _ _ hb) (le_line (by omega)), ?_⟩
            refine ⟨_, _, rfl, z1.put z2 trivial (.inl nS) gS6 trivial, upd_same, by rw [upd_ne neSD.symm]; exact z3, fun t => ?_, ?_⟩
            · rw [valV_put]
              by_cases q : pk t = pk t0
              · rw [if_pos q]
                have qt := pk_inj q
                subst qt
                exact ⟨fun _ => .inr (List.mem_of_getElem? (show (Tl.take (m + 1))[m]? = some t by rw [List.getElem?_take_of_lt (Nat.lt_succ_self m)]; exact ht0)), fun _ => by simp⟩
              · rw [if_neg q, z4 t]
                have ne : t ≠ t0 := fun e => q (by rw [e])
                have et : Tl.take (m + 1) = Tl.take m ++ [t0] := by rw [List.take_add_one, ht0]; rfl
                rw [et, List.mem_append, List.mem_singleton]
                exact ⟨fun h => h.imp id .inl, fun h => h.imp id fun h => h.elim id fun e => absurd e ne⟩
            · have := putK_len kv2 (pk t0) (V.bl true)
              omega
          · -- threads.append(thread)
            rintro σ H' ⟨o6, kv2, rfl, z1, z2, z3, z4, z5⟩
            refine ⟨_, rfl, .inl ⟨rfl, _, SqL.of z3⟩, _, rfl, D, xs, _, rfl, rfl, z3, le_line ?_, ?_⟩
            · rw [hxs6.length, List.length_map, hTs.len]; omega
            refine ⟨G6, _, _, _, rfl, kv2, xs ++ [.ref l], Ts ++ [Tl], z1.put z3 trivial (.inl nD) gD6 trivial, gS6, gD6, by rw [upd_ne neSD]; exact z2, upd_same, ?_, hTs.snoc ⟨hTm, hTl⟩, fun t => ?_, ?_⟩
            · rw [List.map_append]
              exact hxs6.snoc (.lst hl hys)
            · have ely : Tl.take ys.length = Tl := by rw [hys.length, List.length_map, List.take_length]
              rw [z4 t, ely, hTm t]
              constructor
              · rintro (⟨a, ha, hc⟩ | hc)
                · exact ⟨a, List.mem_append_left _ ha, hc⟩
                · exact ⟨_, List.mem_append_right _ (List.mem_singleton.mpr rfl), hc⟩
              · rintro ⟨a, ha, hc⟩
                rcases List.mem_append.mp ha with q | q
                · exact .inl ⟨a, q, hc⟩
                · rw [List.mem_singleton.mp q] at hc
                  exact .inr hc
            · show kv2.length ≤ 1000 * (acc ++ [((i : Int), (j : Int))]).length
              rw [List.length_append, List.length_singleton]; omega
      · rintro σ H2 ⟨G2, q4, q5, q6, rfl, iv2⟩
        refine ⟨G2, _, _, _, _, rfl, ?_⟩
        rw [colN_succ, reps_app]
        exact iv2
    · rintro σ H1 ⟨G1, o3, o4, o5, o6, rfl, kvs, xs, Ts, gg, _, gD, _, hD1, hxs, hTs, _, _⟩
      rw [← sqs_colN] at hTs
      exact ⟨_, rfl, k _ _ _ (gg.freeze hD1 trivial nD gD) ⟨Ts, .lst upd_same (AtAll.mono (same_upd gD) _ hxs), hTs⟩⟩
end
end Sand

set_option Elab.async false
set_option linter.all false
set_option maxRecDepth 100000
set_option maxHeartbeats 4000000
namespace Sand
open PySem PySem.Spec PyProof.Rows L2
theorem Apart.ix {S : Type} {E : S → S → Prop} : ∀ {l : List S} {i j : Nat} {a b : S}, Apart E l → i < j → l[i]? = some a → l[j]? = some b → ¬ E a b
  | [], _, _, _, _, _, _, e, _ => by simp at e
  | x :: l, 0, j + 1, a, b, h, _, e1, e2 => by
    simp at e1
    subst e1
    exact h.1 b (List.mem_of_getElem? (by simpa using e2))
  | x :: l, i + 1, j + 1, a, b, h, hij, e1, e2 => Apart.ix h.2 (Nat.lt_of_succ_lt_succ hij) (by simpa using e1) (by simpa using e2)
  | _ :: _, _, 0, _, _, _, h, _, _ => absurd h (Nat.not_lt_zero _)
/-- a dict at d tells the indexes of B's threads -/
def IdxAt (G : Hp) (d : Addr) (B : Bd) : Prop := ∃ (kvs : List (List Key × V)) (ix : Pt → Int), G d = some (.dT kvs) ∧ (∀ s, On B s → valV kvs (pk s) = some (.int (ix s))) ∧ ∀ s t, On B s → On B t → (ix s = ix t ↔ Cn B s t)
theorem IdxAt.mono {G G' : Hp} {d : Addr} {B : Bd} (s : Same G G') (h : IdxAt G d B) : IdxAt G' d B := by
  obtain ⟨kvs, ix, h1, h2⟩ := h
  exact ⟨kvs, ix, s _ _ h1, h2⟩
/-- a look: two squares, whether they are said to be on one thread -/
abbrev Look := Pt × Pt × Bool
def wS (b : Bool) : Str := if b then "same" else "apart"
def lkD (l : Look) : PyData := .tuple [pD l.1, pD l.2.1, .str (wS l.2.2)]
def Okl (B : Bd) (l : Look) : Prop := Cn B l.1 l.2.1 ↔ l.2.2 = true
theorem At.look {G : Hp} {v : V} {l : Look} (h : At G v (lkD l)) : ∃ a x y, v = .ref a ∧ G a = some (.tup [x, y, .str (wS l.2.2)]) ∧ At G x (pD l.1) ∧ At G y (pD l.2.1) := by
  obtain ⟨a, xs, e, g, h⟩ := At.tup_ h
  obtain ⟨x, ws, rfl, hx, h⟩ := h.cons_
  obtain ⟨y, ws, rfl, hy, h⟩ := h.cons_
  obtain ⟨z, ws, rfl, hz, h⟩ := h.cons_
  rw [h.nil_, hz.str_] at g
  exact ⟨a, x, y, e, g, hx, hy⟩
theorem AtAll.mapAt {G : Hp} {α : Type} {f : α → PyData} {as : List α} {vs : List V} {i : Nat} {v : V} (h : AtAll G vs (as.map f)) (e : vs[i]? = some v) : ∃ a, as[i]? = some a ∧ At G v (f a) := by
  obtain ⟨d, h1, h2⟩ := h.get e
  rw [List.getElem?_map] at h1
  cases q : as[i]? with
  | none => rw [q] at h1; cases h1
  | some a => rw [q] at h1; exact ⟨a, rfl, by rw [Option.some.inj h1]; exact h2⟩
theorem AtAll.mapLen {G : Hp} {α : Type} {f : α → PyData} {as : List α} {vs : List V} (h : AtAll G vs (as.map f)) : vs.length = as.length := by rw [h.length, List.length_map]
section
variable {P : Program} {w : World} {K : PySem.W.Frag} {mg : Str → Option Value} {base : Heap} {C L : Addr} {tb : Addr × Str}
-- 0 board
abbrev N_thread_count : List Str := ["board"]
theorem sc_thread_count : FnScope N_thread_count ["board"] (defScope s_thread_count) := C8.fnScope_by (by decide +kernel)
def spCnt (tb : Addr × Str) (C : Addr) : Sp := fun vs H Q _ => ∃ (G : Hp) (p : Addr) (B : Bd) (n : Nat), vs = [.ref p] ∧ Vw tb G H ∧ BoardAt C G p B n ∧ Ret tb no G H (fun _ u => u = .int (num B : Nat)) Q
theorem ok_thread_count (D0 : DefAt K mg "thread_count" s_thread_count) (T : Txt K mg C L) (c_all_threads : C8.Cal P w K mg base 10 "all_threads" (spAll tb C) []) : C8.Cal P w K mg base 11 "thread_count" (spCnt tb C) [] := by
  refine D0.cal (N := N_thread_count) (ps := ["board"]) (fun _ _ _ _ _ _ us hl => match us, hl with | [_], _ => rfl) sc_thread_count (fun vs H Q E h => ?_) (fun f cdv A outer st H vs Q E hr h => ?_)
  · obtain ⟨G, p, B, n, rfl, _⟩ := h
    rfl
  · obtain ⟨G, p, B, n, rfl, g, hB, k⟩ := h
    refine ⟨_, (pss_one (ps_ret (pe_callB call_len (by rfl) T.len PySem.boot_len (pa_cons (C8.pe_c c_all_threads hr (by decide) rfl (pa_cons (pv 0) pa_nil)) pa_nil)))), ?_⟩
    refine ⟨_, rfl, G, p, B, n, rfl, g, hB, fun G1 H1 u g1 ⟨Ts, hT, hTs⟩ => ?_⟩
    obtain ⟨l, ys, rfl, hl, hys⟩ := At.lst_ hT
    refine ⟨_, ys.length, rfl, Or.inl ⟨_, SqL.of (g1.gh _ _ hl), rfl⟩, k _ _ _ g1 ?_⟩
    rw [hys.mapLen, hTs.len]
    rfl
-- 0 board, 1 indexes, 2 threads, 3 index, 4 squares, 5 square
abbrev N_thread_indexes : List Str := ["board", "indexes", "threads", "index", "squares", "square"]
theorem sc_thread_indexes : FnScope N_thread_indexes ["board"] (defScope s_thread_indexes) := C8.fnScope_by (by decide +kernel)
def spIdx (tb : Addr × Str) (C : Addr) : Sp := fun vs H Q _ => ∃ (G : Hp) (p : Addr) (B : Bd) (n : Nat), vs = [.ref p] ∧ Vw tb G H ∧ BoardAt C G p B n ∧ Ret tb no G H (fun G' u => ∃ a d, u = .ref a ∧ G' a = some (.tup [.int (num B : Nat), .ref d]) ∧ IdxAt G' d B) Q
theorem cls_len {B : Bd} (h1 : B.w ≤ 9) (h2 : B.h ≤ 9) : (cls B).length ≤ 400 := by
  unfold cls
  rw [sqs_colN]
  have b2 := reps_bound (E := Cn B) (colN (2 * B.h).toNat (2 * B.w).toNat) []
  rw [colN_len] at b2
  have b4 : (2 * B.w).toNat * (2 * B.h).toNat ≤ 18 * 18 := Nat.mul_le_mul (by omega) (by omega)
  simp only [List.length_nil] at b2
  omega
theorem ok_thread_indexes (D0 : DefAt K mg "thread_indexes" s_thread_indexes) (T : Txt K mg C L) (c_all_threads : C8.Cal P w K mg base 10 "all_threads" (spAll tb C) []) : C8.Cal P w K mg base 11 "thread_indexes" (spIdx tb C) [] := by
  refine D0.cal (N := N_thread_indexes) (ps := ["board"]) (fun _ _ _ _ _ _ us hl => match us, hl with | [_], _ => rfl) sc_thread_indexes (fun vs H Q E h => ?_) (fun f cdv A outer st H vs Q E hr h => ?_)
  · obtain ⟨G, p, B, n, rfl, _⟩ := h
    rfl
  · obtain ⟨G, p, B, n, rfl, g, hB, k⟩ := h
    have hu := hu_of hr
    obtain ⟨_, _, _, _, _, _, _, _, _, hw1, hh1, hw9, hh9⟩ := id hB
    refine ⟨_, (pss_cons (ps_set (i := 1) sc_thread_indexes.nd rfl (Or.inl rfl) pe_dnewT)
  (pss_cons (ps_set (i := 2) sc_thread_indexes.nd rfl (Or.inl rfl) (C8.pe_c c_all_threads hr (by decide) rfl (pa_cons (pv 0) pa_nil)))
  (pss_cons (ps_for PassesOwn.never rfl (pi_enum rfl T.enumerate (pa_cons (pv 2) pa_nil)) (pg_tup rfl (pgs_cons (pg_name (i := 3) sc_thread_indexes.nd rfl (Or.inl rfl)) (pgs_cons (pg_name (i := 4) sc_thread_indexes.nd rfl (Or.inl rfl)) pgs_nil)))
  (pss_one (ps_for PassesOwn.never rfl (pi_list (pv 4)) (pg_name (i := 5) sc_thread_indexes.nd rfl (Or.inl rfl))
  (pss_one (ps_dput hu (pv 1) (pv 5) (pv 3) rfl)))))
  (pss_one (ps_ret (pe_tup (pa_cons (pe_callB call_len (by rfl) T.len PySem.boot_len (pa_cons (pv 2) pa_nil)) (pa_cons (pv 1) pa_nil)))))))), ?_⟩
    refine fun S hS => ?_
    have g1 := (Go.refl (M := no) g).new (o := .dT []) hS
    have nS := (Go.refl (M := no) g).fresh hS
    have gS0 : G S = none := g.gh.free hS
    refine ⟨_, rfl, G, p, B, n, rfl, g1.vw, hB, fun G1 H1 u g2 ⟨Ts, hT, hTs⟩ => ?_⟩
    obtain ⟨l, ys, rfl, hl, hys⟩ := At.lst_ hT
    have g3 := g1.trans g2
    have gS : G1 S = none := g2.out upd_same trivial gS0
    have hyl : ys.length ≤ 400 := by rw [hys.mapLen, hTs.len]; exact cls_len hw9 hh9
    refine ⟨_, rfl, l, ys, rfl, SqL.of (g2.gh _ _ hl), ?_⟩
    refine for_enum (K := K) (a := l) (xs := ys) (fun i σ H' => ∃ (o3 o4 o5 : Option V) (kvs : List (List Key × V)), σ = [some (.ref p), some (.ref S), some (.ref l), o3, o4, o5] ∧ Go tb no G H G1 H' ∧ H' S = some (.dT kvs) ∧ kvs.length ≤ 1000 * i ∧
        ∀ j a t, j < i → (cls B)[j]? = some a → Cn B a t → valV kvs (pk t) = some (.int (j : Int)))
      ⟨none, none, none, [], rfl, g3, g2.loc upd_same trivial id, Nat.le_refl _, fun j a t hj => absurd hj (Nat.not_lt_zero _)⟩ (fun i σ H' _ ⟨_, _, _, _, _, z, _⟩ => SqL.of (z.gh _ _ hl)) ?_ ?_
    · rintro i y Tp σ H2 hy ⟨o3, o4, o5, kvs, rfl, gg, hS2, hkl, hks⟩ hTp
      have ge := gg.new (o := .tup [.int (i : Int), y]) hTp
      have hS3 : upd H2 Tp (.tup [.int (i : Int), y]) S = some (.dT kvs) := by rw [upd_ne (ne_of_none hS2 hTp)]; exact hS2
      refine ⟨Tp, _, rfl, SqT.of upd_same, rfl, _, _, rfl, _, _, rfl, rfl, ?_⟩
      generalize upd H2 Tp (.tup [.int (i : Int), y]) = H3 at ge hS3 ⊢
      obtain ⟨Ti, hTi, hay⟩ := hys.mapAt hy
      obtain ⟨a, hca, hTm, hTl⟩ := hTs.get hTi
      obtain ⟨li, zs, rfl, hli, hzs⟩ := At.lst_ hay
      have hi : i < ys.length := (List.getElem?_eq_some_iff.mp hy).1
      have hzl := hzs.mapLen
      refine ⟨_, rfl, li, rfl, ⟨_, SqL.of (ge.gh _ _ hli)⟩, ?_⟩
      refine for_list (K := K) (a := li) (xs := zs) (fun m σ H' => ∃ (o5 : Option V) (kv2 : List (List Key × V)), σ = [some (.ref p), some (.ref S), some (.ref l), some (.int (i : Int)), some (.ref li), o5] ∧ Go tb no G H G1 H' ∧ H' S = some (.dT kv2) ∧ kv2.length ≤ 1000 * i + m ∧
          (∀ j a t, j < i → (cls B)[j]? = some a → Cn B a t → valV kv2 (pk t) = some (.int (j : Int))) ∧ ∀ t, t ∈ Ti.take m → valV kv2 (pk t) = some (.int (i : Int)))
        ⟨o5, kvs, rfl, ge, hS3, hkl, hks, fun t ht => absurd ht (by simp)⟩ (fun m σ H' _ ⟨_, _, _, z, _⟩ => SqL.of (z.gh _ _ hli)) ?_ ?_
      · rintro m x σ H' hx ⟨o5, kv2, rfl, z1, z2, z3, z4, z5⟩
        obtain ⟨t0, ht0, hax⟩ := hzs.mapAt hx
        obtain ⟨b, rfl, hb⟩ := hax.pt
        have hm : m < zs.length := (List.getElem?_eq_some_iff.mp hx).1
        refine ⟨_, rfl, _, rfl, _, rfl, S, _, rfl, DPut.t (k := pk t0) z2 (z1.gh _ _ hb) (le_line (by omega)), ?_⟩
        have mem0 : Cn B a t0 := (hTm t0).mp (List.mem_of_getElem? ht0)
        refine ⟨_, _, rfl, z1.put z2 trivial (.inl nS) gS trivial, upd_same, ?_, fun j b t hj hb hc => ?_, fun t ht => ?_⟩
        · have := putK_len kv2 (pk t0) (V.int (i : Int))
          omega
        · rw [valV_put]
          rw [if_neg ?_]
          · exact z4 j b t hj hb hc
          · intro q
            rw [pk_inj q] at hc
            exact Apart.ix (cls_apart B) hj hb hca (hc.trans mem0.symm)
        · rw [valV_put]
          have et : Ti.take (m + 1) = Ti.take m ++ [t0] := by rw [List.take_add_one, ht0]; rfl
          rw [et, List.mem_append, List.mem_singleton] at ht
          by_cases q : pk t = pk t0
          · rw [if_pos q]
          · rw [if_neg q]
            exact ht.elim (z5 t) fun e => absurd (by rw [e]) q
      · rintro σ H' ⟨o5, kv2, rfl, z1, z2, z3, z4, z5⟩
        refine ⟨_, _, _, kv2, rfl, z1, z2, by omega, fun j b t hj hb hc => ?_⟩
        rcases Nat.lt_or_eq_of_le (Nat.le_of_lt_succ hj) with q | q
        · exact z4 j b t q hb hc
        · subst q
          rw [hca] at hb
          obtain rfl := Option.some.inj hb
          refine z5 t ?_
          have ely : Ti.take zs.length = Ti := by rw [hzl, List.take_length]
          rw [ely]
          exact (hTm t).mpr hc
    · rintro σ H2 ⟨o3, o4, o5, kvs, rfl, gg, hS2, hkl, hks⟩
      refine ⟨_, rfl, _, ys.length, rfl, Or.inl ⟨_, SqL.of (gg.gh _ _ hl), rfl⟩, _, rfl, len2, fun t ht => ?_⟩
      have gf := gg.freeze hS2 trivial nS gS
      obtain ⟨g4, s4, e4⟩ := gf.tup ht [.int ((ys.length : Nat) : Int), .ref S]
      have en : ys.length = num B := by rw [hys.mapLen, hTs.len]; rfl
      refine k _ _ _ g4 ⟨t, S, rfl, by rw [e4, en], kvs, fun s => match valV kvs (pk s) with | some (.int z) => z | _ => 0, s4 _ _ upd_same, fun s hs => ?_, fun s t hs ht => ?_⟩
      · obtain ⟨a, ha, hc⟩ := cls_all hs
        obtain ⟨j, hj, e⟩ := List.mem_iff_getElem.mp ha
        have q := hks j a s (by rw [hys.mapLen, hTs.len]; exact hj) (by rw [List.getElem?_eq_getElem hj, e]) hc
        simp only [q]
      · obtain ⟨a, ha, hc⟩ := cls_all hs
        obtain ⟨j, hj, e⟩ := List.mem_iff_getElem.mp ha
        obtain ⟨a', ha', hc'⟩ := cls_all ht
        obtain ⟨j', hj', e'⟩ := List.mem_iff_getElem.mp ha'
        have b1 : j < ys.length := by rw [hys.mapLen, hTs.len]; exact hj
        have b2 : j' < ys.length := by rw [hys.mapLen, hTs.len]; exact hj'
        have c1 : (cls B)[j]? = some a := by rw [List.getElem?_eq_getElem hj, e]
        have c2 : (cls B)[j']? = some a' := by rw [List.getElem?_eq_getElem hj', e']
        have q1 := hks j a s b1 c1 hc
        have q2 := hks j' a' t b2 c2 hc'
        simp only [q1, q2]
        show (j : Int) = (j' : Int) ↔ _
        constructor
        · intro q
          have q' : j = j' := Int.ofNat.inj q
          subst q'
          rw [c1] at c2
          obtain rfl := Option.some.inj c2
          exact hc.symm.trans hc'
        · intro q
          have q2 := hks j a t b1 c1 (hc.trans q)
          rw [hks j' a' t b2 c2 hc'] at q2
          exact (V.int.inj (Option.some.inj q2)).symm
-- 0 indexes, 1 looks, 2 one, 3 other, 4 word
abbrev N_agrees : List Str := ["indexes", "looks", "one", "other", "word"]
theorem sc_agrees : FnScope N_agrees ["indexes", "looks"] (defScope s_agrees) := C8.fnScope_by (by decide +kernel)
def spAgr : Sp := fun vs H Q _ => ∃ (G : Hp) (d : Addr) (B : Bd) (v : V) (ls : List Look), vs = [.ref d, v] ∧ Same G H ∧ IdxAt G d B ∧ At G v (.list (ls.map lkD)) ∧ (∀ l, l ∈ ls → On B l.1 ∧ On B l.2.1) ∧ ∀ r : Bool, (r = true ↔ ∀ l, l ∈ ls → Okl B l) → Q (.bl r) H
theorem ok_agrees (D0 : DefAt K mg "agrees" s_agrees) : C8.Cal P w K mg base 1 "agrees" spAgr [] := by
  refine D0.cal (N := N_agrees) (ps := ["indexes", "looks"]) (fun _ _ _ _ _ _ us hl => match us, hl with | [_, _], _ => rfl) sc_agrees (fun vs H Q E h => ?_) (fun f cdv A outer st H vs Q E hr h => ?_)
  · obtain ⟨G, d, B, v, ls, rfl, _⟩ := h
    rfl
  · obtain ⟨G, d, B, v, ls, rfl, g, ⟨kvs, ix, hd, hix, hcn⟩, hv, hon, k⟩ := h
    have hu := hu_of hr
    obtain ⟨l, ys, rfl, hl, hys⟩ := At.lst_ hv
    refine ⟨_, (pss_cons (ps_for PassesOwn.never rfl (pi_list (pv 1)) (pg_tup rfl (pgs_cons (pg_name (i := 2) sc_agrees.nd rfl (Or.inl rfl)) (pgs_cons (pg_name (i := 3) sc_agrees.nd rfl (Or.inl rfl)) (pgs_cons (pg_name (i := 4) sc_agrees.nd rfl (Or.inl rfl)) pgs_nil))))
  (pss_one (ps_if (pt_cmpR op_ne (pe_cmpR op_eq (pe_dget hu (pv 0) (pv 2) (fun _ _ => rfl)) (pe_dget hu (pv 0) (pv 3) (fun _ _ => rfl)) (nomark _)) (pe_cmpR op_eq (pv 4) pe_str (nomark _)) (nomark _)) (pss_one (ps_ret pe_bl)) pss_nil)))
  (pss_one (ps_ret pe_bl))), ?_⟩
    refine ⟨_, rfl, l, rfl, ⟨_, SqL.of (g _ _ hl)⟩, for_list (K := K) (a := l) (xs := ys) (fun i σ H' => H' = H ∧ (∃ (o2 o3 o4 : Option V), σ = [some (.ref d), some (.ref l), o2, o3, o4]) ∧ ∀ q, q ∈ ls.take i → Okl B q)
      ⟨rfl, ⟨none, none, none, rfl⟩, fun q hq => absurd hq (by simp)⟩ (fun i σ H' _ ⟨z, _⟩ => by rw [z]; exact SqL.of (g _ _ hl)) ?_ ?_⟩
    · rintro i y σ H' hy ⟨rfl, ⟨o2, o3, o4, rfl⟩, hq⟩
      obtain ⟨q, hqi, hay⟩ := hys.mapAt hy
      obtain ⟨a, x1, x2, rfl, ha, h1, h2⟩ := hay.look
      obtain ⟨b1, rfl, hb1⟩ := h1.pt
      obtain ⟨b2, rfl, hb2⟩ := h2.pt
      obtain ⟨on1, on2⟩ := hon q (List.mem_of_getElem? hqi)
      refine ⟨a, _, rfl, SqT.of (g _ _ ha), rfl, _, _, rfl, _, _, rfl, _, _, rfl, rfl, ?_⟩
      have d1 : DGet H' d (.ref b1) (some (.int (ix q.1))) := by rw [← hix q.1 on1]; exact DGet.t (k := pk q.1) (g _ _ hd) (g _ _ hb1)
      have d2 : DGet H' d (.ref b2) (some (.int (ix q.2.1))) := by rw [← hix q.2.1 on2]; exact DGet.t (k := pk q.2.1) (g _ _ hd) (g _ _ hb2)
      refine ⟨_, rfl, _, rfl, d, _, rfl, d1, _, rfl, _, rfl, d, _, rfl, d2, rfl, _, rfl, rfl, rfl, ?_⟩
      have ew : decide (V.str (wS q.2.2) = V.str "same") = q.2.2 := by
        cases q.2.2 with
        | true => exact decide_eq_true rfl
        | false => exact decide_eq_false (by decide +kernel)
      have ei : decide (V.int (ix q.1) = V.int (ix q.2.1)) = decide (ix q.1 = ix q.2.1) := by rw [dec_int]; rfl
      rw [ew, ei]
      have hc := hcn q.1 q.2.1 on1 on2
      by_cases e : Okl B q
      · refine ⟨false, bnF ?_, iteF ⟨rfl, ⟨_, _, _, rfl⟩, fun r hr' => ?_⟩⟩
        · unfold Okl at e
          by_cases e1 : ix q.1 = ix q.2.1
          · rw [decide_eq_true e1, e.mp (hc.mp e1)]
          · rw [decide_eq_false e1]
            cases e2 : q.2.2 with
            | true => exact absurd (hc.mpr (e.mpr e2)) e1
            | false => rfl
        · have et : ls.take (i + 1) = ls.take i ++ [q] := by rw [List.take_add_one, hqi]; rfl
          rw [et, List.mem_append, List.mem_singleton] at hr'
          exact hr'.elim (hq r) fun z => by rw [z]; exact e
      · refine ⟨true, bnT (fun z => e ?_), iteT (k false ⟨fun z => Bool.noConfusion z, fun z => absurd (z q (List.mem_of_getElem? hqi)) e⟩)⟩
        have z' := V.bl.inj z
        unfold Okl
        rw [← hc, ← z']
        exact decide_eq_true_iff.symm
    · rintro σ H' ⟨rfl, _, hq⟩
      refine k true ⟨fun _ q hm => hq q ?_, fun _ => rfl⟩
      rw [hys.mapLen, List.take_length]
      exact hm
end
end Sand

set_option Elab.async false
set_option linter.all false
set_option maxRecDepth 100000
set_option maxHeartbeats 4000000
namespace Sand
open PySem PySem.Spec PyProof.Rows L2
theorem kS_in (b : Bool) : inV (.str (kS b)) [.str "-", .str "|"] = true := by cases b <;> decide +kernel
theorem val_none {ms : List Mir} {x y : Int} (h : (x, y) ∉ Plcs ms) : valV (ms.map eM) ([Sum.inl x, Sum.inl y] : List Key) = none := by
  rw [val_eM]
  cases q : lk ms x y with
  | none => rfl
  | some b =>
    refine absurd ?_ h
    unfold lk at q
    obtain ⟨m, h1, h2⟩ := Option.map_eq_some_iff.mp q
    have hm := List.mem_of_find?_eq_some h1
    have hp := List.find?_some h1
    simp only [decide_eq_true_eq] at hp
    exact List.mem_map.mpr ⟨m, hm, by rw [hp.1, hp.2]⟩
section
variable {P : Program} {w : World} {K : PySem.W.Frag} {mg : Str → Option Value} {base : Heap} {C L : Addr} {tb : Addr × Str}
-- 0 width, 1 height, 2 kinds, 3 mirror, 4 x, 5 y, 6 kind
abbrev N_check_mirror : List Str := ["width", "height", "kinds", "mirror", "x", "y", "kind"]
theorem sc_check_mirror : FnScope N_check_mirror ["width", "height", "kinds", "mirror"] (defScope s_check_mirror) := C8.fnScope_by (by decide +kernel)
def spChk (tb : Addr × Str) : Sp := fun vs H Q _ => ∃ (G : Hp) (d : Addr) (v : V) (a b : Int) (m : Mir) (ms : List Mir), vs = [.int a, .int b, .ref d, v] ∧ Vw tb G H ∧ At G v (mD m) ∧ H d = some (.dT (ms.map eM)) ∧ InsI a b m.1 m.2.1 ∧ (m.1, m.2.1) ∉ Plcs ms ∧
  ∀ H', Go tb no G H G H' → Q .non H'
theorem ok_check_mirror (D0 : DefAt K mg "check_mirror" s_check_mirror) (T : Txt K mg C L) (c_is_inside : C8.Cal P w K mg base 1 "is_inside" spIns []) : C8.Cal P w K mg base 2 "check_mirror" (spChk tb) [] := by
  refine D0.cal (N := N_check_mirror) (ps := ["width", "height", "kinds", "mirror"]) (fun _ _ _ _ _ _ us hl => match us, hl with | [_, _, _, _], _ => rfl) sc_check_mirror (fun vs H Q E h => ?_) (fun f cdv A outer st H vs Q E hr h => ?_)
  · obtain ⟨G, d, v, a, b, m, ms, rfl, _⟩ := h
    rfl
  · obtain ⟨G, d, v, a, b, ⟨x, y, kd⟩, ms, rfl, g, hv, hd, hi, hn, k⟩ := h
    have hu := hu_of hr
    obtain ⟨aK, g_KINDS, sK⟩ := T.g_KINDS
    obtain ⟨t, rfl, ht⟩ := hv.mir
    refine ⟨_, (pss_cons (ps_asg (pv 3) (pg_tup rfl (pgs_cons (pg_name (i := 4) sc_check_mirror.nd rfl (Or.inl rfl)) (pgs_cons (pg_name (i := 5) sc_check_mirror.nd rfl (Or.inl rfl)) (pgs_cons (pg_name (i := 6) sc_check_mirror.nd rfl (Or.inl rfl)) pgs_nil)))))
  (pss_cons (ps_if (pt_not (pt_val (C8.pe_c c_is_inside hr (by decide) rfl (pa_cons (pv 0) (pa_cons (pv 1) (pa_cons (pv 4) (pa_cons (pv 5) pa_nil))))))) (pss_one ps_never) pss_nil)
  (pss_cons (ps_if (pt_cmpR op_notIn_seq (pv 6) (C8.pe_gc rfl g_KINDS) (by rfl)) (pss_one ps_never) pss_nil)
  (pss_one (ps_if (pt_cmp (pc_din hu (pe_tup (pa_cons (pv 4) (pa_cons (pv 5) pa_nil))) (pv 2))) (pss_one ps_never) pss_nil))))), ?_⟩
    refine ⟨_, rfl, t, _, rfl, SqT.of (g.gh _ _ ht), rfl, _, _, rfl, _, _, rfl, _, _, rfl, rfl, ?_⟩
    refine ⟨_, rfl, _, rfl, _, rfl, _, rfl, a, b, x, y, rfl, fun r hr' => ?_⟩
    have er : r = true := hr'.mpr hi
    subst er
    refine ⟨true, rfl, iteF ?_⟩
    refine ⟨_, rfl, aK, _, rfl, .inr (sK _), rfl, rfl, false, ?_, iteF ?_⟩
    · rw [kS_in]; rfl
    refine ⟨_, rfl, _, rfl, len2, fun q hq => ⟨_, rfl, d, none, rfl, ?_, false, rfl, iteF (k _ ((Go.refl g).new hq))⟩⟩
    rw [← val_none (ms := ms) hn]
    exact DGet.t (k := [Sum.inl x, Sum.inl y]) (by rw [upd_ne (ne_of_none hd hq)]; exact hd) upd_same
-- 0 width, 1 height, 2 mirrors, 3 kinds, 4 x, 5 y, 6 kind
abbrev N_kinds_of : List Str := ["width", "height", "mirrors", "kinds", "x", "y", "kind"]
theorem sc_kinds_of : FnScope N_kinds_of ["width", "height", "mirrors"] (defScope s_kinds_of) := C8.fnScope_by (by decide +kernel)
def spKinds (tb : Addr × Str) : Sp := fun vs H Q _ => ∃ (G : Hp) (v : V) (a b : Int) (ms : List Mir), vs = [.int a, .int b, v] ∧ Vw tb G H ∧ At G v (.list (ms.map mD)) ∧ (Plcs ms).Nodup ∧ (∀ m, m ∈ ms → InsI a b m.1 m.2.1) ∧ ms.length ≤ 1000 ∧
  Ret tb no G H (fun G' u => ∃ d, u = .ref d ∧ G' d = some (.dT (ms.map eM))) Q
theorem ok_kinds_of (D0 : DefAt K mg "kinds_of" s_kinds_of) (c_check_mirror : C8.Cal P w K mg base 2 "check_mirror" (spChk tb) []) : C8.Cal P w K mg base 3 "kinds_of" (spKinds tb) [] := by
  refine D0.cal (N := N_kinds_of) (ps := ["width", "height", "mirrors"]) (fun _ _ _ _ _ _ us hl => match us, hl with | [_, _, _], _ => rfl) sc_kinds_of (fun vs H Q E h => ?_) (fun f cdv A outer st H vs Q E hr h => ?_)
  · obtain ⟨G, v, a, b, ms, rfl, _⟩ := h
    rfl
  · obtain ⟨G, v, a, b, ms, rfl, g, hv, hnd, hin, hlen, k⟩ := h
    have hu := hu_of hr
    obtain ⟨l, ys, rfl, hl, hys⟩ := At.lst_ hv
    refine ⟨_, (pss_cons (ps_set (i := 3) sc_kinds_of.nd rfl (Or.inl rfl) pe_dnewT)
  (pss_cons (ps_for PassesOwn.never rfl (pi_list (pv 2)) (pg_tup rfl (pgs_cons (pg_name (i := 4) sc_kinds_of.nd rfl (Or.inl rfl)) (pgs_cons (pg_name (i := 5) sc_kinds_of.nd rfl (Or.inl rfl)) (pgs_cons (pg_name (i := 6) sc_kinds_of.nd rfl (Or.inl rfl)) pgs_nil))))
  (pss_cons (ps_expr (C8.pe_c c_check_mirror hr (by decide) rfl (pa_cons (pv 0) (pa_cons (pv 1) (pa_cons (pv 3) (pa_cons (pe_tup (pa_cons (pv 4) (pa_cons (pv 5) (pa_cons (pv 6) pa_nil)))) pa_nil))))))
  (pss_one (ps_dput hu (pv 3) (pe_tup (pa_cons (pv 4) (pa_cons (pv 5) pa_nil))) (pv 6) rfl))))
  (pss_one (ps_ret (pv 3))))), ?_⟩
    refine fun D hD => ?_
    have g1 := (Go.refl (M := no) g).new (o := .dT []) hD
    have nD := (Go.refl (M := no) g).fresh hD
    have gD0 : G D = none := g.gh.free hD
    refine ⟨_, rfl, l, rfl, ⟨_, SqL.of (g1.gh _ _ hl)⟩, for_list (K := K) (a := l) (xs := ys) (fun i σ H' => ∃ (G' : Hp) (o4 o5 o6 : Option V), σ = [some (.int a), some (.int b), some (.ref l), some (.ref D), o4, o5, o6] ∧ Go tb no G H G' H' ∧ G' D = none ∧ H' D = some (.dT ((ms.take i).map eM)))
      ⟨G, none, none, none, rfl, g1, gD0, upd_same⟩ (fun i σ H' _ ⟨_, _, _, _, _, z, _⟩ => SqL.of (z.gh _ _ (z.gg _ _ hl))) ?_ ?_⟩
    · rintro i y σ H1 hy ⟨G1, o4, o5, o6, rfl, gg, gD, hD1⟩
      obtain ⟨⟨mx, my, mb⟩, hmi, hay⟩ := hys.mapAt hy
      obtain ⟨t, rfl, ht⟩ := (At.mono gg.gg _ hay).mir
      have hmem := List.mem_of_getElem? hmi
      have hi : i < ys.length := (List.getElem?_eq_some_iff.mp hy).1
      have et : ms.take (i + 1) = ms.take i ++ [(mx, my, mb)] := by rw [List.take_add_one, hmi]; rfl
      have hni : (mx, my) ∉ Plcs (ms.take i) := by
        have q : (Plcs (ms.take (i + 1))).Nodup := hnd.sublist ((List.take_sublist _ _).map _)
        rw [et] at q
        unfold Plcs at q
        rw [List.map_append] at q
        have q2 := (List.nodup_append.mp q).2.2
        exact fun z => q2 _ z _ (List.mem_singleton.mpr rfl) rfl
      refine ⟨t, _, rfl, SqT.of (gg.gh _ _ ht), rfl, _, _, rfl, _, _, rfl, _, _, rfl, rfl, ?_⟩
      -- check_mirror(width, height, kinds, (x, y, kind))
      refine ⟨_, rfl, _, rfl, _, rfl, _, rfl, _, rfl, _, rfl, len3, fun q hq => ?_⟩
      obtain ⟨g2, s2, e2⟩ := gg.tup hq [.int mx, .int my, .str (kS mb)]
      have hD2 : upd H1 q (.tup [.int mx, .int my, .str (kS mb)]) D = some (.dT ((ms.take i).map eM)) := by rw [upd_ne (ne_of_none hD1 hq)]; exact hD1
      have gD2 : upd G1 q (.tup [.int mx, .int my, .str (kS mb)]) D = none := by rw [upd_ne (ne_of_none hD1 hq)]; exact gD
      refine ⟨_, D, _, a, b, (mx, my, mb), ms.take i, rfl, g2.vw, At.ofMir e2, hD2, hin _ hmem, hni, fun H3 g3 => ?_⟩
      have g4 := g2.trans g3
      have hD3 : H3 D = some (.dT ((ms.take i).map eM)) := g3.loc hD2 trivial id
      -- kinds[x, y] = kind
      refine ⟨_, rfl, _, rfl, _, rfl, _, rfl, len2, fun r hr' => ⟨D, _, rfl, DPut.t (k := [Sum.inl mx, Sum.inl my]) (by rw [upd_ne (ne_of_none hD3 hr')]; exact hD3) upd_same ?_, ?_⟩⟩
      · rw [List.length_map, List.length_take]
        exact le_line (by omega)
      have g5 := (g4.new (o := .tup [.int mx, .int my]) hr').put (o := .dT ((ms.take i).map eM)) (o' := .dT (putK ((ms.take i).map eM) [Sum.inl mx, Sum.inl my] (.str (kS mb)))) (D := D) (by rw [upd_ne (ne_of_none hD3 hr')]; exact hD3) trivial (.inl nD) gD2 trivial
      refine ⟨_, _, _, _, rfl, g5, gD2, ?_⟩
      rw [upd_same, et, List.map_append]
      rw [putK_new _ (val_none hni)]
      rfl
    · rintro σ H1 ⟨G1, o4, o5, o6, rfl, gg, gD, hD1⟩
      rw [hys.mapLen, List.take_length] at hD1
      exact ⟨_, rfl, k _ _ _ (gg.freeze hD1 trivial nD gD) ⟨D, rfl, upd_same⟩⟩
-- 0 self, 1 width, 2 height, 3 mirrors
abbrev N_Board___init__ : List Str := ["self", "width", "height", "mirrors"]
theorem sc_Board___init__ : FnScope N_Board___init__ ["self", "width", "height", "mirrors"] (defScope s_Board___init__) := C8.fnScope_by (by decide +kernel)
def spInitB (tb : Addr × Str) (C : Addr) : Sp := fun vs H Q _ => ∃ (G : Hp) (p dx : Addr) (v : V) (a b : Int) (ms : List Mir), vs = [.ref p, .int a, .int b, v] ∧ Vw tb G H ∧ G p = none ∧ H p = some (.ins C dx []) ∧ At G v (.list (ms.map mD)) ∧ (Plcs ms).Nodup ∧ (∀ m, m ∈ ms → InsI a b m.1 m.2.1) ∧
  ms.length ≤ 1000 ∧ 1 ≤ a ∧ 1 ≤ b ∧ ∀ G' H' d, Go tb (fun q => q = p) G H G' H' → G' p = none → G' d = some (.dT (ms.map eM)) → H' p = some (.ins C dx (bF (.int a) (.int b) d)) → Q .non H'
theorem putW (a : V) : putF "wide" a [] = ([("wide", a)] : List (Str × V)) := rfl
theorem putH (a b : V) : putF "high" b ([("wide", a)] : List (Str × V)) = ([("wide", a), ("high", b)] : List (Str × V)) := by
  show (if ("wide" : Str) = "high" then ([(("wide" : Str), b)] : List (Str × V)) else (("wide" : Str), a) :: putF "high" b []) = _
  rw [if_neg (by decide +kernel)]; rfl
theorem putK3 (a b : V) (d : Addr) : putF "kinds" (.ref d) ([("wide", a), ("high", b)] : List (Str × V)) = bF a b d := by
  show (if ("wide" : Str) = "kinds" then ([(("wide" : Str), V.ref d), ("high", b)] : List (Str × V)) else (("wide" : Str), a) :: (if ("high" : Str) = "kinds" then ([(("high" : Str), V.ref d)] : List (Str × V)) else (("high" : Str), b) :: putF "kinds" (.ref d) [])) = _
  rw [if_neg (by decide +kernel), if_neg (by decide +kernel)]; rfl
theorem ok_initB (D0 : MakAt K mg "Board" C "Board.__init__" s_Board___init__) (T : Txt K mg C L) (c_kinds_of : C8.Cal P w K mg base 3 "kinds_of" (spKinds tb) []) : C8.Mak P w K mg base 4 "Board" C (spInitB tb C) [] := by
  refine D0.mak (N := N_Board___init__) (ps := ["self", "width", "height", "mirrors"]) (fun _ _ _ _ _ _ us hl => match us, hl with | [_, _, _, _], _ => rfl) sc_Board___init__ (fun vs H Q E h => ?_) (fun f cdv A outer st H vs Q E hr h => ?_)
  · obtain ⟨G, p, dx, v, a, b, ms, rfl, _⟩ := h
    rfl
  · obtain ⟨G, p, dx, v, a, b, ms, rfl, g, gp, hp, hv, hnd, hin, hlen, ha, hb, k⟩ := h
    refine ⟨_, (pss_cons (ps_if (pt_cmpR op_lt (pv 1) pe_int (nomark _)) (pss_one ps_never) pss_nil)
  (pss_cons (ps_if (pt_cmpR op_lt (pv 2) pe_int (nomark _)) (pss_one ps_never) pss_nil)
  (pss_cons (ps_fld (pv 0) (pv 1) rfl)
  (pss_cons (ps_fld (pv 0) (pv 2) rfl)
  (pss_one (ps_fld (pv 0) (C8.pe_c c_kinds_of hr (by decide) rfl (pa_cons (pv 1) (pa_cons (pv 2) (pa_cons (pv 3) pa_nil)))) rfl)))))), ?_⟩
    refine ⟨_, rfl, _, _, rfl, rfl, false, blF (by omega), iteF ?_⟩
    refine ⟨_, rfl, _, _, rfl, rfl, false, blF (by omega), iteF ?_⟩
    have g0 : Go tb (fun q => q = p) G H G H := Go.refl g
    refine ⟨_, rfl, _, rfl, p, C, dx, _, rfl, hp, T.cB, T.nW, by decide, ?_⟩
    have g1 := g0.put (o' := .ins C dx (putF "wide" (.int a) [])) hp trivial (.inr rfl) gp trivial
    refine ⟨_, rfl, _, rfl, p, C, dx, _, rfl, upd_same, T.cB, T.nH, by rw [putW]; show 1 < 1000; decide, ?_⟩
    have g2 := g1.put (o' := .ins C dx (putF "high" (.int b) (putF "wide" (.int a) []))) upd_same trivial (.inr rfl) gp trivial
    refine ⟨_, rfl, _, rfl, _, rfl, G, v, a, b, ms, rfl, g2.vw, hv, hnd, hin, hlen, fun G3 H3 u g3 ⟨d, eu, hd⟩ => ?_⟩
    subst eu
    have hp3 : H3 p = some (.ins C dx (putF "high" (.int b) (putF "wide" (.int a) []))) := g3.loc upd_same trivial id
    have gp3 : G3 p = none := g3.out upd_same trivial gp
    have g4 := g2.trans (g3.weak fun _ z => z.elim)
    refine ⟨_, rfl, p, C, dx, _, rfl, hp3, T.cB, T.nK, by rw [putW, putH]; show 2 < 1000; decide, ?_⟩
    refine k G3 _ d (g4.put hp3 trivial (.inr rfl) gp3 trivial) gp3 hd ?_
    rw [upd_same, putW, putH, putK3]
/-- Board(..): what the caller gets -/
theorem mk_board {M : Addr → Prop} {G H G1 H1 : Hp} {x dx : Addr} {v : V} {a b : Int} {ms : List Mir} {Q : VK} {E : XK} (g : Go tb M G H G1 H1) (hx : H1 x = none) (hdx : H1 dx = none) (ne : dx ≠ x) (hv : At G1 v (.list (ms.map mD))) (hnd : (Plcs ms).Nodup) (hin : ∀ m, m ∈ ms → InsI a b m.1 m.2.1)
    (hlen : ms.length ≤ 1000) (ha : 1 ≤ a) (hb : 1 ≤ b) (ha9 : a ≤ 9) (hb9 : b ≤ 9) (k : ∀ G2 H2, Go tb M G H G2 H2 → Go tb no G1 H1 G2 H2 → BoardAt C G2 x (bOf a b ms) ms.length → Q (.ref x) H2) :
    spInitB tb C [.ref x, .int a, .int b, v] (upd (upd H1 dx (.own x)) x (.ins C dx [])) (fun v H2 => v = .non ∧ Q (.ref x) H2) E := by
  have gv := Go.refl (M := no) g.vw
  have g1 : Go tb no G1 H1 G1 (upd H1 dx (.own x)) := gv.new hdx
  have hx1 : upd H1 dx (.own x) x = none := by rw [upd_ne ne.symm]; exact hx
  have g2 : Go tb no G1 H1 G1 (upd (upd H1 dx (.own x)) x (.ins C dx [])) := g1.new hx1
  have gx : G1 x = none := g.gh.free hx
  refine ⟨G1, x, dx, v, a, b, ms, rfl, g2.vw, gx, upd_same, hv, hnd, hin, hlen, ha, hb, fun G3 H3 d g3 gx3 hd hx3 => ⟨rfl, ?_⟩⟩
  have nx : ¬ Std H1 x := Std.not hx
  -- the instance itself stood nowhere ahead
  have g4 : Go tb no G1 H1 G3 H3 := by
    refine ⟨fun b o e n _ => ?_, fun b e => g3.ex b (g2.ex b e), fun b o e => g3.gg b o e, g3.gh, fun b o' e e' => ?_, g3.nt, g3.tt, g.tt⟩
    · have hb : b ≠ x := fun z => nx ⟨o, z ▸ e, n⟩
      exact g3.kp b o (g2.kp b o e n id) n hb
    · exact g3.nc b o' (g2.ex b e) e'
  have g5 := g4.freeze hx3 trivial nx gx3
  refine k _ _ (g.trans (g5.weak fun _ z => z.elim)) g5 ⟨dx, d, ms, upd_same, ?_, rfl, hnd, fun m hm => hin m hm, fun _ _ => rfl, ha, hb, ha9, hb9⟩
  rw [upd_ne fun z => by rw [z, gx3] at hd; cases hd]
  exact hd
end
end Sand

set_option Elab.async false
set_option linter.all false
set_option maxRecDepth 100000
set_option maxHeartbeats 4000000
namespace Sand
open PySem PySem.Spec PyProof.Rows L2
/-! ### sorted of a list of mirrors: some arrangement -/
def rfs (bs : List (Addr × Mir)) : List V := bs.map fun b => V.ref b.1
def mT (m : Mir) : HO := .tup [.int m.1, .int m.2.1, .str (kS m.2.2)]
def rSortedM (K : PySem.W.Frag) : List V → Hp → VK → Prop := fun vs H Q => ∃ (a : Addr) (bs : List (Addr × Mir)), vs = [V.ref a] ∧ SqL K H a (rfs bs) ∧ (∀ b, b ∈ bs → H b.1 = some (mT b.2)) ∧
  ∀ (bs' : List (Addr × Mir)) (p : Addr), bs'.Perm bs → H p = none → Q (.ref p) (upd H p (.lst (rfs bs')))
theorem each_refs : ∀ {bs : List (Addr × Mir)} {us : List Value}, Vals (rfs bs) us → PySem.W.EachIs (fun v b => v = Value.ref b.1) us bs
  | [], _, h => by cases h; exact .nil
  | b :: bs, _, h => by
    cases h with
    | cons r t => cases r; exact .cons rfl (each_refs t)
theorem refs_each : ∀ {bs : List (Addr × Mir)} {us : List Value}, PySem.W.EachIs (fun v b => v = Value.ref b.1) us bs → Vals (rfs bs) us
  | [], _, h => by cases h; exact .nil
  | b :: bs, _, h => by
    cases h with
    | cons r t => subst r; exact .cons rfl (refs_each t)
theorem each_and {R S : Value → Addr × Mir → Prop} : ∀ {bs : List (Addr × Mir)} {us : List Value}, PySem.W.EachIs R us bs → (∀ u b, b ∈ bs → R u b → S u b) → PySem.W.EachIs S us bs
  | [], _, h, _ => by cases h; exact .nil
  | b :: bs, _, h, k => by
    cases h with
    | cons r t => exact .cons (k _ _ (List.mem_cons_self ..) r) (each_and t fun u c hc => k u c (List.mem_cons_of_mem _ hc))
theorem mD_alike (m n : Mir) : PySem.W.alike (mD m) (mD n) = true := by
  unfold mD
  simp [PySem.W.alike, PySem.W.alikeAll]
theorem mD_depth (m : Mir) : (mD m).depth ≤ 10 := by
  unfold mD
  simp [PyData.depth, PyData.depthAll]
theorem cr_sortedM {X : Cx} (hu : X.A.units + 64 < cLine) : CallR X (.builtin "sorted") (rSortedM X.K) := by
  intro pins s σ H vs us Q I r h
  obtain ⟨a, bs, rfl, hs, hb, q⟩ := h
  obtain ⟨its, rv, hl, hz⟩ := I.list hs
  obtain ⟨u, rfl, ru⟩ := vals1 r
  obtain rfl : u = Value.ref a := ru
  have e := each_refs rv
  have hz' : bs.length ≤ sizeLine := by
    unfold rfs at hz
    rw [List.length_map] at hz; exact hz
  refine PySem.W.sorted_data (enc := fun b : Addr × Mir => mD b.2) hl.isList e (each_and e fun v b hm hv => ?_) (fun d hd d' hd' => ?_) (PySem.W.Sortable.tuples fun b => ⟨_, _, rfl⟩) hz' (fun b _ => ?_) fun out hlen ho => ?_
  · subst hv
    have hd : Dp X.K H (.ref b.1) (mD b.2) := .tup (SqT.of (hb b hm)) (.cons (.int _) (.cons (.int _) (.cons (.str _) .nil)))
    exact Dp.reads I _ _ _ hd rfl
  · obtain ⟨b, _, rfl⟩ := List.mem_map.mp hd
    obtain ⟨b', _, rfl⟩ := List.mem_map.mp hd'
    exact mD_alike _ _
  · have := mD_depth b.2
    show X.A.units + 2 + (mD b.2).depth < cLine
    omega
  · obtain ⟨n, hn⟩ := sortedAll_at s.heap its (List.toArray out)
    have pm : (bs.mergeSort (PySem.W.dataLe false fun b : Addr × Mir => mD b.2)).Perm bs := List.mergeSort_perm ..
    refine ⟨.ref (s.heap.objs.size + 1), _, I.laid (a := s.heap.objs.size + 1) (o := .lst (rfs (bs.mergeSort (PySem.W.dataLe false fun b : Addr × Mir => mD b.2)))) (t' := s.toks) (fun b o e => sortedAll_old e) (Nat.le_succ _) ⟨?_, out, n, refs_each ho, hn⟩, rfl, q _ _ pm (I.hok.fresh (Nat.le_succ _))⟩
    unfold rfs
    rw [List.length_map, pm.length_eq]; exact hz'
/-! ### a dict is locked while it is walked -/
def del (G : Hp) (d : Addr) : Hp := fun b => if b = d then none else G b
theorem del_ne {G : Hp} {d b : Addr} (h : b ≠ d) : del G d b = G b := by unfold del; rw [if_neg h]
theorem del_same {G : Hp} {d : Addr} : del G d d = none := by unfold del; rw [if_pos rfl]
theorem del_sub {G : Hp} {d : Addr} : Same (del G d) G := fun b o e => by
  by_cases hb : b = d
  · rw [hb, del_same] at e; cases e
  · rw [del_ne hb] at e; exact e
theorem tab_upd {tb : Addr × Str} {H : Hp} {d : Addr} {u u' : HO} (t : LamX.TabS H tb.1 tb.2) (hd : H d = some u) (pu : Pl u) : LamX.TabS (upd H d u') tb.1 tb.2 := by
  obtain ⟨ps, e1, e2, e3⟩ := t
  refine ⟨ps, by rw [upd_ne (ne_of e1 hd fun z => by rw [← z] at pu; exact pu)]; exact e1, e2, fun pos cv hc => ?_⟩
  obtain ⟨c, h1, h2⟩ := e3 pos cv hc
  exact ⟨c, h1, by rw [upd_ne (ne_of h2 hd fun z => by rw [← z] at pu; exact pu)]; exact h2⟩
theorem Go.lock {tb : Addr × Str} {G H : Hp} {d : Addr} {u : HO} {o : Obj} (g : Vw tb G H) (hd : G d = some u) (pu : Pl u) : Vw tb (del G d) (upd H d (.frz o u)) := by
  have hd' := g.gh _ _ hd
  refine ⟨fun _ _ e _ _ => e, fun _ e => e, fun _ _ e => e, fun b v e => ?_, fun _ _ _ e => e, fun b v e => g.nt b v (del_sub _ _ e), tab_upd g.tt hd' pu, tab_upd g.tt hd' pu⟩
  have hb : b ≠ d := fun z => by rw [z, del_same] at e; cases e
  rw [upd_ne hb]; exact g.gh _ _ (del_sub _ _ e)
theorem Go.unlock {tb : Addr × Str} {G H G1 H1 : Hp} {d : Addr} {u : HO} {o : Obj} (g : Vw tb G H) (hd : G d = some u) (pu : Pl u) (k : Go tb no (del G d) (upd H d (.frz o u)) G1 H1) (h1 : H1 d = some (.frz o u)) : Go tb no G H (upd G1 d u) (upd H1 d u) := by
  have hd' := g.gh _ _ hd
  have sd : Std (upd H d (.frz o u)) d := ⟨_, upd_same, fun _ z => by cases z⟩
  refine ⟨fun b v e n _ => ?_, fun b ⟨v, e, n⟩ => ?_, fun b v e => ?_, fun b v e => ?_, fun b v ⟨w, e, n⟩ e' => ?_, fun b v e => ?_, tab_upd k.tt h1 trivial, g.tt⟩
  · by_cases hb : b = d
    · rw [hb] at e ⊢; rw [upd_same, ← hd', e]
    · rw [upd_ne hb]; exact k.kp b v (by rw [upd_ne hb]; exact e) n id
  · by_cases hb : b = d
    · rw [hb]; exact ⟨u, upd_same, pu.nt⟩
    · obtain ⟨w, e1, e2⟩ := k.ex b ⟨v, by rw [upd_ne hb]; exact e, n⟩
      exact ⟨w, by rw [upd_ne hb]; exact e1, e2⟩
  · by_cases hb : b = d
    · rw [hb] at e ⊢; rw [upd_same, ← hd, e]
    · rw [upd_ne hb]; exact k.gg b v (by rw [del_ne hb]; exact e)
  · by_cases hb : b = d
    · rw [hb, upd_same] at e ⊢; exact e
    · rw [upd_ne hb] at e ⊢; exact k.gh b v e
  · by_cases hb : b = d
    · rw [hb, upd_same] at e'; rw [hb, ← Option.some.inj e']; exact hd
    · rw [upd_ne hb] at e'
      exact del_sub _ _ (k.nc b v ⟨w, by rw [upd_ne hb]; exact e, n⟩ e')
  · by_cases hb : b = d
    · rw [hb, upd_same] at e; rw [← Option.some.inj e]; exact pu.nt
    · rw [upd_ne hb] at e; exact k.nt b v e
theorem pe_lockLc {X : Cx} {elt tg iter : Expr} {ifs : List Expr} {scope : Scope} {own : List (Str × Nat)} {pos : Pos} {wi : TI} {g : TG} {tt : TT} {te : TE} (hc : X.calm = true) (hN : X.N.Nodup) (hi : PI X tg iter wi) (ok : BlkOk X.N X.env.scope scope own)
    (hg : ∀ (s : Shared) (H : Hp) (C : Addr) (cl : List (Str × Addr)) (fp : List Addr), PG (X.blk s H scope (compEnvC scope cl C X.env) fp) tg g) (ht : ∀ (s : Shared) (H : Hp) (C : Addr) (cl : List (Str × Addr)) (fp : List Addr), PTs (X.blk s H scope (compEnvC scope cl C X.env) fp) ifs tt)
    (he : ∀ (s : Shared) (H : Hp) (C : Addr) (cl : List (Str × Addr)) (fp : List Addr), PE (X.blk s H scope (compEnvC scope cl C X.env) fp) elt te) (hs : ∀ x, foldedSetIterable iter X.env x = pure x := by intro _; rfl) :
    PE X (.ListComp elt [⟨tg, iter, ifs, 0⟩] scope pos) (tLockE (tLc wi g tt te (own.map (·.2)))) := pe_lock (pe_lc hc hN hi ok hg ht he hs)
theorem AtAll.mirs {G : Hp} : ∀ {bs : List (Addr × Mir)}, (∀ b, b ∈ bs → G b.1 = some (mT b.2)) → AtAll G (rfs bs) ((bs.map (·.2)).map mD)
  | [], _ => .nil
  | b :: bs, h => .cons (At.ofMir (h b (List.mem_cons_self ..))) (AtAll.mirs fun c hc => h c (List.mem_cons_of_mem _ hc))
section
variable {P : Program} {w : World} {K : PySem.W.Frag} {mg : Str → Option Value} {base : Heap} {C L : Addr} {tb : Addr × Str}
-- 0 self*, 1 x, 2 y
abbrev N_Board_mirrors : List Str := ["self", "x", "y"]
theorem sc_Board_mirrors : FnScope N_Board_mirrors ["self"] (defScope s_Board_mirrors) := C8.fnScope_by (by decide +kernel)
def spMirs (tb : Addr × Str) (C : Addr) : Sp := fun vs H Q _ => ∃ (G : Hp) (p : Addr) (B : Bd) (n : Nat), vs = [.ref p] ∧ Vw tb G H ∧ BoardAt C G p B n ∧ n ≤ 1000 ∧ Ret tb no G H (fun G' u => ∃ ms, At G' u (.list (ms.map mD)) ∧ Mirs B n ms) Q
theorem ok_mirrors (D0 : PrpAt K C "mirrors" "Board.mirrors" s_Board_mirrors) (T : Txt K mg C L) : Prp P w K mg base 1 C "mirrors" (spMirs tb C) := by
  refine D0.prp T.cB (N := N_Board_mirrors) (ps := ["self"]) (fun _ _ _ _ _ _ us hl => match us, hl with | [_], _ => rfl) sc_Board_mirrors (fun vs H Q E h => ?_) (fun f cdv A outer st H vs Q E hr h => ?_)
  · obtain ⟨G, p, B, n, rfl, _⟩ := h
    rfl
  · obtain ⟨G, p, B, n, rfl, g, hB, hn, k⟩ := h
    have hu := hu_of hr
    obtain ⟨dx, d, ms, h1, h2, hM, _⟩ := hB.parts
    have hpd : p ≠ d := ne_of h1 h2 (fun z => by cases z)
    refine ⟨_, pss_one (ps_ret (pe_callB (cr_sortedM hr.units) (by rfl) T.sorted boot_sorted (pa_cons (pe_lockLc (own := [("x", 1), ("y", 2)]) (g := gTup K 2 (gCons (gName 1) (gCons (gName 2) gNil))) (tt := tYes) (te := tTup (tCons (tVar 1) (tCons (tVar 2) (tCons (tDGet (tFld K (tVar 0) "kinds") (tTup (tCons (tVar 1) (tCons (tVar 2) tNil)))) tNil)))) rfl sc_Board_mirrors.nd (pi_keys (pe_fld (pv 0) rfl)) (blkOk_by (own := [("x", 1), ("y", 2)]) (N := N_Board_mirrors) (sc := defScope s_Board_mirrors) (by decide +kernel))
      (fun _ _ _ _ _ => (pg_tup rfl (pgs_cons (pg_name (i := 1) sc_Board_mirrors.nd rfl (Or.inl rfl)) (pgs_cons (pg_name (i := 2) sc_Board_mirrors.nd rfl (Or.inl rfl)) pgs_nil)))) (fun _ _ _ _ _ => pts_nil)
      (fun _ _ _ _ _ => (pe_tup (pa_cons (pv 1) (pa_cons (pv 2) (pa_cons (pe_dget hu (pe_fld (pv 0) rfl) (pe_tup (pa_cons (pv 1) (pa_cons (pv 2) pa_nil))) (fun _ _ => rfl)) pa_nil)))))) pa_nil))), ?_⟩
    refine ⟨d, _, g.gh _ _ h2, trivial, fun od => ?_⟩
    have gl := Go.lock (o := od) g h2 trivial
    have hp1 : upd H d (.frz od (.dT (ms.map eM))) p = some (.ins C dx (bF (.int B.w) (.int B.h) d)) := by rw [upd_ne hpd]; exact g.gh _ _ h1
    refine ⟨_, rfl, p, C, dx, _, _, rfl, hp1, T.cB, T.nK, bF_kinds _ _ _, d, od, rfl, .inr ⟨_, upd_same, fun D hD => ?_⟩⟩
    have g1 := (Go.refl (M := no) gl).new (o := .lst []) hD
    have nD := (Go.refl (M := no) gl).fresh hD
    have gD0 : del G d D = none := gl.gh.free hD
    have dD : d ≠ D := ne_of_none upd_same hD
    refine lc_it walk_keysT (fun i H' => ∃ (G' : Hp) (bs : List (Addr × Mir)), Go tb no (del G d) (upd H d (.frz od (.dT (ms.map eM)))) G' H' ∧ G' D = none ∧ H' d = some (.frz od (.dT (ms.map eM))) ∧ H' D = some (.lst (rfs bs)) ∧ bs.map (·.2) = ms.take i ∧ ∀ b, b ∈ bs → G' b.1 = some (mT b.2))
      ⟨del G d, [], g1, gD0, by rw [upd_ne dD]; exact upd_same, upd_same, rfl, fun b hb => absurd hb (by simp)⟩ (fun i H' _ ⟨_, _, _, _, z, _⟩ => z) ?_ ?_
    · rintro i x H1 H1' hi ⟨G1, bs, gg, gD, hd1, hD1, ebs, hbs⟩ ⟨rfl, ky, v, q, hkv, rfl, hq⟩
      rw [List.length_map] at hi
      rw [List.getElem?_map, List.getElem?_eq_getElem hi] at hkv
      generalize hm : ms[i] = m at hkv
      have hmi : ms[i]? = some m := by rw [List.getElem?_eq_getElem hi, hm]
      obtain ⟨rfl, rfl⟩ : ky = [Sum.inl m.1, Sum.inl m.2.1] ∧ v = .str (kS m.2.2) := by
        have z := Option.some.inj hkv
        exact ⟨(congrArg Prod.fst z).symm, (congrArg Prod.snd z).symm⟩
      have hp2 : H1' p = some (.ins C dx (bF (.int B.w) (.int B.h) d)) := gg.kp _ _ hp1 (fun _ z => by cases z) id
      refine ⟨q, _, rfl, SqT.of hq, rfl, _, _, rfl, _, _, rfl, rfl, rfl, ?_⟩
      refine ⟨_, rfl, _, rfl, _, rfl, p, C, dx, _, _, rfl, hp2, T.cB, T.nK, bF_kinds _ _ _, _, rfl, _, rfl, len2, fun t ht => ?_⟩
      have hd2 : upd H1' t (.tup [.int m.1, .int m.2.1]) d = some (.frz od (.dT (ms.map eM))) := by rw [upd_ne (ne_of_none hd1 ht)]; exact hd1
      have hD2 : upd H1' t (.tup [.int m.1, .int m.2.1]) D = some (.lst (rfs bs)) := by rw [upd_ne (ne_of_none hD1 ht)]; exact hD1
      have g2 := gg.new (o := .tup [.int m.1, .int m.2.1]) ht
      have ev : valV (ms.map eM) ([Sum.inl m.1, Sum.inl m.2.1] : List Key) = some (.str (kS m.2.2)) := by
        rw [val_eM, (lk_mem hM.nd).mpr (List.mem_of_getElem? hmi)]; rfl
      refine ⟨d, _, rfl, .inr ⟨ms.map eM, [Sum.inl m.1, Sum.inl m.2.1], t, .inr ⟨od, hd2⟩, rfl, upd_same, ev.symm⟩, len3, fun r hr' => ?_⟩
      obtain ⟨g3, s3, e3⟩ := g2.tup hr' [.int m.1, .int m.2.1, .str (kS m.2.2)]
      have hbl : bs.length ≤ 1000 := by
        have q2 := congrArg List.length ebs
        rw [List.length_map, List.length_take] at q2
        have := hM.len
        omega
      refine ⟨rfs bs, by rw [upd_ne (ne_of_none hD2 hr')]; exact hD2, le_line (by unfold rfs; rw [List.length_map]; omega), ?_⟩
      have gD3 : upd G1 r (.tup [.int m.1, .int m.2.1, .str (kS m.2.2)]) D = none := by rw [upd_ne (ne_of_none hD2 hr')]; exact gD
      refine ⟨_, bs ++ [(r, m)], g3.put (o := .lst (rfs bs)) (by rw [upd_ne (ne_of_none hD2 hr')]; exact hD2) trivial (.inl nD) gD3 trivial, gD3, ?_, ?_, ?_, fun b hb => ?_⟩
      · rw [upd_ne dD, upd_ne (ne_of_none hd2 hr')]; exact hd2
      · rw [upd_same]; unfold rfs; rw [List.map_append]; rfl
      · rw [List.map_append, ebs, List.take_add_one, hmi]; rfl
      · rcases List.mem_append.mp hb with z | z
        · exact s3 _ _ (hbs b z)
        · rw [List.mem_singleton.mp z]; exact e3
    · rintro H1 ⟨G1, bs, gg, gD, hd1, hD1, ebs, hbs⟩
      rw [List.length_map, List.take_length] at ebs
      refine ⟨hd1, ?_⟩
      have gu := Go.unlock g h2 trivial gg hd1
      have nd1 : ∀ b o, G1 b = some o → b ≠ d := fun b o e z => by
        have e1 := gg.nc d o ⟨_, upd_same, fun _ z => by cases z⟩ (by rw [← z]; exact e)
        rw [del_same] at e1; cases e1
      refine ⟨D, bs, rfl, SqL.of (by rw [upd_ne dD.symm]; exact hD1), fun b hb => ?_, fun bs' r pm hr' => ?_⟩
      · rw [upd_ne (nd1 _ _ (hbs b hb))]; exact gg.gh _ _ (hbs b hb)
      · obtain ⟨g3, s3, e3⟩ := gu.lst hr' (rfs bs')
        refine k _ _ _ g3 ⟨bs'.map (·.2), .lst e3 (AtAll.mono s3 _ (AtAll.mirs fun b hb => ?_)), hM.perm ?_⟩
        · have hb' := pm.mem_iff.mp hb
          rw [upd_ne (nd1 _ _ (hbs b hb'))]; exact hbs b hb'
        · rw [← ebs]; exact pm.map _
end
end Sand

set_option Elab.async false
set_option linter.all false
set_option maxRecDepth 100000
set_option maxHeartbeats 4000000
namespace Sand
open PySem PySem.Spec PyProof.Rows L2
def wayS : Way → Str
  | .same => "same"
  | .quarter => "quarter"
  | .half => "half"
  | .back => "back"
  | .flip => "flip"
  | .mirror => "mirror"
  | .cross => "cross"
  | .anti => "anti"
theorem way_in (y : Way) : inV (.str (wayS y)) [.str "same", .str "quarter", .str "half", .str "back", .str "flip", .str "mirror", .str "cross", .str "anti"] = true := by cases y <;> decide +kernel
theorem way_ex (y : Way) : inV (.str (wayS y)) [.str "quarter", .str "back", .str "cross", .str "anti"] = y.ex := by cases y <;> decide +kernel
theorem lk_app (ms : List Mir) (m : Mir) (x y : Int) : lk (ms ++ [m]) x y = match lk ms x y with
    | some b => some b
    | none => if m.1 = x ∧ m.2.1 = y then some m.2.2 else none := by
  unfold lk
  rw [List.find?_append]
  cases e : ms.find? fun m => decide (m.1 = x ∧ m.2.1 = y) with
  | some a => rfl
  | none =>
    show (([m].find? fun m => decide (m.1 = x ∧ m.2.1 = y)).map fun x => x.2.2) = _
    by_cases q : m.1 = x ∧ m.2.1 = y
    · rw [List.find?_cons_of_pos (by simpa using q)]
      simp [q]
    · rw [List.find?_cons_of_neg (by simpa using q)]
      simp [q]
theorem add_bOf {B : Bd} {ms : List Mir} {m : Mir} (hk : ∀ x y, B.k x y = lk ms x y) (hn : B.k m.1 m.2.1 = none) : bOf B.w B.h (ms ++ [m]) = add B m := by
  unfold bOf add
  congr 1
  funext x y
  rw [lk_app, ← hk x y]
  by_cases q : m.1 = x ∧ m.2.1 = y
  · have e : B.k x y = none := by rw [← q.1, ← q.2]; exact hn
    rw [e]
    simp [q]
  · have q' : ¬ (x = m.1 ∧ y = m.2.1) := fun z => q ⟨z.1.symm, z.2.symm⟩
    rw [if_neg q']
    cases B.k x y with
    | some b => rfl
    | none => exact if_neg q
theorem not_plc {B : Bd} {n : Nat} {ms : List Mir} {x y : Int} (h : Mirs B n ms) (hn : B.k x y = none) : (x, y) ∉ Plcs ms := fun z => by
  obtain ⟨m, hm, e⟩ := List.mem_map.mp z
  rw [h.k] at hn
  have : lk ms m.1 m.2.1 = some m.2.2 := (lk_mem h.nd).mpr hm
  rw [show x = m.1 from (congrArg Prod.fst e).symm, show y = m.2.1 from (congrArg Prod.snd e).symm, this] at hn
  cases hn
theorem plcs_snoc {ms : List Mir} {m : Mir} (h : (Plcs ms).Nodup) (hn : (m.1, m.2.1) ∉ Plcs ms) : (Plcs (ms ++ [m])).Nodup := by
  unfold Plcs at h hn ⊢
  rw [List.map_append]
  refine List.nodup_append.mpr ⟨h, by simp, fun a ha b hb => ?_⟩
  rw [List.mem_singleton.mp hb]
  exact fun e => hn (by have e2 : a = (m.1, m.2.1) := e; rw [← e2]; exact ha)
theorem nodup_map {α β : Type} {f : α → β} (hf : ∀ a b, f a = f b → a = b) : ∀ {l : List α}, l.Nodup → (l.map f).Nodup
  | [], _ => List.nodup_nil
  | a :: l, h => by
    obtain ⟨h1, h2⟩ := List.nodup_cons.mp h
    refine List.nodup_cons.mpr ⟨fun z => ?_, nodup_map hf h2⟩
    obtain ⟨b, hb, e⟩ := List.mem_map.mp z
    exact h1 (hf _ _ e ▸ hb)
theorem plcs_turn (y : Way) (B : Bd) (ms : List Mir) : Plcs (ms.map (tMir y B)) = (Plcs ms).map (pPl y B) := by
  unfold Plcs
  rw [List.map_map, List.map_map]
  rfl
theorem lk_turn (y : Way) (B : Bd) (p : Pt) : ∀ ms : List Mir, lk (ms.map (tMir y B)) (pPl y B p).1 (pPl y B p).2 = (lk ms p.1 p.2).map (sw y)
  | [] => rfl
  | m :: ms => by
    have ih := lk_turn y B p ms
    rw [List.map_cons]
    by_cases q : m.1 = p.1 ∧ m.2.1 = p.2
    · have e : (m.1, m.2.1) = p := Prod.ext q.1 q.2
      have e1 : (tMir y B m).1 = (pPl y B p).1 ∧ (tMir y B m).2.1 = (pPl y B p).2 := by unfold tMir; rw [e]; exact ⟨rfl, rfl⟩
      unfold lk
      rw [List.find?_cons_of_pos (by simpa using e1), List.find?_cons_of_pos (by simpa using q)]
      rfl
    · have e1 : ¬ ((tMir y B m).1 = (pPl y B p).1 ∧ (tMir y B m).2.1 = (pPl y B p).2) := fun z => by
        have e2 : pPl y B (m.1, m.2.1) = pPl y B p := Prod.ext z.1 z.2
        have e3 := plc_inj e2
        exact q ⟨congrArg Prod.fst e3, congrArg Prod.snd e3⟩
      unfold lk at ih ⊢
      rw [List.find?_cons_of_neg (by simpa using e1), List.find?_cons_of_neg (by simpa using q)]
      exact ih
def tW (y : Way) (B : Bd) : Int := if y.ex then B.h else B.w
def tH (y : Way) (B : Bd) : Int := if y.ex then B.w else B.h
theorem ins_turn {y : Way} {B : Bd} {m : Mir} (h : Ins B m.1 m.2.1) : InsI (tW y B) (tH y B) (tMir y B m).1 (tMir y B m).2.1 := by
  obtain ⟨a, b, c⟩ := m
  unfold Ins at h
  unfold InsI
  simp only at h
  cases y <;> simp only [tMir, plc, tW, tH, Way.ex, if_true, Bool.false_eq_true, if_false] <;> omega
theorem turned_bOf {y : Way} {B : Bd} {ms : List Mir} (hk : ∀ x y, B.k x y = lk ms x y) : Turned y B (bOf (tW y B) (tH y B) (ms.map (tMir y B))) :=
  ⟨rfl, rfl, fun p => by
    show lk (ms.map (tMir y B)) (pPl y B p).1 (pPl y B p).2 = (B.k p.1 p.2).map (sw y)
    rw [lk_turn, hk]⟩
section
variable {P : Program} {w : World} {K : PySem.W.Frag} {mg : Str → Option Value} {base : Heap} {C L : Addr} {tb : Addr × Str}
-- 0 self, 1 x, 2 y, 3 kind
abbrev N_Board_with_mirror : List Str := ["self", "x", "y", "kind"]
theorem sc_Board_with_mirror : FnScope N_Board_with_mirror ["self", "x", "y", "kind"] (defScope s_Board_with_mirror) := C8.fnScope_by (by decide +kernel)
def spWith (tb : Addr × Str) (C : Addr) : Sp := fun vs H Q _ => ∃ (G : Hp) (p : Addr) (B : Bd) (n : Nat) (m : Mir), vs = [.ref p, .int m.1, .int m.2.1, .str (kS m.2.2)] ∧ Vw tb G H ∧ BoardAt C G p B n ∧ Ins B m.1 m.2.1 ∧ B.k m.1 m.2.1 = none ∧ n ≤ 900 ∧
  Ret tb no G H (fun G' u => ∃ q, u = .ref q ∧ BoardAt C G' q (add B m) (n + 1)) Q
theorem ok_with_mirror (D0 : MetAt K C "with_mirror" "Board.with_mirror" s_Board_with_mirror) (T : Txt K mg C L) (c_check_mirror : C8.Cal P w K mg base 2 "check_mirror" (spChk tb) []) (c_mirrors : Prp P w K mg base 1 C "mirrors" (spMirs tb C)) (c_Board : C8.Mak P w K mg base 4 "Board" C (spInitB tb C) []) :
    C8.Met P w K mg base 6 C "with_mirror" (spWith tb C) [] := by
  refine D0.met T.cB (N := N_Board_with_mirror) (ps := ["self", "x", "y", "kind"]) (fun _ _ _ _ _ _ us hl => match us, hl with | [_, _, _, _], _ => rfl) sc_Board_with_mirror (fun vs H Q E h => ?_) (fun f cdv A outer st H vs Q E hr h => ?_)
  · obtain ⟨G, p, B, n, m, rfl, _⟩ := h
    rfl
  · obtain ⟨G, p, B, n, ⟨x, y, kd⟩, rfl, g, hB, hi, hkn, hn, k⟩ := h
    obtain ⟨dx, d, ms, h1, h2, hM, w1, h1', w9, h9⟩ := hB.parts
    refine ⟨_, (pss_cons (ps_expr (C8.pe_c c_check_mirror hr (by decide) rfl (pa_cons (pe_fld (pv 0) rfl) (pa_cons (pe_fld (pv 0) rfl) (pa_cons (pe_fld (pv 0) rfl) (pa_cons (pe_tup (pa_cons (pv 1) (pa_cons (pv 2) (pa_cons (pv 3) pa_nil)))) pa_nil))))))
  (pss_one (ps_ret (C8.pe_mk c_Board hr (by decide) rfl (pa_cons (pe_fld (pv 0) rfl) (pa_cons (pe_fld (pv 0) rfl) (pa_cons (pe_op op_cat (pe_pr c_mirrors hr (by decide) (pv 0) rfl) (pe_lst (pa_cons (pe_tup (pa_cons (pv 1) (pa_cons (pv 2) (pa_cons (pv 3) pa_nil)))) pa_nil))) pa_nil))))))), ?_⟩
    have fW : ∀ {H' : Hp}, Go tb no G H G H' → H' p = some (.ins C dx (bF (.int B.w) (.int B.h) d)) := fun z => z.gh _ _ h1
    -- check_mirror(self.wide, self.high, self.kinds, (x, y, kind))
    refine ⟨_, rfl, p, C, dx, _, _, rfl, g.gh _ _ h1, T.cB, T.nW, bF_wide _ _ _, _, rfl, p, C, dx, _, _, rfl, g.gh _ _ h1, T.cB, T.nH, bF_high _ _ _, _, rfl, p, C, dx, _, _, rfl, g.gh _ _ h1, T.cB, T.nK, bF_kinds _ _ _, _, rfl, _, rfl, _, rfl, len3, fun t ht => ?_⟩
    obtain ⟨g1, s1, e1⟩ := (Go.refl (M := no) g).tup ht [.int x, .int y, .str (kS kd)]
    refine ⟨_, d, _, B.w, B.h, (x, y, kd), ms, rfl, g1.vw, At.ofMir e1, g1.gh _ _ (s1 _ _ h2), hi, not_plc hM hkn, fun H2 g2 => ?_⟩
    have g3 := g1.trans g2
    have hp3 := g3.gh _ _ (s1 _ _ h1)
    -- Board(self.wide, self.high, self.mirrors + [(x, y, kind)])
    refine ⟨_, rfl, p, C, dx, _, _, rfl, hp3, T.cB, T.nW, bF_wide _ _ _, _, rfl, p, C, dx, _, _, rfl, hp3, T.cB, T.nH, bF_high _ _ _, _, rfl, p, dx, _, rfl, hp3, _, p, B, n, rfl, g3.vw, hB.mono s1, by omega, fun G4 H4 u g4 ⟨ms', hu, hM'⟩ => ?_⟩
    obtain ⟨l, xs, rfl, hl, hxs⟩ := At.lst_ hu
    have g5 := g3.trans g4
    refine ⟨_, rfl, _, rfl, _, rfl, len3, fun r hr' => ⟨len1, fun q hq => ?_⟩⟩
    obtain ⟨g6, s6, e6⟩ := g5.tup hr' [.int x, .int y, .str (kS kd)]
    obtain ⟨g7, s7, e7⟩ := g6.lst hq [.ref r]
    have hxl : xs.length ≤ 1000 := by rw [hxs.mapLen, hM'.len]; omega
    refine ⟨l, q, xs, _, rfl, rfl, g7.gh _ _ (s7 _ _ (s6 _ _ hl)), upd_same, Nat.le_of_lt (le_line (by rw [List.length_singleton]; omega)), fun z hz => ?_⟩
    obtain ⟨g8, s8, e8⟩ := g7.lst hz (xs ++ [.ref r])
    have hxs8 := AtAll.mono s8 _ (AtAll.mono s7 _ (AtAll.mono s6 _ hxs))
    have har : At (upd (upd (upd G4 r (.tup [.int x, .int y, .str (kS kd)])) q (.lst [.ref r])) z (.lst (xs ++ [.ref r]))) (.ref r) (mD (x, y, kd)) := At.mono s8 _ (At.mono s7 _ (At.ofMir e6))
    have hall : At (upd (upd (upd G4 r (.tup [.int x, .int y, .str (kS kd)])) q (.lst [.ref r])) z (.lst (xs ++ [.ref r]))) (.ref z) (.list ((ms' ++ [(x, y, kd)]).map mD)) := by
      rw [List.map_append]
      exact .lst e8 (hxs8.snoc har)
    refine fun i di hi' hdi ne => mk_board (M := no) g8 hi' hdi ne hall (plcs_snoc hM'.nd (not_plc hM' hkn)) (fun mm hm => ?_) (by rw [List.length_append, hM'.len, List.length_singleton]; omega) w1 h1' w9 h9 fun G9 H9 g9 _ hb => ?_
    · rcases List.mem_append.mp hm with q | q
      · exact hM'.ins mm q
      · rw [List.mem_singleton.mp q]; exact hi
    · rw [List.length_append, hM'.len, List.length_singleton, add_bOf hM'.k hkn] at hb
      exact k _ _ _ g9 ⟨i, rfl, hb⟩
-- 0 kind
abbrev N_other_kind : List Str := ["kind"]
theorem sc_other_kind : FnScope N_other_kind ["kind"] (defScope s_other_kind) := C8.fnScope_by (by decide +kernel)
def spOk : Sp := fun vs H Q _ => ∃ b : Bool, vs = [.str (kS b)] ∧ Q (.str (kS (!b))) H
theorem ok_other_kind (D0 : DefAt K mg "other_kind" s_other_kind) : C8.Cal P w K mg base 1 "other_kind" spOk [] := by
  refine D0.cal (N := N_other_kind) (ps := ["kind"]) (fun _ _ _ _ _ _ us hl => match us, hl with | [_], _ => rfl) sc_other_kind (fun vs H Q E h => ?_) (fun f cdv A outer st H vs Q E hr h => ?_)
  · obtain ⟨b, rfl, _⟩ := h
    rfl
  · obtain ⟨b, rfl, k⟩ := h
    refine ⟨_, (pss_cons (ps_if (pt_cmpR op_eq (pv 0) pe_str (nomark _)) (pss_one (ps_ret pe_str)) pss_nil)
  (pss_one (ps_ret pe_str))), ?_⟩
    cases b with
    | true => exact ⟨_, rfl, rfl, true, blT (by decide +kernel), iteT k⟩
    | false => exact ⟨_, rfl, rfl, false, blF (by decide +kernel), iteF k⟩
-- 0 way, 1 width, 2 height, 3 place, 4 x, 5 y
abbrev N_moved_place : List Str := ["way", "width", "height", "place", "x", "y"]
theorem sc_moved_place : FnScope N_moved_place ["way", "width", "height", "place"] (defScope s_moved_place) := C8.fnScope_by (by decide +kernel)
def spMov (tb : Addr × Str) : Sp := fun vs H Q _ => ∃ (G : Hp) (y : Way) (a b : Int) (v : V) (p : Pt), vs = [.str (wayS y), .int a, .int b, v] ∧ Vw tb G H ∧ At G v (pD p) ∧ Ret tb no G H (fun G' u => At G' u (pD (plc y (2 * a) (2 * b) p))) Q
theorem ok_moved_place (D0 : DefAt K mg "moved_place" s_moved_place) : C8.Cal P w K mg base 1 "moved_place" (spMov tb) [] := by
  refine D0.cal (N := N_moved_place) (ps := ["way", "width", "height", "place"]) (fun _ _ _ _ _ _ us hl => match us, hl with | [_, _, _, _], _ => rfl) sc_moved_place (fun vs H Q E h => ?_) (fun f cdv A outer st H vs Q E hr h => ?_)
  · obtain ⟨G, y, a, b, v, p, rfl, _⟩ := h
    rfl
  · obtain ⟨G, y, a, b, v, ⟨i, j⟩, rfl, g, hv, k⟩ := h
    obtain ⟨t, rfl, ht⟩ := hv.pt
    refine ⟨_, (pss_cons (ps_asg (pv 3) (pg_tup rfl (pgs_cons (pg_name (i := 4) sc_moved_place.nd rfl (Or.inl rfl)) (pgs_cons (pg_name (i := 5) sc_moved_place.nd rfl (Or.inl rfl)) pgs_nil))))
  (pss_cons (ps_if (pt_cmpR op_eq (pv 0) pe_str (nomark _)) (pss_one (ps_ret (pe_tup (pa_cons (pe_op op_sub (pe_op op_mul pe_int (pv 2)) (pv 5)) (pa_cons (pv 4) pa_nil))))) pss_nil)
  (pss_cons (ps_if (pt_cmpR op_eq (pv 0) pe_str (nomark _)) (pss_one (ps_ret (pe_tup (pa_cons (pe_op op_sub (pe_op op_mul pe_int (pv 1)) (pv 4)) (pa_cons (pe_op op_sub (pe_op op_mul pe_int (pv 2)) (pv 5)) pa_nil))))) pss_nil)
  (pss_cons (ps_if (pt_cmpR op_eq (pv 0) pe_str (nomark _)) (pss_one (ps_ret (pe_tup (pa_cons (pv 5) (pa_cons (pe_op op_sub (pe_op op_mul pe_int (pv 1)) (pv 4)) pa_nil))))) pss_nil)
  (pss_cons (ps_if (pt_cmpR op_eq (pv 0) pe_str (nomark _)) (pss_one (ps_ret (pe_tup (pa_cons (pv 4) (pa_cons (pe_op op_sub (pe_op op_mul pe_int (pv 2)) (pv 5)) pa_nil))))) pss_nil)
  (pss_cons (ps_if (pt_cmpR op_eq (pv 0) pe_str (nomark _)) (pss_one (ps_ret (pe_tup (pa_cons (pe_op op_sub (pe_op op_mul pe_int (pv 1)) (pv 4)) (pa_cons (pv 5) pa_nil))))) pss_nil)
  (pss_cons (ps_if (pt_cmpR op_eq (pv 0) pe_str (nomark _)) (pss_one (ps_ret (pe_tup (pa_cons (pv 5) (pa_cons (pv 4) pa_nil))))) pss_nil)
  (pss_cons (ps_if (pt_cmpR op_eq (pv 0) pe_str (nomark _)) (pss_one (ps_ret (pe_tup (pa_cons (pe_op op_sub (pe_op op_mul pe_int (pv 2)) (pv 5)) (pa_cons (pe_op op_sub (pe_op op_mul pe_int (pv 1)) (pv 4)) pa_nil))))) pss_nil)
  (pss_one (ps_ret (pe_tup (pa_cons (pv 4) (pa_cons (pv 5) pa_nil))))))))))))), ?_⟩
    refine ⟨_, rfl, t, _, rfl, SqT.of (g.gh _ _ ht), rfl, _, _, rfl, _, _, rfl, rfl, ?_⟩
    have fin : ∀ z : Pt, plc y (2 * a) (2 * b) (i, j) = z → ∀ q, H q = none → Q (.ref q) (upd H q (.tup [.int z.1, .int z.2])) := fun z e q hq => by
      obtain ⟨g1, s1, e1⟩ := (Go.refl (M := no) g).tup hq [.int z.1, .int z.2]
      exact k _ _ _ g1 (by rw [e]; exact At.ofPt e1)
    cases y
    · exact ⟨_, rfl, rfl, false, blF (by decide +kernel), iteF ⟨_, rfl, rfl, false, blF (by decide +kernel), iteF ⟨_, rfl, rfl, false, blF (by decide +kernel), iteF ⟨_, rfl, rfl, false, blF (by decide +kernel), iteF ⟨_, rfl, rfl, false, blF (by decide +kernel), iteF ⟨_, rfl, rfl, false, blF (by decide +kernel), iteF ⟨_, rfl, rfl, false, blF (by decide +kernel), iteF ⟨_, rfl, _, rfl, len2, fin _ rfl⟩⟩⟩⟩⟩⟩⟩⟩
    · exact ⟨_, rfl, rfl, true, blT (by decide +kernel), iteT ⟨_, rfl, _, _, rfl, rfl, c2 _, _, rfl, _, _, rfl, rfl, _, rfl, len2, fin _ rfl⟩⟩
    · exact ⟨_, rfl, rfl, false, blF (by decide +kernel), iteF ⟨_, rfl, rfl, true, blT (by decide +kernel), iteT ⟨_, rfl, _, _, rfl, rfl, c2 _, _, rfl, _, _, rfl, rfl, _, rfl, _, _, rfl, rfl, c2 _, _, rfl, _, _, rfl, rfl, len2, fin _ rfl⟩⟩⟩
    · exact ⟨_, rfl, rfl, false, blF (by decide +kernel), iteF ⟨_, rfl, rfl, false, blF (by decide +kernel), iteF ⟨_, rfl, rfl, true, blT (by decide +kernel), iteT ⟨_, rfl, _, rfl, _, _, rfl, rfl, c2 _, _, rfl, _, _, rfl, rfl, len2, fin _ rfl⟩⟩⟩⟩
    · exact ⟨_, rfl, rfl, false, blF (by decide +kernel), iteF ⟨_, rfl, rfl, false, blF (by decide +kernel), iteF ⟨_, rfl, rfl, false, blF (by decide +kernel), iteF ⟨_, rfl, rfl, true, blT (by decide +kernel), iteT ⟨_, rfl, _, rfl, _, _, rfl, rfl, c2 _, _, rfl, _, _, rfl, rfl, len2, fin _ rfl⟩⟩⟩⟩⟩
    · exact ⟨_, rfl, rfl, false, blF (by decide +kernel), iteF ⟨_, rfl, rfl, false, blF (by decide +kernel), iteF ⟨_, rfl, rfl, false, blF (by decide +kernel), iteF ⟨_, rfl, rfl, false, blF (by decide +kernel), iteF ⟨_, rfl, rfl, true, blT (by decide +kernel), iteT ⟨_, rfl, _, _, rfl, rfl, c2 _, _, rfl, _, _, rfl, rfl, _, rfl, len2, fin _ rfl⟩⟩⟩⟩⟩⟩
    · exact ⟨_, rfl, rfl, false, blF (by decide +kernel), iteF ⟨_, rfl, rfl, false, blF (by decide +kernel), iteF ⟨_, rfl, rfl, false, blF (by decide +kernel), iteF ⟨_, rfl, rfl, false, blF (by decide +kernel), iteF ⟨_, rfl, rfl, false, blF (by decide +kernel), iteF ⟨_, rfl, rfl, true, blT (by decide +kernel), iteT ⟨_, rfl, _, rfl, len2, fin _ rfl⟩⟩⟩⟩⟩⟩⟩
    · exact ⟨_, rfl, rfl, false, blF (by decide +kernel), iteF ⟨_, rfl, rfl, false, blF (by decide +kernel), iteF ⟨_, rfl, rfl, false, blF (by decide +kernel), iteF ⟨_, rfl, rfl, false, blF (by decide +kernel), iteF ⟨_, rfl, rfl, false, blF (by decide +kernel), iteF ⟨_, rfl, rfl, false, blF (by decide +kernel), iteF ⟨_, rfl, rfl, true, blT (by decide +kernel), iteT ⟨_, rfl, _, _, rfl, rfl, c2 _, _, rfl, _, _, rfl, rfl, _, rfl, _, _, rfl, rfl, c2 _, _, rfl, _, _, rfl, rfl, len2, fin _ rfl⟩⟩⟩⟩⟩⟩⟩⟩
end
end Sand

set_option Elab.async false
set_option linter.all false
set_option maxRecDepth 100000
set_option maxHeartbeats 4000000
namespace Sand
open PySem PySem.Spec PyProof.Rows L2
theorem kS_sw {y : Way} {b : Bool} : kS (sw y b) = if y.ex then kS (!b) else kS b := by unfold sw; cases y.ex <;> rfl
section
variable {P : Program} {w : World} {K : PySem.W.Frag} {mg : Str → Option Value} {base : Heap} {C L : Addr} {tb : Addr × Str}
-- 0 self, 1 way, 2 sizes, 3 mirrors, 4 x, 5 y, 6 kind, 7 place
abbrev N_Board_turned : List Str := ["self", "way", "sizes", "mirrors", "x", "y", "kind", "place"]
theorem sc_Board_turned : FnScope N_Board_turned ["self", "way"] (defScope s_Board_turned) := C8.fnScope_by (by decide +kernel)
def spTurn (tb : Addr × Str) (C : Addr) : Sp := fun vs H Q _ => ∃ (G : Hp) (p : Addr) (B : Bd) (n : Nat) (y : Way), vs = [.ref p, .str (wayS y)] ∧ Vw tb G H ∧ BoardAt C G p B n ∧ n ≤ 900 ∧
  Ret tb no G H (fun G' u => ∃ q B', u = .ref q ∧ BoardAt C G' q B' n ∧ Turned y B B') Q
theorem ok_turned (D0 : MetAt K C "turned" "Board.turned" s_Board_turned) (T : Txt K mg C L) (c_mirrors : Prp P w K mg base 1 C "mirrors" (spMirs tb C)) (c_Board : C8.Mak P w K mg base 4 "Board" C (spInitB tb C) [])
    (c_other_kind : C8.Cal P w K mg base 1 "other_kind" spOk []) (c_moved_place : C8.Cal P w K mg base 1 "moved_place" (spMov tb) []) : C8.Met P w K mg base 6 C "turned" (spTurn tb C) [] := by
  refine D0.met T.cB (N := N_Board_turned) (ps := ["self", "way"]) (fun _ _ _ _ _ _ us hl => match us, hl with | [_, _], _ => rfl) sc_Board_turned (fun vs H Q E h => ?_) (fun f cdv A outer st H vs Q E hr h => ?_)
  · obtain ⟨G, p, B, n, y, rfl, _⟩ := h
    rfl
  · obtain ⟨G, p, B, n, y, rfl, g, hB, hn, k⟩ := h
    obtain ⟨dx, d, ms0, h1, h2, hM0, w1, h1', w9, h9⟩ := hB.parts
    obtain ⟨aW, g_WAYS, sW⟩ := T.g_WAYS
    obtain ⟨aE, g_EXCHANGING, sE⟩ := T.g_EXCHANGING
    refine ⟨_, (pss_cons (ps_if (pt_cmpR op_notIn_seq (pv 1) (C8.pe_gc rfl g_WAYS) (by rfl)) (pss_one ps_never) pss_nil)
  (pss_cons (ps_set (i := 2) sc_Board_turned.nd rfl (Or.inl rfl) (pe_tup (pa_cons (pe_fld (pv 0) rfl) (pa_cons (pe_fld (pv 0) rfl) pa_nil))))
  (C8.pss_cut (ps_if (pt_cmpR op_in_seq (pv 1) (C8.pe_gc rfl g_EXCHANGING) (by rfl)) (pss_one (ps_set (i := 2) sc_Board_turned.nd rfl (Or.inl rfl) (pe_tup (pa_cons (pe_fld (pv 0) rfl) (pa_cons (pe_fld (pv 0) rfl) pa_nil))))) pss_nil)
  (pss_cons (ps_set (i := 3) sc_Board_turned.nd rfl (Or.inl rfl) (pe_lst pa_nil))
  (pss_cons (ps_for PassesOwn.never rfl (pi_list (pe_pr c_mirrors hr (by decide) (pv 0) rfl)) (pg_tup rfl (pgs_cons (pg_name (i := 4) sc_Board_turned.nd rfl (Or.inl rfl)) (pgs_cons (pg_name (i := 5) sc_Board_turned.nd rfl (Or.inl rfl)) (pgs_cons (pg_name (i := 6) sc_Board_turned.nd rfl (Or.inl rfl)) pgs_nil))))
  (C8.pss_cut (ps_if (pt_cmpR op_in_seq (pv 1) (C8.pe_gc rfl g_EXCHANGING) (by rfl)) (pss_one (ps_set (i := 6) sc_Board_turned.nd rfl (Or.inl rfl) (C8.pe_c c_other_kind hr (by decide) rfl (pa_cons (pv 6) pa_nil)))) pss_nil)
  (pss_cons (ps_set (i := 7) sc_Board_turned.nd rfl (Or.inl rfl) (C8.pe_c c_moved_place hr (by decide) rfl (pa_cons (pv 1) (pa_cons (pe_fld (pv 0) rfl) (pa_cons (pe_fld (pv 0) rfl) (pa_cons (pe_tup (pa_cons (pv 4) (pa_cons (pv 5) pa_nil))) pa_nil))))))
  (pss_one (ps_expr (pe_bm PySem.F.plainAttrs_list PySem.F.slot_list_append PySem.F.type_list_append mt_append (pv 3) (pa_cons (pe_tup (pa_cons (pe_ix ix_tup (pv 7) pe_int (fun _ _ => rfl)) (pa_cons (pe_ix ix_tup (pv 7) pe_int (fun _ _ => rfl)) (pa_cons (pv 6) pa_nil)))) pa_nil)))))))
  (pss_one (ps_ret (C8.pe_mk c_Board hr (by decide) rfl (pa_cons (pe_ix ix_tup (pv 2) pe_int (fun _ _ => rfl)) (pa_cons (pe_ix ix_tup (pv 2) pe_int (fun _ _ => rfl)) (pa_cons (pv 3) pa_nil))))))))))), ?_⟩
    refine ⟨_, rfl, aW, _, rfl, .inr (sW _), rfl, rfl, false, by rw [way_in]; rfl, iteF ?_⟩
    -- sizes
    refine ⟨_, rfl, p, C, dx, _, _, rfl, g.gh _ _ h1, T.cB, T.nW, bF_wide _ _ _, _, rfl, p, C, dx, _, _, rfl, g.gh _ _ h1, T.cB, T.nH, bF_high _ _ _, len2, fun sz hsz => ?_⟩
    obtain ⟨g1, s1, e1⟩ := (Go.refl (M := no) g).tup hsz [.int B.w, .int B.h]
    refine ⟨fun σ H1 => ∃ (G1 : Hp) (sz : Addr), σ = [some (.ref p), some (.str (wayS y)), some (.ref sz), none, none, none, none, none] ∧ Go tb no G H G1 H1 ∧ G1 sz = some (.tup [.int (tW y B), .int (tH y B)]), ?_, ?_⟩
    · refine ⟨_, rfl, aE, _, rfl, .inr (sE _), rfl, rfl, y.ex, congrArg V.bl (way_ex y), ?_⟩
      cases hy : y.ex with
      | true =>
        refine iteT ?_
        have hp1 := g1.gh _ _ (s1 _ _ h1)
        refine ⟨_, rfl, p, C, dx, _, _, rfl, hp1, T.cB, T.nH, bF_high _ _ _, _, rfl, p, C, dx, _, _, rfl, hp1, T.cB, T.nW, bF_wide _ _ _, len2, fun sz2 hsz2 => ?_⟩
        obtain ⟨g2, s2, e2⟩ := g1.tup hsz2 [.int B.h, .int B.w]
        refine ⟨_, sz2, rfl, g2, ?_⟩
        unfold tW tH
        rw [hy]; exact e2
      | false =>
        refine iteF ⟨_, sz, rfl, g1, ?_⟩
        unfold tW tH
        rw [hy]; exact e1
    rintro σ H1 ⟨G1, sz, rfl, g1, e1⟩
    -- mirrors = []
    refine ⟨len0, fun D hD => ?_⟩
    have nD := g1.fresh hD
    have gD0 : G1 D = none := g1.gh.free hD
    have g2 := g1.new (o := .lst []) hD
    -- for x, y, kind in self.mirrors
    refine ⟨_, rfl, p, dx, _, rfl, g2.gh _ _ (g2.gg _ _ h1), _, p, B, n, rfl, g2.vw, hB.mono g2.gg, by omega, fun G3 H3 u g3 ⟨ms, hu, hM⟩ => ?_⟩
    obtain ⟨l, ys, rfl, hl, hys⟩ := At.lst_ hu
    have g4 := g2.trans g3
    have hD3 : H3 D = some (.lst []) := g3.loc upd_same trivial id
    have gD3 : G3 D = none := g3.out upd_same trivial gD0
    have hyl : ys.length ≤ 900 := by rw [hys.mapLen, hM.len]; exact hn
    refine ⟨l, rfl, ⟨_, SqL.of (g3.gh _ _ hl)⟩, for_list (K := K) (a := l) (xs := ys) (fun i σ H' => ∃ (G' : Hp) (xs : List V) (o4 o5 o6 o7 : Option V), σ = [some (.ref p), some (.str (wayS y)), some (.ref sz), some (.ref D), o4, o5, o6, o7] ∧ Go tb no G H G' H' ∧ Same G3 G' ∧ G' D = none ∧ H' D = some (.lst xs) ∧ AtAll G' xs (((ms.take i).map (tMir y B)).map mD))
      ⟨G3, [], none, none, none, none, rfl, g4, fun _ _ e => e, gD3, hD3, .nil⟩ (fun i σ H' _ ⟨_, _, _, _, _, _, _, z, z2, _⟩ => SqL.of (z.gh _ _ (z2 _ _ hl))) ?_ ?_⟩
    · rintro i v σ H4 hy ⟨G4, xs, o4, o5, o6, o7, rfl, gg, sg, gD, hD4, hxs⟩
      obtain ⟨⟨mx, my, mb⟩, hmi, hay⟩ := hys.mapAt hy
      obtain ⟨t, rfl, ht⟩ := (At.mono sg _ hay).mir
      have hi : i < ys.length := (List.getElem?_eq_some_iff.mp hy).1
      have et : ms.take (i + 1) = ms.take i ++ [(mx, my, mb)] := by rw [List.take_add_one, hmi]; rfl
      refine ⟨t, _, rfl, SqT.of (gg.gh _ _ ht), rfl, _, _, rfl, _, _, rfl, _, _, rfl, rfl, ?_⟩
      refine ⟨fun σ H5 => H5 = H4 ∧ σ = [some (.ref p), some (.str (wayS y)), some (.ref sz), some (.ref D), some (.int mx), some (.int my), some (.str (kS (sw y mb))), o7], ?_, ?_⟩
      · refine ⟨_, rfl, aE, _, rfl, .inr (sE _), rfl, rfl, y.ex, congrArg V.bl (way_ex y), ?_⟩
        rw [kS_sw]
        cases hy : y.ex with
        | true => exact iteT ⟨_, rfl, mb, rfl, rfl, rfl⟩
        | false => exact iteF ⟨rfl, rfl⟩
      rintro σ H5 ⟨rfl, rfl⟩
      have hp5 := gg.gh _ _ (gg.gg _ _ h1)
      -- place = moved_place(way, self.wide, self.high, (x, y))
      refine ⟨_, rfl, _, rfl, p, C, dx, _, _, rfl, hp5, T.cB, T.nW, bF_wide _ _ _, _, rfl, p, C, dx, _, _, rfl, hp5, T.cB, T.nH, bF_high _ _ _, _, rfl, _, rfl, len2, fun q hq => ?_⟩
      obtain ⟨g6, s6, e6⟩ := gg.tup hq [.int mx, .int my]
      refine ⟨_, y, B.w, B.h, _, (mx, my), rfl, g6.vw, At.ofPt e6, fun G7 H7 u g7 hu7 => ?_⟩
      obtain ⟨r, rfl, hr7⟩ := hu7.pt
      have g8 := g6.trans g7
      have hD5 : upd H5 q (.tup [.int mx, .int my]) D = some (.lst xs) := by rw [upd_ne (ne_of_none hD4 hq)]; exact hD4
      have gD5 : upd G4 q (.tup [.int mx, .int my]) D = none := by rw [upd_ne (ne_of_none hD4 hq)]; exact gD
      have hD7 : H7 D = some (.lst xs) := g7.loc hD5 trivial id
      have gD7 : G7 D = none := g7.out hD5 trivial gD5
      have hxs7 := AtAll.mono g7.gg _ (AtAll.mono s6 _ hxs)
      -- mirrors.append((place[0], place[1], kind))
      refine ⟨_, rfl, .inl ⟨rfl, _, SqL.of hD7⟩, _, rfl, r, _, _, _, rfl, rfl, SqT.of (g7.gh _ _ hr7), rfl, _, rfl, r, _, _, _, rfl, rfl, SqT.of (g7.gh _ _ hr7), rfl, _, rfl, len3, fun t2 ht2 => ?_⟩
      obtain ⟨g9, s9, e9⟩ := g8.tup ht2 [.int (tMir y B (mx, my, mb)).1, .int (tMir y B (mx, my, mb)).2.1, .str (kS (tMir y B (mx, my, mb)).2.2)]
      have hD9 : upd H7 t2 (.tup [.int (tMir y B (mx, my, mb)).1, .int (tMir y B (mx, my, mb)).2.1, .str (kS (tMir y B (mx, my, mb)).2.2)]) D = some (.lst xs) := by rw [upd_ne (ne_of_none hD7 ht2)]; exact hD7
      have gD9 : upd G7 t2 (.tup [.int (tMir y B (mx, my, mb)).1, .int (tMir y B (mx, my, mb)).2.1, .str (kS (tMir y B (mx, my, mb)).2.2)]) D = none := by rw [upd_ne (ne_of_none hD7 ht2)]; exact gD7
      refine ⟨D, xs, _, rfl, rfl, hD9, le_line ?_, ?_⟩
      · rw [hxs.mapLen, List.length_map, List.length_take]; omega
      refine ⟨_, _, _, _, _, _, rfl, g9.put (o' := .lst (xs ++ [.ref t2])) hD9 trivial (.inl nD) gD9 trivial, fun b o e => s9 _ _ (g7.gg _ _ (s6 _ _ (sg _ _ e))), gD9, upd_same, ?_⟩
      rw [et, List.map_append, List.map_append]
      exact (AtAll.mono s9 _ hxs7).snoc (At.ofMir e9)
    · rintro σ H4 ⟨G4, xs, o4, o5, o6, o7, rfl, gg, sg, gD, hD4, hxs⟩
      rw [hys.mapLen, List.take_length] at hxs
      have g5 := gg.freeze hD4 trivial nD gD
      have e5 : upd G4 D (.lst xs) D = some (.lst xs) := upd_same
      have s5 := same_upd (o := .lst xs) gD
      have hsz : H4 sz = some (.tup [.int (tW y B), .int (tH y B)]) := gg.gh _ _ (sg _ _ (g3.gg _ _ e1))
      refine ⟨_, rfl, sz, _, _, _, rfl, rfl, SqT.of hsz, rfl, _, rfl, sz, _, _, _, rfl, rfl, SqT.of hsz, rfl, _, rfl, ?_⟩
      have hall : At (upd G4 D (.lst xs)) (.ref D) (.list ((ms.map (tMir y B)).map mD)) := .lst e5 (AtAll.mono s5 _ hxs)
      refine fun i di hi' hdi ne => mk_board (M := no) g5 hi' hdi ne hall ?_ (fun mm hm => ?_) ?_ ?_ ?_ ?_ ?_ fun G9 H9 g9 _ hb => ?_
      · rw [plcs_turn]; exact nodup_map (fun _ _ e => plc_inj e) hM.nd
      · obtain ⟨m, hm', rfl⟩ := List.mem_map.mp hm
        exact ins_turn (hM.ins m hm')
      · rw [List.length_map, hM.len]; omega
      · unfold tW; split <;> assumption
      · unfold tH; split <;> assumption
      · unfold tW; split <;> assumption
      · unfold tH; split <;> assumption
      · rw [List.length_map, hM.len] at hb
        exact k _ _ _ g9 ⟨i, _, rfl, hb, turned_bOf hM.k⟩
end
end Sand

set_option Elab.async false
set_option linter.all false
set_option maxRecDepth 100000
set_option maxHeartbeats 4000000
namespace Sand
open PySem PySem.Spec PyProof.Rows L2
/-! ### mirrors that may be added one by one -/
structure Free (B : Bd) (ms : List Mir) : Prop where
  nd : (Plcs ms).Nodup
  ins : ∀ m, m ∈ ms → Ins B m.1 m.2.1
  no : ∀ m, m ∈ ms → B.k m.1 m.2.1 = none
theorem grow_none {x y : Int} : ∀ {ms : List Mir} {B : Bd}, B.k x y = none → (x, y) ∉ Plcs ms → (grow B ms).k x y = none
  | [], _, h, _ => h
  | m :: ms, B, h, hn => by
    refine grow_none (ms := ms) (B := add B m) ?_ fun z => hn (List.mem_cons_of_mem _ z)
    show (if x = m.1 ∧ y = m.2.1 then some m.2.2 else B.k x y) = none
    rw [if_neg fun z => hn (List.mem_cons.mpr (.inl (Prod.ext z.1 z.2)))]
    exact h
theorem grow_snoc (B : Bd) (ms : List Mir) (m : Mir) : grow B (ms ++ [m]) = add (grow B ms) m := by unfold grow; rw [List.foldl_append]; rfl
theorem take_snoc {α : Type} {l : List α} {i : Nat} {a : α} (h : l[i]? = some a) : l.take (i + 1) = l.take i ++ [a] := by rw [List.take_add_one, h]; rfl
theorem Free.step {B : Bd} {ms : List Mir} {i : Nat} {m : Mir} (h : Free B ms) (e : ms[i]? = some m) : Ins (grow B (ms.take i)) m.1 m.2.1 ∧ (grow B (ms.take i)).k m.1 m.2.1 = none := by
  have hm := List.mem_of_getElem? e
  refine ⟨?_, grow_none (h.no m hm) fun z => ?_⟩
  · have q := h.ins m hm
    obtain ⟨e1, e2⟩ := grow_w B (ms.take i)
    unfold Ins at q ⊢
    rw [e1, e2]; exact q
  · have q : (Plcs (ms.take (i + 1))).Nodup := h.nd.sublist ((List.take_sublist _ _).map _)
    rw [take_snoc e] at q
    unfold Plcs at q z
    rw [List.map_append] at q
    exact (List.nodup_append.mp q).2.2 _ z _ (List.mem_singleton.mpr rfl) rfl
theorem wS_in (b : Bool) : inV (.str (wS b)) [.str "same", .str "apart"] = true := by cases b <;> decide +kernel
theorem atI_last {α : Type} (xs : List α) (v : α) : atI (xs ++ [v]) (-1) = some v := by
  have : ixN (xs ++ [v]).length (-1) = some xs.length := by
    unfold ixN
    rw [if_neg (by decide), List.length_append, List.length_singleton, if_pos (by omega)]
    congr 1
    omega
  unfold atI
  rw [this]
  simp
section
variable {P : Program} {w : World} {K : PySem.W.Frag} {mg : Str → Option Value} {base : Heap} {C L : Addr} {tb : Addr × Str}
-- 0 board, 1 square, 2 i, 3 j
abbrev N_check_square : List Str := ["board", "square", "i", "j"]
theorem sc_check_square : FnScope N_check_square ["board", "square"] (defScope s_check_square) := C8.fnScope_by (by decide +kernel)
def spSq (C : Addr) : Sp := fun vs H Q _ => ∃ (G : Hp) (p : Addr) (B : Bd) (n : Nat) (v : V) (s : Pt), vs = [.ref p, v] ∧ Same G H ∧ BoardAt C G p B n ∧ At G v (pD s) ∧ On B s ∧ Q .non H
theorem ok_check_square (D0 : DefAt K mg "check_square" s_check_square) (c_width : Prp P w K mg base 1 C "width" (spWid C)) (c_height : Prp P w K mg base 1 C "height" (spHei C)) : C8.Cal P w K mg base 3 "check_square" (spSq C) [] := by
  refine D0.cal (N := N_check_square) (ps := ["board", "square"]) (fun _ _ _ _ _ _ us hl => match us, hl with | [_, _], _ => rfl) sc_check_square (fun vs H Q E h => ?_) (fun f cdv A outer st H vs Q E hr h => ?_)
  · obtain ⟨G, p, B, n, v, s, rfl, _⟩ := h
    rfl
  · obtain ⟨G, p, B, n, v, ⟨i, j⟩, rfl, g, hB, hv, ho, k⟩ := h
    obtain ⟨dx, d, ms, h1, _⟩ := hB.parts
    obtain ⟨t, rfl, ht⟩ := hv.pt
    unfold On at ho
    simp only at ho
    refine ⟨_, (pss_cons (ps_asg (pv 1) (pg_tup rfl (pgs_cons (pg_name (i := 2) sc_check_square.nd rfl (Or.inl rfl)) (pgs_cons (pg_name (i := 3) sc_check_square.nd rfl (Or.inl rfl)) pgs_nil))))
  (pss_one (ps_if (pt_not (PW.pt (pw_and (pt_chain op_le op_lt pe_int (pv 2) (pe_op op_mul pe_int (pe_pr c_width hr (by decide) (pv 0) rfl))) (pw_and1 (pt_chain op_le op_lt pe_int (pv 3) (pe_op op_mul pe_int (pe_pr c_height hr (by decide) (pv 0) rfl))))))) (pss_one ps_never) pss_nil))), ?_⟩
    refine ⟨_, rfl, t, _, rfl, SqT.of (g _ _ ht), rfl, _, _, rfl, _, _, rfl, rfl, ?_⟩
    refine ⟨_, rfl, _, _, rfl, rfl, true, blT ho.1, iteT ⟨_, rfl, p, dx, _, rfl, g _ _ h1, G, p, B, n, rfl, g, hB, _, _, rfl, rfl, c2 _, _, _, rfl, rfl, true, blT ho.2.1, ?_⟩⟩
    refine ⟨_, rfl, _, _, rfl, rfl, true, blT ho.2.2.1, iteT ⟨_, rfl, p, dx, _, rfl, g _ _ h1, G, p, B, n, rfl, g, hB, _, _, rfl, rfl, c2 _, _, _, rfl, rfl, true, blT ho.2.2.2, k⟩⟩
-- 0 board, 1 offered, 2 grown, 3 x, 4 y, 5 kind
abbrev N_check_offered : List Str := ["board", "offered", "grown", "x", "y", "kind"]
theorem sc_check_offered : FnScope N_check_offered ["board", "offered"] (defScope s_check_offered) := C8.fnScope_by (by decide +kernel)
def spOff (tb : Addr × Str) (C : Addr) : Sp := fun vs H Q _ => ∃ (G : Hp) (p : Addr) (B : Bd) (n : Nat) (v : V) (ms : List Mir), vs = [.ref p, v] ∧ Vw tb G H ∧ BoardAt C G p B n ∧ At G v (.list (ms.map mD)) ∧ Free B ms ∧ n + ms.length ≤ 900 ∧ ∀ H', Go tb no G H G H' → Q .non H'
theorem ok_check_offered (D0 : DefAt K mg "check_offered" s_check_offered) (c_with_mirror : C8.Met P w K mg base 6 C "with_mirror" (spWith tb C) []) : C8.Cal P w K mg base 7 "check_offered" (spOff tb C) [] := by
  refine D0.cal (N := N_check_offered) (ps := ["board", "offered"]) (fun _ _ _ _ _ _ us hl => match us, hl with | [_, _], _ => rfl) sc_check_offered (fun vs H Q E h => ?_) (fun f cdv A outer st H vs Q E hr h => ?_)
  · obtain ⟨G, p, B, n, v, ms, rfl, _⟩ := h
    rfl
  · obtain ⟨G, p, B, n, v, ms, rfl, g, hB, hv, hF, hn, k⟩ := h
    obtain ⟨l, ys, rfl, hl, hys⟩ := At.lst_ hv
    refine ⟨_, (pss_cons (ps_set (i := 2) sc_check_offered.nd rfl (Or.inl rfl) (pv 0))
  (pss_one (ps_for PassesOwn.never rfl (pi_list (pv 1)) (pg_tup rfl (pgs_cons (pg_name (i := 3) sc_check_offered.nd rfl (Or.inl rfl)) (pgs_cons (pg_name (i := 4) sc_check_offered.nd rfl (Or.inl rfl)) (pgs_cons (pg_name (i := 5) sc_check_offered.nd rfl (Or.inl rfl)) pgs_nil))))
  (pss_one (ps_set (i := 2) sc_check_offered.nd rfl (Or.inl rfl) (C8.pe_mt c_with_mirror hr (by decide) (pv 2) (pa_cons (pv 3) (pa_cons (pv 4) (pa_cons (pv 5) pa_nil))))))))), ?_⟩
    refine ⟨_, rfl, _, rfl, l, rfl, ⟨_, SqL.of (g.gh _ _ hl)⟩, for_list (K := K) (a := l) (xs := ys) (fun i σ H' => ∃ (G' : Hp) (q : Addr) (o3 o4 o5 : Option V), σ = [some (.ref p), some (.ref l), some (.ref q), o3, o4, o5] ∧ Go tb no G H G' H' ∧ BoardAt C G' q (grow B (ms.take i)) (n + i))
      ⟨G, p, none, none, none, rfl, Go.refl g, hB⟩ (fun i σ H' _ ⟨_, _, _, _, _, _, z, _⟩ => SqL.of (z.gh _ _ (z.gg _ _ hl))) ?_ ?_⟩
    · rintro i y σ H1 hy ⟨G1, q, o3, o4, o5, rfl, gg, hq⟩
      obtain ⟨m, hmi, hay⟩ := hys.mapAt hy
      obtain ⟨t, rfl, ht⟩ := (At.mono gg.gg _ hay).mir
      obtain ⟨dq, _, _, hq1, _⟩ := hq.parts
      have hi : i < ms.length := (List.getElem?_eq_some_iff.mp hmi).1
      refine ⟨t, _, rfl, SqT.of (gg.gh _ _ ht), rfl, _, _, rfl, _, _, rfl, _, _, rfl, rfl, ?_⟩
      refine ⟨_, rfl, q, dq, _, rfl, gg.gh _ _ hq1, bF_no _ _ _ (by decide +kernel) (by decide +kernel) (by decide +kernel), _, rfl, _, rfl, _, rfl, G1, q, _, n + i, m, rfl, gg.vw, hq, (hF.step hmi).1, (hF.step hmi).2, by omega, fun G2 H2 u g2 ⟨q2, eu, hq2⟩ => ?_⟩
      subst eu
      exact ⟨G2, q2, _, _, _, rfl, gg.trans g2, by rw [take_snoc hmi, grow_snoc]; exact hq2⟩
    · rintro σ H1 ⟨G1, q, o3, o4, o5, rfl, gg, hq⟩
      exact k _ gg.small
-- 0 board, 1 looks, 2 one, 3 other, 4 word
abbrev N_check_looks : List Str := ["board", "looks", "one", "other", "word"]
theorem sc_check_looks : FnScope N_check_looks ["board", "looks"] (defScope s_check_looks) := C8.fnScope_by (by decide +kernel)
def spLks (C : Addr) : Sp := fun vs H Q _ => ∃ (G : Hp) (p : Addr) (B : Bd) (n : Nat) (v : V) (ls : List Look), vs = [.ref p, v] ∧ Same G H ∧ BoardAt C G p B n ∧ At G v (.list (ls.map lkD)) ∧ (∀ l, l ∈ ls → On B l.1 ∧ On B l.2.1) ∧ Q .non H
theorem ok_check_looks (D0 : DefAt K mg "check_looks" s_check_looks) (T : Txt K mg C L) (c_check_square : C8.Cal P w K mg base 3 "check_square" (spSq C) []) : C8.Cal P w K mg base 4 "check_looks" (spLks C) [] := by
  refine D0.cal (N := N_check_looks) (ps := ["board", "looks"]) (fun _ _ _ _ _ _ us hl => match us, hl with | [_, _], _ => rfl) sc_check_looks (fun vs H Q E h => ?_) (fun f cdv A outer st H vs Q E hr h => ?_)
  · obtain ⟨G, p, B, n, v, ls, rfl, _⟩ := h
    rfl
  · obtain ⟨G, p, B, n, v, ls, rfl, g, hB, hv, ho, k⟩ := h
    obtain ⟨l, ys, rfl, hl, hys⟩ := At.lst_ hv
    obtain ⟨aW, g_WORDS, sW⟩ := T.g_WORDS
    refine ⟨_, (pss_one (ps_for PassesOwn.never rfl (pi_list (pv 1)) (pg_tup rfl (pgs_cons (pg_name (i := 2) sc_check_looks.nd rfl (Or.inl rfl)) (pgs_cons (pg_name (i := 3) sc_check_looks.nd rfl (Or.inl rfl)) (pgs_cons (pg_name (i := 4) sc_check_looks.nd rfl (Or.inl rfl)) pgs_nil))))
  (pss_cons (ps_expr (C8.pe_c c_check_square hr (by decide) rfl (pa_cons (pv 0) (pa_cons (pv 2) pa_nil))))
  (pss_cons (ps_expr (C8.pe_c c_check_square hr (by decide) rfl (pa_cons (pv 0) (pa_cons (pv 3) pa_nil))))
  (pss_one (ps_if (pt_cmpR op_notIn_seq (pv 4) (C8.pe_gc rfl g_WORDS) (by rfl)) (pss_one ps_never) pss_nil)))))), ?_⟩
    refine ⟨_, rfl, l, rfl, ⟨_, SqL.of (g _ _ hl)⟩, for_list (K := K) (a := l) (xs := ys) (fun i σ H' => H' = H ∧ ∃ (o2 o3 o4 : Option V), σ = [some (.ref p), some (.ref l), o2, o3, o4])
      ⟨rfl, none, none, none, rfl⟩ (fun i σ H' _ ⟨z, _⟩ => by rw [z]; exact SqL.of (g _ _ hl)) ?_ ?_⟩
    · rintro i y σ H' hy ⟨rfl, o2, o3, o4, rfl⟩
      obtain ⟨q, hqi, hay⟩ := hys.mapAt hy
      obtain ⟨a, x1, x2, rfl, ha, h1, h2⟩ := hay.look
      obtain ⟨on1, on2⟩ := ho q (List.mem_of_getElem? hqi)
      refine ⟨a, _, rfl, SqT.of (g _ _ ha), rfl, _, _, rfl, _, _, rfl, _, _, rfl, rfl, ?_⟩
      refine ⟨_, rfl, _, rfl, G, p, B, n, _, _, rfl, g, hB, h1, on1, ?_⟩
      refine ⟨_, rfl, _, rfl, G, p, B, n, _, _, rfl, g, hB, h2, on2, ?_⟩
      refine ⟨_, rfl, aW, _, rfl, .inr (sW _), rfl, rfl, false, by rw [wS_in]; rfl, iteF ⟨rfl, _, _, _, rfl⟩⟩
    · rintro σ H' ⟨rfl, o2, o3, o4, rfl⟩
      exact k
-- 0 board, 1 number, 2 mirrors, 3 joining, 4 counts, 5 x, 6 y, 7 kind, 8 after
abbrev N_grown_by : List Str := ["board", "number", "mirrors", "joining", "counts", "x", "y", "kind", "after"]
theorem sc_grown_by : FnScope N_grown_by ["board", "number", "mirrors", "joining"] (defScope s_grown_by) := C8.fnScope_by (by decide +kernel)
def spGrown (tb : Addr × Str) (C : Addr) : Sp := fun vs H Q _ => ∃ (G : Hp) (p : Addr) (B : Bd) (n : Nat) (i0 : Int) (v : V) (ms : List Mir), vs = [.ref p, .int i0, v, .bl false] ∧ Vw tb G H ∧ BoardAt C G p B n ∧ At G v (.list (ms.map mD)) ∧ Free B ms ∧ n + ms.length ≤ 900 ∧
  Ret tb no G H (fun G' u => ∃ (r q c : Addr) (cs : List V), u = .ref r ∧ G' r = some (.tup [.ref q, .ref c]) ∧ BoardAt C G' q (grow B ms) (n + ms.length) ∧ G' c = some (.lst cs) ∧ cs.length = ms.length ∧ (ms = [] ∨ ∃ cs', cs = cs' ++ [.int (num (grow B ms) : Nat)])) Q
theorem ok_grown_by (D0 : DefAt K mg "grown_by" s_grown_by) (c_with_mirror : C8.Met P w K mg base 6 C "with_mirror" (spWith tb C) []) (c_thread_count : C8.Cal P w K mg base 11 "thread_count" (spCnt tb C) []) : C8.Cal P w K mg base 12 "grown_by" (spGrown tb C) [] := by
  refine D0.cal (N := N_grown_by) (ps := ["board", "number", "mirrors", "joining"]) (fun _ _ _ _ _ _ us hl => match us, hl with | [_, _, _, _], _ => rfl) sc_grown_by (fun vs H Q E h => ?_) (fun f cdv A outer st H vs Q E hr h => ?_)
  · obtain ⟨G, p, B, n, i0, v, ms, rfl, _⟩ := h
    rfl
  · obtain ⟨G, p, B, n, i0, v, ms, rfl, g, hB, hv, hF, hn, k⟩ := h
    obtain ⟨l, ys, rfl, hl, hys⟩ := At.lst_ hv
    refine ⟨_, (pss_cons (ps_set (i := 4) sc_grown_by.nd rfl (Or.inl rfl) (pe_lst pa_nil))
  (pss_cons (ps_for PassesOwn.never rfl (pi_list (pv 2)) (pg_tup rfl (pgs_cons (pg_name (i := 5) sc_grown_by.nd rfl (Or.inl rfl)) (pgs_cons (pg_name (i := 6) sc_grown_by.nd rfl (Or.inl rfl)) (pgs_cons (pg_name (i := 7) sc_grown_by.nd rfl (Or.inl rfl)) pgs_nil))))
  (pss_cons (ps_set (i := 0) sc_grown_by.nd rfl (Or.inl rfl) (C8.pe_mt c_with_mirror hr (by decide) (pv 0) (pa_cons (pv 5) (pa_cons (pv 6) (pa_cons (pv 7) pa_nil)))))
  (pss_cons (ps_set (i := 8) sc_grown_by.nd rfl (Or.inl rfl) (C8.pe_c c_thread_count hr (by decide) rfl (pa_cons (pv 0) pa_nil)))
  (pss_cons (ps_if (PW.pt (pw_and (pt_val (pv 3)) (pw_and1 (pt_cmpR op_ge (pv 8) (pv 1) (nomark _))))) (pss_one ps_never) pss_nil)
  (pss_cons (ps_set (i := 1) sc_grown_by.nd rfl (Or.inl rfl) (pv 8))
  (pss_one (ps_expr (pe_bm PySem.F.plainAttrs_list PySem.F.slot_list_append PySem.F.type_list_append mt_append (pv 4) (pa_cons (pv 1) pa_nil)))))))))
  (pss_one (ps_ret (pe_tup (pa_cons (pv 0) (pa_cons (pv 4) pa_nil))))))), ?_⟩
    refine ⟨len0, fun D hD => ?_⟩
    have g1 := (Go.refl (M := no) g).new (o := .lst []) hD
    have nD := (Go.refl (M := no) g).fresh hD
    have gD0 : G D = none := g.gh.free hD
    refine ⟨_, rfl, l, rfl, ⟨_, SqL.of (g1.gh _ _ hl)⟩, for_list (K := K) (a := l) (xs := ys) (fun i σ H' => ∃ (G' : Hp) (q : Addr) (cs : List V) (j : Int) (o5 o6 o7 o8 : Option V), σ = [some (.ref q), some (.int j), some (.ref l), some (.bl false), some (.ref D), o5, o6, o7, o8] ∧ Go tb no G H G' H' ∧ BoardAt C G' q (grow B (ms.take i)) (n + i) ∧
        G' D = none ∧ H' D = some (.lst cs) ∧ cs.length = i ∧ (i = 0 ∨ ∃ cs', cs = cs' ++ [.int (num (grow B (ms.take i)) : Nat)]))
      ⟨G, p, [], i0, none, none, none, none, rfl, g1, hB, gD0, upd_same, rfl, .inl rfl⟩ (fun i σ H' _ ⟨_, _, _, _, _, _, _, _, _, z, _⟩ => SqL.of (z.gh _ _ (z.gg _ _ hl))) ?_ ?_⟩
    · rintro i y σ H1 hy ⟨G1, q, cs, j, o5, o6, o7, o8, rfl, gg, hq, gD, hD1, hc, _⟩
      obtain ⟨m, hmi, hay⟩ := hys.mapAt hy
      obtain ⟨t, rfl, ht⟩ := (At.mono gg.gg _ hay).mir
      obtain ⟨dq, _, _, hq1, _⟩ := hq.parts
      have hi : i < ms.length := (List.getElem?_eq_some_iff.mp hmi).1
      refine ⟨t, _, rfl, SqT.of (gg.gh _ _ ht), rfl, _, _, rfl, _, _, rfl, _, _, rfl, rfl, ?_⟩
      refine ⟨_, rfl, q, dq, _, rfl, gg.gh _ _ hq1, bF_no _ _ _ (by decide +kernel) (by decide +kernel) (by decide +kernel), _, rfl, _, rfl, _, rfl, G1, q, _, n + i, m, rfl, gg.vw, hq, (hF.step hmi).1, (hF.step hmi).2, by omega, fun G2 H2 u g2 ⟨q2, eu, hq2⟩ => ?_⟩
      subst eu
      have e2 : add (grow B (ms.take i)) m = grow B (ms.take (i + 1)) := by rw [take_snoc hmi, grow_snoc]
      rw [e2] at hq2
      have gD2 := g2.out hD1 trivial gD
      have hD2 := g2.loc hD1 trivial id
      refine ⟨_, rfl, G2, q2, _, n + i + 1, rfl, g2.vw, hq2, fun G3 H3 u g3 eu => ?_⟩
      subst eu
      have gD3 := g3.out hD2 trivial gD2
      have hD3 := g3.loc hD2 trivial id
      refine ⟨_, rfl, false, rfl, iteF ?_⟩
      refine ⟨_, rfl, _, rfl, .inl ⟨rfl, _, SqL.of hD3⟩, _, rfl, D, cs, _, rfl, rfl, hD3, le_line (by omega), ?_⟩
      exact ⟨G3, q2, _, _, _, _, _, _, rfl, ((gg.trans g2).trans g3).put hD3 trivial (.inl nD) gD3 trivial, hq2.mono g3.gg, gD3, upd_same, by rw [List.length_append, hc]; rfl, .inr ⟨cs, rfl⟩⟩
    · rintro σ H1 ⟨G1, q, cs, j, o5, o6, o7, o8, rfl, gg, hq, gD, hD1, hc, he⟩
      have el : ys.length = ms.length := hys.mapLen
      rw [el, List.take_length] at hq he
      have gf := gg.freeze hD1 trivial nD gD
      refine ⟨_, rfl, _, rfl, len2, fun r hr' => ?_⟩
      obtain ⟨g4, s4, e4⟩ := gf.tup hr' [.ref q, .ref D]
      refine k _ _ _ g4 ⟨r, q, D, cs, rfl, e4, (hq.mono (same_upd gD)).mono s4, s4 _ _ upd_same, by rw [hc, el], he.imp (fun z => ?_) id⟩
      exact List.length_eq_zero_iff.mp z
end
end Sand

set_option Elab.async false
set_option linter.all false
set_option maxRecDepth 100000
set_option maxHeartbeats 4000000
namespace Sand
open PySem PySem.Spec PyProof.Rows L2
/-- a step that also changes things that were made on the way -/
theorem Go.own {tb : Addr × Str} {M M' : Addr → Prop} {G H G1 H1 G2 H2 : Hp} (h : Go tb M G H G1 H1) (k : Go tb M' G1 H1 G2 H2) (o : ∀ b, M' b → ¬ Std H b ∨ M b) : Go tb M G H G2 H2 :=
  ⟨fun b u e n m => k.kp b u (h.kp b u e n m) n fun z => (o b z).elim (fun q => q ⟨u, e, n⟩) m, fun b e => k.ex b (h.ex b e), fun b u e => k.gg b u (h.gg b u e), k.gh, fun b o' e e' => h.nc b o' e (k.nc b o' (h.ex b e) e'), k.nt, k.tt, h.t0⟩
def lF (q : V) (a c : Addr) : List (Str × V) := [("now", q), ("added", .ref a), ("counts", .ref c)]
theorem lF_now (q : V) (a c : Addr) : (lF q a c).lookup ("now" : Str) = some q := by unfold lF; rw [List.lookup_cons, show (("now" : Str) == ("now" : Str)) = true by decide +kernel]
theorem lF_added (q : V) (a c : Addr) : (lF q a c).lookup ("added" : Str) = some (.ref a) := by
  unfold lF; rw [List.lookup_cons, show (("added" : Str) == ("now" : Str)) = false by decide +kernel]
  simp only [List.lookup_cons]
  rw [show (("added" : Str) == ("added" : Str)) = true by decide +kernel]
theorem lF_counts (q : V) (a c : Addr) : (lF q a c).lookup ("counts" : Str) = some (.ref c) := by
  unfold lF; rw [List.lookup_cons, show (("counts" : Str) == ("now" : Str)) = false by decide +kernel]
  simp only [List.lookup_cons]
  rw [show (("counts" : Str) == ("added" : Str)) = false by decide +kernel, show (("counts" : Str) == ("counts" : Str)) = true by decide +kernel]
theorem lF_no (q : V) (a c : Addr) {m : Str} (h1 : (m == ("now" : Str)) = false) (h2 : (m == ("added" : Str)) = false) (h3 : (m == ("counts" : Str)) = false) : (lF q a c).lookup m = none := by
  unfold lF; simp only [List.lookup_cons, h1, h2, h3, List.lookup_nil]
theorem lput0 (q : V) : putF "now" q [] = ([("now", q)] : List (Str × V)) := rfl
theorem lput1 (q : V) (a : V) : putF "added" a ([("now", q)] : List (Str × V)) = ([("now", q), ("added", a)] : List (Str × V)) := by
  show (if ("now" : Str) = "added" then ([(("added" : Str), a)] : List (Str × V)) else (("now" : Str), q) :: putF "added" a []) = _
  rw [if_neg (by decide +kernel)]; rfl
theorem lput2 (q : V) (a c : Addr) : putF "counts" (.ref c) ([("now", q), ("added", .ref a)] : List (Str × V)) = lF q a c := by
  show (if ("now" : Str) = "counts" then ([(("counts" : Str), V.ref c), ("added", .ref a)] : List (Str × V)) else (("now" : Str), q) :: (if ("added" : Str) = "counts" then ([(("counts" : Str), V.ref c)] : List (Str × V)) else (("added" : Str), V.ref a) :: putF "counts" (.ref c) [])) = _
  rw [if_neg (by decide +kernel), if_neg (by decide +kernel)]; rfl
theorem lputN (q q' : V) (a c : Addr) : putF "now" q' (lF q a c) = lF q' a c := by
  show (if ("now" : Str) = "now" then _ else _) = _
  rw [if_pos rfl]; rfl
theorem look1 (q : V) : ([("now", q)] : List (Str × V)).lookup ("now" : Str) = some q := by rw [List.lookup_cons, show (("now" : Str) == ("now" : Str)) = true by decide +kernel]
theorem look2 (q a : V) : ([("now", q), ("added", a)] : List (Str × V)).lookup ("now" : Str) = some q := by rw [List.lookup_cons, show (("now" : Str) == ("now" : Str)) = true by decide +kernel]
/-- a live board at p, its lists at a and c -/
structure LiveAt (C L : Addr) (G H : Hp) (p a c : Addr) (B : Bd) (n : Nat) : Prop where
  gp : G p = none
  ga : G a = none
  gc : G c = none
  ne : a ≠ c
  hp : ∃ dx q, H p = some (.ins L dx (lF (.ref q) a c)) ∧ BoardAt C G q B n
  ha : ∃ xs, H a = some (.lst xs) ∧ xs.length ≤ n
  hc : ∃ xs, H c = some (.lst (xs ++ [.int (num B : Nat)])) ∧ xs.length ≤ n
section
variable {P : Program} {w : World} {K : PySem.W.Frag} {mg : Str → Option Value} {base : Heap} {C L : Addr} {tb : Addr × Str}
theorem mk_board2 {M : Addr → Prop} {G H G1 H1 : Hp} {x dx : Addr} {v : V} {a b : Int} {ms : List Mir} {R : VK} {E : XK} (g : Go tb M G H G1 H1) (hx : H1 x = none) (hdx : H1 dx = none) (ne : dx ≠ x) (hv : At G1 v (.list (ms.map mD))) (hnd : (Plcs ms).Nodup) (hin : ∀ m, m ∈ ms → InsI a b m.1 m.2.1)
    (hlen : ms.length ≤ 1000) (ha : 1 ≤ a) (hb : 1 ≤ b) (ha9 : a ≤ 9) (hb9 : b ≤ 9) (k : ∀ G2 H2, Go tb M G H G2 H2 → Go tb no G1 H1 G2 H2 → BoardAt C G2 x (bOf a b ms) ms.length → R .non H2) :
    spInitB tb C [.ref x, .int a, .int b, v] (upd (upd H1 dx (.own x)) x (.ins C dx [])) R E := by
  obtain ⟨G, p', dx', v', a', b', ms', e, z1, z2, z3, z4, z5, z6, z7, z8, z9, k'⟩ := mk_board (C := C) (Q := fun _ H => R .non H) (E := E) g hx hdx ne hv hnd hin hlen ha hb ha9 hb9 k
  exact ⟨G, p', dx', v', a', b', ms', e, z1, z2, z3, z4, z5, z6, z7, z8, z9, fun G' H' d y1 y2 y3 y4 => (k' G' H' d y1 y2 y3 y4).2⟩
-- 0 self, 1 width, 2 height
abbrev N_LiveBoard___init__ : List Str := ["self", "width", "height"]
theorem sc_LiveBoard___init__ : FnScope N_LiveBoard___init__ ["self", "width", "height"] (defScope s_LiveBoard___init__) := C8.fnScope_by (by decide +kernel)
def spInitL (tb : Addr × Str) (C L : Addr) : Sp := fun vs H Q _ => ∃ (G : Hp) (p dx : Addr) (x y : Int), vs = [.ref p, .int x, .int y] ∧ Vw tb G H ∧ G p = none ∧ H p = some (.ins L dx []) ∧ 1 ≤ x ∧ 1 ≤ y ∧ x ≤ 9 ∧ y ≤ 9 ∧
  ∀ G' H' a c, Go tb (fun z => z = p) G H G' H' → ¬ Std H a → ¬ Std H c → LiveAt C L G' H' p a c (bOf x y []) 0 → Q .non H'
theorem ok_initL (D0 : MakAt K mg "LiveBoard" L "LiveBoard.__init__" s_LiveBoard___init__) (T : Txt K mg C L) (c_Board : C8.Mak P w K mg base 4 "Board" C (spInitB tb C) []) (c_thread_count : C8.Cal P w K mg base 11 "thread_count" (spCnt tb C) []) :
    C8.Mak P w K mg base 12 "LiveBoard" L (spInitL tb C L) [] := by
  refine D0.mak (N := N_LiveBoard___init__) (ps := ["self", "width", "height"]) (fun _ _ _ _ _ _ us hl => match us, hl with | [_, _, _], _ => rfl) sc_LiveBoard___init__ (fun vs H Q E h => ?_) (fun f cdv A outer st H vs Q E hr h => ?_)
  · obtain ⟨G, p, dx, x, y, rfl, _⟩ := h
    rfl
  · obtain ⟨G, p, dx, x, y, rfl, g, gp, hp, hx, hy, hx9, hy9, k⟩ := h
    refine ⟨_, (pss_cons (ps_fld (pv 0) (C8.pe_mk c_Board hr (by decide) rfl (pa_cons (pv 1) (pa_cons (pv 2) (pa_cons (pe_lst pa_nil) pa_nil)))) rfl)
  (pss_cons (ps_fld (pv 0) (pe_lst pa_nil) rfl)
  (pss_one (ps_fld (pv 0) (pe_lst (pa_cons (C8.pe_c c_thread_count hr (by decide) rfl (pa_cons (pe_fld (pv 0) rfl) pa_nil)) pa_nil)) rfl)))), ?_⟩
    refine ⟨_, rfl, _, rfl, len0, fun l hl => ?_⟩
    obtain ⟨g1, s1, e1⟩ := (Go.refl (M := fun z => z = p) g).lst hl []
    have hp1 : upd H l (.lst []) p = some (.ins L dx []) := by rw [upd_ne (ne_of_none hp hl)]; exact hp
    have gp1 : upd G l (.lst []) p = none := by rw [upd_ne (ne_of_none hp hl)]; exact gp
    refine fun i di hi hdi ne => mk_board2 (M := fun z => z = p) (ms := []) g1 hi hdi ne (.lst e1 .nil) (by unfold Plcs; exact List.nodup_nil) (fun m hm => absurd hm (by simp)) (Nat.zero_le _) hx hy hx9 hy9 fun G2 H2 g2 g12 hb => ⟨rfl, ?_⟩
    have hp2 := g12.loc hp1 trivial id
    have gp2 := g12.out hp1 trivial gp1
    refine ⟨_, rfl, p, L, dx, _, rfl, hp2, T.cL, T.nN, by decide, ?_⟩
    have g3 := g2.put (o' := .ins L dx (putF "now" (.ref i) [])) hp2 trivial (.inr rfl) gp2 trivial
    rw [lput0] at g3 ⊢
    refine ⟨len0, fun a ha => ?_⟩
    have na := g3.fresh ha
    have ga : G2 a = none := g3.gh.free ha
    have pa : p ≠ a := ne_of_none upd_same ha
    have g4 := g3.new (o := .lst []) ha
    refine ⟨_, rfl, p, L, dx, _, rfl, by rw [upd_ne pa]; exact upd_same, T.cL, T.nA, by show 1 < 1000; decide, ?_⟩
    rw [lput1]
    have g5 := g4.put (D := p) (o := .ins L dx [("now", .ref i)]) (o' := .ins L dx [("now", .ref i), ("added", .ref a)]) (by rw [upd_ne pa]; exact upd_same) trivial (.inr rfl) gp2 trivial
    refine ⟨_, rfl, p, L, dx, _, _, rfl, upd_same, T.cL, T.nN, look2 _ _, G2, i, _, 0, rfl, g5.vw, hb, fun G6 H6 u g6 eu => ?_⟩
    subst eu
    have hp6 := g6.loc (upd_same (H := upd (upd H2 p (.ins L dx [("now", .ref i)])) a (.lst [])) (a := p) (o := .ins L dx [("now", .ref i), ("added", .ref a)])) trivial id
    have gp6 := g6.out upd_same trivial gp2
    have ha6 := g6.loc (D := a) (o := .lst []) (by rw [upd_ne pa.symm]; exact upd_same) trivial id
    have ga6 := g6.out (D := a) (o := .lst []) (by rw [upd_ne pa.symm]; exact upd_same) trivial ga
    have g7 := g5.trans (g6.weak fun _ z => z.elim)
    refine ⟨len1, fun c hc => ?_⟩
    have nc := g7.fresh hc
    have gc : G6 c = none := g7.gh.free hc
    have pc : p ≠ c := ne_of_none hp6 hc
    have ac : a ≠ c := ne_of_none ha6 hc
    have g8 := g7.new (o := .lst [.int (num (bOf x y []) : Nat)]) hc
    refine ⟨_, rfl, p, L, dx, _, rfl, by rw [upd_ne pc]; exact hp6, T.cL, T.nC, by show 2 < 1000; decide, ?_⟩
    rw [lput2]
    refine k G6 _ a c (g8.put (D := p) (o := .ins L dx [("now", .ref i), ("added", .ref a)]) (by rw [upd_ne pc]; exact hp6) trivial (.inr rfl) gp6 trivial) na nc ⟨gp6, ga6, gc, ac, ⟨dx, i, upd_same, hb.mono g6.gg⟩, ⟨[], ?_, Nat.le_refl _⟩, ⟨[], ?_, Nat.le_refl _⟩⟩
    · rw [upd_ne pa.symm, upd_ne ac]; exact ha6
    · rw [upd_ne pc.symm]; exact upd_same
-- 0 self, 1 mirrors, 2 joining, 3 grown, 4 counts, 5 x, 6 y, 7 kind
abbrev N_LiveBoard_take_in : List Str := ["self", "mirrors", "joining", "grown", "counts", "x", "y", "kind"]
theorem sc_LiveBoard_take_in : FnScope N_LiveBoard_take_in ["self", "mirrors", "joining"] (defScope s_LiveBoard_take_in) := C8.fnScope_by (by decide +kernel)
def own3 (p a c : Addr) : Addr → Prop := fun z => z = p ∨ z = a ∨ z = c
def spTake (tb : Addr × Str) (C L : Addr) : Sp := fun vs H Q _ => ∃ (G : Hp) (p a c : Addr) (B : Bd) (n : Nat) (v : V) (ms : List Mir), vs = [.ref p, v, .bl false] ∧ Vw tb G H ∧ LiveAt C L G H p a c B n ∧ At G v (.list (ms.map mD)) ∧ Free B ms ∧ n + ms.length ≤ 900 ∧
  ∀ G' H', Go tb (own3 p a c) G H G' H' → LiveAt C L G' H' p a c (grow B ms) (n + ms.length) → Q .non H'
theorem ok_take_in (D0 : MetAt K L "take_in" "LiveBoard.take_in" s_LiveBoard_take_in) (T : Txt K mg C L) (c_grown_by : C8.Cal P w K mg base 12 "grown_by" (spGrown tb C) []) : C8.Met P w K mg base 13 L "take_in" (spTake tb C L) [] := by
  refine D0.met T.cL (N := N_LiveBoard_take_in) (ps := ["self", "mirrors", "joining"]) (fun _ _ _ _ _ _ us hl => match us, hl with | [_, _, _], _ => rfl) sc_LiveBoard_take_in (fun vs H Q E h => ?_) (fun f cdv A outer st H vs Q E hr h => ?_)
  · obtain ⟨G, p, a, c, B, n, v, ms, rfl, _⟩ := h
    rfl
  · obtain ⟨G, p, a, c, B, n, v, ms, rfl, g, ⟨gp, ga, gc, ac, ⟨dx, q, hp, hq⟩, ⟨xs, ha, hxl⟩, ⟨cs, hc, hcl⟩⟩, hv, hF, hn, k⟩ := h
    obtain ⟨l, ys, rfl, hl, hys⟩ := At.lst_ hv
    have pa : p ≠ a := ne_of hp ha (fun z => by cases z)
    have pc : p ≠ c := ne_of hp hc (fun z => by cases z)
    refine ⟨_, (pss_cons (ps_asg (C8.pe_c c_grown_by hr (by decide) rfl (pa_cons (pe_fld (pv 0) rfl) (pa_cons (pe_ix ix_list (pe_fld (pv 0) rfl) (pe_un un_neg pe_int) (fun _ _ => rfl)) (pa_cons (pv 1) (pa_cons (pv 2) pa_nil))))) (pg_tup rfl (pgs_cons (pg_name (i := 3) sc_LiveBoard_take_in.nd rfl (Or.inl rfl)) (pgs_cons (pg_name (i := 4) sc_LiveBoard_take_in.nd rfl (Or.inl rfl)) pgs_nil))))
  (pss_cons (ps_fld (pv 0) (pv 3) rfl)
  (pss_cons (ps_expr (pe_bm PySem.F.plainAttrs_list PySem.F.slot_list_extend PySem.F.type_list_extend mt_extend (pe_fld (pv 0) rfl) (pa_cons (pe_lc (own := [("x", 5), ("y", 6), ("kind", 7)]) (g := gTup K 3 (gCons (gName 5) (gCons (gName 6) (gCons (gName 7) gNil)))) (tt := tYes) (te := tTup (tCons (tVar 5) (tCons (tVar 6) (tCons (tVar 7) tNil)))) rfl sc_LiveBoard_take_in.nd (pi_list (pv 1)) (blkOk_by (own := [("x", 5), ("y", 6), ("kind", 7)]) (N := N_LiveBoard_take_in) (sc := defScope s_LiveBoard_take_in) (by decide +kernel)) (fun _ _ _ _ _ => (pg_tup rfl (pgs_cons (pg_name (i := 5) sc_LiveBoard_take_in.nd rfl (Or.inl rfl)) (pgs_cons (pg_name (i := 6) sc_LiveBoard_take_in.nd rfl (Or.inl rfl)) (pgs_cons (pg_name (i := 7) sc_LiveBoard_take_in.nd rfl (Or.inl rfl)) pgs_nil))))) (fun _ _ _ _ _ => pts_nil) (fun _ _ _ _ _ => (pe_tup (pa_cons (pv 5) (pa_cons (pv 6) (pa_cons (pv 7) pa_nil)))))) pa_nil)))
  (pss_one (ps_expr (pe_bm PySem.F.plainAttrs_list PySem.F.slot_list_extend PySem.F.type_list_extend mt_extend (pe_fld (pv 0) rfl) (pa_cons (pv 4) pa_nil))))))), ?_⟩
    -- grown, counts = grown_by(self.now, self.counts[-1], mirrors, joining)
    refine ⟨_, rfl, p, L, dx, _, _, rfl, hp, T.cL, T.nN, lF_now _ _ _, _, rfl, p, L, dx, _, _, rfl, hp, T.cL, T.nC, lF_counts _ _ _, _, rfl, c, _, _, _, rfl, rfl, SqL.of hc, atI_last _ _, _, rfl, _, rfl, ?_⟩
    refine ⟨G, q, B, n, _, _, ms, rfl, g, hq, hv, hF, hn, fun G1 H1 u g1 ⟨r, q1, c1, cs1, eu, hr1, hq1, hc1, hcl1, hce⟩ => ?_⟩
    subst eu
    have gM : Go tb (own3 p a c) G H G1 H1 := g1.weak fun _ z => z.elim
    have hp1 := g1.loc hp trivial id
    have ha1 := g1.loc ha trivial id
    have hcc1 := g1.loc hc trivial id
    have gp1 := g1.out hp trivial gp
    have ga1 := g1.out ha trivial ga
    have gc1 := g1.out hc trivial gc
    refine ⟨r, _, rfl, SqT.of (g1.gh _ _ hr1), rfl, _, _, rfl, _, _, rfl, rfl, ?_⟩
    -- self.now = grown
    refine ⟨_, rfl, _, rfl, p, L, dx, _, rfl, hp1, T.cL, T.nN, by show 3 < 1000; decide, ?_⟩
    rw [lputN]
    have g2 := gM.put (o' := .ins L dx (lF (.ref q1) a c)) hp1 trivial (.inr (.inl rfl)) gp1 trivial
    have hp2 : upd H1 p (.ins L dx (lF (.ref q1) a c)) p = some (.ins L dx (lF (.ref q1) a c)) := upd_same
    have ha2 : upd H1 p (.ins L dx (lF (.ref q1) a c)) a = some (.lst xs) := by rw [upd_ne pa.symm]; exact ha1
    have hc2 : upd H1 p (.ins L dx (lF (.ref q1) a c)) c = some (.lst (cs ++ [.int (num B : Nat)])) := by rw [upd_ne pc.symm]; exact hcc1
    generalize upd H1 p (.ins L dx (lF (.ref q1) a c)) = H2 at g2 hp2 ha2 hc2 ⊢
    -- self.added.extend([..])
    refine ⟨_, rfl, p, L, dx, _, _, rfl, hp2, T.cL, T.nA, lF_added _ _ _, .inl ⟨rfl, _, SqL.of ha2⟩, ?_⟩
    refine ⟨_, rfl, l, rfl, ⟨_, SqL.of (g2.gh _ _ (g2.gg _ _ hl))⟩, fun D hD => ?_⟩
    have aD : a ≠ D := ne_of_none ha2 hD
    have pD : p ≠ D := ne_of_none hp2 hD
    have cD : c ≠ D := ne_of_none hc2 hD
    have nD := g2.fresh hD
    have gD : G1 D = none := g2.gh.free hD
    refine lc_it walk_list (fun i H' => ∃ zs, Go tb (own3 p a c) G H G1 H' ∧ H' D = some (.lst zs) ∧ zs.length = i ∧ H' p = some (.ins L dx (lF (.ref q1) a c)) ∧ H' a = some (.lst xs) ∧ H' c = some (.lst (cs ++ [.int (num B : Nat)])))
      ⟨[], g2.new hD, upd_same, rfl, by rw [upd_ne pD]; exact hp2, by rw [upd_ne aD]; exact ha2, by rw [upd_ne cD]; exact hc2⟩ (fun i H' _ ⟨_, z, _⟩ => SqL.of (z.gh _ _ (z.gg _ _ hl))) ?_ ?_
    · rintro i y H3 H3' hi ⟨zs, g3, hD3, hzl, hp3, ha3, hc3⟩ ⟨rfl, hy⟩
      obtain ⟨m, hmi, hay⟩ := hys.mapAt hy
      obtain ⟨t, rfl, ht⟩ := (At.mono g3.gg _ hay).mir
      refine ⟨t, _, rfl, SqT.of (g3.gh _ _ ht), rfl, _, _, rfl, _, _, rfl, _, _, rfl, rfl, rfl, ?_⟩
      refine ⟨_, rfl, _, rfl, _, rfl, len3, fun t2 ht2 => ?_⟩
      have hil : i < ms.length := (List.getElem?_eq_some_iff.mp hmi).1
      have hD4 : upd H3' t2 (.tup [.int m.1, .int m.2.1, .str (kS m.2.2)]) D = some (.lst zs) := by rw [upd_ne (ne_of_none hD3 ht2)]; exact hD3
      refine ⟨zs, hD4, le_line (by omega), zs ++ [.ref t2], (g3.new ht2).put hD4 trivial (.inl nD) gD trivial, upd_same, by rw [List.length_append, hzl]; rfl, ?_, ?_, ?_⟩
      · rw [upd_ne pD, upd_ne (ne_of_none hp3 ht2)]; exact hp3
      · rw [upd_ne aD, upd_ne (ne_of_none ha3 ht2)]; exact ha3
      · rw [upd_ne cD, upd_ne (ne_of_none hc3 ht2)]; exact hc3
    · rintro H3 ⟨zs, g3, hD3, hzl, hp3, ha3, hc3⟩
      have eyl : ys.length = ms.length := hys.mapLen
      refine ⟨a, D, xs, zs, rfl, rfl, ha3, hD3, Nat.le_of_lt (le_line (by omega)), ?_⟩
      have g4 := g3.put (o' := .lst (xs ++ zs)) ha3 trivial (.inr (.inr (.inl rfl))) ga1 trivial
      have hp4 : upd H3 a (.lst (xs ++ zs)) p = some (.ins L dx (lF (.ref q1) a c)) := by rw [upd_ne pa]; exact hp3
      have hc4 : upd H3 a (.lst (xs ++ zs)) c = some (.lst (cs ++ [.int (num B : Nat)])) := by rw [upd_ne ac.symm]; exact hc3
      -- self.counts.extend(counts)
      refine ⟨_, rfl, p, L, dx, _, _, rfl, hp4, T.cL, T.nC, lF_counts _ _ _, .inl ⟨rfl, _, SqL.of hc4⟩, _, rfl, c, c1, _, cs1, rfl, rfl, hc4, g4.gh _ _ hc1, Nat.le_of_lt (le_line (by rw [List.length_append, List.length_singleton]; omega)), ?_⟩
      refine k G1 _ (g4.put (o' := .lst ((cs ++ [.int (num B : Nat)]) ++ cs1)) hc4 trivial (.inr (.inr (.inr rfl))) gc1 trivial) ⟨gp1, ga1, gc1, ac, ⟨dx, q1, by rw [upd_ne pc]; exact hp4, hq1⟩, ⟨xs ++ zs, by rw [upd_ne ac]; exact upd_same, by rw [List.length_append]; omega⟩, ?_⟩
      rcases hce with e | ⟨cs', e⟩
      · subst e
        have : cs1 = [] := List.length_eq_zero_iff.mp hcl1
        subst this
        exact ⟨cs, by rw [upd_same, List.append_nil]; rfl, by omega⟩
      · subst e
        refine ⟨(cs ++ [.int (num B : Nat)]) ++ cs', by rw [upd_same, List.append_assoc (cs ++ _)], ?_⟩
        rw [List.length_append, List.length_singleton] at hcl1
        rw [List.length_append, List.length_append, List.length_singleton]
        omega
-- 0 self, 1 mirrors
abbrev N_LiveBoard_add_all : List Str := ["self", "mirrors"]
theorem sc_LiveBoard_add_all : FnScope N_LiveBoard_add_all ["self", "mirrors"] (defScope s_LiveBoard_add_all) := C8.fnScope_by (by decide +kernel)
def spAdd (tb : Addr × Str) (C L : Addr) : Sp := fun vs H Q _ => ∃ (G : Hp) (p a c : Addr) (B : Bd) (n : Nat) (v : V) (ms : List Mir), vs = [.ref p, v] ∧ Vw tb G H ∧ LiveAt C L G H p a c B n ∧ At G v (.list (ms.map mD)) ∧ Free B ms ∧ n + ms.length ≤ 900 ∧
  ∀ G' H', Go tb (own3 p a c) G H G' H' → LiveAt C L G' H' p a c (grow B ms) (n + ms.length) → Q (.int (num (grow B ms) : Nat)) H'
theorem ok_add_all (D0 : MetAt K L "add_all" "LiveBoard.add_all" s_LiveBoard_add_all) (T : Txt K mg C L) (c_take_in : C8.Met P w K mg base 13 L "take_in" (spTake tb C L) []) : C8.Met P w K mg base 14 L "add_all" (spAdd tb C L) [] := by
  refine D0.met T.cL (N := N_LiveBoard_add_all) (ps := ["self", "mirrors"]) (fun _ _ _ _ _ _ us hl => match us, hl with | [_, _], _ => rfl) sc_LiveBoard_add_all (fun vs H Q E h => ?_) (fun f cdv A outer st H vs Q E hr h => ?_)
  · obtain ⟨G, p, a, c, B, n, v, ms, rfl, _⟩ := h
    rfl
  · obtain ⟨G, p, a, c, B, n, v, ms, rfl, g, hL, hv, hF, hn, k⟩ := h
    obtain ⟨dx, q, hp, hq⟩ := hL.hp
    refine ⟨_, (pss_cons (ps_expr (C8.pe_mt c_take_in hr (by decide) (pv 0) (pa_cons (pv 1) (pa_cons pe_bl pa_nil))))
  (pss_one (ps_ret (pe_ix ix_list (pe_fld (pv 0) rfl) (pe_un un_neg pe_int) (fun _ _ => rfl))))), ?_⟩
    refine ⟨_, rfl, p, dx, _, rfl, hp, lF_no _ _ _ (by decide +kernel) (by decide +kernel) (by decide +kernel), _, rfl, G, p, a, c, B, n, v, ms, rfl, g, hL, hv, hF, hn, fun G1 H1 g1 hL1 => ?_⟩
    obtain ⟨dx1, q1, hp1, hq1⟩ := hL1.hp
    obtain ⟨cs, hc, _⟩ := hL1.hc
    exact ⟨_, rfl, p, L, dx1, _, _, rfl, hp1, T.cL, T.nC, lF_counts _ _ _, _, rfl, c, _, _, _, rfl, rfl, SqL.of hc, atI_last _ _, k _ _ g1 hL1⟩
end
end Sand

set_option Elab.async false
set_option linter.all false
set_option maxRecDepth 100000
set_option maxHeartbeats 4000000
namespace Sand
open PySem PySem.Spec PyProof.Rows L2
/-! ### the choices, by their size -/
def lea (c : List Nat) : Nat := match c.getLast? with
  | none => 0
  | some l => l + 1
def ext (many : Nat) (c : List Nat) : List (List Nat) := (List.range (many - lea c)).map fun i => c ++ [lea c + i]
def lv (many : Nat) : Nat → List (List Nat)
  | 0 => [[]]
  | k + 1 => (lv many k).flatMap (ext many)
def upl (many k : Nat) : List (List Nat) := (List.range k).flatMap (lv many)
def chs (many : Nat) : List (List Nat) := upl many (many + 1)
theorem lea_snoc (c : List Nat) (i : Nat) : lea (c ++ [i]) = i + 1 := by unfold lea; rw [List.getLast?_concat]
theorem lea_nil : lea [] = 0 := rfl
structure Cho (many k : Nat) (c : List Nat) : Prop where
  len : c.length = k
  lt : ∀ i, i ∈ c → i < lea c
  le : lea c ≤ many
  nd : c.Nodup
  kl : k ≤ lea c
theorem lv_cho (many : Nat) : ∀ k c, c ∈ lv many k → Cho many k c
  | 0, c, h => by
    rw [List.mem_singleton.mp h]
    exact ⟨rfl, fun i hi => absurd hi (by simp), Nat.zero_le _, List.nodup_nil, Nat.le_refl _⟩
  | k + 1, c, h => by
    obtain ⟨d, hd, hc⟩ := List.mem_flatMap.mp h
    have p := lv_cho many k d hd
    obtain ⟨i, hi, rfl⟩ := List.mem_map.mp hc
    rw [List.mem_range] at hi
    have hlt : ∀ j, j ∈ d → j < lea d + i := fun j hj => by have := p.lt j hj; omega
    refine ⟨by rw [List.length_append, p.len]; rfl, fun j hj => ?_, by rw [lea_snoc]; omega, List.nodup_append.mpr ⟨p.nd, by simp, fun a ha b hb => ?_⟩, by rw [lea_snoc]; have := p.kl; omega⟩
    · rw [lea_snoc]
      rcases List.mem_append.mp hj with q | q
      · have := hlt j q; omega
      · rw [List.mem_singleton.mp q]; omega
    · rw [List.mem_singleton.mp hb]
      have := hlt a ha
      omega
theorem lv_end (many : Nat) : lv many (many + 1) = [] := by
  cases e : lv many (many + 1) with
  | nil => rfl
  | cons c l =>
    have p := lv_cho many (many + 1) c (by rw [e]; exact List.mem_cons_self ..)
    have := p.kl
    have := p.le
    omega
theorem lv_stay {many k : Nat} (h : lv many k = []) : ∀ j, lv many (k + j) = []
  | 0 => h
  | j + 1 => by
    show (lv many (k + j)).flatMap (ext many) = []
    rw [lv_stay h j]; rfl
theorem upl_succ (many k : Nat) : upl many (k + 1) = upl many k ++ lv many k := by unfold upl; rw [List.range_succ, List.flatMap_append]; simp
theorem upl_stay {many k : Nat} (h : lv many k = []) : ∀ j, upl many (k + j) = upl many k
  | 0 => rfl
  | j + 1 => by
    rw [← Nat.add_assoc, upl_succ, lv_stay h j, List.append_nil, upl_stay h j]
theorem upl_chs {many k : Nat} (h : lv many k = []) (hk : k ≤ many + 1) : upl many k = chs many := by
  obtain ⟨j, e⟩ := Nat.le.dest hk
  unfold chs
  rw [← e, upl_stay h j]
theorem upl_small : ∀ (m : Fin 4) (k : Fin 6), (upl m.val k.val).length ≤ 8 ∧ (lv m.val k.val).length ≤ 8 := by decide +kernel
theorem up_small {many k : Nat} (h : many ≤ 3) (hk : k ≤ 5) : (upl many k).length ≤ 8 ∧ (lv many k).length ≤ 8 := upl_small ⟨many, by omega⟩ ⟨k, by omega⟩
theorem chs_cho {many : Nat} {c : List Nat} (h : c ∈ chs many) : ∃ k, Cho many k c := by
  obtain ⟨k, _, hc⟩ := List.mem_flatMap.mp h
  exact ⟨k, lv_cho many k c hc⟩
def cV (c : List Nat) : List V := c.map fun (i : Nat) => V.int (i : Int)
def cD (c : List Nat) : PyData := .list (c.map fun (i : Nat) => PyData.int (i : Int))
theorem AtAll.cV_ {G : Hp} : ∀ {c : List Nat} {vs : List V}, AtAll G vs (c.map fun (i : Nat) => PyData.int (i : Int)) → vs = cV c
  | [], _, h => by cases h; rfl
  | n :: ns, _, h => by
    obtain ⟨v, ws, rfl, a, b⟩ := h.cons_
    rw [a.int_, AtAll.cV_ b]; rfl
theorem AtAll.ofCV {G : Hp} : ∀ {c : List Nat}, AtAll G (cV c) (c.map fun (i : Nat) => PyData.int (i : Int))
  | [] => .nil
  | n :: ns => .cons (.int _) AtAll.ofCV
theorem At.cho {G : Hp} {v : V} {c : List Nat} (h : At G v (cD c)) : ∃ a, v = .ref a ∧ G a = some (.lst (cV c)) := by
  obtain ⟨a, xs, e, g, h⟩ := At.lst_ h
  rw [AtAll.cV_ h] at g
  exact ⟨a, e, g⟩
theorem At.ofCho {G : Hp} {a : Addr} {c : List Nat} (g : G a = some (.lst (cV c))) : At G (.ref a) (cD c) := .lst g AtAll.ofCV
theorem cV_snoc (c : List Nat) (i : Nat) : cV (c ++ [i]) = cV c ++ [.int (i : Int)] := by unfold cV; rw [List.map_append]; rfl
theorem ext_len {many : Nat} (h : many ≤ 3) (c : List Nat) : (ext many c).length ≤ 3 := by unfold ext; rw [List.length_map, List.length_range]; omega
section
variable {P : Program} {w : World} {K : PySem.W.Frag} {mg : Str → Option Value} {base : Heap} {C L : Addr} {tb : Addr × Str}
-- 0 many, 1 found, 2 level, 3 longer, 4 chosen, 5 least, 6 index
abbrev N_choices : List Str := ["many", "found", "level", "longer", "chosen", "least", "index"]
theorem sc_choices : FnScope N_choices ["many"] (defScope s_choices) := C8.fnScope_by (by decide +kernel)
def spChs (tb : Addr × Str) : Sp := fun vs H Q _ => ∃ (G : Hp) (many : Nat), vs = [.int (many : Int)] ∧ Vw tb G H ∧ many ≤ 3 ∧ Ret tb no G H (fun G' u => At G' u (.list ((chs many).map cD))) Q
theorem ok_choices (D0 : DefAt K mg "choices" s_choices) (T : Txt K mg C L) : C8.Cal P w K mg base 1 "choices" (spChs tb) [] := by
  refine D0.cal (N := N_choices) (ps := ["many"]) (fun _ _ _ _ _ _ us hl => match us, hl with | [_], _ => rfl) sc_choices (fun vs H Q E h => ?_) (fun f cdv A outer st H vs Q E hr h => ?_)
  · obtain ⟨G, many, rfl, _⟩ := h
    rfl
  · obtain ⟨G, many, rfl, g, hm, k⟩ := h
    refine ⟨_, (pss_cons (ps_set (i := 1) sc_choices.nd rfl (Or.inl rfl) (pe_lst pa_nil))
  (pss_cons (ps_set (i := 2) sc_choices.nd rfl (Or.inl rfl) (pe_lst (pa_cons (pe_lst pa_nil) pa_nil)))
  (pss_cons (ps_while PassesOwn.never (pt_cmpR op_gt (pe_callB call_len (by rfl) T.len PySem.boot_len (pa_cons (pv 2) pa_nil)) pe_int (nomark _))
  (pss_cons (ps_expr (pe_bm PySem.F.plainAttrs_list PySem.F.slot_list_extend PySem.F.type_list_extend mt_extend (pv 1) (pa_cons (pv 2) pa_nil)))
  (pss_cons (ps_set (i := 3) sc_choices.nd rfl (Or.inl rfl) (pe_lst pa_nil))
  (pss_cons (ps_for PassesOwn.never rfl (pi_list (pv 2)) (pg_name (i := 4) sc_choices.nd rfl (Or.inl rfl))
  (pss_cons (ps_set (i := 5) sc_choices.nd rfl (Or.inl rfl) pe_int)
  (C8.pss_cut (ps_if (pt_cmpR op_gt (pe_callB call_len (by rfl) T.len PySem.boot_len (pa_cons (pv 4) pa_nil)) pe_int (nomark _)) (pss_one (ps_set (i := 5) sc_choices.nd rfl (Or.inl rfl) (pe_op op_add (pe_ix ix_list (pv 4) (pe_un un_neg pe_int) (fun _ _ => rfl)) pe_int))) pss_nil)
  (pss_one (ps_for PassesOwn.never rfl (pi_range2 rfl T.range (pa_cons (pv 5) (pa_cons (pv 0) pa_nil))) (pg_name (i := 6) sc_choices.nd rfl (Or.inl rfl))
  (pss_one (ps_expr (pe_bm PySem.F.plainAttrs_list PySem.F.slot_list_append PySem.F.type_list_append mt_append (pv 3) (pa_cons (pe_op op_cat (pv 4) (pe_lst (pa_cons (pv 6) pa_nil))) pa_nil)))))))))
  (pss_one (ps_set (i := 2) sc_choices.nd rfl (Or.inl rfl) (pv 3)))))))
  (pss_one (ps_ret (pv 1)))))), ?_⟩
    -- found = []; level = [[]]
    refine ⟨len0, fun F hF => ?_⟩
    have g1 := (Go.refl (M := no) g).new (o := .lst []) hF
    have nF := (Go.refl (M := no) g).fresh hF
    have gF0 : G F = none := g.gh.free hF
    refine ⟨len0, fun q hq => ⟨len1, fun l hl => ?_⟩⟩
    obtain ⟨g2, s2, e2⟩ := g1.lst hq []
    have hF2 : upd (upd H F (.lst [])) q (.lst []) F = some (.lst []) := by rw [upd_ne (ne_of_none upd_same hq)]; exact upd_same
    have gF2 : upd G q (.lst []) F = none := by rw [upd_ne (ne_of_none upd_same hq)]; exact gF0
    obtain ⟨g3, s3, e3⟩ := g2.lst hl [.ref q]
    refine ⟨fun m σ H' => ∃ (k : Nat) (G' : Hp) (l : Addr) (fs ls : List V) (o3 o4 o5 o6 : Option V), m = many + 1 - k ∧ k ≤ many + 1 ∧ σ = [some (.int (many : Int)), some (.ref F), some (.ref l), o3, o4, o5, o6] ∧ Go tb no G H G' H' ∧ G' F = none ∧ H' F = some (.lst fs) ∧ AtAll G' fs ((upl many k).map cD) ∧ G' l = some (.lst ls) ∧ AtAll G' ls ((lv many k).map cD), ?_, ?_⟩
    · refine ⟨_, 0, _, l, [], [.ref q], none, none, none, none, rfl, Nat.zero_le _, rfl, g3, ?_, ?_, .nil, e3, .cons (At.ofCho (c := []) (s3 _ _ e2)) .nil⟩
      · rw [upd_ne (ne_of_none hF2 hl)]; exact gF2
      · rw [upd_ne (ne_of_none hF2 hl)]; exact hF2
    rintro m σ H3 ⟨kk, G3, l, fs, ls, o3, o4, o5, o6, rfl, hk, rfl, g3, gF, hF3, hfs, hl3, hls⟩
    have hll : ls.length = (lv many kk).length := hls.mapLen
    have hfl : fs.length = (upl many kk).length := hfs.mapLen
    obtain ⟨b1, b2⟩ := up_small (many := many) (k := kk) hm (by omega)
    refine ⟨_, rfl, _, ls.length, rfl, .inl ⟨_, SqL.of (g3.gh _ _ hl3), rfl⟩, _, _, rfl, rfl, ?_⟩
    by_cases h0 : (lv many kk).length = 0
    · refine ⟨false, blF (by rw [hll, h0]; decide), iteF ?_⟩
      -- return found
      have e0 : lv many kk = [] := List.length_eq_zero_iff.mp h0
      refine ⟨_, rfl, k _ _ _ (g3.freeze hF3 trivial nF gF) (.lst upd_same ?_)⟩
      rw [← upl_chs e0 hk]
      exact AtAll.mono (same_upd gF) _ hfs
    · have hk2 : kk ≤ many := by
        rcases Nat.lt_or_eq_of_le hk with z | z
        · omega
        · rw [z, lv_end] at h0; exact absurd rfl h0
      refine ⟨true, blT (by rw [hll]; omega), iteT ⟨fun σ' H' => ∃ (G' : Hp) (l : Addr) (fs ls : List V) (o3 o4 o5 o6 : Option V), σ' = [some (.int (many : Int)), some (.ref F), some (.ref l), o3, o4, o5, o6] ∧ Go tb no G H G' H' ∧ G' F = none ∧ H' F = some (.lst fs) ∧ AtAll G' fs ((upl many (kk + 1)).map cD) ∧ G' l = some (.lst ls) ∧ AtAll G' ls ((lv many (kk + 1)).map cD), ?_, ?_⟩⟩
      · rintro σ' H' ⟨G', l', fs', ls', p3, p4, p5, p6, h⟩
        exact ⟨many + 1 - (kk + 1), by omega, kk + 1, G', l', fs', ls', p3, p4, p5, p6, rfl, by omega, h⟩
      -- found.extend(level)
      refine ⟨_, rfl, .inl ⟨rfl, _, SqL.of hF3⟩, _, rfl, F, l, fs, ls, rfl, rfl, hF3, g3.gh _ _ hl3, Nat.le_of_lt (le_line (by omega)), ?_⟩
      have g4 := g3.put (o' := .lst (fs ++ ls)) hF3 trivial (.inl nF) gF trivial
      have hF4 : upd H3 F (.lst (fs ++ ls)) F = some (.lst (fs ++ ls)) := upd_same
      generalize upd H3 F (.lst (fs ++ ls)) = H4 at g4 hF4 ⊢
      have hfs4 : AtAll G3 (fs ++ ls) ((upl many (kk + 1)).map cD) := by rw [upl_succ, List.map_append]; exact hfs.app hls
      -- longer = []
      refine ⟨len0, fun D hD => ?_⟩
      have nD := g4.fresh hD
      have gD : G3 D = none := g4.gh.free hD
      have FD : F ≠ D := ne_of_none hF4 hD
      have g5 := g4.new (o := .lst []) hD
      -- for chosen in level
      refine ⟨_, rfl, l, rfl, ⟨_, SqL.of (g5.gh _ _ hl3)⟩, for_list (K := K) (a := l) (xs := ls) (fun i σ H' => ∃ (G' : Hp) (zs : List V) (o4 o5 o6 : Option V), σ = [some (.int (many : Int)), some (.ref F), some (.ref l), some (.ref D), o4, o5, o6] ∧ Go tb no G H G' H' ∧ Same G3 G' ∧ G' F = none ∧ G' D = none ∧ H' F = some (.lst (fs ++ ls)) ∧ H' D = some (.lst zs) ∧ zs.length ≤ 3 * i ∧ AtAll G' zs ((((lv many kk).take i).flatMap (ext many)).map cD))
        ⟨G3, [], o4, o5, o6, rfl, g5, fun _ _ e => e, gF, gD, by rw [upd_ne FD]; exact hF4, upd_same, Nat.le_refl _, .nil⟩ (fun i σ H' _ ⟨_, _, _, _, _, _, z, z2, _⟩ => SqL.of (z.gh _ _ (z2 _ _ hl3))) ?_ ?_⟩
      · rintro i y σ H5 hy ⟨G5, zs, o4, o5, o6, rfl, gg, sg, gF5, gD5, hF5, hD5, hzl, hzs⟩
        obtain ⟨c, hci, hay⟩ := hls.mapAt hy
        obtain ⟨t, rfl, ht⟩ := (At.mono sg _ hay).cho
        have pc := lv_cho many kk c (List.mem_of_getElem? hci)
        have hi : i < (lv many kk).length := (List.getElem?_eq_some_iff.mp hci).1
        -- least
        refine ⟨fun σ' H' => H' = H5 ∧ σ' = [some (.int (many : Int)), some (.ref F), some (.ref l), some (.ref D), some (.ref t), some (.int (lea c : Nat)), o6], ?_, ?_⟩
        · refine ⟨_, rfl, _, (cV c).length, rfl, .inl ⟨_, SqL.of (gg.gh _ _ ht), rfl⟩, _, _, rfl, rfl, ?_⟩
          rcases List.eq_nil_or_concat c with rfl | ⟨d, j, rfl⟩
          · exact ⟨false, blF (by decide), iteF ⟨rfl, rfl⟩⟩
          · rw [List.concat_eq_append] at *
            refine ⟨true, blT (by rw [cV_snoc, List.length_append, List.length_singleton]; omega), iteT ⟨_, rfl, _, rfl, t, _, _, _, rfl, rfl, SqL.of (gg.gh _ _ ht), by rw [cV_snoc]; exact atI_last _ _, _, _, rfl, rfl, rfl, ?_⟩⟩
            rw [lea_snoc]; rfl
        rintro σ' H' ⟨rfl, rfl⟩
        -- for index in range(least, many)
        have hle := pc.le
        refine ⟨_, rfl, _, rfl, _, _, rfl, ⟨by omega, by omega, by omega, by omega⟩, ?_⟩
        refine for_range (lo := (lea c : Nat)) (n := ((many : Int) - (lea c : Nat)).toNat) (fun j σ H' => ∃ (G' : Hp) (zs : List V) (o6 : Option V), σ = [some (.int (many : Int)), some (.ref F), some (.ref l), some (.ref D), some (.ref t), some (.int (lea c : Nat)), o6] ∧ Go tb no G H G' H' ∧ Same G5 G' ∧ G' F = none ∧ G' D = none ∧ H' F = some (.lst (fs ++ ls)) ∧ H' D = some (.lst zs) ∧ zs.length ≤ 3 * i + j ∧
            AtAll G' zs ((((lv many kk).take i).flatMap (ext many) ++ (List.range j).map fun j => c ++ [lea c + j]).map cD))
          ⟨G5, zs, o6, rfl, gg, fun _ _ e => e, gF5, gD5, hF5, hD5, hzl, by simpa using hzs⟩ ?_ ?_
        · rintro j σ H6 hj ⟨G6, zs, o6, rfl, gg, sg6, gF6, gD6, hF6, hD6, hzl, hzs⟩
          have ej : ((lea c : Nat) : Int) + (j : Int) = ((lea c + j : Nat) : Int) := by omega
          rw [ej]
          -- longer.append(chosen + [index])
          refine ⟨_, rfl, .inl ⟨rfl, _, SqL.of hD6⟩, _, rfl, _, rfl, len1, fun q hq => ?_⟩
          have g7 := gg.new (o := .lst [.int ((lea c + j : Nat) : Int)]) hq
          have hD7 : upd H6 q (.lst [.int ((lea c + j : Nat) : Int)]) D = some (.lst zs) := by rw [upd_ne (ne_of_none hD6 hq)]; exact hD6
          have hF7 : upd H6 q (.lst [.int ((lea c + j : Nat) : Int)]) F = some (.lst (fs ++ ls)) := by rw [upd_ne (ne_of_none hF6 hq)]; exact hF6
          have cl : (cV c).length = kk := by unfold cV; rw [List.length_map, pc.len]
          refine ⟨t, q, cV c, _, rfl, rfl, g7.gh _ _ (sg6 _ _ ht), upd_same, Nat.le_of_lt (le_line (by rw [cl, List.length_singleton]; omega)), fun r hr' => ?_⟩
          obtain ⟨g8, s8, e8⟩ := g7.lst hr' (cV (c ++ [lea c + j]))
          rw [← cV_snoc]
          have hD8 : upd (upd H6 q (.lst [.int ((lea c + j : Nat) : Int)])) r (.lst (cV (c ++ [lea c + j]))) D = some (.lst zs) := by rw [upd_ne (ne_of_none hD7 hr')]; exact hD7
          have gD8 : upd G6 r (.lst (cV (c ++ [lea c + j]))) D = none := by rw [upd_ne (ne_of_none hD7 hr')]; exact gD6
          refine ⟨D, zs, _, rfl, rfl, hD8, le_line (by omega), ?_⟩
          refine ⟨_, zs ++ [.ref r], _, rfl, g8.put hD8 trivial (.inl nD) gD8 trivial, fun b o e => s8 _ _ (sg6 _ _ e), ?_, gD8, ?_, upd_same, by rw [List.length_append, List.length_singleton]; omega, ?_⟩
          · rw [upd_ne (ne_of_none hF7 hr')]; exact gF6
          · rw [upd_ne FD, upd_ne (ne_of_none hF7 hr')]; exact hF7
          · have ez : ∀ (A : List (List Nat)) (f : Nat → List Nat), A ++ (List.range (j + 1)).map f = (A ++ (List.range j).map f) ++ [f j] := fun A f => by rw [List.range_succ, List.map_append, ← List.append_assoc]; rfl
            rw [ez, List.map_append]
            exact (AtAll.mono s8 _ hzs).snoc (At.ofCho e8)
        · rintro σ H6 ⟨G6, zs, o6, rfl, gg, sg6, gF6, gD6, hF6, hD6, hzl, hzs⟩
          refine ⟨G6, zs, _, _, _, rfl, gg, fun b o e => sg6 _ _ (sg _ _ e), gF6, gD6, hF6, hD6, by omega, ?_⟩
          have en : ((many : Int) - ((lea c : Nat) : Int)).toNat = many - lea c := by omega
          rw [en] at hzs
          rw [take_snoc hci, List.flatMap_append]
          have e1 : [c].flatMap (ext many) = (List.range (many - lea c)).map fun j => c ++ [lea c + j] := by simp [ext]
          rw [e1]
          exact hzs
      · rintro σ H5 ⟨G5, zs, o4, o5, o6, rfl, gg, sg, gF5, gD5, hF5, hD5, hzl, hzs⟩
        rw [hll, List.take_length] at hzs
        refine ⟨_, rfl, _, D, fs ++ ls, zs, _, _, _, _, rfl, gg.freeze hD5 trivial nD gD5, by rw [upd_ne FD]; exact gF5, hF5, ?_, upd_same, ?_⟩
        · exact AtAll.mono (fun b o e => same_upd gD5 b o (sg _ _ e)) _ hfs4
        · exact AtAll.mono (same_upd gD5) _ hzs
end
end Sand

set_option Elab.async false
set_option linter.all false
set_option maxRecDepth 100000
set_option maxHeartbeats 4000000
namespace Sand
open PySem PySem.Spec PyProof.Rows L2
/-! ### the chosen mirrors, the choices that fit -/
def sub (ms : List Mir) (c : List Nat) : List Mir := c.map fun i => ms.getD i (0, 0, true)
def Val (n : Nat) (c : List Nat) : Prop := c.Nodup ∧ ∀ i, i ∈ c → i < n
theorem Cho.val {many k : Nat} {c : List Nat} (h : Cho many k c) : Val many c := ⟨h.nd, fun i hi => Nat.lt_of_lt_of_le (h.lt i hi) h.le⟩
theorem chs_val {many : Nat} {c : List Nat} (h : c ∈ chs many) : Val many c := (chs_cho h).elim fun _ p => p.val
theorem getD_of {ms : List Mir} {i : Nat} {m : Mir} (h : ms[i]? = some m) : ms.getD i (0, 0, true) = m := by rw [List.getD_eq_getElem?_getD, h]; rfl
theorem sub_get {ms : List Mir} {c : List Nat} {i j : Nat} {m : Mir} (h1 : c[j]? = some i) (h2 : ms[i]? = some m) : (sub ms c)[j]? = some m := by
  unfold sub
  rw [List.getElem?_map, h1]
  show some (ms.getD i (0, 0, true)) = some m
  rw [getD_of h2]
theorem sub_take (ms : List Mir) (c : List Nat) (j : Nat) : sub ms (c.take j) = (sub ms c).take j := by unfold sub; rw [List.map_take]
theorem sub_mem {ms : List Mir} {c : List Nat} {m : Mir} (hv : ∀ i, i ∈ c → i < ms.length) (h : m ∈ sub ms c) : m ∈ ms := by
  obtain ⟨i, hi, rfl⟩ := List.mem_map.mp h
  have := hv i hi
  rw [getD_of (List.getElem?_eq_getElem this)]
  exact List.getElem_mem this
theorem nodup_on {α β : Type} {f : α → β} : ∀ {l : List α}, l.Nodup → (∀ a, a ∈ l → ∀ b, b ∈ l → f a = f b → a = b) → (l.map f).Nodup
  | [], _, _ => List.nodup_nil
  | a :: l, h, hf => by
    obtain ⟨h1, h2⟩ := List.nodup_cons.mp h
    refine List.nodup_cons.mpr ⟨fun z => ?_, nodup_on h2 fun b hb c hc => hf b (List.mem_cons_of_mem _ hb) c (List.mem_cons_of_mem _ hc)⟩
    obtain ⟨b, hb, e⟩ := List.mem_map.mp z
    exact h1 (hf _ (List.mem_cons_of_mem _ hb) _ (List.mem_cons_self ..) e ▸ hb)
theorem Free.sub {B : Bd} {ms : List Mir} {c : List Nat} (h : Free B ms) (hv : Val ms.length c) : Free B (Sand.sub ms c) := by
  refine ⟨?_, fun m hm => h.ins m (sub_mem hv.2 hm), fun m hm => h.no m (sub_mem hv.2 hm)⟩
  unfold Plcs Sand.sub
  rw [List.map_map]
  refine nodup_on hv.1 fun i hi j hj e => ?_
  have hil := hv.2 i hi
  have hjl := hv.2 j hj
  have nd := h.nd
  unfold Plcs at nd
  have e1 : (ms.map fun m => (m.1, m.2.1))[i]? = (ms.map fun m => (m.1, m.2.1))[j]? := by
    rw [List.getElem?_map, List.getElem?_map, List.getElem?_eq_getElem hil, List.getElem?_eq_getElem hjl]
    have e2 : ((ms.getD i (0, 0, true)).1, (ms.getD i (0, 0, true)).2.1) = ((ms.getD j (0, 0, true)).1, (ms.getD j (0, 0, true)).2.1) := e
    rw [getD_of (List.getElem?_eq_getElem hil), getD_of (List.getElem?_eq_getElem hjl)] at e2
    exact congrArg some e2
  exact (List.getElem?_inj (by rw [List.length_map]; exact hil) nd).mp e1
def FitC (B : Bd) (ms : List Mir) (ls : List Look) (c : List Nat) : Prop := ∀ l, l ∈ ls → Okl (grow B (sub ms c)) l
open Classical in
noncomputable def fitIn (B : Bd) (ms : List Mir) (ls : List Look) (l : List (List Nat)) : List (List Nat) := l.filter fun c => decide (FitC B ms ls c)
noncomputable def fitL (B : Bd) (ms : List Mir) (ls : List Look) : List (List Nat) := fitIn B ms ls (chs ms.length)
theorem fitIn_yes {B : Bd} {ms : List Mir} {ls : List Look} {l : List (List Nat)} {c : List Nat} (h : FitC B ms ls c) : fitIn B ms ls (l ++ [c]) = fitIn B ms ls l ++ [c] := by
  unfold fitIn; rw [List.filter_append]; simp [h]
theorem fitIn_no {B : Bd} {ms : List Mir} {ls : List Look} {l : List (List Nat)} {c : List Nat} (h : ¬ FitC B ms ls c) : fitIn B ms ls (l ++ [c]) = fitIn B ms ls l := by
  unfold fitIn; rw [List.filter_append]; simp [h]
theorem fitIn_len (B : Bd) (ms : List Mir) (ls : List Look) (l : List (List Nat)) : (fitIn B ms ls l).length ≤ l.length := List.length_filter_le ..
/-- of each choice that fits: itself, the number of threads, their indexes -/
def FbOne (G : Hp) (B : Bd) (ms : List Mir) (v : V) (c : List Nat) : Prop := ∃ a x d, v = .ref a ∧ G a = some (.tup [x, .int (num (grow B (sub ms c)) : Nat), .ref d]) ∧ At G x (cD c) ∧ IdxAt G d (grow B (sub ms c))
def FbAll (G : Hp) (B : Bd) (ms : List Mir) : List V → List (List Nat) → Prop
  | [], [] => True
  | v :: vs, c :: cs => FbOne G B ms v c ∧ FbAll G B ms vs cs
  | _, _ => False
theorem FbOne.mono {G G' : Hp} {B : Bd} {ms : List Mir} {v : V} {c : List Nat} (s : Same G G') (h : FbOne G B ms v c) : FbOne G' B ms v c := by
  obtain ⟨a, x, d, e, h1, h2, h3⟩ := h
  exact ⟨a, x, d, e, s _ _ h1, At.mono s _ h2, h3.mono s⟩
theorem FbAll.mono {G G' : Hp} {B : Bd} {ms : List Mir} (s : Same G G') : ∀ {vs : List V} {cs : List (List Nat)}, FbAll G B ms vs cs → FbAll G' B ms vs cs
  | [], [], _ => trivial
  | v :: vs, c :: cs, h => ⟨h.1.mono s, FbAll.mono s h.2⟩
  | [], _ :: _, h => h.elim
  | _ :: _, [], h => h.elim
theorem FbAll.len {G : Hp} {B : Bd} {ms : List Mir} : ∀ {vs : List V} {cs : List (List Nat)}, FbAll G B ms vs cs → vs.length = cs.length
  | [], [], _ => rfl
  | v :: vs, c :: cs, h => by rw [List.length_cons, List.length_cons, FbAll.len h.2]
  | [], _ :: _, h => h.elim
  | _ :: _, [], h => h.elim
theorem FbAll.snoc {G : Hp} {B : Bd} {ms : List Mir} {v : V} {c : List Nat} (hv : FbOne G B ms v c) : ∀ {vs : List V} {cs : List (List Nat)}, FbAll G B ms vs cs → FbAll G B ms (vs ++ [v]) (cs ++ [c])
  | [], [], _ => ⟨hv, trivial⟩
  | w :: vs, d :: cs, h => ⟨h.1, FbAll.snoc hv h.2⟩
  | [], _ :: _, h => h.elim
  | _ :: _, [], h => h.elim
theorem FbAll.get {G : Hp} {B : Bd} {ms : List Mir} : ∀ {vs : List V} {cs : List (List Nat)} {i : Nat} {v : V}, FbAll G B ms vs cs → vs[i]? = some v → ∃ c, cs[i]? = some c ∧ FbOne G B ms v c
  | [], [], _, _, _, e => by simp at e
  | w :: vs, c :: cs, 0, v, h, e => by simp at e; subst e; exact ⟨c, rfl, h.1⟩
  | w :: vs, c :: cs, i + 1, v, h, e => by
    obtain ⟨d, e1, e2⟩ := FbAll.get h.2 (by simpa using e)
    exact ⟨d, by simpa using e1, e2⟩
  | [], _ :: _, _, _, h, _ => h.elim
  | _ :: _, [], _, _, h, _ => h.elim
theorem atI_nat {α : Type} {xs : List α} {k : Nat} {v : α} (h : xs[k]? = some v) : atI xs (k : Int) = some v := by
  have hk : k < xs.length := (List.getElem?_eq_some_iff.mp h).1
  unfold atI ixN
  rw [if_pos (by omega), if_pos (by omega)]
  show xs[((k : Int)).toNat]? = some v
  rw [Int.toNat_natCast]; exact h
section
variable {P : Program} {w : World} {K : PySem.W.Frag} {mg : Str → Option Value} {base : Heap} {C L : Addr} {tb : Addr × Str}
-- 0 board, 1 offered, 2 looks, 3 found, 4 chosen, 5 grown, 6 index, 7 x, 8 y, 9 kind, 10 number, 11 indexes
abbrev N_fitting_boards : List Str := ["board", "offered", "looks", "found", "chosen", "grown", "index", "x", "y", "kind", "number", "indexes"]
theorem sc_fitting_boards : FnScope N_fitting_boards ["board", "offered", "looks"] (defScope s_fitting_boards) := C8.fnScope_by (by decide +kernel)
/-- what is asked of board, mirrors, looks -/
structure Asked (C : Addr) (G : Hp) (p : Addr) (v w : V) (B : Bd) (n : Nat) (ms : List Mir) (ls : List Look) : Prop where
  b : BoardAt C G p B n
  m : At G v (.list (ms.map mD))
  l : At G w (.list (ls.map lkD))
  f : Free B ms
  o : ∀ l, l ∈ ls → On B l.1 ∧ On B l.2.1
  n : n + ms.length ≤ 900
  s : ms.length ≤ 3
theorem Asked.mono {G G' : Hp} {p : Addr} {v w : V} {B : Bd} {n : Nat} {ms : List Mir} {ls : List Look} (s : Same G G') (h : Asked C G p v w B n ms ls) : Asked C G' p v w B n ms ls := ⟨h.b.mono s, At.mono s _ h.m, At.mono s _ h.l, h.f, h.o, h.n, h.s⟩
theorem on_grow {B : Bd} {ms : List Mir} {s : Pt} : On (grow B ms) s ↔ On B s := by
  obtain ⟨e1, e2⟩ := grow_w B ms
  unfold On; rw [e1, e2]
def spFb (tb : Addr × Str) (C : Addr) : Sp := fun vs H Q _ => ∃ (G : Hp) (p : Addr) (v w : V) (B : Bd) (n : Nat) (ms : List Mir) (ls : List Look), vs = [.ref p, v, w] ∧ Vw tb G H ∧ Asked C G p v w B n ms ls ∧
  Ret tb no G H (fun G' u => ∃ l xs, u = .ref l ∧ G' l = some (.lst xs) ∧ FbAll G' B ms xs (fitL B ms ls)) Q
theorem ok_fitting_boards (D0 : DefAt K mg "fitting_boards" s_fitting_boards) (T : Txt K mg C L) (c_choices : C8.Cal P w K mg base 1 "choices" (spChs tb) []) (c_with_mirror : C8.Met P w K mg base 6 C "with_mirror" (spWith tb C) [])
    (c_thread_indexes : C8.Cal P w K mg base 11 "thread_indexes" (spIdx tb C) []) (c_agrees : C8.Cal P w K mg base 1 "agrees" spAgr []) : C8.Cal P w K mg base 12 "fitting_boards" (spFb tb C) [] := by
  refine D0.cal (N := N_fitting_boards) (ps := ["board", "offered", "looks"]) (fun _ _ _ _ _ _ us hl => match us, hl with | [_, _, _], _ => rfl) sc_fitting_boards (fun vs H Q E h => ?_) (fun f cdv A outer st H vs Q E hr h => ?_)
  · obtain ⟨G, p, v, w, B, n, ms, ls, rfl, _⟩ := h
    rfl
  · obtain ⟨G, p, v, w', B, n, ms, ls, rfl, g, hA, k⟩ := h
    obtain ⟨lo, ys, rfl, hlo, hys⟩ := At.lst_ hA.m
    have eyl : ys.length = ms.length := hys.mapLen
    refine ⟨_, (pss_cons (ps_set (i := 3) sc_fitting_boards.nd rfl (Or.inl rfl) (pe_lst pa_nil))
  (pss_cons (ps_for PassesOwn.never rfl (pi_list (C8.pe_c c_choices hr (by decide) rfl (pa_cons (pe_callB call_len (by rfl) T.len PySem.boot_len (pa_cons (pv 1) pa_nil)) pa_nil))) (pg_name (i := 4) sc_fitting_boards.nd rfl (Or.inl rfl))
  (pss_cons (ps_set (i := 5) sc_fitting_boards.nd rfl (Or.inl rfl) (pv 0))
  (pss_cons (ps_for PassesOwn.never rfl (pi_list (pv 4)) (pg_name (i := 6) sc_fitting_boards.nd rfl (Or.inl rfl))
  (pss_cons (ps_asg (pe_ix ix_list (pv 1) (pv 6) (fun _ _ => rfl)) (pg_tup rfl (pgs_cons (pg_name (i := 7) sc_fitting_boards.nd rfl (Or.inl rfl)) (pgs_cons (pg_name (i := 8) sc_fitting_boards.nd rfl (Or.inl rfl)) (pgs_cons (pg_name (i := 9) sc_fitting_boards.nd rfl (Or.inl rfl)) pgs_nil)))))
  (pss_one (ps_set (i := 5) sc_fitting_boards.nd rfl (Or.inl rfl) (C8.pe_mt c_with_mirror hr (by decide) (pv 5) (pa_cons (pv 7) (pa_cons (pv 8) (pa_cons (pv 9) pa_nil))))))))
  (pss_cons (ps_asg (C8.pe_c c_thread_indexes hr (by decide) rfl (pa_cons (pv 5) pa_nil)) (pg_tup rfl (pgs_cons (pg_name (i := 10) sc_fitting_boards.nd rfl (Or.inl rfl)) (pgs_cons (pg_name (i := 11) sc_fitting_boards.nd rfl (Or.inl rfl)) pgs_nil))))
  (pss_one (ps_if (pt_val (C8.pe_c c_agrees hr (by decide) rfl (pa_cons (pv 11) (pa_cons (pv 2) pa_nil)))) (pss_one (ps_expr (pe_bm PySem.F.plainAttrs_list PySem.F.slot_list_append PySem.F.type_list_append mt_append (pv 3) (pa_cons (pe_tup (pa_cons (pv 4) (pa_cons (pv 10) (pa_cons (pv 11) pa_nil)))) pa_nil)))) pss_nil))))))
  (pss_one (ps_ret (pv 3))))), ?_⟩
    refine ⟨len0, fun F hF => ?_⟩
    have g1 := (Go.refl (M := no) g).new (o := .lst []) hF
    have nF := (Go.refl (M := no) g).fresh hF
    have gF0 : G F = none := g.gh.free hF
    refine ⟨_, rfl, _, ys.length, rfl, .inl ⟨_, SqL.of (g1.gh _ _ hlo), rfl⟩, G, ms.length, by rw [eyl]; rfl, g1.vw, hA.s, fun G1 H1 u g1' hu => ?_⟩
    obtain ⟨l, cs, rfl, hl, hcs⟩ := At.lst_ hu
    have g2 := g1.trans g1'
    have hF2 : H1 F = some (.lst []) := g1'.loc upd_same trivial id
    have gF2 : G1 F = none := g1'.out upd_same trivial gF0
    have csl : cs.length = (chs ms.length).length := hcs.mapLen
    have b8 : (chs ms.length).length ≤ 8 := (up_small (many := ms.length) (k := ms.length + 1) hA.s (by have := hA.s; omega)).1
    refine ⟨l, rfl, ⟨_, SqL.of (g2.gh _ _ hl)⟩, for_list (K := K) (a := l) (xs := cs) (fun i σ H' => ∃ (G' : Hp) (zs : List V) (o4 o5 o6 o7 o8 o9 o10 o11 : Option V), σ = [some (.ref p), some (.ref lo), some w', some (.ref F), o4, o5, o6, o7, o8, o9, o10, o11] ∧ Go tb no G H G' H' ∧ Same G1 G' ∧ G' F = none ∧ H' F = some (.lst zs) ∧ FbAll G' B ms zs (fitIn B ms ls ((chs ms.length).take i)))
      ⟨G1, [], none, none, none, none, none, none, none, none, rfl, g2, fun _ _ e => e, gF2, hF2, trivial⟩ (fun i σ H' _ ⟨_, _, _, _, _, _, _, _, _, _, _, z, z2, _⟩ => SqL.of (z.gh _ _ (z2 _ _ hl))) ?_ ?_⟩
    · rintro i y σ H2 hy ⟨G2, zs, o4, o5, o6, o7, o8, o9, o10, o11, rfl, gg, sg, gF, hF3, hzs⟩
      obtain ⟨c, hci, hay⟩ := hcs.mapAt hy
      obtain ⟨t, rfl, ht⟩ := (At.mono sg _ hay).cho
      have hval := chs_val (List.mem_of_getElem? hci)
      have hFs := hA.f.sub hval
      have hi : i < (chs ms.length).length := (List.getElem?_eq_some_iff.mp hci).1
      have hclen : c.length ≤ ms.length := by
        obtain ⟨k', p'⟩ := chs_cho (List.mem_of_getElem? hci)
        have := p'.len; have := p'.kl; have := p'.le; have := hA.s
        omega
      have hA2 := hA.mono gg.gg
      -- grown = board; for index in chosen
      refine ⟨_, rfl, _, rfl, t, rfl, ⟨_, SqL.of (gg.gh _ _ ht)⟩, for_list (K := K) (a := t) (xs := cV c) (fun j σ H' => ∃ (G' : Hp) (q : Addr) (o6 o7 o8 o9 : Option V), σ = [some (.ref p), some (.ref lo), some w', some (.ref F), some (.ref t), some (.ref q), o6, o7, o8, o9, o10, o11] ∧ Go tb no G H G' H' ∧ Same G2 G' ∧ G' F = none ∧ H' F = some (.lst zs) ∧ BoardAt C G' q (grow B (sub ms (c.take j))) (n + j))
        ⟨G2, p, o6, o7, o8, o9, rfl, gg, fun _ _ e => e, gF, hF3, hA2.b⟩ (fun j σ H' _ ⟨_, _, _, _, _, _, _, z, z2, _⟩ => SqL.of (z.gh _ _ (z2 _ _ ht))) ?_ ?_⟩
      · rintro j y σ H4 hy ⟨G4, q, o6, o7, o8, o9, rfl, gg4, sg4, gF4, hF4, hq⟩
        unfold cV at hy
        rw [List.getElem?_map] at hy
        obtain ⟨ix, hix, rfl⟩ : ∃ ix, c[j]? = some ix ∧ V.int (ix : Int) = y := by
          cases e : c[j]? with
          | none => rw [e] at hy; cases hy
          | some ix => rw [e] at hy; exact ⟨ix, rfl, Option.some.inj hy⟩
        have hjc : j < c.length := (List.getElem?_eq_some_iff.mp hix).1
        have hixl : ix < ys.length := by rw [eyl]; exact hval.2 ix (List.mem_of_getElem? hix)
        obtain ⟨m, hmi, hay⟩ := hys.mapAt (List.getElem?_eq_getElem hixl)
        obtain ⟨tm, etm, htm⟩ := (At.mono gg4.gg _ hay).mir
        obtain ⟨dq, _, _, hq1, _⟩ := hq.parts
        -- x, y, kind = offered[index]
        refine ⟨_, rfl, _, rfl, lo, ys, _, _, rfl, rfl, SqL.of (gg4.gh _ _ (gg4.gg _ _ hlo)), atI_nat (List.getElem?_eq_getElem hixl), tm, _, etm, SqT.of (gg4.gh _ _ htm), rfl, _, _, rfl, _, _, rfl, _, _, rfl, rfl, ?_⟩
        have hst := hFs.step (sub_get hix hmi)
        rw [← sub_take] at hst
        refine ⟨_, rfl, q, dq, _, rfl, gg4.gh _ _ hq1, bF_no _ _ _ (by decide +kernel) (by decide +kernel) (by decide +kernel), _, rfl, _, rfl, _, rfl, G4, q, _, n + j, m, rfl, gg4.vw, hq, hst.1, hst.2, by have := hA.n; omega, fun G5 H5 u g5 ⟨q2, eu, hq2⟩ => ?_⟩
        subst eu
        refine ⟨G5, q2, _, _, _, _, rfl, gg4.trans g5, fun b o e => g5.gg _ _ (sg4 _ _ e), g5.out hF4 trivial gF4, g5.loc hF4 trivial id, ?_⟩
        rw [sub_take, take_snoc (sub_get hix hmi), grow_snoc, ← sub_take]
        exact hq2
      · rintro σ H4 ⟨G4, q, o6, o7, o8, o9, rfl, gg4, sg4, gF4, hF4, hq⟩
        have ecl : (cV c).length = c.length := by unfold cV; rw [List.length_map]
        rw [ecl, List.take_length] at hq
        have hA4 := hA.mono gg4.gg
        -- number, indexes = thread_indexes(grown)
        refine ⟨_, rfl, G4, q, _, n + c.length, rfl, gg4.vw, hq, fun G5 H5 u g5 ⟨a5, d5, eu, ha5, hd5⟩ => ?_⟩
        subst eu
        have g6 := gg4.trans g5
        have hF5 := g5.loc hF4 trivial id
        have gF5 := g5.out hF4 trivial gF4
        refine ⟨a5, _, rfl, SqT.of (g5.gh _ _ ha5), rfl, _, _, rfl, _, _, rfl, rfl, ?_⟩
        -- if agrees(indexes, looks)
        refine ⟨_, rfl, _, rfl, G5, d5, _, w', ls, rfl, g5.gh, hd5, At.mono g5.gg _ hA4.l, fun z hz => ⟨on_grow.mpr (hA.o z hz).1, on_grow.mpr (hA.o z hz).2⟩, fun r hr' => ⟨r, rfl, ?_⟩⟩
        by_cases hfit : FitC B ms ls c
        · have er : r = true := hr'.mpr hfit
          subst er
          refine iteT ?_
          refine ⟨_, rfl, .inl ⟨rfl, _, SqL.of hF5⟩, _, rfl, _, rfl, _, rfl, len3, fun t2 ht2 => ?_⟩
          obtain ⟨g7, s7, e7⟩ := g6.tup ht2 [.ref t, .int (num (grow B (sub ms c)) : Nat), .ref d5]
          have hF6 : upd H5 t2 (.tup [.ref t, .int (num (grow B (sub ms c)) : Nat), .ref d5]) F = some (.lst zs) := by rw [upd_ne (ne_of_none hF5 ht2)]; exact hF5
          have gF6 : upd G5 t2 (.tup [.ref t, .int (num (grow B (sub ms c)) : Nat), .ref d5]) F = none := by rw [upd_ne (ne_of_none hF5 ht2)]; exact gF5
          have szl : zs.length ≤ 8 := by
            have := hzs.len
            have := fitIn_len B ms ls ((chs ms.length).take i)
            rw [List.length_take] at this
            omega
          refine ⟨F, zs, _, rfl, rfl, hF6, le_line (by omega), ?_⟩
          have s57 : Same G2 (upd G5 t2 (.tup [.ref t, .int (num (grow B (sub ms c)) : Nat), .ref d5])) := fun b o e => s7 _ _ (g5.gg _ _ (sg4 _ _ e))
          refine ⟨_, zs ++ [.ref t2], _, _, _, _, _, _, _, _, rfl, g7.put hF6 trivial (.inl nF) gF6 trivial, fun b o e => s57 _ _ (sg _ _ e), gF6, upd_same, ?_⟩
          rw [take_snoc hci, fitIn_yes hfit]
          exact (hzs.mono s57).snoc ⟨t2, _, d5, rfl, e7, At.ofCho (s57 _ _ ht), hd5.mono s7⟩
        · have er : r = false := by
            cases r with
            | false => rfl
            | true => exact absurd (hr'.mp rfl) hfit
          subst er
          refine iteF ?_
          refine ⟨G5, zs, _, _, _, _, _, _, _, _, rfl, g6, fun b o e => g5.gg _ _ (sg4 _ _ (sg _ _ e)), gF5, hF5, ?_⟩
          rw [take_snoc hci, fitIn_no hfit]
          exact hzs.mono fun b o e => g5.gg _ _ (sg4 _ _ e)
    · rintro σ H2 ⟨G2, zs, o4, o5, o6, o7, o8, o9, o10, o11, rfl, gg, sg, gF, hF3, hzs⟩
      rw [csl, List.take_length] at hzs
      exact ⟨_, rfl, k _ _ _ (gg.freeze hF3 trivial nF gF) ⟨F, zs, rfl, upd_same, hzs.mono (same_upd gF)⟩⟩
end
end Sand

set_option Elab.async false
set_option linter.all false
set_option maxRecDepth 100000
set_option maxHeartbeats 4000000
/-! {elt for target in iter} where elt is an int: the new set's members are told by SetO. -/
namespace Sand
open PySem PySem.Spec PyProof.Rows L2
/-- the empty object that a set comprehension starts with -/
abbrev set0 (w : World) : Obj := { cls := .type "set", dict := none, data := .set #[] 0 (.fresh 0 0 (!w.params.followText "set-order")) }
/-- what a turn does with its int -/
def addI (w : World) (D : Addr) (N : Hp → Prop) : VK := fun y H => ∃ (c : Int) (S : Int → Bool) (n : Nat), y = .int c ∧ H D = some (SetO w D S n) ∧ n + 1 < scanBound ∧ N (upd H D (SetO w D (fun j => S j || decide (j = c)) (if S c = true then n else n + 1)))
def tSi (w : World) (wi : TI) (g : TG) (te : TE) (vs : List Nat) : TE := fun σ H Q => wi σ H fun J H1 => ∀ D, H1 D = none → ∃ W : Nat → Nat → Hp → Prop, (∃ m, W 0 m (upd H1 D (SetO w D (fun _ => false) 0))) ∧ ∀ i m H, W i m H →
  (J.stop i H ∧ Q (.ref D) H) ∨ (J.go i H ∧ ∃ N : Hp → Prop, (∀ H', N H' → ∃ m', m' < m ∧ W (i + 1) m' H') ∧ ∀ x H', J.yld i H x H' → g x (wipe σ vs) H' fun σ2 H2 => wipe σ2 vs = wipe σ vs ∧ te σ2 H2 (addI w D N))
section
variable {X : Cx} {elt tg iter : Expr} {scope : Scope} {own : List (Str × Nat)} {pos : Pos} {wi : TI} {g : TG} {te : TE}
theorem si_add {pins : List (Addr × Obj)} {σ : L2.St} {H : Hp} {s : Shared} {E : Value → Shared → Prop} {D : Addr} {y : V} {z : Value} {N : Hp → Prop} {Q : Value → Shared → Prop} (I : Inv X pins σ H s) (r : RelV y z) (h : addI X.w D N y H)
    (k : ∀ s' H', Inv X pins σ H' s' → N H' → Q .none s') : wpAny (model X.prog X.w) X.A (call (.builtin "set.add") [.ref D, z]) Q E s := by
  obtain ⟨c, S, n, rfl, hD, room, nx⟩ := h
  obtain ⟨tk, rfl⟩ := r
  refine setR_add (setO_get I hD) room fun h' sb new => ?_
  have ex : ∃ u, h'.get? D = some u := by
    obtain ⟨o, _, _, _, ho, _⟩ := id new
    exact ⟨o, ho⟩
  exact k _ _ (I.write (e := D) (t' := s.toks + 1) (by rw [hD]; trivial) (.inl rfl) (fun b u hb hu => (sb.2 b hb).trans hu) ex (setO_new new)) nx
theorem pe_si (hc : X.calm = true) (hN : X.N.Nodup) (hi : PI X tg iter wi) (ok : BlkOk X.N X.env.scope scope own)
    (hg : ∀ (s : Shared) (H : Hp) (C : Addr) (cl : List (Str × Addr)) (fp : List Addr), PG (X.blk s H scope (compEnvC scope cl C X.env) fp) tg g)
    (he : ∀ (s : Shared) (H : Hp) (C : Addr) (cl : List (Str × Addr)) (fp : List Addr), PE (X.blk s H scope (compEnvC scope cl C X.env) fp) elt te) (hs : ∀ x, foldedSetIterable iter X.env x = pure x := by intro _; rfl) :
    PE X (.SetComp elt [⟨tg, iter, [], 0⟩] scope pos) (tSi X.w wi g te (own.map (·.2))) := by
  refine ⟨fun pins s σ H Q I h => ?_⟩
  rw [PpSet.eval_SetComp]
  have hfree : ∀ y ∈ scope.names, y.2 = .free → ∃ c, X.env.cells.lookup y.1 = some c := fun y hy e => (ok.free y hy e).elim (fun k => I.ok.has _ (.inl k)) fun k => I.ok.has _ (.inr k)
  refine wpAny_comprehension_free (use := none) rfl hs (closure_ok hfree) ok.kind (fun y hy e => by rw [ok.uniq y hy, e]) (thn (hi.run pins s σ H _ I h) fun xv s1 hx => thn hx fun itv s2 h2 => ?_)
  obtain ⟨it, fp, tn, J, H2, e, I2, T, st2, f2, q⟩ := h2
  subst e
  refine PpSet.newSet_ok (newEnv_comp ?_)
  -- the set stands at D
  obtain ⟨D, hD⟩ : ∃ D, s2.heap.objs.size = D := ⟨_, rfl⟩
  obtain ⟨W, ⟨m0, w0⟩, turn⟩ := q D (I2.hok.fresh (Nat.le_of_eq hD))
  rw [hD]
  generalize es3 : ({ s2 with heap := s2.heap.push (set0 X.w) } : Shared) = s3
  have h3 : s3.heap = s2.heap.push (set0 X.w) := by rw [← es3]
  obtain ⟨H3, eH3⟩ : ∃ H3, H3 = upd H2 D (SetO X.w D (fun _ => false) 0) := ⟨_, rfl⟩
  have I3 : Inv X pins σ H3 s3 := by
    rw [← es3, eH3]
    refine I2.laid (t' := s2.toks) (fun b o e => Heap.get?_push_of_some _ e) (Nat.le_of_eq hD) ?_
    rw [← hD]
    exact setO_new (setR_fresh X.w)
  have f3 : ∀ b ∈ fp, FpOk X pins H3 b ∧ b < s3.heap.objs.size := fun b hb => by
    obtain ⟨o, e, _⟩ := T.obj _ _ st2 b hb
    have lt := Heap.lt_size e
    have ne : b ≠ D := fun z => by rw [z, ← hD] at lt; exact absurd lt (Nat.lt_irrefl _)
    refine ⟨⟨?_, (f2 b hb).2⟩, by rw [h3, Heap.size_push]; exact Nat.lt_succ_of_lt lt⟩
    rw [eH3, upd_ne ne]
    exact (f2 b hb).1
  have st3 : tn 0 s3.heap := T.keep _ _ _ st2 fun b _ o e => by rw [h3]; exact Heap.get?_push_of_some _ e
  rw [← eH3] at w0
  have I4 := block_start I3 ok hN f3
  show codeAny _ _ (.compStart (.SetComp elt [⟨tg, iter, [], 0⟩] scope pos) 0 (.ref it) (.ref D) (compEnvC scope (cellsFrom (s3.heap.objs.size + 1) scope.names (cloFrom X.env.cells scope.names [])) s3.heap.objs.size X.env)) (compPost (model X.prog X.w) X.A X.xe none (EP X pins σ Q) (.ref D) s3.heap.objs.size) { s3 with heap := pushCells (s3.heap.push { cls := .type "dict", data := .dict #[] }) scope.names }
  have hg := hg s3 H3 s3.heap.objs.size (cellsFrom (s3.heap.objs.size + 1) scope.names (cloFrom X.env.cells scope.names [])) fp
  have he := he s3 H3 s3.heap.objs.size (cellsFrom (s3.heap.objs.size + 1) scope.names (cloFrom X.env.cells scope.names [])) fp
  generalize eE : compEnvC scope (cellsFrom (s3.heap.objs.size + 1) scope.names (cloFrom X.env.cells scope.names [])) s3.heap.objs.size X.env = env at I4 hg he ⊢
  have eL : env.locals = s3.heap.objs.size := by rw [← eE]; rfl
  generalize es4 : ({ s3 with heap := pushCells (s3.heap.push { cls := .type "dict", data := .dict #[] }) scope.names } : Shared) = s4 at I4 ⊢
  have st4 : tn 0 s4.heap := T.keep _ _ _ st3 fun b _ o e => by rw [← es4]; exact pushCells_keeps _ _ _ _ (Heap.get?_push_of_some _ e)
  -- the iterator's own things are free of the block's
  have own_ok : ∀ {σ' : L2.St} {H' : Hp} {s' : Shared}, Inv (X.blk s3 H3 scope env fp) [] σ' H' s' → (∀ b ∈ fp, H' b = none) → ∀ b ∈ fp, FpOk (X.blk s3 H3 scope env fp) [] H' b := fun {σ' H' s'} J' hn b hb =>
    ⟨hn b hb, (J'.ok.exf b hb).1, J'.ok.exfs b hb, .inl hb, fun x c e => (J'.ok.exf b hb).2 x c e, fun p hp => absurd (show p ∈ ([] : List (Addr × Obj)) ++ [] from hp) (by simp)⟩
  have start : codeAny (model X.prog X.w) X.A (.compLoop (.SetComp elt [⟨tg, iter, [], 0⟩] scope pos) 0 (.ref it) (.ref D) env) (compPost (model X.prog X.w) X.A X.xe none (EP X pins σ Q) (.ref D) s3.heap.objs.size) s4 := by
    refine PpSet.compLoopS_any (fun n s' => ∃ i H', Inv (X.blk s3 H3 scope env fp) [] (wipe σ (own.map (·.2))) H' s' ∧ tn i s'.heap ∧ (∀ b ∈ fp, H' b = none) ∧ W i n H') ?_ m0 ⟨0, H3, I4, st4, fun b hb => (f3 b hb).1.1, w0⟩
    rintro n s5 ⟨i, H5, I5, st5, n5, w5⟩
    rcases turn i n H5 w5 with ⟨stop, qq⟩ | ⟨go, N, hN', step⟩
    · -- the end
      refine thnF (T.done (X.blk s3 H3 scope env fp) rfl rfl rfl hc i [] s5 _ H5 (fun _ _ => False) I5 (own_ok I5 n5) st5 stop) fun r s6 ⟨er, I6⟩ => ?_
      subst er
      have I7 : Inv X pins σ H5 s6 := I3.call' (ch := fp) I6.os I6.base I6.hok I6.bare fun b hb => ⟨(f3 b hb).1.2.2.2.1, (f3 b hb).1.2.1, (f3 b hb).1.2.2.2.2.1, (f3 b hb).1.2.2.2.2.2⟩
      have free : H5 s3.heap.objs.size = none := by
        have z : H5 env.locals = none := I6.free
        rw [eL] at z; exact z
      obtain ⟨m, hn, _⟩ := I6.loc
      have hn : s6.heap.Ns env.locals m := hn
      rw [eL] at hn
      obtain ⟨a0, a1, a2, a3, a4, a5⟩ := I3.fpOk (H' := H5) (Nat.le_refl _) free
      refine ⟨m, hn, fun h'' sb => ?_⟩
      exact ⟨.ref D, H5, I7.turned (t' := s6.toks) (fun b o hb e => (sb.2 b hb).trans e) a0 a1 a3 a4 a5, rfl, qq⟩
    · -- a turn
      refine thnF (T.item (X.blk s3 H3 scope env fp) rfl rfl rfl hc i [] s5 _ H5 (fun _ _ => False) I5 (own_ok I5 n5) st5 go) fun r s6 ⟨u, er, h6⟩ => ?_
      subst er
      refine thnF h6 fun _ s7 ⟨x, H7, I7, r7, y7, st7, n7⟩ => ?_
      have I7' := I7.pinned (own_ok I7 n7) (T.obj _ _ st7)
      refine thnF (hg.run _ s7 _ H7 x u _ I7' r7 (step x H7 y7)) fun _ s8 ⟨σ8, H8, I8, ew, q8⟩ => ?_
      have len8 : (wipe σ (own.map (·.2))).length = σ8.length := by rw [← ew, wipe_length]
      show wpAny _ _ (pure true) _ _ _
      refine wpAny_pure ?_
      simp only [if_true]
      refine thnF (he.run _ s8 σ8 H8 _ I8 q8) fun z s9 ⟨y, H9, I9, r9, q9⟩ => ?_
      refine si_add (X := X.blk s3 H3 scope env fp) I9 r9 q9 fun s10 H10 I10 nx => ?_
      obtain ⟨m', lt, w'⟩ := hN' H10 nx
      have pin : ∀ b ∈ fp, ∀ o, s7.heap.get? b = some o → s10.heap.get? b = some o ∧ H10 b = none := fun b hb o e =>
        let z := I10.pin (b, o) (List.mem_append_right _ (List.mem_append_right _ (mem_pinsAt hb e)))
        ⟨z.1, z.2.1⟩
      refine ⟨m', lt, i + 1, H10, (I10.unpinned (pins := [])).weak len8 (fun j v e => ?_), T.keep _ _ _ st7 fun b hb o e => (pin b hb o e).1, fun b hb => ?_, w'⟩
      · rw [← ew] at e
        exact (wipe_some e).1
      · obtain ⟨o, e, _⟩ := T.obj _ _ st7 b hb
        exact (pin b hb o e).2
  exact PpSet.codeAny_compStart_set start (T.self X.A 0 _ _ _ st4 start)
end
/-- of a walk -/
theorem si_it {w : World} {J : It} {n : Nat} {G : Hp → Prop} {Y : Nat → Hp → V → Hp → Prop} (wk : Walk J n G Y) {g : TG} {te : TE} {vs : List Nat} {σ : L2.St} {H1 : Hp} {D : Addr} {Qd : Hp → Prop} (Pv : Nat → Hp → Prop) (h0 : Pv 0 (upd H1 D (SetO w D (fun _ => false) 0))) (hG : ∀ i H, i ≤ n → Pv i H → G H)
    (hs : ∀ i x H H', i < n → Pv i H → Y i H x H' → g x (wipe σ vs) H' fun σ2 H2 => wipe σ2 vs = wipe σ vs ∧ te σ2 H2 (addI w D (Pv (i + 1)))) (hd : ∀ H, Pv n H → Qd H) :
    ∃ W : Nat → Nat → Hp → Prop, (∃ m, W 0 m (upd H1 D (SetO w D (fun _ => false) 0))) ∧ ∀ i m H, W i m H →
      (J.stop i H ∧ Qd H) ∨ (J.go i H ∧ ∃ N : Hp → Prop, (∀ H', N H' → ∃ m', m' < m ∧ W (i + 1) m' H') ∧ ∀ x H', J.yld i H x H' → g x (wipe σ vs) H' fun σ2 H2 => wipe σ2 vs = wipe σ vs ∧ te σ2 H2 (addI w D N)) := by
  refine ⟨fun i m H => m = n - i ∧ i ≤ n ∧ Pv i H, ⟨n, by simp, Nat.zero_le _, h0⟩, ?_⟩
  rintro i m H ⟨rfl, hi, p⟩
  have q := hG i H hi p
  rcases Nat.lt_or_eq_of_le hi with lt | rfl
  · exact .inr ⟨wk.goes i H lt q, Pv (i + 1), fun H' p' => ⟨n - (i + 1), by omega, rfl, lt, p'⟩, fun x H' y => hs i x H H' lt p (wk.yields i H x H' lt q y)⟩
  · exact .inl ⟨wk.stops H q, hd H p⟩
end Sand

set_option Elab.async false
set_option linter.all false
set_option maxRecDepth 100000
set_option maxHeartbeats 4000000
namespace Sand
open PySem PySem.Spec PyProof.Rows L2
theorem upd_upd {H : Hp} {a : Addr} {o o' : HO} : upd (upd H a o) a o' = upd H a o' := by
  funext b
  by_cases h : b = a
  · rw [h, upd_same, upd_same]
  · rw [upd_ne h, upd_ne h, upd_ne h]
section
variable {P : Program} {w : World} {K : PySem.W.Frag} {mg : Str → Option Value} {base : Heap} {C L : Addr} {tb : Addr × Str}
theorem fit_len {B : Bd} {ms : List Mir} (ls : List Look) (h : ms.length ≤ 3) : (fitL B ms ls).length ≤ 8 := Nat.le_trans (fitIn_len ..) (up_small (many := ms.length) (k := ms.length + 1) h (by omega)).1
-- 0 board, 1 offered, 2 looks, 3 chosen, 4 number, 5 indexes
abbrev N_fitting : List Str := ["board", "offered", "looks", "chosen", "number", "indexes"]
theorem sc_fitting : FnScope N_fitting ["board", "offered", "looks"] (defScope s_fitting) := C8.fnScope_by (by decide +kernel)
def spFit (tb : Addr × Str) (C : Addr) : Sp := fun vs H Q _ => ∃ (G : Hp) (p : Addr) (v w : V) (B : Bd) (n : Nat) (ms : List Mir) (ls : List Look), vs = [.ref p, v, w] ∧ Vw tb G H ∧ Asked C G p v w B n ms ls ∧
  Ret tb no G H (fun G' u => At G' u (.list ((fitL B ms ls).map cD))) Q
theorem ok_fitting (D0 : DefAt K mg "fitting" s_fitting) (c_check_offered : C8.Cal P w K mg base 7 "check_offered" (spOff tb C) []) (c_check_looks : C8.Cal P w K mg base 4 "check_looks" (spLks C) [])
    (c_fitting_boards : C8.Cal P w K mg base 12 "fitting_boards" (spFb tb C) []) : C8.Cal P w K mg base 13 "fitting" (spFit tb C) [] := by
  refine D0.cal (N := N_fitting) (ps := ["board", "offered", "looks"]) (fun _ _ _ _ _ _ us hl => match us, hl with | [_, _, _], _ => rfl) sc_fitting (fun vs H Q E h => ?_) (fun f cdv A outer st H vs Q E hr h => ?_)
  · obtain ⟨G, p, v, w, B, n, ms, ls, rfl, _⟩ := h
    rfl
  · obtain ⟨G, p, v, w', B, n, ms, ls, rfl, g, hA, k⟩ := h
    refine ⟨_, (pss_cons (ps_expr (C8.pe_c c_check_offered hr (by decide) rfl (pa_cons (pv 0) (pa_cons (pv 1) pa_nil))))
  (pss_cons (ps_expr (C8.pe_c c_check_looks hr (by decide) rfl (pa_cons (pv 0) (pa_cons (pv 2) pa_nil))))
  (pss_one (ps_ret (pe_lc (own := [("chosen", 3), ("number", 4), ("indexes", 5)]) (g := gTup K 3 (gCons (gName 3) (gCons (gName 4) (gCons (gName 5) gNil)))) (tt := tYes) (te := tVar 3) rfl sc_fitting.nd (pi_list (C8.pe_c c_fitting_boards hr (by decide) rfl (pa_cons (pv 0) (pa_cons (pv 1) (pa_cons (pv 2) pa_nil))))) (blkOk_by (own := [("chosen", 3), ("number", 4), ("indexes", 5)]) (N := N_fitting) (sc := defScope s_fitting) (by decide +kernel)) (fun _ _ _ _ _ => (pg_tup rfl (pgs_cons (pg_name (i := 3) sc_fitting.nd rfl (Or.inl rfl)) (pgs_cons (pg_name (i := 4) sc_fitting.nd rfl (Or.inl rfl)) (pgs_cons (pg_name (i := 5) sc_fitting.nd rfl (Or.inl rfl)) pgs_nil))))) (fun _ _ _ _ _ => pts_nil) (fun _ _ _ _ _ => (pv 3))))))), ?_⟩
    refine ⟨_, rfl, _, rfl, G, p, B, n, _, ms, rfl, g, hA.b, hA.m, hA.f, hA.n, fun H1 g1 => ?_⟩
    refine ⟨_, rfl, _, rfl, G, p, B, n, _, ls, rfl, g1.gh, hA.b, hA.l, hA.o, ?_⟩
    refine ⟨_, rfl, _, rfl, _, rfl, G, p, _, _, B, n, ms, ls, rfl, g1.vw, hA, fun G2 H2 u g2 ⟨l, xs, eu, hl, hx⟩ => ?_⟩
    subst eu
    have g3 := g1.trans g2
    have hxl := hx.len
    have h8 := fit_len (B := B) ls hA.s
    refine ⟨l, rfl, ⟨_, SqL.of (g2.gh _ _ hl)⟩, fun D hD => ?_⟩
    have nD := g3.fresh hD
    have gD : G2 D = none := g3.gh.free hD
    refine lc_it walk_list (fun i H' => ∃ zs, Go tb no G H G2 H' ∧ H' D = some (.lst zs) ∧ AtAll G2 zs (((fitL B ms ls).take i).map cD))
      ⟨[], g3.new hD, upd_same, .nil⟩ (fun i H' _ ⟨_, z, _⟩ => SqL.of (z.gh _ _ hl)) ?_ ?_
    · rintro i y H4 H4' hi ⟨zs, g4, hD4, hzs⟩ ⟨rfl, hy⟩
      obtain ⟨c, hci, a, x, d, rfl, ha, hax, _⟩ := hx.get hy
      refine ⟨a, _, rfl, SqT.of (g4.gh _ _ ha), rfl, _, _, rfl, _, _, rfl, _, _, rfl, rfl, rfl, _, rfl, ?_⟩
      have zl := hzs.mapLen
      rw [List.length_take] at zl
      refine ⟨zs, hD4, le_line (by omega), zs ++ [x], g4.put hD4 trivial (.inl nD) gD trivial, upd_same, ?_⟩
      rw [take_snoc hci, List.map_append]
      exact hzs.snoc hax
    · rintro H4 ⟨zs, g4, hD4, hzs⟩
      rw [hxl, List.take_length] at hzs
      exact k _ _ _ (g4.freeze hD4 trivial nD gD) (.lst upd_same (AtAll.mono (same_upd gD) _ hzs))
-- 0 board, 1 offered, 2 looks, 3 chosen, 4 number, 5 indexes
abbrev N_fitting_counts : List Str := ["board", "offered", "looks", "chosen", "number", "indexes"]
theorem sc_fitting_counts : FnScope N_fitting_counts ["board", "offered", "looks"] (defScope s_fitting_counts) := C8.fnScope_by (by decide +kernel)
/-- the numbers of threads of the choices that fit -/
def IsCts (B : Bd) (ms : List Mir) (ls : List Look) (ns : List Int) : Prop := ns.Pairwise (· < ·) ∧ ∀ k, k ∈ ns ↔ ∃ c, c ∈ fitL B ms ls ∧ k = (num (grow B (sub ms c)) : Nat)
def spCts (tb : Addr × Str) (C : Addr) : Sp := fun vs H Q _ => ∃ (G : Hp) (p : Addr) (v w : V) (B : Bd) (n : Nat) (ms : List Mir) (ls : List Look), vs = [.ref p, v, w] ∧ Vw tb G H ∧ Asked C G p v w B n ms ls ∧
  Ret tb no G H (fun G' u => ∃ ns : List Int, At G' u (.list (ns.map PyData.int)) ∧ ns.length ≤ 8 ∧ IsCts B ms ls ns) Q
theorem ok_fitting_counts (D0 : DefAt K mg "fitting_counts" s_fitting_counts) (T : Txt K mg C L) (c_check_offered : C8.Cal P w K mg base 7 "check_offered" (spOff tb C) []) (c_check_looks : C8.Cal P w K mg base 4 "check_looks" (spLks C) [])
    (c_fitting_boards : C8.Cal P w K mg base 12 "fitting_boards" (spFb tb C) []) : C8.Cal P w K mg base 13 "fitting_counts" (spCts tb C) [] := by
  refine D0.cal (N := N_fitting_counts) (ps := ["board", "offered", "looks"]) (fun _ _ _ _ _ _ us hl => match us, hl with | [_, _, _], _ => rfl) sc_fitting_counts (fun vs H Q E h => ?_) (fun f cdv A outer st H vs Q E hr h => ?_)
  · obtain ⟨G, p, v, w, B, n, ms, ls, rfl, _⟩ := h
    rfl
  · obtain ⟨G, p, v, w', B, n, ms, ls, rfl, g, hA, k⟩ := h
    refine ⟨_, (pss_cons (ps_expr (C8.pe_c c_check_offered hr (by decide) rfl (pa_cons (pv 0) (pa_cons (pv 1) pa_nil))))
  (pss_cons (ps_expr (C8.pe_c c_check_looks hr (by decide) rfl (pa_cons (pv 0) (pa_cons (pv 2) pa_nil))))
  (pss_one (ps_ret (pe_callB (cr_sortedSet rfl) (by rfl) T.sorted boot_sorted (pa_cons (pe_si (own := [("chosen", 3), ("number", 4), ("indexes", 5)]) (g := gTup K 3 (gCons (gName 3) (gCons (gName 4) (gCons (gName 5) gNil)))) (te := tVar 4) rfl sc_fitting_counts.nd (pi_list (C8.pe_c c_fitting_boards hr (by decide) rfl (pa_cons (pv 0) (pa_cons (pv 1) (pa_cons (pv 2) pa_nil))))) (blkOk_by (own := [("chosen", 3), ("number", 4), ("indexes", 5)]) (N := N_fitting_counts) (sc := defScope s_fitting_counts) (by decide +kernel)) (fun _ _ _ _ _ => (pg_tup rfl (pgs_cons (pg_name (i := 3) sc_fitting_counts.nd rfl (Or.inl rfl)) (pgs_cons (pg_name (i := 4) sc_fitting_counts.nd rfl (Or.inl rfl)) (pgs_cons (pg_name (i := 5) sc_fitting_counts.nd rfl (Or.inl rfl)) pgs_nil))))) (fun _ _ _ _ _ => (pv 4))) pa_nil)))))), ?_⟩
    refine ⟨_, rfl, _, rfl, G, p, B, n, _, ms, rfl, g, hA.b, hA.m, hA.f, hA.n, fun H1 g1 => ?_⟩
    refine ⟨_, rfl, _, rfl, G, p, B, n, _, ls, rfl, g1.gh, hA.b, hA.l, hA.o, ?_⟩
    refine ⟨_, rfl, _, rfl, _, rfl, G, p, _, _, B, n, ms, ls, rfl, g1.vw, hA, fun G2 H2 u g2 ⟨l, xs, eu, hl, hx⟩ => ?_⟩
    subst eu
    have g3 := g1.trans g2
    have hxl := hx.len
    have h8 := fit_len (B := B) ls hA.s
    refine ⟨l, rfl, ⟨_, SqL.of (g2.gh _ _ hl)⟩, fun D hD => ?_⟩
    refine si_it (walk_list (xs := xs)) (fun i H' => ∃ (S : Int → Bool) (m : Nat), H' = upd H2 D (SetO w D S m) ∧ m ≤ i ∧ ∀ j, S j = true ↔ ∃ c, c ∈ (fitL B ms ls).take i ∧ j = (num (grow B (sub ms c)) : Nat))
      ⟨_, 0, rfl, Nat.le_refl _, fun j => by simp⟩ (fun i H' _ ⟨S, m, z, _⟩ => ?_) ?_ ?_
    · rw [z]
      refine SqL.of ?_
      rw [upd_ne (ne_of_none (g2.gh _ _ hl) hD)]
      exact g2.gh _ _ hl
    · rintro i y H4 H4' hi ⟨S, m, rfl, hm, hS⟩ ⟨rfl, hy⟩
      obtain ⟨c, hci, a, x, d, rfl, ha, _⟩ := hx.get hy
      have ha4 : upd H2 D (SetO w D S m) a = some (.tup [x, .int (num (grow B (sub ms c)) : Nat), .ref d]) := by
        rw [upd_ne (ne_of_none (g2.gh _ _ ha) hD)]
        exact g2.gh _ _ ha
      refine ⟨a, _, rfl, SqT.of ha4, rfl, _, _, rfl, _, _, rfl, _, _, rfl, rfl, rfl, _, rfl, ?_⟩
      refine ⟨_, S, m, rfl, upd_same, Nat.lt_of_le_of_lt (show m + 1 ≤ 9 by omega) (by decide), _, _, upd_upd, ?_, fun j => ?_⟩
      · split <;> omega
      · rw [take_snoc hci, Bool.or_eq_true, decide_eq_true_eq, hS j]
        constructor
        · rintro (⟨c', h1, h2⟩ | h)
          · exact ⟨c', List.mem_append_left _ h1, h2⟩
          · exact ⟨c, List.mem_append_right _ (List.mem_singleton.mpr rfl), h⟩
        · rintro ⟨c', h1, h2⟩
          rcases List.mem_append.mp h1 with h | h
          · exact .inl ⟨c', h, h2⟩
          · rw [List.mem_singleton.mp h] at h2
            exact .inr h2
    · rintro H4 ⟨S, m, rfl, hm, hS⟩
      rw [hxl, List.take_length] at hS
      refine ⟨D, S, m, rfl, upd_same, by omega, fun ns q hs hmem hlen hq => ?_⟩
      obtain ⟨g5, s5, e5⟩ := (g3.new (o := SetO w D S m) hD).lst hq (ns.map V.int)
      exact k _ _ _ g5 ⟨ns, .lst e5 AtAll.ints, by omega, hs, fun j => (hmem j).trans (hS j)⟩
end
end Sand

set_option Elab.async false
set_option linter.all false
set_option maxRecDepth 100000
set_option maxHeartbeats 4000000
namespace Sand
open PySem PySem.Spec PyProof.Rows L2
abbrev Pr := Pt × Pt
def prD (q : Pr) : PyData := .tuple [pD q.1, pD q.2]
open Classical in
/-- how many of the choices have both squares on one thread -/
noncomputable def cnt (B : Bd) (ms : List Mir) (q : Pr) (fl : List (List Nat)) : Nat := (fl.filter fun c => decide (Cn (grow B (sub ms c)) q.1 q.2)).length
noncomputable def wors (B : Bd) (ms : List Mir) (fl : List (List Nat)) (q : Pr) : Int := if ((fl.length : Nat) : Int) - (cnt B ms q fl : Nat) > (cnt B ms q fl : Nat) then ((fl.length : Nat) : Int) - (cnt B ms q fl : Nat) else (cnt B ms q fl : Nat)
def bst (f : Pr → Int) (st : Option Pr × Int) (q : Pr) : Option Pr × Int := match st.1 with
  | none => (some q, f q)
  | some _ => if f q < st.2 then (some q, f q) else st
def bestL (f : Pr → Int) (prs : List Pr) : Option Pr × Int := prs.foldl (bst f) (none, 0)
def bD : Option Pr → PyData
  | none => .none
  | some q => prD q
theorem cnt_yes {B : Bd} {ms : List Mir} {q : Pr} {l : List (List Nat)} {c : List Nat} (h : Cn (grow B (sub ms c)) q.1 q.2) : cnt B ms q (l ++ [c]) = cnt B ms q l + 1 := by
  unfold cnt; rw [List.filter_append]; simp [h]
theorem cnt_no {B : Bd} {ms : List Mir} {q : Pr} {l : List (List Nat)} {c : List Nat} (h : ¬ Cn (grow B (sub ms c)) q.1 q.2) : cnt B ms q (l ++ [c]) = cnt B ms q l := by
  unfold cnt; rw [List.filter_append]; simp [h]
theorem cnt_le {B : Bd} {ms : List Mir} {q : Pr} (l : List (List Nat)) : cnt B ms q l ≤ l.length := by unfold cnt; exact List.length_filter_le ..
theorem bestL_snoc (f : Pr → Int) (l : List Pr) (q : Pr) : bestL f (l ++ [q]) = bst f (bestL f l) q := by unfold bestL; rw [List.foldl_append]; rfl
theorem At.pr {G : Hp} {v : V} {q : Pr} (h : At G v (prD q)) : ∃ a x y, v = .ref a ∧ G a = some (.tup [x, y]) ∧ At G x (pD q.1) ∧ At G y (pD q.2) := by
  obtain ⟨a, xs, e, g, h⟩ := At.tup_ h
  obtain ⟨x, ws, rfl, hx, h⟩ := h.cons_
  obtain ⟨y, ws, rfl, hy, h⟩ := h.cons_
  rw [h.nil_] at g
  exact ⟨a, x, y, e, g, hx, hy⟩
theorem At.non_ {G : Hp} {v : V} (h : At G v .none) : v = .non := by cases h; rfl
section
variable {P : Program} {w : World} {K : PySem.W.Frag} {mg : Str → Option Value} {base : Heap} {C L : Addr} {tb : Addr × Str}
-- 0 board, 1 offered, 2 looks, 3 pairs, 4 one*, 5 other*, 6 boards, 7 best, 8 least, 9 same, 10 worse, 11 chosen, 12 number, 13 indexes
abbrev N_best_look : List Str := ["board", "offered", "looks", "pairs", "one", "other", "boards", "best", "least", "same", "worse", "chosen", "number", "indexes"]
theorem sc_best_look : FnScope N_best_look ["board", "offered", "looks", "pairs"] (defScope s_best_look) := C8.fnScope_by (by decide +kernel)
def spBest (tb : Addr × Str) (C : Addr) : Sp := fun vs H Q _ => ∃ (G : Hp) (p : Addr) (v w x : V) (B : Bd) (n : Nat) (ms : List Mir) (ls : List Look) (prs : List Pr), vs = [.ref p, v, w, x] ∧ Vw tb G H ∧ Asked C G p v w B n ms ls ∧ At G x (.list (prs.map prD)) ∧ (∀ q, q ∈ prs → On B q.1 ∧ On B q.2) ∧
  Ret tb no G H (fun G' u => At G' u (bD (bestL (wors B ms (fitL B ms ls)) prs).1)) Q
theorem ok_best_look (D0 : DefAt K mg "best_look" s_best_look) (T : Txt K mg C L) (c_check_offered : C8.Cal P w K mg base 7 "check_offered" (spOff tb C) []) (c_check_looks : C8.Cal P w K mg base 4 "check_looks" (spLks C) [])
    (c_check_square : C8.Cal P w K mg base 3 "check_square" (spSq C) []) (c_fitting_boards : C8.Cal P w K mg base 12 "fitting_boards" (spFb tb C) []) : C8.Cal P w K mg base 13 "best_look" (spBest tb C) [] := by
  refine D0.cal (N := N_best_look) (ps := ["board", "offered", "looks", "pairs"]) (fun _ _ _ _ _ _ us hl => match us, hl with | [_, _, _, _], _ => rfl) sc_best_look (fun vs H Q E h => ?_) (fun f cdv A outer st H vs Q E hr h => ?_)
  · obtain ⟨G, p, v, w, x, B, n, ms, ls, prs, rfl, _⟩ := h
    rfl
  · obtain ⟨G, p, v, w', x, B, n, ms, ls, prs, rfl, g, hA, hx, ho, k⟩ := h
    have hu := hu_of hr
    obtain ⟨lp, ys, rfl, hlp, hys⟩ := At.lst_ hx
    refine ⟨_, (pss_cons (ps_expr (C8.pe_c c_check_offered hr (by decide) rfl (pa_cons (pv 0) (pa_cons (pv 1) pa_nil))))
  (pss_cons (ps_expr (C8.pe_c c_check_looks hr (by decide) rfl (pa_cons (pv 0) (pa_cons (pv 2) pa_nil))))
  (pss_cons (ps_for PassesOwn.never rfl (pi_list (pv 3)) (pg_tup rfl (pgs_cons (pg_name (i := 4) sc_best_look.nd rfl (Or.inr rfl)) (pgs_cons (pg_name (i := 5) sc_best_look.nd rfl (Or.inr rfl)) pgs_nil)))
  (pss_cons (ps_expr (C8.pe_c c_check_square hr (by decide) rfl (pa_cons (pv 0) (pa_cons (pv 4) pa_nil))))
  (pss_one (ps_expr (C8.pe_c c_check_square hr (by decide) rfl (pa_cons (pv 0) (pa_cons (pv 5) pa_nil)))))))
  (pss_cons (ps_set (i := 6) sc_best_look.nd rfl (Or.inl rfl) (C8.pe_c c_fitting_boards hr (by decide) rfl (pa_cons (pv 0) (pa_cons (pv 1) (pa_cons (pv 2) pa_nil)))))
  (pss_cons (ps_set (i := 7) sc_best_look.nd rfl (Or.inl rfl) pe_non)
  (pss_cons (ps_set (i := 8) sc_best_look.nd rfl (Or.inl rfl) pe_int)
  (pss_cons (ps_for PassesOwn.never rfl (pi_list (pv 3)) (pg_tup rfl (pgs_cons (pg_name (i := 4) sc_best_look.nd rfl (Or.inr rfl)) (pgs_cons (pg_name (i := 5) sc_best_look.nd rfl (Or.inr rfl)) pgs_nil)))
  (pss_cons (ps_set (i := 9) sc_best_look.nd rfl (Or.inl rfl) (pe_callB call_len (by rfl) T.len PySem.boot_len (pa_cons (pe_lc (own := [("chosen", 11), ("number", 12), ("indexes", 13)]) (g := gTup K 3 (gCons (gName 11) (gCons (gName 12) (gCons (gName 13) gNil)))) (tt := tTest (tOp rEq (tDGet (tVar 13) (tVar 4)) (tDGet (tVar 13) (tVar 5)))) (te := tVar 12) rfl sc_best_look.nd (pi_list (pv 6)) (blkOk_by (own := [("chosen", 11), ("number", 12), ("indexes", 13)]) (N := N_best_look) (sc := defScope s_best_look) (by decide +kernel)) (fun _ _ _ _ _ => (pg_tup rfl (pgs_cons (pg_name (i := 11) sc_best_look.nd rfl (Or.inl rfl)) (pgs_cons (pg_name (i := 12) sc_best_look.nd rfl (Or.inl rfl)) (pgs_cons (pg_name (i := 13) sc_best_look.nd rfl (Or.inl rfl)) pgs_nil))))) (fun _ _ _ _ _ => pts_one (pt_cmpR op_eq (pe_dget hu (pv 13) (pv 4) (fun _ _ => rfl)) (pe_dget hu (pv 13) (pv 5) (fun _ _ => rfl)) (nomark _))) (fun _ _ _ _ _ => (pv 12))) pa_nil)))
  (pss_cons (ps_set (i := 10) sc_best_look.nd rfl (Or.inl rfl) (pe_callB (call_max2 rfl) (by rfl) T.max boot_max (pa_cons (pv 9) (pa_cons (pe_op op_sub (pe_callB call_len (by rfl) T.len PySem.boot_len (pa_cons (pv 6) pa_nil)) (pv 9)) pa_nil))))
  (pss_one (ps_if (PW.pt (pw_or (pt_cmpR op_isN (pv 7) pe_non (nomark _)) (pw_or1 (pt_cmpR op_lt (pv 10) (pv 8) (nomark _))))) (pss_cons (ps_set (i := 7) sc_best_look.nd rfl (Or.inl rfl) (pe_tup (pa_cons (pv 4) (pa_cons (pv 5) pa_nil))))
  (pss_one (ps_set (i := 8) sc_best_look.nd rfl (Or.inl rfl) (pv 10)))) pss_nil)))))
  (pss_one (ps_ret (pv 7)))))))))), ?_⟩
    refine ⟨_, rfl, _, rfl, G, p, B, n, _, ms, rfl, g, hA.b, hA.m, hA.f, hA.n, fun H1 g1 => ?_⟩
    refine ⟨_, rfl, _, rfl, G, p, B, n, _, ls, rfl, g1.gh, hA.b, hA.l, hA.o, ?_⟩
    -- for one, other in pairs
    refine ⟨_, rfl, lp, rfl, ⟨_, SqL.of (g1.gh _ _ hlp)⟩, for_list (K := K) (a := lp) (xs := ys) (fun i σ H' => H' = H1 ∧ ∃ (o4 o5 : Option V), σ = [some (.ref p), some v, some w', some (.ref lp), o4, o5, none, none, none, none, none, none, none, none])
      ⟨rfl, none, none, rfl⟩ (fun i σ H' _ ⟨z, _⟩ => by rw [z]; exact SqL.of (g1.gh _ _ hlp)) ?_ ?_⟩
    · rintro i y σ H' hy ⟨rfl, o4, o5, rfl⟩
      obtain ⟨q, hqi, hay⟩ := hys.mapAt hy
      obtain ⟨a, x1, x2, rfl, ha, h1, h2⟩ := hay.pr
      obtain ⟨on1, on2⟩ := ho q (List.mem_of_getElem? hqi)
      refine ⟨a, _, rfl, SqT.of (g1.gh _ _ ha), rfl, _, _, rfl, _, _, rfl, rfl, ?_⟩
      refine ⟨_, rfl, _, rfl, G, p, B, n, _, _, rfl, g1.gh, hA.b, h1, on1, ?_⟩
      exact ⟨_, rfl, _, rfl, G, p, B, n, _, _, rfl, g1.gh, hA.b, h2, on2, rfl, _, _, rfl⟩
    rintro σ H' ⟨rfl, o4, o5, rfl⟩
    -- boards = fitting_boards(board, offered, looks)
    refine ⟨_, rfl, _, rfl, _, rfl, G, p, _, _, B, n, ms, ls, rfl, g1.vw, hA, fun G2 H2 u g2 ⟨l, xs, eu, hl, hxs⟩ => ?_⟩
    subst eu
    have g3 := g1.trans g2
    have hxl := hxs.len
    have h8 := fit_len (B := B) ls hA.s
    -- for one, other in pairs
    refine ⟨_, rfl, lp, rfl, ⟨_, SqL.of (g3.gh _ _ (g3.gg _ _ hlp))⟩, for_list (K := K) (a := lp) (xs := ys) (fun i σ H' => ∃ (G' : Hp) (bv : V) (o4 o5 o9 o10 o11 o12 o13 : Option V), σ = [some (.ref p), some v, some w', some (.ref lp), o4, o5, some (.ref l), some bv, some (.int (bestL (wors B ms (fitL B ms ls)) (prs.take i)).2), o9, o10, o11, o12, o13] ∧ Go tb no G H G' H' ∧ Same G2 G' ∧ At G' bv (bD (bestL (wors B ms (fitL B ms ls)) (prs.take i)).1))
      ⟨G2, .non, _, _, _, _, _, _, _, rfl, g3, fun _ _ e => e, .non⟩ (fun i σ H' _ ⟨_, _, _, _, _, _, _, _, _, _, z, _⟩ => SqL.of (z.gh _ _ (z.gg _ _ hlp))) ?_ ?_⟩
    · rintro i y σ H4 hy ⟨G4, bv, o4, o5, o9, o10, o11, o12, o13, rfl, g4, sg, hbv⟩
      obtain ⟨q, hqi, hay⟩ := hys.mapAt hy
      obtain ⟨a, x1, x2, rfl, ha, h1, h2⟩ := (At.mono g4.gg _ hay).pr
      obtain ⟨on1, on2⟩ := ho q (List.mem_of_getElem? hqi)
      obtain ⟨b1, rfl, hb1⟩ := h1.pt
      obtain ⟨b2, rfl, hb2⟩ := h2.pt
      refine ⟨a, _, rfl, SqT.of (g4.gh _ _ ha), rfl, _, _, rfl, _, _, rfl, rfl, ?_⟩
      -- same = len([..])
      refine ⟨_, rfl, l, rfl, ⟨_, SqL.of (g4.gh _ _ (sg _ _ hl))⟩, fun D hD => ?_⟩
      have nD := g4.fresh hD
      have gD : G4 D = none := g4.gh.free hD
      refine lc_it walk_list (fun i H' => ∃ zs, Go tb no G H G4 H' ∧ H' D = some (.lst zs) ∧ zs.length = cnt B ms q ((fitL B ms ls).take i))
        ⟨[], g4.new hD, upd_same, rfl⟩ (fun i H' _ ⟨_, z, _⟩ => SqL.of (z.gh _ _ (sg _ _ hl))) ?_ ?_
      · rintro j y H5 H5' hj ⟨zs, g5, hD5, hzl⟩ ⟨rfl, hy⟩
        obtain ⟨c, hci, a, x, d, rfl, ha, hax, kvs, ix, hd, hix, hcn⟩ := hxs.get hy
        refine ⟨a, _, rfl, SqT.of (g5.gh _ _ (sg _ _ ha)), rfl, _, _, rfl, _, _, rfl, _, _, rfl, rfl, rfl, ?_⟩
        have d1 : DGet H5' d (.ref b1) (some (.int (ix q.1))) := by rw [← hix q.1 (on_grow.mpr on1)]; exact DGet.t (k := pk q.1) (g5.gh _ _ (sg _ _ hd)) (g5.gh _ _ hb1)
        have d2 : DGet H5' d (.ref b2) (some (.int (ix q.2))) := by rw [← hix q.2 (on_grow.mpr on2)]; exact DGet.t (k := pk q.2) (g5.gh _ _ (sg _ _ hd)) (g5.gh _ _ hb2)
        have hc := hcn q.1 q.2 (on_grow.mpr on1) (on_grow.mpr on2)
        have hcl := cnt_le (B := B) (ms := ms) (q := q) ((fitL B ms ls).take j)
        rw [List.length_take] at hcl
        refine ⟨_, rfl, _, rfl, d, _, rfl, d1, _, rfl, _, rfl, d, _, rfl, d2, rfl, ?_⟩
        rw [take_snoc hci]
        by_cases e : Cn (grow B (sub ms c)) q.1 q.2
        · refine ⟨true, blT (vi (hc.mpr e)), iteT ⟨_, rfl, zs, hD5, le_line (by omega), zs ++ [_], g5.put hD5 trivial (.inl nD) gD trivial, upd_same, ?_⟩⟩
          rw [cnt_yes e, List.length_append, hzl]; rfl
        · refine ⟨false, blF (vi_ne fun z => e (hc.mp z)), iteF ⟨zs, g5, hD5, ?_⟩⟩
          rw [cnt_no e, hzl]
      · rintro H5 ⟨zs, g5, hD5, hzl⟩
        rw [hxl, List.take_length] at hzl
        refine ⟨_, zs.length, rfl, .inl ⟨_, SqL.of hD5, rfl⟩, ?_⟩
        -- worse = max(same, len(boards) - same)
        refine ⟨_, rfl, _, rfl, _, xs.length, rfl, .inl ⟨_, SqL.of (g5.gh _ _ (sg _ _ hl)), rfl⟩, _, rfl, _, _, rfl, rfl, _, _, rfl, ?_⟩
        rw [hxl, hzl]
        have ew : (if ((fitL B ms ls).length : Int) - (cnt B ms q (fitL B ms ls) : Nat) > (cnt B ms q (fitL B ms ls) : Nat) then ((fitL B ms ls).length : Int) - (cnt B ms q (fitL B ms ls) : Nat) else ((cnt B ms q (fitL B ms ls) : Nat) : Int)) = wors B ms (fitL B ms ls) q := rfl
        rw [ew, take_snoc hqi, bestL_snoc]
        generalize bestL (wors B ms (fitL B ms ls)) (prs.take i) = stt at hbv ⊢
        generalize ewq : wors B ms (fitL B ms ls) q = wq
        -- the new best
        have yes : bst (fun _ => wq) stt q = (some q, wq) → ∀ t, H5 t = none → ∃ G', Go tb no G H G' (upd H5 t (.tup [.ref b1, .ref b2])) ∧ Same G2 G' ∧ At G' (.ref t) (bD (bst (fun _ => wq) stt q).1) ∧ wq = (bst (fun _ => wq) stt q).2 := fun e t ht => by
          obtain ⟨g6, s6, e6⟩ := g5.tup ht [.ref b1, .ref b2]
          rw [e]
          exact ⟨_, g6, fun b o e => s6 _ _ (sg _ _ e), .tup e6 (.cons (At.mono s6 _ h1) (.cons (At.mono s6 _ h2) .nil)), rfl⟩
        have eb : bst (wors B ms (fitL B ms ls)) stt q = bst (fun _ => wq) stt q := by
          unfold bst
          rw [ewq]
        rw [eb]
        obtain ⟨best, least⟩ := stt
        cases best with
        | none =>
          obtain rfl := At.non_ hbv
          refine ⟨_, rfl, rfl, true, blT rfl, iteT (iteT ⟨_, rfl, _, rfl, len2, fun t ht => ⟨_, rfl, ?_⟩⟩)⟩
          obtain ⟨G', z1, z2, z3, z4⟩ := yes rfl t ht
          exact ⟨G', _, _, _, _, _, _, _, _, by rw [← z4]; rfl, z1, z2, z3⟩
        | some b =>
          obtain ⟨a0, _, _, rfl, _⟩ := At.pr (q := b) hbv
          refine ⟨_, rfl, rfl, false, blF (by simp), iteF ⟨_, rfl, _, rfl, _, _, rfl, rfl, ?_⟩⟩
          by_cases lt : wq < least
          · have e : bst (fun _ => wq) (some b, least) q = (some q, wq) := by
              show (if wq < least then _ else _) = _
              rw [if_pos lt]
            refine ⟨true, blT lt, iteT ⟨_, rfl, _, rfl, len2, fun t ht => ⟨_, rfl, ?_⟩⟩⟩
            obtain ⟨G', z1, z2, z3, z4⟩ := yes e t ht
            exact ⟨G', _, _, _, _, _, _, _, _, by rw [← z4]; rfl, z1, z2, z3⟩
          · have e : bst (fun _ => wq) (some b, least) q = (some b, least) := by
              show (if wq < least then _ else _) = _
              rw [if_neg lt]
            rw [e]
            exact ⟨false, blF lt, iteF ⟨G4, _, _, _, _, _, _, _, _, rfl, g5, sg, hbv⟩⟩
    · rintro σ H4 ⟨G4, bv, o4, o5, o9, o10, o11, o12, o13, rfl, g4, sg, hbv⟩
      rw [hys.mapLen, List.take_length] at hbv
      exact ⟨_, rfl, k _ _ _ g4 hbv⟩
end
end Sand

set_option Elab.async false
set_option linter.all false
set_option maxRecDepth 100000
set_option maxHeartbeats 4000000
namespace Sand
open PySem PySem.Spec PyProof.Rows L2
/-! ### the law's hand: a list of cells, a counter, a total -/
def own2 (h c : Addr) : Addr → Prop := fun z => z = h ∨ z = c
structure HandAt (G H : Hp) (h c : Addr) (b : Nat) : Prop where
  gh : G h = none
  gc : G c = none
  ne : h ≠ c
  hh : ∃ k t : Int, H h = some (.lst [.ref c, .int k, .int t]) ∧ 0 ≤ k ∧ k ≤ b
  hc : ∃ cells : List Int, H c = some (.lst (cells.map V.int)) ∧ cells.length ≤ 63
theorem HandAt.more {G H : Hp} {h c : Addr} {b b' : Nat} (k : HandAt G H h c b) (l : b ≤ b') : HandAt G H h c b' := by
  obtain ⟨x, t, e, h0, h1⟩ := k.hh
  exact ⟨k.gh, k.gc, k.ne, ⟨x, t, e, h0, by omega⟩, k.hc⟩
theorem HandAt.keep {tb : Addr × Str} {M : Addr → Prop} {G H G1 H1 : Hp} {h c : Addr} {b : Nat} (k : HandAt G H h c b) (g : Go tb M G H G1 H1) (mh : ¬ M h) (mc : ¬ M c) : HandAt G1 H1 h c b := by
  obtain ⟨x, t, e, h0, h1⟩ := k.hh
  obtain ⟨cs, ec, hl⟩ := k.hc
  exact ⟨g.out e trivial k.gh, g.out ec trivial k.gc, k.ne, ⟨x, t, g.loc e trivial mh, h0, h1⟩, ⟨cs, g.loc ec trivial mc, hl⟩⟩
/-- a thing that is neither of the hand's lists is changed -/
theorem HandAt.put {G H : Hp} {h c D : Addr} {o : HO} {b : Nat} (k : HandAt G H h c b) (dh : D ≠ h) (dc : D ≠ c) : HandAt G (upd H D o) h c b := by
  obtain ⟨x, t, e, h0, h1⟩ := k.hh
  obtain ⟨cs, ec, hl⟩ := k.hc
  exact ⟨k.gh, k.gc, k.ne, ⟨x, t, by rw [upd_ne dh.symm]; exact e, h0, h1⟩, ⟨cs, by rw [upd_ne dc.symm]; exact ec, hl⟩⟩
theorem HandAt.new {G H : Hp} {h c D : Addr} {o : HO} {b : Nat} (k : HandAt G H h c b) (hD : H D = none) : HandAt G (upd H D o) h c b := by
  obtain ⟨x, t, e, h0, h1⟩ := k.hh
  obtain ⟨cs, ec, hl⟩ := k.hc
  exact k.put (ne_of_none e hD).symm (ne_of_none ec hD).symm
theorem HandAt.newG {G H : Hp} {h c D : Addr} {o : HO} {b : Nat} (k : HandAt G H h c b) (hD : H D = none) : HandAt (upd G D o) (upd H D o) h c b := by
  have n := k.new (o := o) hD
  obtain ⟨x, t, e, h0, h1⟩ := k.hh
  obtain ⟨cs, ec, hl⟩ := k.hc
  exact ⟨by rw [upd_ne (ne_of_none e hD)]; exact k.gh, by rw [upd_ne (ne_of_none ec hD)]; exact k.gc, k.ne, n.hh, n.hc⟩
theorem HandAt.freeze {G H : Hp} {h c D : Addr} {o : HO} {b : Nat} (k : HandAt G H h c b) (dh : D ≠ h) (dc : D ≠ c) : HandAt (upd G D o) H h c b := ⟨by rw [upd_ne dh.symm]; exact k.gh, by rw [upd_ne dc.symm]; exact k.gc, k.ne, k.hh, k.hc⟩
theorem HandAt.nh {G H : Hp} {h c D : Addr} {b : Nat} (k : HandAt G H h c b) (hD : H D = none) : D ≠ h ∧ D ≠ c := by
  obtain ⟨x, t, e, h0, h1⟩ := k.hh
  obtain ⟨cs, ec, hl⟩ := k.hc
  exact ⟨(ne_of_none e hD).symm, (ne_of_none ec hD).symm⟩
theorem fmod_in {i j : Int} (h : 0 < j) : 0 ≤ i.fmod j ∧ i.fmod j < j := ⟨Int.fmod_nonneg_of_pos i h, Int.fmod_lt_of_pos i h⟩
section
variable {P : Program} {w : World} {K : PySem.W.Frag} {mg : Str → Option Value} {base : Heap} {C L : Addr} {tb : Addr × Str}
-- 0 _law_script, 1 _law_total, 2 _law_cell
abbrev N__law_hand : List Str := ["_law_script", "_law_total", "_law_cell"]
theorem sc__law_hand : FnScope N__law_hand ["_law_script"] (defScope s__law_hand) := C8.fnScope_by (by decide +kernel)
def spHand (K : PySem.W.Frag) (tb : Addr × Str) : Sp := fun vs H Q _ => ∃ (G : Hp) (a : Addr) (ns : List Int), vs = [.ref a] ∧ Vw tb G H ∧ SqL K H a (ns.map V.int) ∧ ns.length ≤ 63 ∧
  ∀ G' H' h c, Go tb no G H G' H' → ¬ Std H h → ¬ Std H c → HandAt G' H' h c 0 → Q (.ref h) H'
theorem ok__law_hand (D0 : DefAt K mg "_law_hand" s__law_hand) (T : Txt K mg C L) : C8.Cal P w K mg base 1 "_law_hand" (spHand K tb) [] := by
  refine D0.cal (N := N__law_hand) (ps := ["_law_script"]) (fun _ _ _ _ _ _ us hl => match us, hl with | [_], _ => rfl) sc__law_hand (fun vs H Q E h => ?_) (fun f cdv A outer st H vs Q E hr h => ?_)
  · obtain ⟨G, a, ns, rfl, _⟩ := h
    rfl
  · obtain ⟨G, a, ns, rfl, g, hs, hl, k⟩ := h
    refine ⟨_, (pss_cons (ps_set (i := 1) sc__law_hand.nd rfl (Or.inl rfl) pe_int)
  (pss_cons (ps_for PassesOwn.never rfl (pi_list (pv 0)) (pg_name (i := 2) sc__law_hand.nd rfl (Or.inl rfl))
  (pss_one (ps_set (i := 1) sc__law_hand.nd rfl (Or.inl rfl) (pe_op op_mod (pe_callTy call_int1 (by rfl) T.int boot_int (pa_cons (pe_op op_add (pe_op op_mul (pv 1) pe_int) (pe_op op_mod (pv 2) pe_int)) pa_nil)) pe_int))))
  (pss_one (ps_ret (pe_lst (pa_cons (pe_lc (own := [("_law_cell", 2)]) (g := gName 2) (tt := tYes) (te := tCB (fun xs H Q => ∃ i, xs = [.int i] ∧ Q (.int (if i < 0 then -i else i)) H) (tCons (tVar 2) tNil)) rfl sc__law_hand.nd (pi_list (pv 0)) (blkOk_by (own := [("_law_cell", 2)]) (N := N__law_hand) (sc := defScope s__law_hand) (by decide +kernel)) (fun _ _ _ _ _ => (pg_name (i := 2) sc__law_hand.nd rfl (Or.inl rfl))) (fun _ _ _ _ _ => pts_nil) (fun _ _ _ _ _ => (pe_callB call_abs (by rfl) T.abs boot_abs (pa_cons (pv 2) pa_nil)))) (pa_cons pe_int (pa_cons (pv 1) pa_nil)))))))), ?_⟩
    refine ⟨_, rfl, a, rfl, ⟨_, hs⟩, for_list (K := K) (a := a) (xs := ns.map V.int) (fun i σ H' => H' = H ∧ ∃ (t : Int) (o2 : Option V), σ = [some (.ref a), some (.int t), o2])
      ⟨rfl, _, _, rfl⟩ (fun i σ H' _ ⟨z, _⟩ => by rw [z]; exact hs) ?_ ?_⟩
    · rintro i y σ H' hy ⟨rfl, t, o2, rfl⟩
      rw [List.getElem?_map] at hy
      obtain ⟨x, hx, rfl⟩ := Option.map_eq_some_iff.mp hy
      exact ⟨_, rfl, _, _, rfl, rfl, .inr ⟨by decide, by decide⟩, _, rfl, _, _, rfl, rfl, by show (0 : Int) < 999983; decide, _, _, rfl, rfl, .inl ⟨_, rfl, _, _, rfl, rfl, by show (0 : Int) < 2147483629; decide, rfl, _, _, rfl⟩⟩
    · rintro σ H ⟨rfl, t, o2, rfl⟩
      refine ⟨_, rfl, a, rfl, ⟨_, hs⟩, fun D hD => ?_⟩
      have g1 := (Go.refl (M := no) g).new (o := .lst []) hD
      have nD := (Go.refl (M := no) g).fresh hD
      have gD : G D = none := g.gh.free hD
      have na : ¬ (no a) := id
      refine lc_it (walk_list (xs := ns.map V.int)) (fun i H' => ∃ xs : List Int, Go tb no G H G H' ∧ H' D = some (.lst (xs.map V.int)) ∧ xs.length = i) ⟨[], g1, upd_same, rfl⟩ (fun i H' _ ⟨_, z, _⟩ => z.seqL na hs) ?_ ?_
      · rintro i y H4 H4' hi ⟨xs, g4, hD4, hxl⟩ ⟨rfl, hy⟩
        rw [List.length_map] at hi
        rw [List.getElem?_map] at hy
        obtain ⟨x, hx, rfl⟩ := Option.map_eq_some_iff.mp hy
        refine ⟨rfl, _, rfl, _, rfl, _, hD4, le_line (by rw [List.length_map]; omega), xs ++ [if x < 0 then -x else x], g4.put hD4 trivial (.inl nD) gD trivial, by rw [upd_same, List.map_append]; rfl, by rw [List.length_append, hxl]; rfl⟩
      · rintro H4 ⟨xs, g4, hD4, hxl⟩
        rw [List.length_map] at hxl
        refine ⟨_, rfl, len3, fun h hh => ?_⟩
        have g5 := g4.new (o := .lst [.ref D, .int 0, .int t]) hh
        have hDh : D ≠ h := ne_of_none hD4 hh
        exact k G _ h D g5 (g4.fresh hh) nD ⟨g4.gh.free hh, gD, hDh.symm, ⟨0, t, upd_same, by decide, by decide⟩, ⟨xs, by rw [upd_ne hDh]; exact hD4, by omega⟩⟩
-- 0 _law_hand_here, 1 _law_limit, 2 _law_cells, 3 _law_k, 4 _law_cell, 5 _law_place_here, 6 _law_mixed
abbrev N__law_take : List Str := ["_law_hand_here", "_law_limit", "_law_cells", "_law_k", "_law_cell", "_law_place_here", "_law_mixed"]
theorem sc__law_take : FnScope N__law_take ["_law_hand_here", "_law_limit"] (defScope s__law_take) := C8.fnScope_by (by decide +kernel)
def spTk (tb : Addr × Str) : Sp := fun vs H Q _ => ∃ (G : Hp) (h c : Addr) (b : Nat) (lim : Int), vs = [.ref h, .int lim] ∧ Vw tb G H ∧ HandAt G H h c b ∧ b < 1000000000 ∧ 0 < lim ∧ lim < 1000000 ∧
  ∀ H' (r : Int), Go tb (own2 h c) G H G H' → HandAt G H' h c (b + 1) → 0 ≤ r → r < lim → Q (.int r) H'
theorem ok__law_take (D0 : DefAt K mg "_law_take" s__law_take) (T : Txt K mg C L) : C8.Cal P w K mg base 1 "_law_take" (spTk tb) [] := by
  refine D0.cal (N := N__law_take) (ps := ["_law_hand_here", "_law_limit"]) (fun _ _ _ _ _ _ us hl => match us, hl with | [_, _], _ => rfl) sc__law_take (fun vs H Q E h => ?_) (fun f cdv A outer st H vs Q E hr h => ?_)
  · obtain ⟨G, h, c, b, lim, rfl, _⟩ := h
    rfl
  · obtain ⟨G, h, c, b, lim, rfl, g, hA, hb, l0, l1, k⟩ := h
    obtain ⟨kk, t, hh, k0, k1⟩ := hA.hh
    obtain ⟨cells, hc, hcl⟩ := hA.hc
    refine ⟨_, (pss_cons (ps_set (i := 2) sc__law_take.nd rfl (Or.inl rfl) (pe_ix ix_list (pv 0) pe_int (fun _ _ => rfl)))
  (pss_cons (ps_set (i := 3) sc__law_take.nd rfl (Or.inl rfl) (pe_ix ix_list (pv 0) pe_int (fun _ _ => rfl)))
  (pss_cons (ps_asg (pe_op op_add (pv 3) pe_int) (pg_sub (pv 0) pe_int set_list))
  (pss_cons (ps_set (i := 4) sc__law_take.nd rfl (Or.inl rfl) pe_int)
  (C8.pss_cut (ps_if (pt_cmpR op_gt (pe_callB call_len (by rfl) T.len PySem.boot_len (pa_cons (pv 2) pa_nil)) pe_int (nomark _)) (pss_cons (ps_set (i := 5) sc__law_take.nd rfl (Or.inl rfl) (pe_op op_modN (pv 3) (pe_callB call_len (by rfl) T.len PySem.boot_len (pa_cons (pv 2) pa_nil))))
  (pss_cons (ps_set (i := 4) sc__law_take.nd rfl (Or.inl rfl) (pe_ix ix_list (pv 2) (pv 5) (fun _ _ => rfl)))
  (pss_one (ps_if (pt_cmpR op_ge (pv 4) (pe_op op_pow pe_int pe_int) (nomark _)) (pss_cons (ps_asg (pe_op op_fdivN (pv 4) (pv 1)) (pg_sub (pv 2) (pv 5) set_list))
  (pss_one (ps_ret (pe_op op_modN (pe_callTy call_int1 (by rfl) T.int boot_int (pa_cons (pv 4) pa_nil)) (pv 1))))) pss_nil)))) pss_nil)
  (pss_cons (ps_set (i := 6) sc__law_take.nd rfl (Or.inl rfl) (pe_op op_mul (pe_op op_mod (pv 4) pe_int) (pe_op op_add (pe_op op_add (pe_op op_mul (pv 3) (pv 3)) (pe_op op_mul pe_int (pv 3))) pe_int)))
  (pss_cons (ps_set (i := 6) sc__law_take.nd rfl (Or.inl rfl) (pe_op op_add (pe_op op_add (pe_op op_add (pv 6) (pe_op op_fdiv (pv 4) pe_int)) (pe_op op_mul (pv 3) pe_int)) (pe_ix ix_list (pv 0) pe_int (fun _ _ => rfl))))
  (pss_cons (ps_set (i := 6) sc__law_take.nd rfl (Or.inl rfl) (pe_op op_mod (pe_callTy call_int1 (by rfl) T.int boot_int (pa_cons (pv 6) pa_nil)) pe_int))
  (pss_cons (ps_set (i := 6) sc__law_take.nd rfl (Or.inl rfl) (pe_op op_mod (pe_callTy call_int1 (by rfl) T.int boot_int (pa_cons (pe_op op_add (pe_op op_add (pe_op op_mul (pv 6) (pv 6)) (pe_op op_mul pe_int (pv 6))) (pv 3)) pa_nil)) pe_int))
  (pss_one (ps_ret (pe_op op_modN (pe_op op_fdiv (pv 6) pe_int) (pv 1))))))))))))), ?_⟩
    refine ⟨_, rfl, h, _, 0, _, rfl, rfl, SqL.of hh, rfl, _, rfl, h, _, 1, _, rfl, rfl, SqL.of hh, rfl, ?_⟩
    -- hand[1] = k + 1
    refine ⟨_, rfl, _, _, rfl, rfl, _, rfl, h, _, 1, 1, rfl, rfl, hh, rfl, ?_⟩
    have g1 : Go tb (own2 h c) G H G (upd H h (.lst [.ref c, .int (kk + 1), .int t])) := (Go.refl g).put hh trivial (.inr (.inl rfl)) hA.gh trivial
    have hh1 : upd H h (.lst [.ref c, .int (kk + 1), .int t]) h = some (.lst [.ref c, .int (kk + 1), .int t]) := upd_same
    have hc1 : upd H h (.lst [.ref c, .int (kk + 1), .int t]) c = some (.lst (cells.map V.int)) := by rw [upd_ne hA.ne.symm]; exact hc
    show tSeq _ _ _ _ (upd H h (.lst [.ref c, .int (kk + 1), .int t]))
    generalize upd H h (.lst [.ref c, .int (kk + 1), .int t]) = H1 at g1 hh1 hc1 ⊢
    have hA1 : HandAt G H1 h c (b + 1) := ⟨hA.gh, hA.gc, hA.ne, ⟨kk + 1, t, hh1, by omega, by omega⟩, ⟨cells, hc1, hcl⟩⟩
    refine ⟨fun σ H2 => H2 = H1 ∧ ∃ (x : Int) (o5 : Option V), σ = [some (.ref h), some (.int lim), some (.ref c), some (.int kk), some (.int x), o5, none], ?_, ?_⟩
    · refine ⟨_, rfl, _, (cells.map V.int).length, rfl, .inl ⟨_, SqL.of hc1, rfl⟩, _, _, rfl, rfl, ?_⟩
      rw [List.length_map]
      by_cases hcz : cells.length = 0
      · exact ⟨false, blF (by rw [hcz]; decide), iteF ⟨rfl, 0, none, rfl⟩⟩
      · refine ⟨true, blT (by omega), iteT ?_⟩
        refine ⟨_, rfl, _, rfl, _, (cells.map V.int).length, rfl, .inl ⟨_, SqL.of hc1, rfl⟩, _, _, rfl, rfl, by rw [List.length_map]; omega, ?_⟩
        rw [List.length_map]
        obtain ⟨f0, f1⟩ := fmod_in (i := kk) (j := (cells.length : Nat)) (by omega)
        obtain ⟨pl, epl⟩ : ∃ pl : Nat, kk.fmod (cells.length : Nat) = (pl : Int) := ⟨(kk.fmod (cells.length : Nat)).toNat, by omega⟩
        have pll : pl < cells.length := by omega
        show gName 5 (.int (kk.fmod (cells.length : Nat))) _ _ _
        rw [epl]
        have ex : (cells.map V.int)[pl]? = some (.int cells[pl]) := by rw [List.getElem?_map, List.getElem?_eq_getElem pll]; rfl
        refine ⟨_, rfl, _, rfl, c, _, _, _, rfl, rfl, SqL.of hc1, atI_nat ex, ?_⟩
        refine ⟨_, rfl, _, _, rfl, rfl, ⟨by decide, by decide, by decide⟩, _, _, rfl, rfl, ?_⟩
        by_cases big : (10 : Int) ^ (18 : Int).toNat ≤ cells[pl]
        · refine ⟨true, blT big, iteT ?_⟩
          refine ⟨_, rfl, _, rfl, _, _, rfl, rfl, ⟨by omega, by omega⟩, _, rfl, _, rfl, c, _, _, pl, rfl, rfl, hc1, ?_, ?_⟩
          · unfold ixN
            rw [if_pos (by omega), if_pos (by rw [List.length_map]; omega), Int.toNat_natCast]
          have g2 := g1.put (o' := .lst ((cells.map V.int).set pl (.int (cells[pl].fdiv lim)))) hc1 trivial (.inr (.inr rfl)) hA.gc trivial
          obtain ⟨r0, r1⟩ := fmod_in (i := cells[pl]) l0
          refine ⟨_, rfl, .inl ⟨_, rfl, _, rfl, _, _, rfl, rfl, by omega, ?_⟩⟩
          refine k _ _ g2 ⟨hA.gh, hA.gc, hA.ne, ⟨kk + 1, t, by rw [upd_ne hA.ne]; exact hh1, by omega, by omega⟩, ⟨cells.set pl (cells[pl].fdiv lim), by rw [upd_same, List.map_set], by rw [List.length_set]; exact hcl⟩⟩ r0 r1
        · exact ⟨false, blF big, iteF ⟨rfl, _, _, rfl⟩⟩
    · rintro σ H2 ⟨rfl, x, o5, rfl⟩
      -- _law_mixed
      refine ⟨_, rfl, _, _, rfl, rfl, by show (0 : Int) < 1000000007; decide, _, rfl, _, rfl, _, _, rfl, rfl, .inl ⟨by omega, by omega⟩, _, rfl, _, _, rfl, rfl, .inl ⟨by decide, by decide⟩, _, _, rfl, rfl, _, _, rfl, rfl, _, _, rfl, rfl, .inl ⟨by omega, by omega⟩, ?_⟩
      refine ⟨_, rfl, _, rfl, _, _, rfl, rfl, ⟨by decide, by decide⟩, _, _, rfl, rfl, _, rfl, _, _, rfl, rfl, .inr ⟨by decide, by decide⟩, _, _, rfl, rfl, _, rfl, h, _, 2, _, rfl, rfl, SqL.of hh1, rfl, _, _, rfl, rfl, ?_⟩
      refine ⟨_, rfl, .inl ⟨_, rfl, _, _, rfl, rfl, by show (0 : Int) < 2147483629; decide, ?_⟩⟩
      generalize x % 1000000007 * (kk * kk + 31 * kk + 17) + x / 1000000007 + kk * 7919 + t = m1
      have m0 := Int.emod_nonneg m1 (b := 2147483629) (by decide)
      have m2 := Int.emod_lt_of_pos m1 (b := 2147483629) (by decide)
      refine ⟨_, rfl, _, rfl, _, _, rfl, rfl, .inl ⟨by omega, by omega⟩, _, rfl, _, _, rfl, rfl, .inl ⟨by decide, by decide⟩, _, _, rfl, rfl, _, rfl, _, _, rfl, rfl, .inl ⟨_, rfl, _, _, rfl, rfl, by show (0 : Int) < 2147483587; decide, ?_⟩⟩
      refine ⟨_, rfl, _, _, rfl, rfl, ⟨by decide, by decide⟩, _, rfl, _, _, rfl, rfl, by omega, ?_⟩
      obtain ⟨r0, r1⟩ := fmod_in (i := ((m1 % 2147483629 * (m1 % 2147483629) + 40692 * (m1 % 2147483629) + kk) % 2147483587) / 11) l0
      exact k _ _ g1 hA1 r0 r1
end
end Sand

set_option Elab.async false
set_option linter.all false
set_option maxRecDepth 100000
set_option maxHeartbeats 4000000
namespace Sand
open PySem PySem.Spec PyProof.Rows L2
theorem rg_two {i j : Int} (hi : -1000 ≤ i) (hi' : i ≤ 1000) (hj : -1000 ≤ j) (hj' : j ≤ 1000) : ∃ n : Nat, RgC i j 2 n ∧ ∀ k : Nat, k < n ↔ i + (k : Int) * 2 < j := by
  have e : Builtin.Range.rangeSize i j 2 = if i < j then (j - i - 1) / 2 + 1 else 0 := by
    unfold Builtin.Range.rangeSize
    rw [if_pos (by decide)]
  by_cases h : i < j
  · rw [if_pos h] at e
    refine ⟨((j - i - 1) / 2 + 1).toNat, ⟨by decide, by decide, ?_, by rw [e]; omega⟩, fun k => ⟨fun _ => by omega, fun _ => by omega⟩⟩
    unfold Builtin.Range.small
    rw [e]
    simp only [Builtin.Range.rangeFitsLong, Bool.and_eq_true, Bool.or_eq_true, decide_eq_true_eq, beq_iff_eq, show ((2 : Int) > 0) by decide, if_true]
    omega
  · rw [if_neg h] at e
    refine ⟨0, ⟨by decide, by decide, ?_, by rw [e]; rfl⟩, fun k => ⟨fun _ => by omega, fun _ => by omega⟩⟩
    unfold Builtin.Range.small
    rw [e]
    simp only [Builtin.Range.rangeFitsLong, Bool.and_eq_true, Bool.or_eq_true, decide_eq_true_eq, beq_iff_eq, show ((2 : Int) > 0) by decide, if_true]
    omega
section
variable {P : Program} {w : World} {K : PySem.W.Frag} {mg : Str → Option Value} {base : Heap} {C L : Addr} {tb : Addr × Str}
-- 0 _law_width, 1 _law_height, 2 _law_points_here, 3 _law_y, 4 _law_x
abbrev N__law_points : List Str := ["_law_width", "_law_height", "_law_points_here", "_law_y", "_law_x"]
theorem sc__law_points : FnScope N__law_points ["_law_width", "_law_height"] (defScope s__law_points) := C8.fnScope_by (by decide +kernel)
def spPts (tb : Addr × Str) : Sp := fun vs H Q _ => ∃ (G : Hp) (x y : Int), vs = [.int x, .int y] ∧ Vw tb G H ∧ 1 ≤ x ∧ 1 ≤ y ∧ x ≤ 9 ∧ y ≤ 9 ∧
  Ret tb no G H (fun G' u => ∃ ps : List Pt, At G' u (.list (ps.map pD)) ∧ ps.Nodup ∧ (∀ p, p ∈ ps → InsI x y p.1 p.2) ∧ ps.length ≤ 400) Q
theorem ok__law_points (D0 : DefAt K mg "_law_points" s__law_points) (T : Txt K mg C L) : C8.Cal P w K mg base 1 "_law_points" (spPts tb) [] := by
  refine D0.cal (N := N__law_points) (ps := ["_law_width", "_law_height"]) (fun _ _ _ _ _ _ us hl => match us, hl with | [_, _], _ => rfl) sc__law_points (fun vs H Q E h => ?_) (fun f cdv A outer st H vs Q E hr h => ?_)
  · obtain ⟨G, x, y, rfl, _⟩ := h
    rfl
  · obtain ⟨G, wd, ht, rfl, g, w1, h1, w9, h9, k⟩ := h
    refine ⟨_, (pss_cons (ps_set (i := 2) sc__law_points.nd rfl (Or.inl rfl) (pe_lst pa_nil))
  (pss_cons (ps_for PassesOwn.never rfl (pi_range2 rfl T.range (pa_cons pe_int (pa_cons (pe_op op_mul pe_int (pv 1)) pa_nil))) (pg_name (i := 3) sc__law_points.nd rfl (Or.inl rfl))
  (pss_one (ps_for PassesOwn.never rfl (pi_range3 rfl T.range (pa_cons (pe_op op_add pe_int (pe_op op_mod (pv 3) pe_int)) (pa_cons (pe_op op_mul pe_int (pv 0)) (pa_cons pe_int pa_nil)))) (pg_name (i := 4) sc__law_points.nd rfl (Or.inl rfl))
  (pss_one (ps_expr (pe_bm PySem.F.plainAttrs_list PySem.F.slot_list_append PySem.F.type_list_append mt_append (pv 2) (pa_cons (pe_tup (pa_cons (pv 4) (pa_cons (pv 3) pa_nil))) pa_nil)))))))
  (pss_one (ps_ret (pv 2))))), ?_⟩
    refine ⟨len0, fun D hD => ?_⟩
    have nD := (Go.refl (M := no) g).fresh hD
    have gD : G D = none := g.gh.free hD
    refine ⟨_, rfl, _, _, rfl, rfl, c2 _, 1, 2 * ht, rfl, ⟨by omega, by omega, by omega, by omega⟩, ?_⟩
    refine for_range (lo := 1) (n := (2 * ht - 1).toNat) (fun i σ H' => ∃ (G' : Hp) (ps : List Pt) (vs : List V) (o3 o4 : Option V), σ = [some (.int wd), some (.int ht), some (.ref D), o3, o4] ∧ Go tb no G H G' H' ∧ G' D = none ∧ H' D = some (.lst vs) ∧ AtAll G' vs (ps.map pD) ∧ ps.Nodup ∧ (∀ p, p ∈ ps → InsI wd ht p.1 p.2 ∧ p.2 < 1 + (i : Int)) ∧ ps.length ≤ 20 * i)
      ⟨G, [], [], none, none, rfl, (Go.refl g).new hD, gD, upd_same, .nil, List.nodup_nil, fun p hp => absurd hp (by simp), Nat.le_refl _⟩ ?_ ?_
    · rintro i σ H1 hi ⟨G1, ps, vs, o3, o4, rfl, g1, gD1, hD1, hvs, hnd, hin, hl⟩
      generalize ey : (1 : Int) + (i : Int) = y at hin ⊢
      -- for x in range(1 + y % 2, 2 * width, 2)
      have ym0 := Int.emod_nonneg y (b := 2) (by decide)
      have ym1 := Int.emod_lt_of_pos y (b := 2) (by decide)
      obtain ⟨n, hrg, hn⟩ := rg_two (i := 1 + y % 2) (j := 2 * wd) (by omega) (by omega) (by omega) (by omega)
      refine ⟨_, rfl, _, _, rfl, rfl, by show (0 : Int) < 2; decide, _, _, rfl, rfl, _, rfl, _, _, rfl, rfl, c2 _, _, _, _, n, rfl, hrg, ?_⟩
      have hnl : n ≤ 9 := by
        rcases Nat.lt_or_ge 9 n with z | z
        · have := (hn 9).mp z
          omega
        · exact z
      refine for_rangeC (lo := 1 + y % 2) (c := 2) (n := n) (fun j σ H' => ∃ (G' : Hp) (ps : List Pt) (vs : List V) (o4 : Option V), σ = [some (.int wd), some (.int ht), some (.ref D), some (.int y), o4] ∧ Go tb no G H G' H' ∧ G' D = none ∧ H' D = some (.lst vs) ∧ AtAll G' vs (ps.map pD) ∧ ps.Nodup ∧ (∀ p, p ∈ ps → InsI wd ht p.1 p.2 ∧ (p.2 < y ∨ p.2 = y ∧ p.1 < 1 + y % 2 + (j : Int) * 2)) ∧ ps.length ≤ 20 * i + j)
        ⟨G1, ps, vs, o4, rfl, g1, gD1, hD1, hvs, hnd, fun p hp => ⟨(hin p hp).1, .inl (hin p hp).2⟩, hl⟩ ?_ ?_
      · rintro j σ H2 hj ⟨G2, ps, vs, o4, rfl, g2, gD2, hD2, hvs, hnd, hin, hl⟩
        have hj2 := (hn j).mp hj
        generalize ex : 1 + y % 2 + (j : Int) * 2 = x at hin hj2 ⊢
        refine ⟨_, rfl, .inl ⟨rfl, _, SqL.of hD2⟩, _, rfl, _, rfl, len2, fun t ht => ?_⟩
        obtain ⟨g3, s3, e3⟩ := g2.tup ht [.int x, .int y]
        have hD3 : upd H2 t (.tup [.int x, .int y]) D = some (.lst vs) := by rw [upd_ne (ne_of_none hD2 ht)]; exact hD2
        have gD3 : upd G2 t (.tup [.int x, .int y]) D = none := by rw [upd_ne (ne_of_none hD2 ht)]; exact gD2
        have vl : vs.length = ps.length := hvs.mapLen
        refine ⟨D, vs, _, rfl, rfl, hD3, le_line (by omega), ?_⟩
        refine ⟨_, ps ++ [(x, y)], _, _, rfl, g3.put (o' := .lst (vs ++ [.ref t])) hD3 trivial (.inl nD) gD3 trivial, gD3, upd_same, ?_, ?_, fun p hp => ?_, by rw [List.length_append, List.length_singleton]; omega⟩
        · rw [List.map_append]; exact (AtAll.mono s3 _ hvs).snoc (At.ofPt e3)
        · refine List.nodup_append.mpr ⟨hnd, by simp, fun a ha b hb => ?_⟩
          rw [List.mem_singleton.mp hb]
          intro e
          subst e
          have := (hin _ ha).2
          simp only at this
          omega
        · rcases List.mem_append.mp hp with q | q
          · refine ⟨(hin p q).1, ?_⟩
            have := (hin p q).2
            omega
          · rw [List.mem_singleton.mp q]
            exact ⟨⟨by omega, by omega, by omega, by omega, by omega⟩, .inr ⟨rfl, by omega⟩⟩
      · rintro σ H2 ⟨G2, ps, vs, o4, rfl, g2, gD2, hD2, hvs, hnd, hin, hl⟩
        refine ⟨G2, ps, vs, _, _, rfl, g2, gD2, hD2, hvs, hnd, fun p hp => ⟨(hin p hp).1, ?_⟩, by omega⟩
        have := (hin p hp).2
        omega
    · rintro σ H1 ⟨G1, ps, vs, o3, o4, rfl, g1, gD1, hD1, hvs, hnd, hin, hl⟩
      exact ⟨_, rfl, k _ _ _ (g1.freeze hD1 trivial nD gD1) ⟨ps, .lst upd_same (AtAll.mono (same_upd gD1) _ hvs), hnd, fun p hp => (hin p hp).1, by omega⟩⟩
/-- what is handed back when the hand has been used -/
def RetH (tb : Addr × Str) (h c : Addr) (b : Nat) (G H : Hp) (R : Hp → V → Prop) (Q : VK) : Prop := ∀ G' H' u, Go tb (own2 h c) G H G' H' → HandAt G' H' h c b → R G' u → Q u H'
-- 0 _law_hand_here, 1 _law_most, 2 _law_one, 3 _law_other
abbrev N__law_sizes : List Str := ["_law_hand_here", "_law_most", "_law_one", "_law_other"]
theorem sc__law_sizes : FnScope N__law_sizes ["_law_hand_here", "_law_most"] (defScope s__law_sizes) := C8.fnScope_by (by decide +kernel)
def spSz (tb : Addr × Str) : Sp := fun vs H Q _ => ∃ (G : Hp) (h c : Addr) (b : Nat) (m : Int), vs = [.ref h, .int m] ∧ Vw tb G H ∧ HandAt G H h c b ∧ b < 100000000 ∧ 4 ≤ m ∧ m ≤ 9 ∧
  RetH tb h c (b + 3) G H (fun G' u => ∃ t x y, u = .ref t ∧ G' t = some (.tup [.int x, .int y]) ∧ 1 ≤ x ∧ 1 ≤ y ∧ x ≤ 9 ∧ y ≤ 9) Q
theorem ok__law_sizes (D0 : DefAt K mg "_law_sizes" s__law_sizes) (T : Txt K mg C L) (c__law_take : C8.Cal P w K mg base 1 "_law_take" (spTk tb) []) : C8.Cal P w K mg base 2 "_law_sizes" (spSz tb) [] := by
  refine D0.cal (N := N__law_sizes) (ps := ["_law_hand_here", "_law_most"]) (fun _ _ _ _ _ _ us hl => match us, hl with | [_, _], _ => rfl) sc__law_sizes (fun vs H Q E h => ?_) (fun f cdv A outer st H vs Q E hr h => ?_)
  · obtain ⟨G, h, c, b, m, rfl, _⟩ := h
    rfl
  · obtain ⟨G, h, c, b, m, rfl, g, hA, hb, m4, m9, k⟩ := h
    refine ⟨_, (pss_cons (ps_set (i := 2) sc__law_sizes.nd rfl (Or.inl rfl) (pe_op op_add pe_int (C8.pe_c c__law_take hr (by decide) rfl (pa_cons (pv 0) (pa_cons (pe_callB (call_min2 rfl) (by rfl) T.min boot_min (pa_cons pe_int (pa_cons (pv 1) pa_nil))) pa_nil)))))
  (pss_cons (ps_set (i := 3) sc__law_sizes.nd rfl (Or.inl rfl) (pe_op op_add pe_int (C8.pe_c c__law_take hr (by decide) rfl (pa_cons (pv 0) (pa_cons (pe_op op_fdivN (pv 1) (pv 2)) pa_nil)))))
  (pss_cons (ps_if (pt_cmpR op_eq (C8.pe_c c__law_take hr (by decide) rfl (pa_cons (pv 0) (pa_cons pe_int pa_nil))) pe_int (nomark _)) (pss_one (ps_ret (pe_tup (pa_cons (pv 2) (pa_cons (pv 3) pa_nil))))) pss_nil)
  (pss_one (ps_ret (pe_tup (pa_cons (pv 3) (pa_cons (pv 2) pa_nil)))))))), ?_⟩
    refine ⟨_, rfl, _, rfl, 6, m, rfl, G, h, c, b, _, rfl, g, hA, by omega, by split <;> omega, by split <;> omega, fun H1 r g1 hA1 r0 r1 => ?_⟩
    have r2 : r < m := by split at r1 <;> omega
    have r3 : r < 6 := by split at r1 <;> omega
    refine ⟨_, _, rfl, rfl, ?_⟩
    have p1 : 1 ≤ 1 + r := by omega
    have p2 : 1 + r ≤ m := by omega
    have d1 : 1 ≤ m.fdiv (1 + r) := by rw [Int.fdiv_eq_ediv_of_nonneg _ (by omega)]; exact Int.le_ediv_of_mul_le (by omega) (by omega)
    have d2 : m.fdiv (1 + r) ≤ m := by rw [Int.fdiv_eq_ediv_of_nonneg _ (by omega)]; exact Int.ediv_le_self _ (by omega)
    refine ⟨_, rfl, _, rfl, _, rfl, _, _, rfl, rfl, ⟨by omega, by omega⟩, G, h, c, b + 1, _, rfl, g1.vw, hA1, by omega, by omega, by omega, fun H2 r' g2 hA2 q0 q1 => ⟨_, _, rfl, rfl, ?_⟩⟩
    have g3 := g1.trans g2
    refine ⟨_, rfl, G, h, c, b + 2, 2, rfl, g2.vw, hA2, by omega, by omega, by omega, fun H3 r'' g4 hA3 s0 s1 => ⟨rfl, ?_⟩⟩
    have g5 := g3.trans g4
    by_cases hz : r'' = 0
    · refine ⟨true, blT (vi hz), iteT ⟨_, rfl, _, rfl, len2, fun t ht => ?_⟩⟩
      obtain ⟨g6, s6, e6⟩ := g5.tup ht [.int (1 + r), .int (1 + r')]
      exact k _ _ _ g6 (hA3.newG ht) ⟨t, 1 + r, 1 + r', rfl, e6, p1, by omega, by omega, by omega⟩
    · refine ⟨false, blF (vi_ne hz), iteF ⟨_, rfl, _, rfl, len2, fun t ht => ?_⟩⟩
      obtain ⟨g6, s6, e6⟩ := g5.tup ht [.int (1 + r'), .int (1 + r)]
      exact k _ _ _ g6 (hA3.newG ht) ⟨t, 1 + r', 1 + r, rfl, e6, by omega, p1, by omega, by omega⟩
-- 0 _law_hand_here, 1 _law_width, 2 _law_height
abbrev N__law_square : List Str := ["_law_hand_here", "_law_width", "_law_height"]
theorem sc__law_square : FnScope N__law_square ["_law_hand_here", "_law_width", "_law_height"] (defScope s__law_square) := C8.fnScope_by (by decide +kernel)
def spLsq (tb : Addr × Str) : Sp := fun vs H Q _ => ∃ (G : Hp) (h c : Addr) (b : Nat) (x y : Int), vs = [.ref h, .int x, .int y] ∧ Vw tb G H ∧ HandAt G H h c b ∧ b < 100000000 ∧ 1 ≤ x ∧ 1 ≤ y ∧ x ≤ 9 ∧ y ≤ 9 ∧
  RetH tb h c (b + 2) G H (fun G' u => ∃ s : Pt, At G' u (pD s) ∧ 0 ≤ s.1 ∧ s.1 < 2 * x ∧ 0 ≤ s.2 ∧ s.2 < 2 * y) Q
theorem ok__law_square (D0 : DefAt K mg "_law_square" s__law_square) (c__law_take : C8.Cal P w K mg base 1 "_law_take" (spTk tb) []) : C8.Cal P w K mg base 2 "_law_square" (spLsq tb) [] := by
  refine D0.cal (N := N__law_square) (ps := ["_law_hand_here", "_law_width", "_law_height"]) (fun _ _ _ _ _ _ us hl => match us, hl with | [_, _, _], _ => rfl) sc__law_square (fun vs H Q E h => ?_) (fun f cdv A outer st H vs Q E hr h => ?_)
  · obtain ⟨G, h, c, b, x, y, rfl, _⟩ := h
    rfl
  · obtain ⟨G, h, c, b, x, y, rfl, g, hA, hb, x1, y1, x9, y9, k⟩ := h
    refine ⟨_, (pss_one (ps_ret (pe_tup (pa_cons (C8.pe_c c__law_take hr (by decide) rfl (pa_cons (pv 0) (pa_cons (pe_op op_mul pe_int (pv 1)) pa_nil))) (pa_cons (C8.pe_c c__law_take hr (by decide) rfl (pa_cons (pv 0) (pa_cons (pe_op op_mul pe_int (pv 2)) pa_nil))) pa_nil))))), ?_⟩
    refine ⟨_, rfl, _, rfl, _, _, rfl, rfl, c2 _, G, h, c, b, _, rfl, g, hA, by omega, by omega, by omega, fun H1 r g1 hA1 r0 r1 => ?_⟩
    refine ⟨_, rfl, _, rfl, _, _, rfl, rfl, c2 _, G, h, c, b + 1, _, rfl, g1.vw, hA1, by omega, by omega, by omega, fun H2 r' g2 hA2 q0 q1 => ⟨len2, fun t ht => ?_⟩⟩
    obtain ⟨g6, s6, e6⟩ := (g1.trans g2).tup ht [.int r, .int r']
    exact k _ _ _ g6 (hA2.newG ht) ⟨(r, r'), At.ofPt e6, r0, r1, q0, q1⟩
end
end Sand

set_option Elab.async false
set_option linter.all false
set_option maxRecDepth 100000
set_option maxHeartbeats 4000000
namespace Sand
open PySem PySem.Spec PyProof.Rows L2
theorem len4 : (4 : Nat) ≤ sizeLine := by decide
theorem len8 : (8 : Nat) ≤ sizeLine := by decide
theorem ins_perm {α : Type} (l : List α) (k : Nat) (a : α) : (l.take k ++ [a] ++ l.drop k).Perm (a :: l) := by
  have h : (l.take k ++ [a] ++ l.drop k).Perm (a :: (l.take k ++ l.drop k)) := by
    rw [List.append_assoc]
    exact List.perm_middle
  rwa [List.take_append_drop] at h
theorem erase_perm {α : Type} : ∀ {l : List α} {k : Nat} {a : α}, l[k]? = some a → l.Perm (a :: l.eraseIdx k)
  | [], _, _, h => by simp at h
  | x :: l, 0, a, h => by simp at h; subst h; exact List.Perm.refl _
  | x :: l, k + 1, a, h => by
    have q := erase_perm (l := l) (k := k) (a := a) (by simpa using h)
    exact (q.cons x).trans (List.Perm.swap ..)
theorem AtAll.erase {G : Hp} : ∀ {ds : List PyData} {vs : List V} (i : Nat), AtAll G vs ds → AtAll G (vs.eraseIdx i) (ds.eraseIdx i)
  | [], _, _, h => by cases h; exact .nil
  | e :: ds, _, 0, h => by cases h with | cons a b => exact b
  | e :: ds, _, i + 1, h => by cases h with | cons a b => exact .cons a (AtAll.erase i b)
theorem kS_at {r : Int} (h0 : 0 ≤ r) (h1 : r < 2) : atI ([.str "-", .str "|"] : List V) r = some (.str (kS (decide (r = 0)))) := by
  have : r = 0 ∨ r = 1 := by omega
  rcases this with rfl | rfl <;> decide +kernel
theorem eraseIdx_map {α β : Type} (f : α → β) : ∀ (l : List α) (k : Nat), (l.map f).eraseIdx k = (l.eraseIdx k).map f
  | [], _ => rfl
  | _ :: _, 0 => rfl
  | a :: l, k + 1 => by
    show f a :: (l.map f).eraseIdx k = f a :: (l.eraseIdx k).map f
    rw [eraseIdx_map f l k]
section
variable {P : Program} {w : World} {K : PySem.W.Frag} {mg : Str → Option Value} {base : Heap} {C L : Addr} {tb : Addr × Str}
-- 0 _law_hand_here, 1 _law_most, 2 _law_number, 3 _law_width, 4 _law_height, 5 _law_share, 6 _law_mirrors, 7 _law_free, 8 _law_x, 9 _law_y, 10 _law_spare, 11 _law_step
abbrev N__law_scene : List Str := ["_law_hand_here", "_law_most", "_law_number", "_law_width", "_law_height", "_law_share", "_law_mirrors", "_law_free", "_law_x", "_law_y", "_law_spare", "_law_step"]
theorem sc__law_scene : FnScope N__law_scene ["_law_hand_here"] (defScope s__law_scene) := C8.fnScope_by (by decide +kernel)
/-- a scene: sizes, mirrors that stand, mirrors to spare -/
structure Scene (G : Hp) (vm vs : V) (x y : Int) (ms sp : List Mir) : Prop where
  x1 : 1 ≤ x
  y1 : 1 ≤ y
  x9 : x ≤ 9
  y9 : y ≤ 9
  m : At G vm (.list (ms.map mD))
  s : At G vs (.list (sp.map mD))
  nd : (Plcs ms ++ Plcs sp).Nodup
  im : ∀ m, m ∈ ms → InsI x y m.1 m.2.1
  is : ∀ m, m ∈ sp → InsI x y m.1 m.2.1
  lm : ms.length ≤ 400
  ls : sp.length ≤ 3
def spScene (tb : Addr × Str) : Sp := fun vs H Q _ => ∃ (G : Hp) (h c : Addr) (b : Nat), vs = [.ref h] ∧ Vw tb G H ∧ HandAt G H h c b ∧ b < 10000000 ∧
  RetH tb h c (b + 3000) G H (fun G' u => ∃ t x y vm vs ms sp, u = .ref t ∧ G' t = some (.tup [.int x, .int y, vm, vs]) ∧ Scene G' vm vs x y ms sp) Q
theorem ok__law_scene (D0 : DefAt K mg "_law_scene" s__law_scene) (T : Txt K mg C L) (c__law_take : C8.Cal P w K mg base 1 "_law_take" (spTk tb) []) (c__law_sizes : C8.Cal P w K mg base 2 "_law_sizes" (spSz tb) []) (c__law_points : C8.Cal P w K mg base 1 "_law_points" (spPts tb) []) :
    C8.Cal P w K mg base 3 "_law_scene" (spScene tb) [] := by
  refine D0.cal (N := N__law_scene) (ps := ["_law_hand_here"]) (fun _ _ _ _ _ _ us hl => match us, hl with | [_], _ => rfl) sc__law_scene (fun vs H Q E h => ?_) (fun f cdv A outer st H vs Q E hr h => ?_)
  · obtain ⟨G, h, c, b, rfl, _⟩ := h
    rfl
  · obtain ⟨G, h, c, b, rfl, g, hA, hb, k⟩ := h
    refine ⟨_, (pss_cons (ps_asg (pe_ix ix_list (pe_lst (pa_cons (pe_tup (pa_cons pe_int (pa_cons pe_int pa_nil))) (pa_cons (pe_tup (pa_cons pe_int (pa_cons pe_int pa_nil))) (pa_cons (pe_tup (pa_cons pe_int (pa_cons pe_int pa_nil))) (pa_cons (pe_tup (pa_cons pe_int (pa_cons pe_int pa_nil))) pa_nil))))) (C8.pe_c c__law_take hr (by decide) rfl (pa_cons (pv 0) (pa_cons pe_int pa_nil))) (fun _ _ => rfl)) (pg_tup rfl (pgs_cons (pg_name (i := 1) sc__law_scene.nd rfl (Or.inl rfl)) (pgs_cons (pg_name (i := 2) sc__law_scene.nd rfl (Or.inl rfl)) pgs_nil))))
  (pss_cons (ps_asg (C8.pe_c c__law_sizes hr (by decide) rfl (pa_cons (pv 0) (pa_cons (pv 1) pa_nil))) (pg_tup rfl (pgs_cons (pg_name (i := 3) sc__law_scene.nd rfl (Or.inl rfl)) (pgs_cons (pg_name (i := 4) sc__law_scene.nd rfl (Or.inl rfl)) pgs_nil))))
  (pss_cons (ps_set (i := 5) sc__law_scene.nd rfl (Or.inl rfl) (C8.pe_c c__law_take hr (by decide) rfl (pa_cons (pv 0) (pa_cons pe_int pa_nil))))
  (pss_cons (ps_set (i := 6) sc__law_scene.nd rfl (Or.inl rfl) (pe_lst pa_nil))
  (pss_cons (ps_set (i := 7) sc__law_scene.nd rfl (Or.inl rfl) (pe_lst pa_nil))
  (pss_cons (ps_for PassesOwn.never rfl (pi_list (C8.pe_c c__law_points hr (by decide) rfl (pa_cons (pv 3) (pa_cons (pv 4) pa_nil)))) (pg_tup rfl (pgs_cons (pg_name (i := 8) sc__law_scene.nd rfl (Or.inl rfl)) (pgs_cons (pg_name (i := 9) sc__law_scene.nd rfl (Or.inl rfl)) pgs_nil)))
  (pss_one (ps_if (pt_cmpR op_lt (C8.pe_c c__law_take hr (by decide) rfl (pa_cons (pv 0) (pa_cons pe_int pa_nil))) (pv 5) (nomark _)) (pss_one (ps_expr (pe_bm PySem.F.plainAttrs_list PySem.F.slot_list_insert PySem.F.type_list_insert mt_insert (pv 6) (pa_cons (C8.pe_c c__law_take hr (by decide) rfl (pa_cons (pv 0) (pa_cons (pe_op op_add (pe_callB call_len (by rfl) T.len PySem.boot_len (pa_cons (pv 6) pa_nil)) pe_int) pa_nil))) (pa_cons (pe_tup (pa_cons (pv 8) (pa_cons (pv 9) (pa_cons (pe_ix ix_list (pe_lst (pa_cons pe_str (pa_cons pe_str pa_nil))) (C8.pe_c c__law_take hr (by decide) rfl (pa_cons (pv 0) (pa_cons pe_int pa_nil))) (fun _ _ => rfl)) pa_nil)))) pa_nil))))) (pss_one (ps_expr (pe_bm PySem.F.plainAttrs_list PySem.F.slot_list_append PySem.F.type_list_append mt_append (pv 7) (pa_cons (pe_tup (pa_cons (pv 8) (pa_cons (pv 9) pa_nil))) pa_nil)))))))
  (pss_cons (ps_set (i := 10) sc__law_scene.nd rfl (Or.inl rfl) (pe_lst pa_nil))
  (pss_cons (ps_for PassesOwn.never rfl (pi_range1 rfl T.range (pa_cons (pv 2) pa_nil)) (pg_name (i := 11) sc__law_scene.nd rfl (Or.inl rfl))
  (pss_one (ps_if (pt_cmpR op_gt (pe_callB call_len (by rfl) T.len PySem.boot_len (pa_cons (pv 7) pa_nil)) pe_int (nomark _)) (pss_cons (ps_asg (pe_bm PySem.F.plainAttrs_list PySem.F.slot_list_pop PySem.F.type_list_pop mt_popAt (pv 7) (pa_cons (C8.pe_c c__law_take hr (by decide) rfl (pa_cons (pv 0) (pa_cons (pe_callB call_len (by rfl) T.len PySem.boot_len (pa_cons (pv 7) pa_nil)) pa_nil))) pa_nil)) (pg_tup rfl (pgs_cons (pg_name (i := 8) sc__law_scene.nd rfl (Or.inl rfl)) (pgs_cons (pg_name (i := 9) sc__law_scene.nd rfl (Or.inl rfl)) pgs_nil))))
  (pss_one (ps_expr (pe_bm PySem.F.plainAttrs_list PySem.F.slot_list_append PySem.F.type_list_append mt_append (pv 10) (pa_cons (pe_tup (pa_cons (pv 8) (pa_cons (pv 9) (pa_cons (pe_ix ix_list (pe_lst (pa_cons pe_str (pa_cons pe_str pa_nil))) (C8.pe_c c__law_take hr (by decide) rfl (pa_cons (pv 0) (pa_cons pe_int pa_nil))) (fun _ _ => rfl)) pa_nil)))) pa_nil))))) pss_nil)))
  (pss_one (ps_ret (pe_tup (pa_cons (pv 3) (pa_cons (pv 4) (pa_cons (pv 6) (pa_cons (pv 10) pa_nil))))))))))))))), ?_⟩
    -- most, number
    refine ⟨len2, fun t1 ht1 => ⟨len2, fun t2 ht2 => ⟨len2, fun t3 ht3 => ⟨len2, fun t4 ht4 => ⟨len4, fun q hq => ?_⟩⟩⟩⟩⟩
    obtain ⟨g1, s1, e1⟩ := (Go.refl (M := own2 h c) g).tup ht1 [.int 4, .int 3]
    have hA1 := hA.newG (o := .tup [.int 4, .int 3]) ht1
    obtain ⟨g2, s2, e2⟩ := g1.tup ht2 [.int 6, .int 2]
    have hA2 := hA1.newG (o := .tup [.int 6, .int 2]) ht2
    obtain ⟨g3, s3, e3⟩ := g2.tup ht3 [.int 9, .int 1]
    have hA3 := hA2.newG (o := .tup [.int 9, .int 1]) ht3
    obtain ⟨g4, s4, e4⟩ := g3.tup ht4 [.int 6, .int 3]
    have hA4 := hA3.newG (o := .tup [.int 6, .int 3]) ht4
    obtain ⟨g5, s5, e5⟩ := g4.lst hq [.ref t1, .ref t2, .ref t3, .ref t4]
    have hA5 := hA4.newG (o := .lst [.ref t1, .ref t2, .ref t3, .ref t4]) hq
    have f1 := s5 _ _ (s4 _ _ (s3 _ _ (s2 _ _ e1)))
    have f2 := s5 _ _ (s4 _ _ (s3 _ _ e2))
    have f3 := s5 _ _ (s4 _ _ e3)
    have f4 := s5 _ _ e4
    generalize upd (upd (upd (upd (upd G t1 (.tup [.int 4, .int 3])) t2 (.tup [.int 6, .int 2])) t3 (.tup [.int 9, .int 1])) t4 (.tup [.int 6, .int 3])) q (.lst [.ref t1, .ref t2, .ref t3, .ref t4]) = G5 at g5 hA5 e5 f1 f2 f3 f4
    generalize upd (upd (upd (upd (upd H t1 (.tup [.int 4, .int 3])) t2 (.tup [.int 6, .int 2])) t3 (.tup [.int 9, .int 1])) t4 (.tup [.int 6, .int 3])) q (.lst [.ref t1, .ref t2, .ref t3, .ref t4]) = H5 at g5 hA5 ⊢
    refine ⟨_, rfl, G5, h, c, b, 4, rfl, g5.vw, hA5, by omega, by omega, by omega, fun H6 r g6 hA6 r0 r1 => ?_⟩
    have g7 := g5.trans g6
    obtain ⟨t, m, nb, hat, ht, m4, m9, n1, n3⟩ : ∃ (t : Addr) (m nb : Int), atI ([.ref t1, .ref t2, .ref t3, .ref t4] : List V) r = some (.ref t) ∧ G5 t = some (.tup [.int m, .int nb]) ∧ 4 ≤ m ∧ m ≤ 9 ∧ 1 ≤ nb ∧ nb ≤ 3 := by
      have : r = 0 ∨ r = 1 ∨ r = 2 ∨ r = 3 := by omega
      rcases this with rfl | rfl | rfl | rfl
      · exact ⟨t1, 4, 3, rfl, f1, by decide⟩
      · exact ⟨t2, 6, 2, rfl, f2, by decide⟩
      · exact ⟨t3, 9, 1, rfl, f3, by decide⟩
      · exact ⟨t4, 6, 3, rfl, f4, by decide⟩
    refine ⟨q, _, _, _, rfl, rfl, SqL.of (g7.gh _ _ e5), hat, t, _, rfl, SqT.of (g7.gh _ _ ht), rfl, _, _, rfl, _, _, rfl, rfl, ?_⟩
    -- width, height
    refine ⟨_, rfl, _, rfl, G5, h, c, b + 1, m, rfl, g7.vw, hA6, by omega, m4, m9, fun G8 H8 u g8 hA8 ⟨t, x, y, eu, et, x1, y1, x9, y9⟩ => ?_⟩
    subst eu
    have g9 := g7.trans g8
    refine ⟨t, _, rfl, SqT.of (g9.gh _ _ et), rfl, _, _, rfl, _, _, rfl, rfl, ?_⟩
    -- share
    refine ⟨_, rfl, G8, h, c, _, 3, rfl, g9.vw, hA8, by omega, by omega, by omega, fun H9 sh g10 hA9 _ _ => ?_⟩
    have g11 := g9.trans g10
    refine ⟨len0, fun M hM => ⟨len0, fun F hF => ?_⟩⟩
    have nM := g11.fresh hM
    have gM : G8 M = none := g11.gh.free hM
    obtain ⟨Mh, Mc⟩ := hA9.nh hM
    have g12 := g11.new (o := .lst []) hM
    have hA12 := hA9.new (o := .lst []) hM
    have nF := g12.fresh hF
    have gF : G8 F = none := g12.gh.free hF
    obtain ⟨Fh, Fc⟩ := hA12.nh hF
    have g13 := g12.new (o := .lst []) hF
    have hA13 := hA12.new (o := .lst []) hF
    have MF : M ≠ F := ne_of_none upd_same hF
    have hM13 : upd (upd H9 M (.lst [])) F (.lst []) M = some (.lst []) := by rw [upd_ne MF]; exact upd_same
    have hF13 : upd (upd H9 M (.lst [])) F (.lst []) F = some (.lst []) := upd_same
    generalize upd (upd H9 M (.lst [])) F (.lst []) = H13 at g13 hA13 hM13 hF13 ⊢
    have oM : ¬ own2 h c M := fun z => z.elim Mh Mc
    have oF : ¬ own2 h c F := fun z => z.elim Fh Fc
    -- for x, y in points(width, height)
    refine ⟨_, rfl, _, rfl, G8, x, y, rfl, g13.vw, x1, y1, x9, y9, fun G14 H14 u g14 ⟨ps, hps, hpn, hpi, hpl⟩ => ?_⟩
    obtain ⟨l, ys, rfl, hl, hys⟩ := At.lst_ hps
    have yl : ys.length = ps.length := hys.mapLen
    have g15 := g13.own g14 fun _ z => z.elim
    have hA14 := hA13.keep g14 id id
    have hM14 := g14.loc hM13 trivial id
    have hF14 := g14.loc hF13 trivial id
    have gM14 := g14.out hM13 trivial gM
    have gF14 := g14.out hF13 trivial gF
    refine ⟨l, rfl, ⟨_, SqL.of (g15.gh _ _ hl)⟩, for_list (K := K) (a := l) (xs := ys) (fun i σ H' => ∃ (G' : Hp) (ms : List Mir) (fr : List Pt) (vs ws : List V) (o8 o9 : Option V), σ = [some (.ref h), some (.int m), some (.int nb), some (.int x), some (.int y), some (.int sh), some (.ref M), some (.ref F), o8, o9, none, none] ∧
        Go tb (own2 h c) G H G' H' ∧ Same G14 G' ∧ HandAt G' H' h c (b + 100 + 3 * i) ∧ G' M = none ∧ G' F = none ∧ H' M = some (.lst vs) ∧ H' F = some (.lst ws) ∧ AtAll G' vs (ms.map mD) ∧ AtAll G' ws (fr.map pD) ∧ (Plcs ms ++ fr).Perm (ps.take i))
      ⟨G14, [], [], [], [], none, none, rfl, g15, fun _ _ e => e, hA14.more (by omega), gM14, gF14, hM14, hF14, .nil, .nil, .refl _⟩ (fun i σ H' _ ⟨_, _, _, _, _, _, _, _, z, z2, _⟩ => SqL.of (z.gh _ _ (z2 _ _ hl))) ?_ ?_⟩
    · rintro i v σ H1 hv ⟨G1, ms, fr, vs, ws, o8, o9, rfl, gg, sg, hA, gM, gF, hM, hF, hvs, hws, pm⟩
      obtain ⟨p, hpi, hap⟩ := hys.mapAt hv
      obtain ⟨t, rfl, ht⟩ := (At.mono sg _ hap).pt
      have hi : i < ps.length := (List.getElem?_eq_some_iff.mp hpi).1
      have vl : vs.length = ms.length := hvs.mapLen
      have wl : ws.length = fr.length := hws.mapLen
      have hlen := pm.length_eq
      unfold Plcs at hlen
      rw [List.length_append, List.length_map, List.length_take] at hlen
      refine ⟨t, _, rfl, SqT.of (gg.gh _ _ ht), rfl, _, _, rfl, _, _, rfl, rfl, ?_⟩
      -- if take(4) < share
      refine ⟨_, rfl, G1, h, c, _, 4, rfl, gg.vw, hA, by omega, by omega, by omega, fun H2 r g2 hA2 r0 r1 => ⟨_, rfl, _, _, rfl, rfl, ?_⟩⟩
      have g3 := gg.trans g2
      have hM2 := g2.loc hM trivial oM
      have hF2 := g2.loc hF trivial oF
      by_cases hsh : r < sh
      · refine ⟨true, blT hsh, iteT ?_⟩
        -- mirrors.insert(..)
        refine ⟨_, rfl, .inl ⟨rfl, _, SqL.of hM2⟩, _, rfl, _, rfl, _, vs.length, rfl, .inl ⟨_, SqL.of hM2, rfl⟩, _, _, rfl, rfl, G1, h, c, _, _, rfl, g3.vw, hA2, by omega, by omega, by omega, fun H4 at_ g4 hA4 a0 a1 => ?_⟩
        have g5 := g3.trans g4
        refine ⟨_, rfl, _, rfl, len2, fun q hq => ?_⟩
        obtain ⟨g6, s6, e6⟩ := g5.lst hq [.str "-", .str "|"]
        have hA6 := hA4.newG (o := .lst [.str "-", .str "|"]) hq
        have hM4 := g4.loc hM2 trivial oM
        have hF4 := g4.loc hF2 trivial oF
        have hM6 : upd H4 q (.lst [.str "-", .str "|"]) M = some (.lst vs) := by rw [upd_ne (ne_of_none hM4 hq)]; exact hM4
        have hF6 : upd H4 q (.lst [.str "-", .str "|"]) F = some (.lst ws) := by rw [upd_ne (ne_of_none hF4 hq)]; exact hF4
        have gM6 : upd G1 q (.lst [.str "-", .str "|"]) M = none := by rw [upd_ne (ne_of_none hM4 hq)]; exact gM
        have gF6 : upd G1 q (.lst [.str "-", .str "|"]) F = none := by rw [upd_ne (ne_of_none hF4 hq)]; exact gF
        refine ⟨_, rfl, _, h, c, _, 2, rfl, g6.vw, hA6, by omega, by omega, by omega, fun H7 kr g7 hA7 k0 k1 => ?_⟩
        have g8 := g6.trans g7
        have hM7 := g7.loc hM6 trivial oM
        have hF7 := g7.loc hF6 trivial oF
        refine ⟨q, _, _, _, rfl, rfl, SqL.of (g8.gh _ _ e6), kS_at k0 k1, len3, fun t2 ht2 => ?_⟩
        obtain ⟨g9, s9, e9⟩ := g8.tup ht2 [.int p.1, .int p.2, .str (kS (decide (kr = 0)))]
        have hA9 := hA7.newG (o := .tup [.int p.1, .int p.2, .str (kS (decide (kr = 0)))]) ht2
        have hM9 : upd H7 t2 (.tup [.int p.1, .int p.2, .str (kS (decide (kr = 0)))]) M = some (.lst vs) := by rw [upd_ne (ne_of_none hM7 ht2)]; exact hM7
        have hF9 : upd H7 t2 (.tup [.int p.1, .int p.2, .str (kS (decide (kr = 0)))]) F = some (.lst ws) := by rw [upd_ne (ne_of_none hF7 ht2)]; exact hF7
        have gM9 : upd (upd G1 q (.lst [.str "-", .str "|"])) t2 (.tup [.int p.1, .int p.2, .str (kS (decide (kr = 0)))]) M = none := by rw [upd_ne (ne_of_none hM7 ht2)]; exact gM6
        have gF9 : upd (upd G1 q (.lst [.str "-", .str "|"])) t2 (.tup [.int p.1, .int p.2, .str (kS (decide (kr = 0)))]) F = none := by rw [upd_ne (ne_of_none hF7 ht2)]; exact gF6
        have s19 : Same G1 (upd (upd G1 q (.lst [.str "-", .str "|"])) t2 (.tup [.int p.1, .int p.2, .str (kS (decide (kr = 0)))])) := fun b o e => s9 _ _ (s6 _ _ e)
        refine ⟨M, vs, at_, _, rfl, rfl, hM9, le_line (by omega), a0, by omega, ?_⟩
        refine ⟨_, ms.take at_.toNat ++ [(p.1, p.2, decide (kr = 0))] ++ ms.drop at_.toNat, fr, _, ws, _, _, rfl, g9.put (o' := .lst (vs.take at_.toNat ++ [.ref t2] ++ vs.drop at_.toNat)) hM9 trivial (.inl nM) gM9 trivial, fun b o e => s19 _ _ (sg _ _ e), (hA9.put Mh Mc).more (by omega), gM9, gF9, upd_same, by rw [upd_ne MF.symm]; exact hF9, ?_, AtAll.mono s19 _ hws, ?_⟩
        · have hvs9 := AtAll.mono s19 _ hvs
          rw [List.map_append, List.map_append, List.map_take, List.map_drop]
          exact ((hvs9.take _).app (.cons (At.ofMir e9) .nil)).app (hvs9.drop _)
        · have q1 : (Plcs (ms.take at_.toNat ++ [(p.1, p.2, decide (kr = 0))] ++ ms.drop at_.toNat)).Perm (p :: Plcs ms) := (ins_perm ms at_.toNat (p.1, p.2, decide (kr = 0))).map _
          rw [take_snoc hpi]
          exact ((q1.append_right fr).trans (pm.cons p)).trans (List.perm_append_singleton ..).symm
      · refine ⟨false, blF hsh, iteF ?_⟩
        refine ⟨_, rfl, .inl ⟨rfl, _, SqL.of hF2⟩, _, rfl, _, rfl, len2, fun t2 ht2 => ?_⟩
        obtain ⟨g9, s9, e9⟩ := g3.tup ht2 [.int p.1, .int p.2]
        have hA9 := hA2.newG (o := .tup [.int p.1, .int p.2]) ht2
        have hM9 : upd H2 t2 (.tup [.int p.1, .int p.2]) M = some (.lst vs) := by rw [upd_ne (ne_of_none hM2 ht2)]; exact hM2
        have hF9 : upd H2 t2 (.tup [.int p.1, .int p.2]) F = some (.lst ws) := by rw [upd_ne (ne_of_none hF2 ht2)]; exact hF2
        have gM9 : upd G1 t2 (.tup [.int p.1, .int p.2]) M = none := by rw [upd_ne (ne_of_none hM2 ht2)]; exact gM
        have gF9 : upd G1 t2 (.tup [.int p.1, .int p.2]) F = none := by rw [upd_ne (ne_of_none hF2 ht2)]; exact gF
        refine ⟨F, ws, _, rfl, rfl, hF9, le_line (by omega), ?_⟩
        refine ⟨_, ms, fr ++ [p], vs, _, _, _, rfl, g9.put (o' := .lst (ws ++ [.ref t2])) hF9 trivial (.inl nF) gF9 trivial, fun b o e => s9 _ _ (sg _ _ e), (hA9.put Fh Fc).more (by omega), gM9, gF9, by rw [upd_ne MF]; exact hM9, upd_same, AtAll.mono s9 _ hvs, ?_, ?_⟩
        · rw [List.map_append]
          exact (AtAll.mono s9 _ hws).snoc (At.ofPt e9)
        · rw [take_snoc hpi, ← List.append_assoc]
          exact pm.append_right [p]
    · rintro σ H1 ⟨G1, ms, fr, vs, ws, o8, o9, rfl, gg, sg, hA, gM, gF, hM, hF, hvs, hws, pm⟩
      rw [yl, List.take_length] at pm
      have vl : vs.length = ms.length := hvs.mapLen
      have hlen := pm.length_eq
      unfold Plcs at hlen
      rw [List.length_append, List.length_map] at hlen
      -- the mirrors stay as they are from now on
      have g1 := gg.freeze hM trivial nM gM
      have hA1 := hA.freeze (D := M) (o := .lst vs) Mh Mc
      have e1 : upd G1 M (.lst vs) M = some (.lst vs) := upd_same
      have s1 := same_upd (o := .lst vs) gM
      have hvs1 := AtAll.mono s1 _ hvs
      have hws1 := AtAll.mono s1 _ hws
      have gF1 : upd G1 M (.lst vs) F = none := by rw [upd_ne MF.symm]; exact gF
      generalize upd G1 M (.lst vs) = G2 at g1 hA1 e1 s1 hvs1 hws1 gF1
      -- spare = []
      refine ⟨len0, fun S hS => ?_⟩
      have nS := g1.fresh hS
      have gS : G2 S = none := g1.gh.free hS
      obtain ⟨Sh, Sc⟩ := hA1.nh hS
      have g2 := g1.new (o := .lst []) hS
      have hA2 := hA1.new (o := .lst []) hS
      have FS : F ≠ S := ne_of_none hF hS
      have oS : ¬ own2 h c S := fun z => z.elim Sh Sc
      refine ⟨_, rfl, nb, rfl, by omega, by omega, ?_⟩
      refine for_range (lo := 0) (n := nb.toNat) (fun i σ H' => ∃ (G' : Hp) (sp : List Mir) (fr : List Pt) (zs ws : List V) (o8 o9 o11 : Option V), σ = [some (.ref h), some (.int m), some (.int nb), some (.int x), some (.int y), some (.int sh), some (.ref M), some (.ref F), o8, o9, some (.ref S), o11] ∧
          Go tb (own2 h c) G H G' H' ∧ Same G2 G' ∧ HandAt G' H' h c (b + 1400 + 2 * i) ∧ G' F = none ∧ G' S = none ∧ H' F = some (.lst ws) ∧ H' S = some (.lst zs) ∧ AtAll G' zs (sp.map mD) ∧ AtAll G' ws (fr.map pD) ∧ (Plcs ms ++ (Plcs sp ++ fr)).Perm ps ∧ sp.length ≤ i)
        ⟨G2, [], fr, [], ws, _, _, _, rfl, g2, fun _ _ e => e, hA2.more (by omega), gF1, gS, by rw [upd_ne FS]; exact hF, upd_same, .nil, hws1, pm, Nat.le_refl _⟩ ?_ ?_
      · rintro i σ H3 hi ⟨G3, sp, fr, zs, ws, o8, o9, o11, rfl, g3, sg3, hA3, gF3, gS3, hF3, hS3, hzs, hws, pm, spl⟩
        have wl : ws.length = fr.length := hws.mapLen
        have zl : zs.length = sp.length := hzs.mapLen
        have hlen := pm.length_eq
        unfold Plcs at hlen
        rw [List.length_append, List.length_append, List.length_map, List.length_map] at hlen
        refine ⟨_, rfl, _, ws.length, rfl, .inl ⟨_, SqL.of hF3, rfl⟩, _, _, rfl, rfl, ?_⟩
        by_cases h0 : ws.length = 0
        · refine ⟨false, blF (by rw [h0]; decide), iteF ?_⟩
          exact ⟨G3, sp, fr, zs, ws, _, _, _, rfl, g3, sg3, hA3.more (by omega), gF3, gS3, hF3, hS3, hzs, hws, pm, by omega⟩
        · refine ⟨true, blT (by omega), iteT ?_⟩
          -- x, y = free.pop(take(len(free)))
          refine ⟨_, rfl, .inl ⟨rfl, _, SqL.of hF3⟩, _, rfl, _, rfl, _, ws.length, rfl, .inl ⟨_, SqL.of hF3, rfl⟩, G3, h, c, _, _, rfl, g3.vw, hA3, by omega, by omega, by omega, fun H4 r g4 hA4 r0 r1 => ?_⟩
          have g5 := g3.trans g4
          have hF4 := g4.loc hF3 trivial oF
          have hS4 := g4.loc hS3 trivial oS
          obtain ⟨rn, ern⟩ : ∃ rn : Nat, r = (rn : Int) := ⟨r.toNat, by omega⟩
          subst ern
          have rnl : rn < ws.length := by omega
          obtain ⟨p, hpi, hap⟩ := hws.mapAt (List.getElem?_eq_getElem rnl)
          obtain ⟨t, et, ht⟩ := hap.pt
          have ek : seqIndex? (rn : Int) ws.length = some rn := by rw [seqIndex_of (by omega) (by omega), Int.toNat_natCast]
          refine ⟨F, ws, _, rn, _, rfl, rfl, hF4, by omega, by omega, ek, List.getElem?_eq_getElem rnl, ?_⟩
          have g6 := g5.put (o' := .lst (ws.eraseIdx rn)) hF4 trivial (.inl nF) gF3 trivial
          have hA6 := hA4.put (o := .lst (ws.eraseIdx rn)) Fh Fc
          have hF6 : upd H4 F (.lst (ws.eraseIdx rn)) F = some (.lst (ws.eraseIdx rn)) := upd_same
          have hS6 : upd H4 F (.lst (ws.eraseIdx rn)) S = some (.lst zs) := by rw [upd_ne FS.symm]; exact hS4
          generalize upd H4 F (.lst (ws.eraseIdx rn)) = H6 at g6 hA6 hF6 hS6 ⊢
          refine ⟨t, _, et, SqT.of (g6.gh _ _ ht), rfl, _, _, rfl, _, _, rfl, rfl, ?_⟩
          -- spare.append((x, y, ..))
          refine ⟨_, rfl, .inl ⟨rfl, _, SqL.of hS6⟩, _, rfl, _, rfl, len2, fun q hq => ?_⟩
          obtain ⟨g7, s7, e7⟩ := g6.lst hq [.str "-", .str "|"]
          have hA7 := hA6.newG (o := .lst [.str "-", .str "|"]) hq
          have hF7 : upd H6 q (.lst [.str "-", .str "|"]) F = some (.lst (ws.eraseIdx rn)) := by rw [upd_ne (ne_of_none hF6 hq)]; exact hF6
          have hS7 : upd H6 q (.lst [.str "-", .str "|"]) S = some (.lst zs) := by rw [upd_ne (ne_of_none hS6 hq)]; exact hS6
          have gF7 : upd G3 q (.lst [.str "-", .str "|"]) F = none := by rw [upd_ne (ne_of_none hF6 hq)]; exact gF3
          have gS7 : upd G3 q (.lst [.str "-", .str "|"]) S = none := by rw [upd_ne (ne_of_none hS6 hq)]; exact gS3
          refine ⟨_, rfl, _, h, c, _, 2, rfl, g7.vw, hA7, by omega, by omega, by omega, fun H8 kr g8 hA8 k0 k1 => ?_⟩
          have g9 := g7.trans g8
          have hF8 := g8.loc hF7 trivial oF
          have hS8 := g8.loc hS7 trivial oS
          refine ⟨q, _, _, _, rfl, rfl, SqL.of (g9.gh _ _ e7), kS_at k0 k1, len3, fun t2 ht2 => ?_⟩
          obtain ⟨g10, s10, e10⟩ := g9.tup ht2 [.int p.1, .int p.2, .str (kS (decide (kr = 0)))]
          have hA10 := hA8.newG (o := .tup [.int p.1, .int p.2, .str (kS (decide (kr = 0)))]) ht2
          have hF10 : upd H8 t2 (.tup [.int p.1, .int p.2, .str (kS (decide (kr = 0)))]) F = some (.lst (ws.eraseIdx rn)) := by rw [upd_ne (ne_of_none hF8 ht2)]; exact hF8
          have hS10 : upd H8 t2 (.tup [.int p.1, .int p.2, .str (kS (decide (kr = 0)))]) S = some (.lst zs) := by rw [upd_ne (ne_of_none hS8 ht2)]; exact hS8
          have gF10 : upd (upd G3 q (.lst [.str "-", .str "|"])) t2 (.tup [.int p.1, .int p.2, .str (kS (decide (kr = 0)))]) F = none := by rw [upd_ne (ne_of_none hF8 ht2)]; exact gF7
          have gS10 : upd (upd G3 q (.lst [.str "-", .str "|"])) t2 (.tup [.int p.1, .int p.2, .str (kS (decide (kr = 0)))]) S = none := by rw [upd_ne (ne_of_none hS8 ht2)]; exact gS7
          have s310 : Same G3 (upd (upd G3 q (.lst [.str "-", .str "|"])) t2 (.tup [.int p.1, .int p.2, .str (kS (decide (kr = 0)))])) := fun b o e => s10 _ _ (s7 _ _ e)
          refine ⟨S, zs, _, rfl, rfl, hS10, le_line (by omega), ?_⟩
          refine ⟨_, sp ++ [(p.1, p.2, decide (kr = 0))], fr.eraseIdx rn, _, _, _, _, _, rfl, g10.put (o' := .lst (zs ++ [.ref t2])) hS10 trivial (.inl nS) gS10 trivial, fun b o e => s310 _ _ (sg3 _ _ e), (hA10.put Sh Sc).more (by omega), gF10, gS10, by rw [upd_ne FS]; exact hF10, upd_same, ?_, ?_, ?_, by rw [List.length_append, List.length_singleton]; omega⟩
          · rw [List.map_append]
            exact (AtAll.mono s310 _ hzs).snoc (At.ofMir e10)
          · rw [← eraseIdx_map]
            exact AtAll.mono s310 _ (hws.erase rn)
          · refine List.Perm.trans (List.Perm.append_left _ ?_) pm
            have eP : Plcs (sp ++ [(p.1, p.2, decide (kr = 0))]) = Plcs sp ++ [p] := by unfold Plcs; rw [List.map_append]; rfl
            rw [eP, List.append_assoc]
            exact List.Perm.append_left _ (erase_perm hpi).symm
      · rintro σ H3 ⟨G3, sp, fr, zs, ws, o8, o9, o11, rfl, g3, sg3, hA3, gF3, gS3, hF3, hS3, hzs, hws, pm, spl⟩
        have g4 := g3.freeze hS3 trivial nS gS3
        have hA4 := hA3.freeze (D := S) (o := .lst zs) Sh Sc
        have s4 := same_upd (o := .lst zs) gS3
        refine ⟨_, rfl, _, rfl, _, rfl, _, rfl, len4, fun t ht => ?_⟩
        obtain ⟨g5, s5, e5⟩ := g4.tup ht [.int x, .int y, .ref M, .ref S]
        have nd := pm.nodup_iff.mpr hpn
        rw [← List.append_assoc] at nd
        have mem : ∀ z, z ∈ Plcs ms ++ Plcs sp → z ∈ ps := fun z hz => pm.mem_iff.mp (by rw [← List.append_assoc]; exact List.mem_append_left _ hz)
        refine k _ _ _ g5 ((hA4.newG ht).more (by omega)) ⟨t, x, y, _, _, ms, sp, rfl, e5, ⟨x1, y1, x9, y9, .lst (s5 _ _ (s4 _ _ (sg3 _ _ e1))) (AtAll.mono (fun b o e => s5 _ _ (s4 _ _ (sg3 _ _ e))) _ hvs1), .lst (s5 _ _ upd_same) (AtAll.mono (fun b o e => s5 _ _ (s4 _ _ e)) _ hzs), (List.nodup_append.mp nd).1, fun m hm => hpi _ (mem _ (List.mem_append_left _ (List.mem_map.mpr ⟨m, hm, rfl⟩))), fun m hm => hpi _ (mem _ (List.mem_append_right _ (List.mem_map.mpr ⟨m, hm, rfl⟩))), by omega, by omega⟩⟩
end
end Sand

set_option Elab.async false
set_option linter.all false
set_option maxRecDepth 100000
set_option maxHeartbeats 4000000
namespace Sand
open PySem PySem.Spec PyProof.Rows L2
/-- a pair as a list -/
def qD (q : Pr) : PyData := .list [pD q.1, pD q.2]
theorem At.q_ {G : Hp} {v : V} {q : Pr} (h : At G v (qD q)) : ∃ a x y, v = .ref a ∧ G a = some (.lst [x, y]) ∧ At G x (pD q.1) ∧ At G y (pD q.2) := by
  obtain ⟨a, xs, e, g, h⟩ := At.lst_ h
  obtain ⟨x, ws, rfl, hx, h⟩ := h.cons_
  obtain ⟨y, ws, rfl, hy, h⟩ := h.cons_
  rw [h.nil_] at g
  exact ⟨a, x, y, e, g, hx, hy⟩
def OnW (x y : Int) (s : Pt) : Prop := 0 ≤ s.1 ∧ s.1 < 2 * x ∧ 0 ≤ s.2 ∧ s.2 < 2 * y
theorem four {s : Pt} {x y : Int} (h : IsEnd s (x, y)) : s = (x - 1, y - 1) ∨ s = (x, y - 1) ∨ s = (x - 1, y) ∨ s = (x, y) := by
  obtain ⟨i, j⟩ := s
  unfold IsEnd at h
  simp only at h
  simp only [Prod.mk.injEq]
  omega
section
variable {P : Program} {w : World} {K : PySem.W.Frag} {mg : Str → Option Value} {base : Heap} {C L : Addr} {tb : Addr × Str}
-- 0 _law_x, 1 _law_y, 2 _law_width, 3 _law_height, 4 _law_kind, 5 _law_upper, 6 _law_lower
abbrev N__law_pairs : List Str := ["_law_x", "_law_y", "_law_width", "_law_height", "_law_kind", "_law_upper", "_law_lower"]
theorem sc__law_pairs : FnScope N__law_pairs ["_law_x", "_law_y", "_law_width", "_law_height", "_law_kind"] (defScope s__law_pairs) := C8.fnScope_by (by decide +kernel)
/-- the pairs of squares that meet at a point -/
def Meets (wd ht x y : Int) (prs : List Pr) : Prop := prs.length ≤ 2 ∧ (∀ q, q ∈ prs → OnW wd ht q.1 ∧ OnW wd ht q.2) ∧ ∀ s, OnW wd ht s → IsEnd s (x, y) → ∃ q, q ∈ prs ∧ (s = q.1 ∨ s = q.2)
def spPairs (tb : Addr × Str) : Sp := fun vs H Q _ => ∃ (G : Hp) (x y wd ht : Int) (kd : Str), vs = [.int x, .int y, .int wd, .int ht, .str kd] ∧ Vw tb G H ∧ 1 ≤ wd ∧ 1 ≤ ht ∧ 0 ≤ x ∧ x ≤ 2 * wd ∧ 0 ≤ y ∧ y ≤ 2 * ht ∧ (x + y) % 2 = 1 ∧
  Ret tb no G H (fun G' u => ∃ prs : List Pr, At G' u (.list (prs.map qD)) ∧ Meets wd ht x y prs) Q
theorem ok__law_pairs (D0 : DefAt K mg "_law_pairs" s__law_pairs) : C8.Cal P w K mg base 1 "_law_pairs" (spPairs tb) [] := by
  refine D0.cal (N := N__law_pairs) (ps := ["_law_x", "_law_y", "_law_width", "_law_height", "_law_kind"]) (fun _ _ _ _ _ _ us hl => match us, hl with | [_, _, _, _, _], _ => rfl) sc__law_pairs (fun vs H Q E h => ?_) (fun f cdv A outer st H vs Q E hr h => ?_)
  · obtain ⟨G, x, y, wd, ht, kd, rfl, _⟩ := h
    rfl
  · obtain ⟨G, x, y, wd, ht, kd, rfl, g, w1, h1, x0, x1, y0, y1, xy, k⟩ := h
    refine ⟨_, (pss_cons (ps_set (i := 5) sc__law_pairs.nd rfl (Or.inl rfl) (pe_lst (pa_cons (pe_tup (pa_cons (pe_op op_sub (pv 0) pe_int) (pa_cons (pe_op op_sub (pv 1) pe_int) pa_nil))) (pa_cons (pe_tup (pa_cons (pv 0) (pa_cons (pe_op op_sub (pv 1) pe_int) pa_nil))) pa_nil))))
  (pss_cons (ps_set (i := 6) sc__law_pairs.nd rfl (Or.inl rfl) (pe_lst (pa_cons (pe_tup (pa_cons (pe_op op_sub (pv 0) pe_int) (pa_cons (pv 1) pa_nil))) (pa_cons (pe_tup (pa_cons (pv 0) (pa_cons (pv 1) pa_nil))) pa_nil))))
  (pss_cons (ps_if (pt_cmpR op_eq (pv 1) pe_int (nomark _)) (pss_one (ps_ret (pe_lst (pa_cons (pv 6) pa_nil)))) pss_nil)
  (pss_cons (ps_if (pt_cmpR op_eq (pv 1) (pe_op op_mul pe_int (pv 3)) (nomark _)) (pss_one (ps_ret (pe_lst (pa_cons (pv 5) pa_nil)))) pss_nil)
  (pss_cons (ps_if (pt_cmpR op_eq (pv 0) pe_int (nomark _)) (pss_one (ps_ret (pe_lst (pa_cons (pe_lst (pa_cons (pe_ix ix_list (pv 5) pe_int (fun _ _ => rfl)) (pa_cons (pe_ix ix_list (pv 6) pe_int (fun _ _ => rfl)) pa_nil))) pa_nil)))) pss_nil)
  (pss_cons (ps_if (pt_cmpR op_eq (pv 0) (pe_op op_mul pe_int (pv 2)) (nomark _)) (pss_one (ps_ret (pe_lst (pa_cons (pe_lst (pa_cons (pe_ix ix_list (pv 5) pe_int (fun _ _ => rfl)) (pa_cons (pe_ix ix_list (pv 6) pe_int (fun _ _ => rfl)) pa_nil))) pa_nil)))) pss_nil)
  (pss_cons (ps_if (pt_cmpR op_eq (pv 4) pe_str (nomark _)) (pss_one (ps_ret (pe_lst (pa_cons (pv 5) (pa_cons (pv 6) pa_nil))))) pss_nil)
  (pss_cons (ps_if (pt_cmpR op_eq (pv 4) pe_str (nomark _)) (pss_one (ps_ret (pe_lst (pa_cons (pe_lst (pa_cons (pe_ix ix_list (pv 5) pe_int (fun _ _ => rfl)) (pa_cons (pe_ix ix_list (pv 6) pe_int (fun _ _ => rfl)) pa_nil))) (pa_cons (pe_lst (pa_cons (pe_ix ix_list (pv 5) pe_int (fun _ _ => rfl)) (pa_cons (pe_ix ix_list (pv 6) pe_int (fun _ _ => rfl)) pa_nil))) pa_nil))))) pss_nil)
  (pss_one (ps_ret (pe_lst (pa_cons (pe_lst (pa_cons (pe_ix ix_list (pv 5) pe_int (fun _ _ => rfl)) (pa_cons (pe_ix ix_list (pv 6) pe_int (fun _ _ => rfl)) pa_nil))) (pa_cons (pe_lst (pa_cons (pe_ix ix_list (pv 5) pe_int (fun _ _ => rfl)) (pa_cons (pe_ix ix_list (pv 6) pe_int (fun _ _ => rfl)) pa_nil))) pa_nil))))))))))))), ?_⟩
    refine ⟨_, rfl, _, _, rfl, rfl, _, rfl, _, _, rfl, rfl, len2, fun a ha => ⟨_, rfl, _, rfl, _, _, rfl, rfl, len2, fun b hb => ⟨len2, fun U hU => ?_⟩⟩⟩
    refine ⟨_, rfl, _, _, rfl, rfl, _, rfl, len2, fun c hc => ⟨_, rfl, _, rfl, len2, fun d hd => ⟨len2, fun W hW => ?_⟩⟩⟩
    obtain ⟨g1, s1, e1⟩ := (Go.refl (M := no) g).tup ha [.int (x - 1), .int (y - 1)]
    obtain ⟨g2, s2, e2⟩ := g1.tup hb [.int x, .int (y - 1)]
    obtain ⟨g3, s3, e3⟩ := g2.lst hU [.ref a, .ref b]
    obtain ⟨g4, s4, e4⟩ := g3.tup hc [.int (x - 1), .int y]
    obtain ⟨g5, s5, e5⟩ := g4.tup hd [.int x, .int y]
    obtain ⟨g6, s6, e6⟩ := g5.lst hW [.ref c, .ref d]
    have pa := At.ofPt (s := (x - 1, y - 1)) (s6 _ _ (s5 _ _ (s4 _ _ (s3 _ _ (s2 _ _ e1)))))
    have pb := At.ofPt (s := (x, y - 1)) (s6 _ _ (s5 _ _ (s4 _ _ (s3 _ _ e2))))
    have eU := s6 _ _ (s5 _ _ (s4 _ _ e3))
    have pc := At.ofPt (s := (x - 1, y)) (s6 _ _ (s5 _ _ e4))
    have pd := At.ofPt (s := (x, y)) (s6 _ _ e5)
    have eW := e6
    generalize upd (upd (upd (upd (upd (upd G a (.tup [.int (x - 1), .int (y - 1)])) b (.tup [.int x, .int (y - 1)])) U (.lst [.ref a, .ref b])) c (.tup [.int (x - 1), .int y])) d (.tup [.int x, .int y])) W (.lst [.ref c, .ref d]) = G1 at g6 pa pb pc pd eU eW
    show tSeq _ _ _ _ (upd (upd (upd (upd (upd (upd H a (.tup [.int (x - 1), .int (y - 1)])) b (.tup [.int x, .int (y - 1)])) U (.lst [.ref a, .ref b])) c (.tup [.int (x - 1), .int y])) d (.tup [.int x, .int y])) W (.lst [.ref c, .ref d]))
    generalize upd (upd (upd (upd (upd (upd H a (.tup [.int (x - 1), .int (y - 1)])) b (.tup [.int x, .int (y - 1)])) U (.lst [.ref a, .ref b])) c (.tup [.int (x - 1), .int y])) d (.tup [.int x, .int y])) W (.lst [.ref c, .ref d]) = H1 at g6 ⊢
    clear g1 g2 g3 g4 g5 s1 s2 s3 s4 s5 s6 e1 e2 e3 e4 e5 e6 ha hb hc hd hU hW
    have qU : At G1 (.ref U) (qD ((x - 1, y - 1), (x, y - 1))) := .lst eU (.cons pa (.cons pb .nil))
    have qW : At G1 (.ref W) (qD ((x - 1, y), (x, y))) := .lst eW (.cons pc (.cons pd .nil))
    have hU := g6.gh _ _ eU
    have hW := g6.gh _ _ eW
    -- if y == 0
    refine ⟨_, rfl, rfl, ?_⟩
    by_cases c1 : y = 0
    · refine ⟨true, blT (vi c1), iteT ⟨_, rfl, len1, fun r hr' => ?_⟩⟩
      obtain ⟨g7, s7, e7⟩ := g6.lst hr' [.ref W]
      refine k _ _ _ g7 ⟨[((x - 1, y), (x, y))], .lst e7 (.cons (At.mono s7 _ qW) .nil), by show 1 ≤ 2; decide, fun q hq => ?_, fun s hs he => ?_⟩
      · rw [List.mem_singleton.mp hq]
        unfold OnW
        simp only
        omega
      · refine ⟨_, List.mem_singleton.mpr rfl, ?_⟩
        unfold OnW at hs
        rcases four he with e | e | e | e
        · rw [e] at hs; simp only at hs; omega
        · rw [e] at hs; simp only at hs; omega
        · exact .inl e
        · exact .inr e
    refine ⟨false, blF (vi_ne c1), iteF ?_⟩
    -- if y == 2 * height
    refine ⟨_, rfl, _, rfl, _, _, rfl, rfl, c2 _, rfl, ?_⟩
    by_cases c2' : y = 2 * ht
    · refine ⟨true, blT (vi c2'), iteT ⟨_, rfl, len1, fun r hr' => ?_⟩⟩
      obtain ⟨g7, s7, e7⟩ := g6.lst hr' [.ref U]
      refine k _ _ _ g7 ⟨[((x - 1, y - 1), (x, y - 1))], .lst e7 (.cons (At.mono s7 _ qU) .nil), by show 1 ≤ 2; decide, fun q hq => ?_, fun s hs he => ?_⟩
      · rw [List.mem_singleton.mp hq]
        unfold OnW
        simp only
        omega
      · refine ⟨_, List.mem_singleton.mpr rfl, ?_⟩
        unfold OnW at hs
        rcases four he with e | e | e | e
        · exact .inl e
        · exact .inr e
        · rw [e] at hs; simp only at hs; omega
        · rw [e] at hs; simp only at hs; omega
    refine ⟨false, blF (vi_ne c2'), iteF ?_⟩
    -- if x == 0
    refine ⟨_, rfl, rfl, ?_⟩
    by_cases c3 : x = 0
    · refine ⟨true, blT (vi c3), iteT ⟨_, rfl, U, _, 1, _, rfl, rfl, SqL.of hU, rfl, _, rfl, W, _, 1, _, rfl, rfl, SqL.of hW, rfl, len2, fun r hr' => ⟨len1, fun r2 hr2 => ?_⟩⟩⟩
      obtain ⟨g7, s7, e7⟩ := g6.lst hr' [.ref b, .ref d]
      obtain ⟨g8, s8, e8⟩ := g7.lst hr2 [.ref r]
      have sm : Same G1 (upd (upd G1 r (.lst [.ref b, .ref d])) r2 (.lst [.ref r])) := fun b o e => s8 _ _ (s7 _ _ e)
      refine k _ _ _ g8 ⟨[((x, y - 1), (x, y))], .lst e8 (.cons (.lst (s8 _ _ e7) (.cons (At.mono sm _ pb) (.cons (At.mono sm _ pd) .nil))) .nil), by show 1 ≤ 2; decide, fun q hq => ?_, fun s hs he => ?_⟩
      · rw [List.mem_singleton.mp hq]
        unfold OnW
        simp only
        omega
      · refine ⟨_, List.mem_singleton.mpr rfl, ?_⟩
        unfold OnW at hs
        rcases four he with e | e | e | e
        · rw [e] at hs; simp only at hs; omega
        · exact .inl e
        · rw [e] at hs; simp only at hs; omega
        · exact .inr e
    refine ⟨false, blF (vi_ne c3), iteF ?_⟩
    -- if x == 2 * width
    refine ⟨_, rfl, _, rfl, _, _, rfl, rfl, c2 _, rfl, ?_⟩
    by_cases c4 : x = 2 * wd
    · refine ⟨true, blT (vi c4), iteT ⟨_, rfl, U, _, 0, _, rfl, rfl, SqL.of hU, rfl, _, rfl, W, _, 0, _, rfl, rfl, SqL.of hW, rfl, len2, fun r hr' => ⟨len1, fun r2 hr2 => ?_⟩⟩⟩
      obtain ⟨g7, s7, e7⟩ := g6.lst hr' [.ref a, .ref c]
      obtain ⟨g8, s8, e8⟩ := g7.lst hr2 [.ref r]
      have sm : Same G1 (upd (upd G1 r (.lst [.ref a, .ref c])) r2 (.lst [.ref r])) := fun b o e => s8 _ _ (s7 _ _ e)
      refine k _ _ _ g8 ⟨[((x - 1, y - 1), (x - 1, y))], .lst e8 (.cons (.lst (s8 _ _ e7) (.cons (At.mono sm _ pa) (.cons (At.mono sm _ pc) .nil))) .nil), by show 1 ≤ 2; decide, fun q hq => ?_, fun s hs he => ?_⟩
      · rw [List.mem_singleton.mp hq]
        unfold OnW
        simp only
        omega
      · refine ⟨_, List.mem_singleton.mpr rfl, ?_⟩
        unfold OnW at hs
        rcases four he with e | e | e | e
        · exact .inl e
        · rw [e] at hs; simp only at hs; omega
        · exact .inr e
        · rw [e] at hs; simp only at hs; omega
    refine ⟨false, blF (vi_ne c4), iteF ?_⟩
    have onA : OnW wd ht (x - 1, y - 1) := by unfold OnW; simp only; omega
    have onB : OnW wd ht (x, y - 1) := by unfold OnW; simp only; omega
    have onC : OnW wd ht (x - 1, y) := by unfold OnW; simp only; omega
    have onD : OnW wd ht (x, y) := by unfold OnW; simp only; omega
    have two : ∀ q1 q2 : Pr, OnW wd ht q1.1 → OnW wd ht q1.2 → OnW wd ht q2.1 → OnW wd ht q2.2 → ∀ q, q ∈ [q1, q2] → OnW wd ht q.1 ∧ OnW wd ht q.2 := fun q1 q2 o1 o2 o3 o4 q hq => by
      rcases List.mem_cons.mp hq with e | e
      · rw [e]; exact ⟨o1, o2⟩
      · rw [List.mem_singleton.mp e]; exact ⟨o3, o4⟩
    -- by the kind
    refine ⟨_, rfl, rfl, ?_⟩
    by_cases c5 : kd = "-"
    · refine ⟨true, blT (by rw [c5]), iteT ⟨_, rfl, _, rfl, len2, fun r hr' => ?_⟩⟩
      obtain ⟨g7, s7, e7⟩ := g6.lst hr' [.ref U, .ref W]
      refine k _ _ _ g7 ⟨[((x - 1, y - 1), (x, y - 1)), ((x - 1, y), (x, y))], .lst e7 (.cons (At.mono s7 _ qU) (.cons (At.mono s7 _ qW) .nil)), by show 2 ≤ 2; decide, two _ _ onA onB onC onD, fun s hs he => ?_⟩
      rcases four he with e | e | e | e
      · exact ⟨_, List.mem_cons_self .., .inl e⟩
      · exact ⟨_, List.mem_cons_self .., .inr e⟩
      · exact ⟨_, List.mem_cons_of_mem _ (List.mem_cons_self ..), .inl e⟩
      · exact ⟨_, List.mem_cons_of_mem _ (List.mem_cons_self ..), .inr e⟩
    refine ⟨false, blF (vs_ne c5), iteF ?_⟩
    refine ⟨_, rfl, rfl, ?_⟩
    by_cases c6 : kd = "|"
    · refine ⟨true, blT (by rw [c6]), iteT ⟨_, rfl, U, _, 0, _, rfl, rfl, SqL.of hU, rfl, _, rfl, W, _, 0, _, rfl, rfl, SqL.of hW, rfl, len2, fun r hr' => ?_⟩⟩
      have hU2 : upd H1 r (.lst [.ref a, .ref c]) U = some (.lst [.ref a, .ref b]) := by rw [upd_ne (ne_of_none hU hr')]; exact hU
      have hW2 : upd H1 r (.lst [.ref a, .ref c]) W = some (.lst [.ref c, .ref d]) := by rw [upd_ne (ne_of_none hW hr')]; exact hW
      refine ⟨_, rfl, U, _, 1, _, rfl, rfl, SqL.of hU2, rfl, _, rfl, W, _, 1, _, rfl, rfl, SqL.of hW2, rfl, len2, fun r2 hr2 => ⟨len2, fun r3 hr3 => ?_⟩⟩
      obtain ⟨g7, s7, e7⟩ := g6.lst hr' [.ref a, .ref c]
      obtain ⟨g8, s8, e8⟩ := g7.lst hr2 [.ref b, .ref d]
      obtain ⟨g9, s9, e9⟩ := g8.lst hr3 [.ref r, .ref r2]
      have sm : Same G1 (upd (upd (upd G1 r (.lst [.ref a, .ref c])) r2 (.lst [.ref b, .ref d])) r3 (.lst [.ref r, .ref r2])) := fun b o e => s9 _ _ (s8 _ _ (s7 _ _ e))
      refine k _ _ _ g9 ⟨[((x - 1, y - 1), (x - 1, y)), ((x, y - 1), (x, y))], .lst e9 (.cons (.lst (s9 _ _ (s8 _ _ e7)) (.cons (At.mono sm _ pa) (.cons (At.mono sm _ pc) .nil))) (.cons (.lst (s9 _ _ e8) (.cons (At.mono sm _ pb) (.cons (At.mono sm _ pd) .nil))) .nil)), by show 2 ≤ 2; decide, two _ _ onA onC onB onD, fun s hs he => ?_⟩
      rcases four he with e | e | e | e
      · exact ⟨_, List.mem_cons_self .., .inl e⟩
      · exact ⟨_, List.mem_cons_of_mem _ (List.mem_cons_self ..), .inl e⟩
      · exact ⟨_, List.mem_cons_self .., .inr e⟩
      · exact ⟨_, List.mem_cons_of_mem _ (List.mem_cons_self ..), .inr e⟩
    refine ⟨false, blF (vs_ne c6), iteF ?_⟩
    refine ⟨_, rfl, U, _, 0, _, rfl, rfl, SqL.of hU, rfl, _, rfl, W, _, 1, _, rfl, rfl, SqL.of hW, rfl, len2, fun r hr' => ?_⟩
    have hU2 : upd H1 r (.lst [.ref a, .ref d]) U = some (.lst [.ref a, .ref b]) := by rw [upd_ne (ne_of_none hU hr')]; exact hU
    have hW2 : upd H1 r (.lst [.ref a, .ref d]) W = some (.lst [.ref c, .ref d]) := by rw [upd_ne (ne_of_none hW hr')]; exact hW
    refine ⟨_, rfl, U, _, 1, _, rfl, rfl, SqL.of hU2, rfl, _, rfl, W, _, 0, _, rfl, rfl, SqL.of hW2, rfl, len2, fun r2 hr2 => ⟨len2, fun r3 hr3 => ?_⟩⟩
    obtain ⟨g7, s7, e7⟩ := g6.lst hr' [.ref a, .ref d]
    obtain ⟨g8, s8, e8⟩ := g7.lst hr2 [.ref b, .ref c]
    obtain ⟨g9, s9, e9⟩ := g8.lst hr3 [.ref r, .ref r2]
    have sm : Same G1 (upd (upd (upd G1 r (.lst [.ref a, .ref d])) r2 (.lst [.ref b, .ref c])) r3 (.lst [.ref r, .ref r2])) := fun b o e => s9 _ _ (s8 _ _ (s7 _ _ e))
    refine k _ _ _ g9 ⟨[((x - 1, y - 1), (x, y)), ((x, y - 1), (x - 1, y))], .lst e9 (.cons (.lst (s9 _ _ (s8 _ _ e7)) (.cons (At.mono sm _ pa) (.cons (At.mono sm _ pd) .nil))) (.cons (.lst (s9 _ _ e8) (.cons (At.mono sm _ pb) (.cons (At.mono sm _ pc) .nil))) .nil)), by show 2 ≤ 2; decide, two _ _ onA onD onB onC, fun s hs he => ?_⟩
    rcases four he with e | e | e | e
    · exact ⟨_, List.mem_cons_self .., .inl e⟩
    · exact ⟨_, List.mem_cons_of_mem _ (List.mem_cons_self ..), .inl e⟩
    · exact ⟨_, List.mem_cons_of_mem _ (List.mem_cons_self ..), .inr e⟩
    · exact ⟨_, List.mem_cons_self .., .inr e⟩
end
end Sand

set_option Elab.async false
set_option linter.all false
set_option maxRecDepth 100000
set_option maxHeartbeats 4000000
namespace Sand
open PySem PySem.Spec PyProof.Rows L2
/-! ### the links: of each square a list of indexes -/
def lD (l : List Int) : PyData := .list (l.map PyData.int)
def ixI (wd : Int) (s : Pt) : Int := s.2 * 2 * wd + s.1
theorem ix_rg {wd ht : Int} {s : Pt} (w1 : 1 ≤ wd) (h : OnW wd ht s) : 0 ≤ ixI wd s ∧ ixI wd s < 4 * wd * ht := by
  obtain ⟨h1, h2, h3, h4⟩ := h
  unfold ixI
  have e1 : s.2 * 2 * wd = s.2 * (2 * wd) := by rw [Int.mul_assoc]
  have e2 : 4 * wd * ht = 2 * ht * (2 * wd) := by
    rw [Int.mul_comm (2 * ht), show (4 : Int) * wd = 2 * wd * 2 by omega, Int.mul_assoc (2 * wd)]
  have l1 : 0 ≤ s.2 * (2 * wd) := Int.mul_nonneg h3 (by omega)
  have l2 : (s.2 + 1) * (2 * wd) ≤ 2 * ht * (2 * wd) := Int.mul_le_mul_of_nonneg_right (by omega) (by omega)
  rw [Int.add_mul] at l2
  rw [e1, e2]
  omega
theorem ix_onto {wd ht i : Int} (w1 : 1 ≤ wd) (h0 : 0 ≤ i) (h1 : i < 4 * wd * ht) : ∃ s, OnW wd ht s ∧ ixI wd s = i := by
  have e2 : 4 * wd * ht = 2 * ht * (2 * wd) := by
    rw [Int.mul_comm (2 * ht), show (4 : Int) * wd = 2 * wd * 2 by omega, Int.mul_assoc (2 * wd)]
  rw [e2] at h1
  refine ⟨(i % (2 * wd), i / (2 * wd)), ⟨Int.emod_nonneg _ (by omega), Int.emod_lt_of_pos _ (by omega), Int.ediv_nonneg h0 (by omega), Int.ediv_lt_of_lt_mul (by omega) h1⟩, ?_⟩
  unfold ixI
  show i / (2 * wd) * 2 * wd + i % (2 * wd) = i
  rw [Int.mul_assoc]
  exact Int.ediv_mul_add_emod i (2 * wd)
structure LinkS (H0 G H : Hp) (L : Addr) (N : Nat) (as : List Addr) (ls : List (List Int)) (b : Nat) : Prop where
  hl : H L = some (.lst (as.map V.ref))
  la : as.length = N
  ll : ls.length = N
  nd : as.Nodup
  ne : ∀ a, a ∈ as → a ≠ L ∧ ¬ Std H0 a ∧ G a = none
  hs : ∀ (i : Nat) (a : Addr) (l : List Int), as[i]? = some a → ls[i]? = some l → H a = some (.lst (l.map V.int))
  rg : ∀ l, l ∈ ls → (∀ z, z ∈ l → 0 ≤ z ∧ z < (N : Int)) ∧ l.length ≤ b
theorem LinkS.more {H0 G H : Hp} {L : Addr} {N : Nat} {as : List Addr} {ls : List (List Int)} {b b' : Nat} (k : LinkS H0 G H L N as ls b) (h : b ≤ b') : LinkS H0 G H L N as ls b' := ⟨k.hl, k.la, k.ll, k.nd, k.ne, k.hs, fun l hl => ⟨(k.rg l hl).1, Nat.le_trans (k.rg l hl).2 h⟩⟩
/-- of each of its lists what stands there -/
theorem LinkS.std {H0 G H : Hp} {L : Addr} {N : Nat} {as : List Addr} {ls : List (List Int)} {b : Nat} (k : LinkS H0 G H L N as ls b) {a : Addr} (ha : a ∈ as) : ∃ l : List Int, H a = some (.lst (l.map V.int)) := by
  obtain ⟨i, hi, e⟩ := List.mem_iff_getElem.mp ha
  have hl : i < ls.length := by rw [k.ll, ← k.la]; exact hi
  exact ⟨_, k.hs i a ls[i] (by rw [List.getElem?_eq_getElem hi, e]) (List.getElem?_eq_getElem hl)⟩
theorem LinkS.keep {tb : Addr × Str} {M : Addr → Prop} {H0 G H G1 H1 : Hp} {L : Addr} {N : Nat} {as : List Addr} {ls : List (List Int)} {b : Nat} (k : LinkS H0 G H L N as ls b) (g : Go tb M G H G1 H1) (m : ∀ a, M a → a ≠ L ∧ a ∉ as) : LinkS H0 G1 H1 L N as ls b := by
  refine ⟨g.loc k.hl trivial fun z => (m _ z).1 rfl, k.la, k.ll, k.nd, fun a ha => ⟨(k.ne a ha).1, (k.ne a ha).2.1, ?_⟩, fun i a l h1 h2 => g.loc (k.hs i a l h1 h2) trivial fun z => (m _ z).2 (List.mem_of_getElem? h1), k.rg⟩
  obtain ⟨l, e⟩ := k.std ha
  exact g.out e trivial (k.ne a ha).2.2
theorem LinkS.put {H0 G H : Hp} {L D : Addr} {o : HO} {N : Nat} {as : List Addr} {ls : List (List Int)} {b : Nat} (k : LinkS H0 G H L N as ls b) (hL : D ≠ L) (ha : D ∉ as) : LinkS H0 G (upd H D o) L N as ls b :=
  ⟨by rw [upd_ne hL.symm]; exact k.hl, k.la, k.ll, k.nd, k.ne, fun i a l h1 h2 => by rw [upd_ne (fun z : a = D => ha (by rw [← z]; exact List.mem_of_getElem? h1))]; exact k.hs i a l h1 h2, k.rg⟩
theorem LinkS.off {H0 G H : Hp} {L D : Addr} {N : Nat} {as : List Addr} {ls : List (List Int)} {b : Nat} (k : LinkS H0 G H L N as ls b) (hD : H D = none) : D ≠ L ∧ D ∉ as :=
  ⟨fun z => (by rw [z, k.hl] at hD; cases hD), fun z => (by obtain ⟨l, e⟩ := k.std z; rw [hD] at e; cases e)⟩
theorem LinkS.new {H0 G H : Hp} {L D : Addr} {o : HO} {N : Nat} {as : List Addr} {ls : List (List Int)} {b : Nat} (k : LinkS H0 G H L N as ls b) (hD : H D = none) : LinkS H0 G (upd H D o) L N as ls b := k.put (k.off hD).1 (k.off hD).2
theorem LinkS.newG {H0 G H : Hp} {L D : Addr} {o : HO} {N : Nat} {as : List Addr} {ls : List (List Int)} {b : Nat} (k : LinkS H0 G H L N as ls b) (hD : H D = none) : LinkS H0 (upd G D o) (upd H D o) L N as ls b := by
  have n := k.new (o := o) hD
  exact ⟨n.hl, n.la, n.ll, n.nd, fun a ha => ⟨(k.ne a ha).1, (k.ne a ha).2.1, by rw [upd_ne (fun z : a = D => (k.off hD).2 (by rw [← z]; exact ha))]; exact (k.ne a ha).2.2⟩, n.hs, n.rg⟩
/-- one more index at the end of one list -/
theorem LinkS.app {tb : Addr × Str} {M : Addr → Prop} {H0 G0 G H : Hp} {L a : Addr} {N j b : Nat} {as : List Addr} {ls : List (List Int)} {l : List Int} {z : Int} (k : LinkS H0 G H L N as ls b) (g : Go tb M G0 H0 G H) (ja : as[j]? = some a) (jl : ls[j]? = some l) (hz : 0 ≤ z ∧ z < (N : Int)) :
    LinkS H0 G (upd H a (.lst ((l ++ [z]).map V.int))) L N as (ls.set j (l ++ [z])) (b + 1) ∧ Go tb M G0 H0 G (upd H a (.lst ((l ++ [z]).map V.int))) := by
  have ha := List.mem_of_getElem? ja
  have hj : j < ls.length := (List.getElem?_eq_some_iff.mp jl).1
  have hja : j < as.length := (List.getElem?_eq_some_iff.mp ja).1
  refine ⟨⟨by rw [upd_ne (k.ne a ha).1.symm]; exact k.hl, k.la, by rw [List.length_set]; exact k.ll, k.nd, k.ne, fun i c m h1 h2 => ?_, fun m hm => ?_⟩, g.put (k.hs j a l ja jl) trivial (.inl (k.ne a ha).2.1) (k.ne a ha).2.2 trivial⟩
  · by_cases e : i = j
    · subst e
      rw [ja] at h1
      obtain rfl := Option.some.inj h1
      rw [List.getElem?_set_self hj] at h2
      obtain rfl := Option.some.inj h2
      exact upd_same
    · rw [List.getElem?_set_ne (Ne.symm e)] at h2
      have hc : c ≠ a := fun z => e (by
        subst z
        exact (List.getElem?_inj (by rw [k.la]; exact (by have := (List.getElem?_eq_some_iff.mp h1).1; rw [k.la] at this; exact this)) k.nd).mp (by rw [h1, ja]))
      rw [upd_ne hc]
      exact k.hs i c m h1 h2
  · rcases List.mem_or_eq_of_mem_set hm with q | q
    · exact ⟨(k.rg m q).1, Nat.le_succ_of_le (k.rg m q).2⟩
    · subst q
      have r := k.rg l (List.mem_of_getElem? jl)
      refine ⟨fun y hy => ?_, by rw [List.length_append, List.length_singleton]; exact Nat.succ_le_succ r.2⟩
      rcases List.mem_append.mp hy with q | q
      · exact r.1 y q
      · rw [List.mem_singleton.mp q]; exact hz
/-- the lists have not shrunk; where p they have grown -/
def Grew (ls0 ls : List (List Int)) (p : Nat → Prop) : Prop := ∀ (i : Nat) (l0 l : List Int), ls0[i]? = some l0 → ls[i]? = some l → l0.length ≤ l.length ∧ (p i → l0.length + 1 ≤ l.length)
theorem Grew.refl (ls : List (List Int)) {p : Nat → Prop} (h : ∀ i, ¬ p i) : Grew ls ls p := fun i l0 l h1 h2 => by
  rw [h1] at h2
  obtain rfl := Option.some.inj h2
  exact ⟨Nat.le_refl _, fun z => (h i z).elim⟩
theorem Grew.app {ls0 ls : List (List Int)} {p p' : Nat → Prop} {j : Nat} {l : List Int} {z : Int} (h : Grew ls0 ls p) (jl : ls[j]? = some l) (hp : ∀ i, p' i → p i ∨ i = j) : Grew ls0 (ls.set j (l ++ [z])) p' := fun i l0 m h1 h2 => by
  have hj : j < ls.length := (List.getElem?_eq_some_iff.mp jl).1
  by_cases e : i = j
  · subst e
    rw [List.getElem?_set_self hj] at h2
    obtain rfl := Option.some.inj h2
    have := (h i l0 l h1 jl).1
    rw [List.length_append, List.length_singleton]
    exact ⟨by omega, fun _ => by omega⟩
  · rw [List.getElem?_set_ne (Ne.symm e)] at h2
    have q := h i l0 m h1 h2
    exact ⟨q.1, fun z => q.2 ((hp i z).resolve_right e)⟩
/-- as many links as ends that are done -/
def Cov (wd ht : Int) (dn : Pt → Prop) (ls : List (List Int)) : Prop := ∀ s, OnW wd ht s → ∀ l, ls[(ixI wd s).toNat]? = some l → (dn (ends s).1 → 1 ≤ l.length) ∧ (dn (ends s).2 → 1 ≤ l.length) ∧ (dn (ends s).1 → dn (ends s).2 → 2 ≤ l.length)
theorem Cov.mono {wd ht : Int} {dn dn' : Pt → Prop} {ls : List (List Int)} (h : Cov wd ht dn ls) (k : ∀ q : Pt, (q.1 + q.2) % 2 = 1 → 0 ≤ q.1 → q.1 ≤ 2 * wd → 0 ≤ q.2 → q.2 ≤ 2 * ht → dn' q → dn q) : Cov wd ht dn' ls := fun s hs l hl => by
  have e1 := (isEnd_iff s (ends s).1).mpr (.inl rfl)
  have e2 := (isEnd_iff s (ends s).2).mpr (.inr rfl)
  obtain ⟨r1, r2, r3⟩ := h s hs l hl
  have k1 : dn' (ends s).1 → dn (ends s).1 := by
    unfold OnW at hs
    unfold IsEnd at e1
    exact k _ e1.2.2 (by omega) (by omega) (by omega) (by omega)
  have k2 : dn' (ends s).2 → dn (ends s).2 := by
    unfold OnW at hs
    unfold IsEnd at e2
    exact k _ e2.2.2 (by omega) (by omega) (by omega) (by omega)
  exact ⟨fun z => r1 (k1 z), fun z => r2 (k2 z), fun z y => r3 (k1 z) (k2 y)⟩
theorem Cov.step {wd ht : Int} {dn : Pt → Prop} {p : Pt} {ls0 ls : List (List Int)} {g : Nat → Prop} (h : Cov wd ht dn ls0) (hl : ls0.length = ls.length) (k : Grew ls0 ls g) (hg : ∀ s, OnW wd ht s → IsEnd s p → g (ixI wd s).toNat) : Cov wd ht (fun q => dn q ∨ q = p) ls := fun s hs l hl' => by
  have hi : (ixI wd s).toNat < ls0.length := by rw [hl]; exact (List.getElem?_eq_some_iff.mp hl').1
  have h0 := List.getElem?_eq_getElem hi
  obtain ⟨r1, r2, r3⟩ := h s hs _ h0
  obtain ⟨q1, q2⟩ := k _ _ _ h0 hl'
  have e1 := (isEnd_iff s (ends s).1).mpr (.inl rfl)
  have e2 := (isEnd_iff s (ends s).2).mpr (.inr rfl)
  have ne := ends_ne s
  have p1 : (ends s).1 = p → ls0[(ixI wd s).toNat].length + 1 ≤ l.length := fun e => q2 (hg s hs (by rw [← e]; exact e1))
  have p2 : (ends s).2 = p → ls0[(ixI wd s).toNat].length + 1 ≤ l.length := fun e => q2 (hg s hs (by rw [← e]; exact e2))
  refine ⟨?_, ?_, ?_⟩
  · rintro (z | z)
    · exact Nat.le_trans (r1 z) q1
    · have := p1 z; omega
  · rintro (z | z)
    · exact Nat.le_trans (r2 z) q1
    · have := p2 z; omega
  · rintro (z | z) (y | y)
    · exact Nat.le_trans (r3 z y) q1
    · have := r1 z; have := p2 y; omega
    · have := r2 y; have := p1 z; omega
    · exact absurd (z.trans y.symm) ne
/-- what were own things come into the view, all at once -/
theorem Go.freezes {tb : Addr × Str} {M : Addr → Prop} {G H H1 : Hp} : ∀ (ps : List (Addr × HO)) {G1 : Hp}, (∀ q, q ∈ ps → H1 q.1 = some q.2 ∧ Pl q.2 ∧ ¬ Std H q.1) → Go tb M G H G1 H1 → ∃ G2, Go tb M G H G2 H1 ∧ Same G1 G2 ∧ ∀ q, q ∈ ps → G2 q.1 = some q.2
  | [], G1, _, g => ⟨G1, g, fun _ _ e => e, fun q hq => absurd hq (by simp)⟩
  | q :: ps, G1, h, g => by
    obtain ⟨h1, h2, h3⟩ := h q (List.mem_cons_self ..)
    have step : ∃ G2, Go tb M G H G2 H1 ∧ Same G1 G2 ∧ G2 q.1 = some q.2 := by
      cases e : G1 q.1 with
      | none => exact ⟨_, g.freeze h1 h2 h3 e, same_upd e, upd_same⟩
      | some u =>
        have e2 := g.gh _ _ e
        rw [h1] at e2
        exact ⟨G1, g, fun _ _ e => e, by rw [e, e2]⟩
    obtain ⟨G2, g2, s2, e2⟩ := step
    obtain ⟨G3, g3, s3, e3⟩ := Go.freezes ps (fun q hq => h q (List.mem_cons_of_mem _ hq)) g2
    refine ⟨G3, g3, fun b o e => s3 _ _ (s2 _ _ e), fun r hr => ?_⟩
    rcases List.mem_cons.mp hr with z | z
    · rw [z]; exact s3 _ _ e2
    · exact e3 r z
theorem AtAll.lists {G : Hp} : ∀ {as : List Addr} {ls : List (List Int)}, as.length = ls.length → (∀ (i : Nat) (a : Addr) (l : List Int), as[i]? = some a → ls[i]? = some l → G a = some (.lst (l.map V.int))) → AtAll G (as.map V.ref) (ls.map lD)
  | [], [], _, _ => .nil
  | a :: as, l :: ls, hl, h => .cons (.lst (h 0 a l rfl rfl) AtAll.ints) (AtAll.lists (by simpa using hl) fun i b m h1 h2 => h (i + 1) b m (by simpa using h1) (by simpa using h2))
  | [], _ :: _, h, _ => by simp at h
  | _ :: _, [], h, _ => by simp at h
theorem LinkS.freeze {tb : Addr × Str} {M : Addr → Prop} {H0 G0 G H : Hp} {L : Addr} {N b : Nat} {as : List Addr} {ls : List (List Int)} (k : LinkS H0 G H L N as ls b) (g : Go tb M G0 H0 G H) (nL : ¬ Std H0 L) : ∃ G2, Go tb M G0 H0 G2 H ∧ Same G G2 ∧ At G2 (.ref L) (.list (ls.map lD)) := by
  have hps : ∀ q, q ∈ (L, HO.lst (as.map V.ref)) :: (as.zip ls).map (fun q => (q.1, HO.lst (q.2.map V.int))) → H q.1 = some q.2 ∧ Pl q.2 ∧ ¬ Std H0 q.1 := fun q hq => by
    rcases List.mem_cons.mp hq with z | z
    · rw [z]; exact ⟨k.hl, trivial, nL⟩
    · obtain ⟨⟨a, l⟩, h1, rfl⟩ := List.mem_map.mp z
      obtain ⟨i, hi⟩ := List.mem_iff_getElem?.mp h1
      rw [List.getElem?_zip_eq_some] at hi
      exact ⟨k.hs i a l hi.1 hi.2, trivial, (k.ne a (List.mem_of_getElem? hi.1)).2.1⟩
  obtain ⟨G2, g2, s2, e2⟩ := Go.freezes _ hps g
  refine ⟨G2, g2, s2, .lst (e2 _ (List.mem_cons_self ..)) (AtAll.lists (by rw [k.la, k.ll]) fun i a l h1 h2 => ?_)⟩
  refine e2 (a, HO.lst (l.map V.int)) (List.mem_cons_of_mem _ (List.mem_map.mpr ⟨(a, l), List.mem_of_getElem? (i := i) ?_, rfl⟩))
  rw [List.getElem?_zip_eq_some]
  exact ⟨h1, h2⟩
end Sand

set_option Elab.async false
set_option linter.all false
set_option maxRecDepth 100000
set_option maxHeartbeats 4000000
namespace Sand
open PySem PySem.Spec PyProof.Rows L2
theorem get_ex {α : Type} {l : List α} {n : Nat} (h : n < l.length) : ∃ a, l[n]? = some a := ⟨_, List.getElem?_eq_getElem h⟩
theorem cm2 {a b : Int} (h0 : 0 ≤ b) (h1 : b ≤ 1000) : CMul a b := .inr ⟨by omega, by omega⟩
theorem area {wd ht : Int} (w1 : 1 ≤ wd) (w9 : wd ≤ 9) (h1 : 1 ≤ ht) (h9 : ht ≤ 9) : 4 ≤ 4 * wd * ht ∧ 4 * wd * ht ≤ 324 := by
  have a1 : 1 * 1 ≤ wd * ht := Int.mul_le_mul w1 h1 (by omega) (by omega)
  have a2 : wd * ht ≤ 9 * 9 := Int.mul_le_mul w9 h9 (by omega) (by omega)
  rw [Int.mul_assoc]
  omega
section
variable {P : Program} {w : World} {K : PySem.W.Frag} {mg : Str → Option Value} {base : Heap} {C L : Addr} {tb : Addr × Str}
-- 0 _law_width, 1 _law_height, 2 _law_mirrors, 3 _law_links_here, 4 _law_kinds, 5 _law_x, 6 _law_y, 7 _law_kind, 8 _law_one, 9 _law_other, 10 _law_here, 11 _law_there, 12 _law_k
abbrev N__law_links : List Str := ["_law_width", "_law_height", "_law_mirrors", "_law_links_here", "_law_kinds", "_law_x", "_law_y", "_law_kind", "_law_one", "_law_other", "_law_here", "_law_there", "_law_k"]
theorem sc__law_links : FnScope N__law_links ["_law_width", "_law_height", "_law_mirrors"] (defScope s__law_links) := C8.fnScope_by (by decide +kernel)
/-- every list two links at least, every link an index -/
def Links (N : Nat) (ls : List (List Int)) : Prop := ls.length = N ∧ ∀ l, l ∈ ls → 2 ≤ l.length ∧ ∀ z, z ∈ l → 0 ≤ z ∧ z < (N : Int)
def spLinks (tb : Addr × Str) : Sp := fun vs H Q _ => ∃ (G : Hp) (wd ht : Int) (v : V) (ms : List Mir), vs = [.int wd, .int ht, v] ∧ Vw tb G H ∧ 1 ≤ wd ∧ 1 ≤ ht ∧ wd ≤ 9 ∧ ht ≤ 9 ∧ At G v (.list (ms.map mD)) ∧ ms.length ≤ 1000 ∧
  Ret tb no G H (fun G' u => ∃ ls, At G' u (.list (ls.map lD)) ∧ Links (4 * wd * ht).toNat ls) Q
theorem ok__law_links (D0 : DefAt K mg "_law_links" s__law_links) (T : Txt K mg C L) (c__law_pairs : C8.Cal P w K mg base 1 "_law_pairs" (spPairs tb) []) : C8.Cal P w K mg base 2 "_law_links" (spLinks tb) [] := by
  refine D0.cal (N := N__law_links) (ps := ["_law_width", "_law_height", "_law_mirrors"]) (fun _ _ _ _ _ _ us hl => match us, hl with | [_, _, _], _ => rfl) sc__law_links (fun vs H Q E h => ?_) (fun f cdv A outer st H vs Q E hr h => ?_)
  · obtain ⟨G, wd, ht, v, ms, rfl, _⟩ := h
    rfl
  · obtain ⟨G, wd, ht, v, ms, rfl, g, w1, h1, w9, h9, hv, hml, k⟩ := h
    have hu := hu_of hr
    obtain ⟨lm, ys, rfl, hlm, hys⟩ := At.lst_ hv
    obtain ⟨n4, n324⟩ := area w1 w9 h1 h9
    refine ⟨_, (pss_cons (ps_setLc (i := 3) (own := [("_law_k", 12)]) (g := gName 12) (tt := tYes) (te := tLst tNil) rfl sc__law_links.nd rfl rfl (sw_true rfl rfl rfl (by decide +kernel)) (pi_range1 rfl T.range (pa_cons (pe_op op_mul (pe_op op_mul pe_int (pv 0)) (pv 1)) pa_nil)) (blkOk_by (own := [("_law_k", 12)]) (N := N__law_links) (sc := defScope s__law_links) (by decide +kernel)) (fun _ _ _ _ _ => (pg_name (i := 12) sc__law_links.nd rfl (Or.inl rfl))) (fun _ _ _ _ _ => pts_nil) (fun _ _ _ _ _ => (pe_lst pa_nil)))
  (pss_cons (ps_set (i := 4) sc__law_links.nd rfl (Or.inl rfl) pe_dnewT)
  (pss_cons (ps_for PassesOwn.never rfl (pi_list (pv 2)) (pg_tup rfl (pgs_cons (pg_name (i := 5) sc__law_links.nd rfl (Or.inl rfl)) (pgs_cons (pg_name (i := 6) sc__law_links.nd rfl (Or.inl rfl)) (pgs_cons (pg_name (i := 7) sc__law_links.nd rfl (Or.inl rfl)) pgs_nil))))
  (pss_one (ps_dput hu (pv 4) (pe_tup (pa_cons (pv 5) (pa_cons (pv 6) pa_nil))) (pv 7) rfl)))
  (pss_cons (ps_for PassesOwn.never rfl (pi_range1 rfl T.range (pa_cons (pe_op op_add (pe_op op_mul pe_int (pv 1)) pe_int) pa_nil)) (pg_name (i := 6) sc__law_links.nd rfl (Or.inl rfl))
  (pss_one (ps_for PassesOwn.never rfl (pi_range3 rfl T.range (pa_cons (pe_op op_mod (pe_callTy call_int1 (by rfl) T.int boot_int (pa_cons (pe_op op_add (pv 6) pe_int) pa_nil)) pe_int) (pa_cons (pe_op op_add (pe_op op_mul pe_int (pv 0)) pe_int) (pa_cons pe_int pa_nil)))) (pg_name (i := 5) sc__law_links.nd rfl (Or.inl rfl))
  (pss_one (ps_for PassesOwn.never rfl (pi_list (C8.pe_c c__law_pairs hr (by decide) rfl (pa_cons (pv 5) (pa_cons (pv 6) (pa_cons (pv 0) (pa_cons (pv 1) (pa_cons (pe_dget2 hu (pv 4) (pe_tup (pa_cons (pv 5) (pa_cons (pv 6) pa_nil))) pe_str ⟨rfl, rfl, rfl, rfl⟩) pa_nil))))))) (pg_unl rfl (pgs_cons (pg_name (i := 8) sc__law_links.nd rfl (Or.inl rfl)) (pgs_cons (pg_name (i := 9) sc__law_links.nd rfl (Or.inl rfl)) pgs_nil)))
  (pss_cons (ps_set (i := 10) sc__law_links.nd rfl (Or.inl rfl) (pe_op op_add (pe_op op_mul (pe_op op_mul (pe_ix ix_tup (pv 8) pe_int (fun _ _ => rfl)) pe_int) (pv 0)) (pe_ix ix_tup (pv 8) pe_int (fun _ _ => rfl))))
  (pss_cons (ps_set (i := 11) sc__law_links.nd rfl (Or.inl rfl) (pe_op op_add (pe_op op_mul (pe_op op_mul (pe_ix ix_tup (pv 9) pe_int (fun _ _ => rfl)) pe_int) (pv 0)) (pe_ix ix_tup (pv 9) pe_int (fun _ _ => rfl))))
  (pss_cons (ps_expr (pe_bm PySem.F.plainAttrs_list PySem.F.slot_list_append PySem.F.type_list_append mt_append (pe_ix ix_list (pv 3) (pv 10) (fun _ _ => rfl)) (pa_cons (pv 11) pa_nil)))
  (pss_one (ps_expr (pe_bm PySem.F.plainAttrs_list PySem.F.slot_list_append PySem.F.type_list_append mt_append (pe_ix ix_list (pv 3) (pv 11) (fun _ _ => rfl)) (pa_cons (pv 10) pa_nil))))))))))))
  (pss_one (ps_ret (pv 3))))))), ?_⟩
    obtain ⟨N, hN⟩ : ∃ N : Nat, (4 * wd * ht).toNat = N := ⟨_, rfl⟩
    have hN2 : (N : Int) = 4 * wd * ht := by omega
    -- links = [[] for k in range(4 * width * height)]
    refine ⟨_, rfl, _, _, rfl, rfl, .inl ⟨by decide, by decide⟩, _, rfl, _, _, rfl, rfl, cm2 (by omega) (by omega), 4 * wd * ht, rfl, by omega, by omega, fun D hD => ?_⟩
    have g1 := (Go.refl (M := no) g).new (o := .lst []) hD
    have nD := (Go.refl (M := no) g).fresh hD
    have gD : G D = none := g.gh.free hD
    refine lc_it walk_range (fun i H' => ∃ as : List Addr, Go tb no G H G H' ∧ LinkS H G H' D i as (List.replicate i []) 0) ⟨[], g1, ⟨upd_same, rfl, rfl, List.nodup_nil, fun a ha => absurd ha (by simp), fun i a l h => by simp at h, fun l hl => absurd hl (by simp)⟩⟩ (fun _ _ _ _ => trivial) ?_ ?_
    · rintro i y H4 H4' hi ⟨as, g4, hL⟩ ⟨rfl, rfl⟩
      refine ⟨rfl, len0, fun a ha => ?_⟩
      have off := hL.off ha
      have hL2 := hL.new (o := .lst []) ha
      have g5 := g4.new (o := .lst []) ha
      refine ⟨as.map V.ref, hL2.hl, le_line (by rw [List.length_map, hL.la]; omega), as ++ [a], g5.put (o' := .lst (as.map V.ref ++ [.ref a])) hL2.hl trivial (.inl nD) gD trivial, ⟨by rw [upd_same, List.map_append]; rfl, by rw [List.length_append, hL.la]; rfl, by rw [List.length_replicate], List.nodup_append.mpr ⟨hL.nd, by simp, fun b hb c hc => ?_⟩, fun b hb => ?_, fun j b l h1 h2 => ?_, fun l hl => ?_⟩⟩
      · rw [List.mem_singleton.mp hc]
        exact fun z => off.2 (z ▸ hb)
      · rcases List.mem_append.mp hb with q | q
        · exact hL.ne b q
        · rw [List.mem_singleton.mp q]
          exact ⟨off.1, g4.fresh ha, g4.gh.free ha⟩
      · have el : l = [] := List.eq_of_mem_replicate (List.mem_of_getElem? h2)
        subst el
        by_cases e : j < as.length
        · have h1' : as[j]? = some b := by rw [← h1, List.getElem?_append_left e]
          have hb := List.mem_of_getElem? h1'
          rw [upd_ne (hL.ne b hb).1]
          exact hL2.hs j b [] h1' (by rw [List.getElem?_replicate, if_pos (by rw [← hL.la]; exact e)])
        · rw [List.getElem?_append_right (by omega)] at h1
          have e0 : j - as.length = 0 := by
            rcases Nat.eq_zero_or_pos (j - as.length) with z | z
            · exact z
            · rw [List.getElem?_eq_none (by rw [List.length_singleton]; omega)] at h1; cases h1
          rw [e0] at h1
          obtain rfl : a = b := Option.some.inj h1
          rw [upd_ne off.1]
          exact upd_same
      · rw [List.eq_of_mem_replicate hl]
        exact ⟨fun z hz => absurd hz (by simp), Nat.le_refl _⟩
    rintro H4 ⟨as, g4, hL⟩
    rw [hN] at hL
    -- kinds = {}
    refine fun S hS => ?_
    have nS := g4.fresh hS
    have gS : G S = none := g4.gh.free hS
    obtain ⟨SD, Sas⟩ := hL.off hS
    have g5 := g4.new (o := .dT []) hS
    have hL5 := hL.new (o := .dT []) hS
    refine ⟨_, rfl, lm, rfl, ⟨_, SqL.of (g5.gh _ _ hlm)⟩, for_list (K := K) (a := lm) (xs := ys) (fun i σ H' => ∃ (o5 o6 o7 : Option V) (kvs : List (List Key × V)), σ = [some (.int wd), some (.int ht), some (.ref lm), some (.ref D), some (.ref S), o5, o6, o7, none, none, none, none, none] ∧ Go tb no G H G H' ∧ LinkS H G H' D N as (List.replicate N []) 0 ∧
        H' S = some (.dT kvs) ∧ kvs.length ≤ i ∧ ∀ q v, valV kvs q = some v → ∃ z, v = V.str z)
      ⟨none, none, none, [], rfl, g5, hL5, upd_same, Nat.le_refl _, fun q v e => by cases e⟩ (fun i σ H' _ ⟨_, _, _, _, _, z, _⟩ => SqL.of (z.gh _ _ hlm)) ?_ ?_⟩
    · rintro i y σ H5 hy ⟨o5, o6, o7, kvs, rfl, gg, hL, hS5, hkl, hkv⟩
      obtain ⟨m, hmi, hay⟩ := hys.mapAt hy
      obtain ⟨t, rfl, ht'⟩ := hay.mir
      have hi : i < ms.length := (List.getElem?_eq_some_iff.mp hmi).1
      refine ⟨t, _, rfl, SqT.of (gg.gh _ _ ht'), rfl, _, _, rfl, _, _, rfl, _, _, rfl, rfl, ?_⟩
      refine ⟨_, rfl, _, rfl, _, rfl, _, rfl, len2, fun r hr' => ⟨S, _, rfl, DPut.t (k := pk (m.1, m.2.1)) (by rw [upd_ne (ne_of_none hS5 hr')]; exact hS5) upd_same (le_line (by omega)), ?_⟩⟩
      have g6 := gg.new (o := .tup [.int m.1, .int m.2.1]) hr'
      have hL6 := hL.new (o := .tup [.int m.1, .int m.2.1]) hr'
      refine ⟨_, _, _, _, rfl, g6.put (o := .dT kvs) (o' := .dT (putK kvs (pk (m.1, m.2.1)) (.str (kS m.2.2)))) (D := S) (by rw [upd_ne (ne_of_none hS5 hr')]; exact hS5) trivial (.inl nS) gS trivial, hL6.put SD Sas, upd_same, ?_, fun q v e => ?_⟩
      · have := putK_len kvs (pk (m.1, m.2.1)) (V.str (kS m.2.2))
        omega
      · rw [valV_put] at e
        split at e
        · exact ⟨_, (Option.some.inj e).symm⟩
        · exact hkv q v e
    rintro σ H5 ⟨o5, o6, o7, kvs, rfl, gg, hL, hS5, hkl, hkv⟩
    -- for y in range(2 * height + 1)
    refine ⟨_, rfl, _, _, rfl, rfl, c2 _, _, _, rfl, rfl, 2 * ht + 1, rfl, by omega, by omega, ?_⟩
    refine for_range (lo := 0) (n := (2 * ht + 1).toNat) (fun i σ H' => ∃ (G' : Hp) (ls : List (List Int)) (o5 o6 o7 o8 o9 o10 o11 : Option V), σ = [some (.int wd), some (.int ht), some (.ref lm), some (.ref D), some (.ref S), o5, o6, o7, o8, o9, o10, o11, none] ∧
        Go tb no G H G' H' ∧ LinkS H G' H' D N as ls (50 * i) ∧ H' S = some (.dT kvs) ∧ G' S = none ∧ G' D = none ∧ Cov wd ht (fun q => q.2 < (i : Int)) ls)
      ⟨G, _, _, _, _, _, _, _, _, rfl, gg, hL, hS5, gS, gD, fun s hs l hl => ?_⟩ ?_ ?_
    · have e1 := (isEnd_iff s (ends s).1).mpr (.inl rfl)
      have e2 := (isEnd_iff s (ends s).2).mpr (.inr rfl)
      unfold OnW at hs
      unfold IsEnd at e1 e2
      exact ⟨fun z => by exfalso; simp only at z; omega, fun z => by exfalso; simp only at z; omega, fun z => by exfalso; simp only at z; omega⟩
    · rintro i σ H6 hi ⟨G6, ls, o5, o6, o7, o8, o9, o10, o11, rfl, g6, hL6, hS6, gS6, gD6, hcv⟩
      generalize ey : (0 : Int) + (i : Int) = y
      have ey' : (i : Int) = y := by omega
      have ym0 := Int.emod_nonneg (y + 1) (b := 2) (by decide)
      have ym1 := Int.emod_lt_of_pos (y + 1) (b := 2) (by decide)
      obtain ⟨n, hrg, hn⟩ := rg_two (i := (y + 1) % 2) (j := 2 * wd + 1) (by omega) (by omega) (by omega) (by omega)
      have hnl : n ≤ 11 := by
        rcases Nat.lt_or_ge 11 n with z | z
        · have := (hn 11).mp z
          omega
        · exact z
      refine ⟨_, rfl, _, _, rfl, rfl, .inl ⟨_, rfl, _, _, rfl, rfl, by show (0 : Int) < 2; decide, _, rfl, _, _, rfl, rfl, c2 _, _, _, rfl, rfl, _, _, _, n, rfl, hrg, ?_⟩⟩
      refine for_rangeC (lo := (y + 1) % 2) (c := 2) (n := n) (fun j σ H' => ∃ (G' : Hp) (ls : List (List Int)) (o5 o7 o8 o9 o10 o11 : Option V), σ = [some (.int wd), some (.int ht), some (.ref lm), some (.ref D), some (.ref S), o5, some (.int y), o7, o8, o9, o10, o11, none] ∧
          Go tb no G H G' H' ∧ LinkS H G' H' D N as ls (50 * i + 4 * j) ∧ H' S = some (.dT kvs) ∧ G' S = none ∧ G' D = none ∧ Cov wd ht (fun q => q.2 < y ∨ q.2 = y ∧ q.1 < (y + 1) % 2 + (j : Int) * 2) ls)
        ⟨G6, ls, _, _, _, _, _, _, rfl, g6, hL6, hS6, gS6, gD6, hcv.mono fun q q1 q2 q3 q4 q5 z => by omega⟩ ?_ ?_
      · rintro j σ H7 hj ⟨G7, ls, o5, o7, o8, o9, o10, o11, rfl, g7, hL7, hS7, gS7, gD7, hcv⟩
        have hj2 := (hn j).mp hj
        generalize ex : (y + 1) % 2 + (j : Int) * 2 = x at hj2
        -- pairs(x, y, width, height, kinds.get((x, y), ''))
        refine ⟨_, rfl, _, rfl, _, rfl, _, rfl, _, rfl, S, rfl, .inr ⟨_, .inl hS7⟩, _, rfl, _, rfl, len2, fun t ht' => ?_⟩
        have g8 := g7.new (o := .tup [.int x, .int y]) ht'
        have hL8 := hL7.new (o := .tup [.int x, .int y]) ht'
        have hS8 : upd H7 t (.tup [.int x, .int y]) S = some (.dT kvs) := by rw [upd_ne (ne_of_none hS7 ht')]; exact hS7
        refine ⟨_, DGet.t (k := pk (x, y)) hS8 upd_same, ?_⟩
        obtain ⟨kd, ekd⟩ : ∃ kd, (valV kvs (pk (x, y))).getD (.str "") = V.str kd := by
          cases e : valV kvs (pk (x, y)) with
          | none => exact ⟨_, rfl⟩
          | some v => exact hkv _ v e
        rw [ekd]
        refine ⟨G7, x, y, wd, ht, kd, rfl, g8.vw, w1, h1, by omega, by omega, by omega, by omega, by omega, fun G9 H9 u g9 ⟨prs, hp, hpl, hpo, hpe⟩ => ?_⟩
        obtain ⟨lp, zs, rfl, hlp, hzs⟩ := At.lst_ hp
        have g10 := g8.trans g9
        have hL10 := hL8.keep g9 fun _ z => z.elim
        have hS10 := g9.loc hS8 trivial id
        have gS10 := g9.out hS8 trivial gS7
        have gD10 := g9.out hL8.hl trivial gD7
        have zl : zs.length = prs.length := hzs.mapLen
        refine ⟨lp, rfl, ⟨_, SqL.of (g10.gh _ _ hlp)⟩, for_list (K := K) (a := lp) (xs := zs) (fun m σ H' => ∃ (ls' : List (List Int)) (o8 o9 o10 o11 : Option V), σ = [some (.int wd), some (.int ht), some (.ref lm), some (.ref D), some (.ref S), some (.int x), some (.int y), o7, o8, o9, o10, o11, none] ∧
            Go tb no G H G9 H' ∧ LinkS H G9 H' D N as ls' (50 * i + 4 * j + 2 * m) ∧ H' S = some (.dT kvs) ∧ Grew ls ls' (fun r => ∃ q, q ∈ prs.take m ∧ (r = (ixI wd q.1).toNat ∨ r = (ixI wd q.2).toNat)))
          ⟨ls, o8, o9, o10, o11, rfl, g10, hL10, hS10, Grew.refl ls fun r ⟨q, hq, _⟩ => absurd hq (by simp)⟩ (fun m σ H' _ ⟨_, _, _, _, _, _, z, _⟩ => SqL.of (z.gh _ _ hlp)) ?_ ?_⟩
        · rintro m v σ H11 hv ⟨ls', o8, o9, o10, o11, rfl, g11, hL11, hS11, hgr⟩
          obtain ⟨q, hqi, haq⟩ := hzs.mapAt hv
          obtain ⟨a, x1, x2, rfl, ha, h1', h2'⟩ := haq.q_
          obtain ⟨b1, rfl, hb1⟩ := h1'.pt
          obtain ⟨b2, rfl, hb2⟩ := h2'.pt
          obtain ⟨on1, on2⟩ := hpo q (List.mem_of_getElem? hqi)
          have hm : m < prs.length := (List.getElem?_eq_some_iff.mp hqi).1
          obtain ⟨i0, i1⟩ := ix_rg (ht := ht) w1 on1
          obtain ⟨j0, j1⟩ := ix_rg (ht := ht) w1 on2
          refine ⟨a, _, rfl, SqL.of (g11.gh _ _ ha), rfl, _, _, rfl, _, _, rfl, rfl, ?_⟩
          have hB1 : SqT K H11 b1 [.int q.1.1, .int q.1.2] := SqT.of (g11.gh _ _ hb1)
          have hB2 : SqT K H11 b2 [.int q.2.1, .int q.2.2] := SqT.of (g11.gh _ _ hb2)
          refine ⟨_, rfl, b1, _, 1, _, rfl, rfl, hB1, rfl, _, _, rfl, rfl, cm2 (by decide) (by decide), _, rfl, _, _, rfl, rfl, cm2 (by omega) (by omega), _, rfl, b1, _, 0, _, rfl, rfl, hB1, rfl, _, _, rfl, rfl, ?_⟩
          refine ⟨_, rfl, b2, _, 1, _, rfl, rfl, hB2, rfl, _, _, rfl, rfl, cm2 (by decide) (by decide), _, rfl, _, _, rfl, rfl, cm2 (by omega) (by omega), _, rfl, b2, _, 0, _, rfl, rfl, hB2, rfl, _, _, rfl, rfl, ?_⟩
          obtain ⟨n1, en1⟩ : ∃ n1 : Nat, ixI wd q.1 = (n1 : Int) := ⟨(ixI wd q.1).toNat, by omega⟩
          obtain ⟨n2, en2⟩ : ∃ n2 : Nat, ixI wd q.2 = (n2 : Int) := ⟨(ixI wd q.2).toNat, by omega⟩
          have l1 : n1 < N := by omega
          have l2 : n2 < N := by omega
          obtain ⟨a1, ea1⟩ := get_ex (l := as) (n := n1) (by rw [hL11.la]; exact l1)
          obtain ⟨m1, el1⟩ := get_ex (l := ls') (n := n1) (by rw [hL11.ll]; exact l1)
          have hh1 := hL11.hs n1 _ _ ea1 el1
          have er1 : (as.map V.ref)[n1]? = some (.ref a1) := by rw [List.getElem?_map, ea1]; rfl
          have len1' := (hL11.rg _ (List.mem_of_getElem? el1)).2
          refine ⟨_, rfl, _, rfl, D, _, _, .ref a1, rfl, rfl, SqL.of hL11.hl, (show atI (as.map V.ref) (ixI wd q.1) = _ by rw [en1]; exact atI_nat er1), .inl ⟨rfl, _, SqL.of hh1⟩, _, rfl, _, _, _, rfl, rfl, hh1, le_line (by rw [List.length_map]; omega), ?_⟩
          have st1 := hL11.app g11 ea1 el1 (z := ixI wd q.2) (by omega)
          rw [List.map_append] at st1
          obtain ⟨hL12, g12⟩ := st1
          have hS12 : upd H11 a1 (.lst (m1.map V.int ++ [.int (ixI wd q.2)])) S = some (.dT kvs) := by
            rw [upd_ne (fun z : S = a1 => Sas (by rw [z]; exact List.mem_of_getElem? ea1))]
            exact hS11
          have hgr1 := hgr.app (p' := fun r => (∃ q, q ∈ prs.take m ∧ (r = (ixI wd q.1).toNat ∨ r = (ixI wd q.2).toNat)) ∨ r = n1) el1 (z := ixI wd q.2) fun r z => z
          generalize ls'.set n1 (m1 ++ [ixI wd q.2]) = ls2 at hL12 hgr1
          obtain ⟨a2, ea2⟩ := get_ex (l := as) (n := n2) (by rw [hL12.la]; exact l2)
          obtain ⟨m2, el2⟩ := get_ex (l := ls2) (n := n2) (by rw [hL12.ll]; exact l2)
          have hh2 := hL12.hs n2 _ _ ea2 el2
          have er2 : (as.map V.ref)[n2]? = some (.ref a2) := by rw [List.getElem?_map, ea2]; rfl
          have len2' := (hL12.rg _ (List.mem_of_getElem? el2)).2
          refine ⟨_, rfl, _, rfl, D, _, _, .ref a2, rfl, rfl, SqL.of hL12.hl, (show atI (as.map V.ref) (ixI wd q.2) = _ by rw [en2]; exact atI_nat er2), .inl ⟨rfl, _, SqL.of hh2⟩, _, rfl, _, _, _, rfl, rfl, hh2, le_line (by rw [List.length_map]; omega), ?_⟩
          have st2 := hL12.app g12 ea2 el2 (z := ixI wd q.1) (by omega)
          rw [List.map_append] at st2
          obtain ⟨hL13, g13⟩ := st2
          refine ⟨_, _, _, _, _, rfl, g13, hL13.more (by omega), ?_, hgr1.app el2 fun r z => ?_⟩
          · rw [upd_ne (fun z : S = a2 => Sas (by rw [z]; exact List.mem_of_getElem? ea2))]
            exact hS12
          · obtain ⟨q', hq', hr'⟩ := z
            rw [take_snoc hqi] at hq'
            rcases List.mem_append.mp hq' with z | z
            · exact .inl (.inl ⟨q', z, hr'⟩)
            · rw [List.mem_singleton.mp z, en1, en2, Int.toNat_natCast, Int.toNat_natCast] at hr'
              exact hr'.elim (fun z => .inl (.inr z)) .inr
        · rintro σ H11 ⟨ls', o8, o9, o10, o11, rfl, g11, hL11, hS11, hgr⟩
          rw [zl, List.take_length] at hgr
          have hc2 := hcv.step (p := (x, y)) (by rw [hL7.ll, hL11.ll]) hgr fun s hs he => by
            obtain ⟨q, hq, e⟩ := hpe s hs he
            exact ⟨q, hq, e.imp (fun z => by rw [z]) fun z => by rw [z]⟩
          refine ⟨G9, ls', _, _, _, _, _, _, rfl, g11, hL11.more (by omega), hS11, gS10, gD10, hc2.mono fun q q1 q2 q3 q4 q5 z => ?_⟩
          obtain ⟨qx, qy⟩ := q
          simp only at q1 q2 q3 z
          simp only [Prod.mk.injEq]
          omega
      · rintro σ H7 ⟨G7, ls, o5, o7, o8, o9, o10, o11, rfl, g7, hL7, hS7, gS7, gD7, hcv⟩
        have hend : 2 * wd + 1 ≤ (y + 1) % 2 + (n : Int) * 2 := by
          have := hn n
          omega
        refine ⟨G7, ls, _, _, _, _, _, _, _, rfl, g7, hL7.more (by omega), hS7, gS7, gD7, hcv.mono fun q q1 q2 q3 q4 q5 z => ?_⟩
        omega
    · rintro σ H6 ⟨G6, ls, o5, o6, o7, o8, o9, o10, o11, rfl, g6, hL6, hS6, gS6, gD6, hcv⟩
      obtain ⟨G7, g7, s7, h7⟩ := hL6.freeze g6 nD
      rw [hN] at k
      refine ⟨_, rfl, k _ _ _ g7 ⟨ls, h7, hL6.ll, fun l hl => ⟨?_, (hL6.rg l hl).1⟩⟩⟩
      obtain ⟨i, hi, e⟩ := List.mem_iff_getElem.mp hl
      have hiN : i < N := by rw [← hL6.ll]; exact hi
      obtain ⟨s, hs, es⟩ := ix_onto (ht := ht) (i := (i : Int)) w1 (by omega) (by omega)
      have q := (hcv s hs l (by rw [es, Int.toNat_natCast, List.getElem?_eq_getElem hi, e])).2.2
      have e1 := (isEnd_iff s (ends s).1).mpr (.inl rfl)
      have e2 := (isEnd_iff s (ends s).2).mpr (.inr rfl)
      unfold OnW at hs
      unfold IsEnd at e1 e2
      exact q (by simp only; omega) (by simp only; omega)
end
end Sand

set_option Elab.async false
set_option linter.all false
set_option maxRecDepth 100000
set_option maxHeartbeats 4000000
namespace Sand
open PySem PySem.Spec PyProof.Rows L2
/-- how many are below zero -/
def negs : List Int → Nat
  | [] => 0
  | x :: l => (if x < 0 then 1 else 0) + negs l
theorem negs_set : ∀ {l : List Int} {i : Nat} {v m : Int}, l[i]? = some v → v < 0 → 0 ≤ m → negs (l.set i m) < negs l
  | [], _, _, _, h, _, _ => by simp at h
  | x :: l, 0, v, m, h, hv, hm => by
    simp at h
    subst h
    show (if m < 0 then 1 else 0) + negs l < (if x < 0 then 1 else 0) + negs l
    rw [if_neg (by omega), if_pos hv]
    omega
  | x :: l, i + 1, v, m, h, hv, hm => by
    have := negs_set (l := l) (i := i) (by simpa using h) hv hm
    show (if x < 0 then 1 else 0) + negs (l.set i m) < (if x < 0 then 1 else 0) + negs l
    omega
theorem ixN_nat {n i : Nat} (h : i < n) : ixN n (i : Int) = some i := by
  unfold ixN
  rw [if_pos (by omega), if_pos (by omega), Int.toNat_natCast]
section
variable {P : Program} {w : World} {K : PySem.W.Frag} {mg : Str → Option Value} {base : Heap} {C L : Addr} {tb : Addr × Str}
-- 0 _law_width, 1 _law_height, 2 _law_mirrors, 3 _law_links_here, 4 _law_labels_here, 5 _law_many, 6 _law_start, 7 _law_at, 8 _law_after, 9 _law_k
abbrev N__law_labels : List Str := ["_law_width", "_law_height", "_law_mirrors", "_law_links_here", "_law_labels_here", "_law_many", "_law_start", "_law_at", "_law_after", "_law_k"]
theorem sc__law_labels : FnScope N__law_labels ["_law_width", "_law_height", "_law_mirrors"] (defScope s__law_labels) := C8.fnScope_by (by decide +kernel)
def spLabels (tb : Addr × Str) : Sp := fun vs H Q _ => ∃ (G : Hp) (wd ht : Int) (v : V) (ms : List Mir), vs = [.int wd, .int ht, v] ∧ Vw tb G H ∧ 1 ≤ wd ∧ 1 ≤ ht ∧ wd ≤ 9 ∧ ht ≤ 9 ∧ At G v (.list (ms.map mD)) ∧ ms.length ≤ 1000 ∧
  Ret tb no G H (fun G' u => ∃ (t lb : Addr) (m : Int) (xs : List Int), u = .ref t ∧ G' t = some (.tup [.int m, .ref lb]) ∧ G' lb = some (.lst (xs.map V.int)) ∧ xs.length = (4 * wd * ht).toNat) Q
theorem ok__law_labels (D0 : DefAt K mg "_law_labels" s__law_labels) (T : Txt K mg C L) (c__law_links : C8.Cal P w K mg base 2 "_law_links" (spLinks tb) []) : C8.Cal P w K mg base 3 "_law_labels" (spLabels tb) [] := by
  refine D0.cal (N := N__law_labels) (ps := ["_law_width", "_law_height", "_law_mirrors"]) (fun _ _ _ _ _ _ us hl => match us, hl with | [_, _, _], _ => rfl) sc__law_labels (fun vs H Q E h => ?_) (fun f cdv A outer st H vs Q E hr h => ?_)
  · obtain ⟨G, wd, ht, v, ms, rfl, _⟩ := h
    rfl
  · obtain ⟨G, wd, ht, v, ms, rfl, g, w1, h1, w9, h9, hv, hml, k⟩ := h
    obtain ⟨n4, n324⟩ := area w1 w9 h1 h9
    obtain ⟨N, hN⟩ : ∃ N : Nat, (4 * wd * ht).toNat = N := ⟨_, rfl⟩
    rw [hN] at k
    have hN2 : (N : Int) = 4 * wd * ht := by omega
    refine ⟨_, (pss_cons (ps_set (i := 3) sc__law_labels.nd rfl (Or.inl rfl) (C8.pe_c c__law_links hr (by decide) rfl (pa_cons (pv 0) (pa_cons (pv 1) (pa_cons (pv 2) pa_nil)))))
  (pss_cons (ps_setLc (i := 4) (own := [("_law_k", 9)]) (g := gName 9) (tt := tYes) (te := tOp (rI0 fun i j => .int (i - j)) (tC (.int 0)) (tC (.int 1))) rfl sc__law_labels.nd rfl rfl (sw_true rfl rfl rfl (by decide +kernel)) (pi_range1 rfl T.range (pa_cons (pe_callB call_len (by rfl) T.len PySem.boot_len (pa_cons (pv 3) pa_nil)) pa_nil)) (blkOk_by (own := [("_law_k", 9)]) (N := N__law_labels) (sc := defScope s__law_labels) (by decide +kernel)) (fun _ _ _ _ _ => (pg_name (i := 9) sc__law_labels.nd rfl (Or.inl rfl))) (fun _ _ _ _ _ => pts_nil) (fun _ _ _ _ _ => (pe_op op_sub pe_int pe_int)))
  (pss_cons (ps_set (i := 5) sc__law_labels.nd rfl (Or.inl rfl) pe_int)
  (pss_cons (ps_for PassesOwn.never rfl (pi_range1 rfl T.range (pa_cons (pe_callB call_len (by rfl) T.len PySem.boot_len (pa_cons (pv 3) pa_nil)) pa_nil)) (pg_name (i := 6) sc__law_labels.nd rfl (Or.inl rfl))
  (pss_one (ps_if (pt_cmpR op_lt (pe_ix ix_list (pv 4) (pv 6) (fun _ _ => rfl)) pe_int (nomark _)) (pss_cons (ps_set (i := 7) sc__law_labels.nd rfl (Or.inl rfl) (pv 6))
  (pss_cons (ps_while PassesOwn.never (pt_cmpR op_lt (pe_ix ix_list (pv 4) (pv 7) (fun _ _ => rfl)) pe_int (nomark _))
  (pss_cons (ps_asg (pv 5) (pg_sub (pv 4) (pv 7) set_list))
  (pss_cons (ps_set (i := 8) sc__law_labels.nd rfl (Or.inl rfl) (pe_ix ix_list (pe_ix ix_list (pv 3) (pv 7) (fun _ _ => rfl)) pe_int (fun _ _ => rfl)))
  (C8.pss_cut (ps_if (pt_cmpR op_ge (pe_ix ix_list (pv 4) (pv 8) (fun _ _ => rfl)) pe_int (nomark _)) (pss_one (ps_set (i := 8) sc__law_labels.nd rfl (Or.inl rfl) (pe_ix ix_list (pe_ix ix_list (pv 3) (pv 7) (fun _ _ => rfl)) pe_int (fun _ _ => rfl)))) pss_nil)
  (pss_one (ps_set (i := 7) sc__law_labels.nd rfl (Or.inl rfl) (pv 8)))))))
  (pss_one (ps_set (i := 5) sc__law_labels.nd rfl (Or.inl rfl) (pe_op op_add (pv 5) pe_int))))) pss_nil)))
  (pss_one (ps_ret (pe_tup (pa_cons (pv 5) (pa_cons (pv 4) pa_nil))))))))), ?_⟩
    refine ⟨_, rfl, _, rfl, _, rfl, G, wd, ht, _, ms, rfl, g, w1, h1, w9, h9, hv, hml, fun G1 H1 u g1 ⟨ls, hls, hlk⟩ => ?_⟩
    obtain ⟨Lk, ys, rfl, hLk, hys⟩ := At.lst_ hls
    rw [hN] at hlk
    obtain ⟨lkl, lkr⟩ := hlk
    have eyl : ys.length = N := by rw [hys.mapLen, lkl]
    -- labels = [0 - 1 for k in range(len(links))]
    refine ⟨_, rfl, _, ys.length, rfl, .inl ⟨_, SqL.of (g1.gh _ _ hLk), rfl⟩, _, rfl, by omega, by omega, fun D hD => ?_⟩
    rw [eyl, Int.toNat_natCast]
    have g2 := g1.new (o := .lst []) hD
    have nD := g1.fresh hD
    have gD : G1 D = none := g1.gh.free hD
    refine lc_it walk_range (fun i H' => ∃ xs : List Int, Go tb no G H G1 H' ∧ H' D = some (.lst (xs.map V.int)) ∧ xs.length = i) ⟨[], g2, upd_same, rfl⟩ (fun _ _ _ _ => trivial) ?_ ?_
    · rintro i y H4 H4' hi ⟨xs, g4, hD4, hxl⟩ ⟨rfl, rfl⟩
      refine ⟨rfl, _, _, rfl, rfl, _, hD4, le_line (by rw [List.length_map]; omega), xs ++ [0 - 1], g4.put hD4 trivial (.inl nD) gD trivial, by rw [upd_same, List.map_append]; rfl, by rw [List.length_append, hxl]; rfl⟩
    rintro H4 ⟨xs, g4, hD4, hxl⟩
    -- for start in range(len(links))
    refine ⟨_, rfl, _, ys.length, rfl, .inl ⟨_, SqL.of (g4.gh _ _ hLk), rfl⟩, _, rfl, by omega, by omega, ?_⟩
    rw [eyl, Int.toNat_natCast]
    refine for_range (lo := 0) (n := N) (fun i σ H' => ∃ (xs : List Int) (m : Int) (o6 o7 o8 : Option V), σ = [some (.int wd), some (.int ht), some v, some (.ref Lk), some (.ref D), some (.int m), o6, o7, o8, none] ∧ Go tb no G H G1 H' ∧ H' D = some (.lst (xs.map V.int)) ∧ xs.length = N ∧ 0 ≤ m)
      ⟨xs, 0, none, none, none, rfl, g4, hD4, hxl, Int.le_refl _⟩ ?_ ?_
    · rintro i σ H5 hi ⟨xs, m, o6, o7, o8, rfl, g5, hD5, hxl, hm⟩
      have ez : (0 : Int) + (i : Int) = (i : Int) := Int.zero_add _
      rw [ez]
      have lget : ∀ {xs : List Int} {n : Nat}, xs.length = N → n < N → ∃ v, xs[n]? = some v ∧ atI (xs.map V.int) (n : Int) = some (.int v) := fun {xs n} hl hn => by
        obtain ⟨v, e⟩ := get_ex (l := xs) (n := n) (by omega)
        exact ⟨v, e, atI_nat (by rw [List.getElem?_map, e]; rfl)⟩
      obtain ⟨v0, ev0, av0⟩ := lget hxl hi
      refine ⟨_, rfl, _, rfl, D, _, _, _, rfl, rfl, SqL.of hD5, av0, _, _, rfl, rfl, ?_⟩
      by_cases hneg : v0 < 0
      · refine ⟨true, blT hneg, iteT ⟨_, rfl, ?_⟩⟩
        refine ⟨fun μ σ H' => ∃ (xs : List Int) (at_ : Nat) (o8 : Option V), μ = negs xs ∧ σ = [some (.int wd), some (.int ht), some v, some (.ref Lk), some (.ref D), some (.int m), some (.int (i : Int)), some (.int (at_ : Int)), o8, none] ∧ Go tb no G H G1 H' ∧ H' D = some (.lst (xs.map V.int)) ∧ xs.length = N ∧ at_ < N, ⟨_, xs, i, o8, rfl, rfl, g5, hD5, hxl, hi⟩, ?_⟩
        rintro μ σ H6 ⟨xs, at_, o8, rfl, rfl, g6, hD6, hxl, hat⟩
        obtain ⟨v1, ev1, av1⟩ := lget hxl hat
        refine ⟨_, rfl, _, rfl, D, _, _, _, rfl, rfl, SqL.of hD6, av1, _, _, rfl, rfl, ?_⟩
        by_cases hneg1 : v1 < 0
        · refine ⟨true, blT hneg1, iteT ⟨fun σ H' => ∃ (xs' : List Int) (at_ : Nat) (o8 : Option V), negs xs' < negs xs ∧ σ = [some (.int wd), some (.int ht), some v, some (.ref Lk), some (.ref D), some (.int m), some (.int (i : Int)), some (.int (at_ : Int)), o8, none] ∧ Go tb no G H G1 H' ∧ H' D = some (.lst (xs'.map V.int)) ∧ xs'.length = N ∧ at_ < N, ?_, ?_⟩⟩
          · rintro σ' H' ⟨xs', at_', o8', hlt, h⟩
            exact ⟨_, hlt, xs', at_', o8', rfl, h⟩
          -- labels[at] = many
          refine ⟨_, rfl, _, rfl, _, rfl, D, _, _, at_, rfl, rfl, hD6, by rw [List.length_map, hxl]; exact ixN_nat hat, ?_⟩
          have g7 := g6.put (o' := .lst ((xs.map V.int).set at_ (.int m))) hD6 trivial (.inl nD) gD trivial
          have hD7 : upd H6 D (.lst ((xs.map V.int).set at_ (.int m))) D = some (.lst ((xs.set at_ m).map V.int)) := by rw [upd_same, List.map_set]
          have hxl7 : (xs.set at_ m).length = N := by rw [List.length_set]; exact hxl
          have hlt := negs_set ev1 hneg1 hm
          generalize xs.set at_ m = xs7 at hD7 hxl7 hlt
          generalize upd H6 D (.lst ((xs.map V.int).set at_ (.int m))) = H7 at g7 hD7 ⊢
          -- after = links[at][0]
          obtain ⟨l, el⟩ := get_ex (l := ls) (n := at_) (by omega)
          obtain ⟨r2, rr⟩ := lkr l (List.mem_of_getElem? el)
          obtain ⟨yv, eyv, hyv⟩ := hys.at_ (i := at_) (d := lD l) (by rw [List.getElem?_map, el]; rfl)
          obtain ⟨al, vs, rfl, hal, hvs⟩ := At.lst_ hyv
          rw [AtAll.ints_ hvs] at hal
          obtain ⟨z0, ez0⟩ := get_ex (l := l) (n := 0) (by omega)
          obtain ⟨z1, ez1⟩ := get_ex (l := l) (n := 1) (by omega)
          have b0 := rr z0 (List.mem_of_getElem? ez0)
          have b1 := rr z1 (List.mem_of_getElem? ez1)
          have aL : atI ys (at_ : Int) = some (.ref al) := atI_nat eyv
          have a0 : atI (l.map V.int) 0 = some (.int z0) := atI_nat (k := 0) (by rw [List.getElem?_map, ez0]; rfl)
          have a1 : atI (l.map V.int) 1 = some (.int z1) := atI_nat (k := 1) (by rw [List.getElem?_map, ez1]; rfl)
          refine ⟨_, rfl, _, rfl, Lk, _, _, _, rfl, rfl, SqL.of (g7.gh _ _ hLk), aL, al, _, _, _, rfl, rfl, SqL.of (g7.gh _ _ hal), a0, ?_⟩
          obtain ⟨n0, rfl⟩ : ∃ n0 : Nat, z0 = (n0 : Int) := ⟨z0.toNat, by omega⟩
          obtain ⟨n1, rfl⟩ : ∃ n1 : Nat, z1 = (n1 : Int) := ⟨z1.toNat, by omega⟩
          obtain ⟨v2, ev2, av2⟩ := lget hxl7 (n := n0) (by omega)
          refine ⟨fun σ H' => H' = H7 ∧ ∃ n : Nat, n < N ∧ σ = [some (.int wd), some (.int ht), some v, some (.ref Lk), some (.ref D), some (.int m), some (.int (i : Int)), some (.int (at_ : Int)), some (.int (n : Int)), none], ?_, ?_⟩
          · refine ⟨_, rfl, _, rfl, D, _, _, _, rfl, rfl, SqL.of hD7, av2, _, _, rfl, rfl, ?_⟩
            by_cases hp : 0 ≤ v2
            · exact ⟨true, blT hp, iteT ⟨_, rfl, _, rfl, Lk, _, _, _, rfl, rfl, SqL.of (g7.gh _ _ hLk), aL, al, _, _, _, rfl, rfl, SqL.of (g7.gh _ _ hal), a1, rfl, n1, by omega, rfl⟩⟩
            · exact ⟨false, blF hp, iteF ⟨rfl, n0, by omega, rfl⟩⟩
          · rintro σ H' ⟨rfl, n, hn, rfl⟩
            exact ⟨_, rfl, xs7, n, _, hlt, rfl, g7, hD7, hxl7, hn⟩
        · refine ⟨false, blF hneg1, iteF ?_⟩
          exact ⟨_, rfl, _, _, rfl, rfl, xs, m + 1, _, _, _, rfl, g6, hD6, hxl, by omega⟩
      · exact ⟨false, blF hneg, iteF ⟨xs, m, _, _, _, rfl, g5, hD5, hxl, hm⟩⟩
    · rintro σ H5 ⟨xs, m, o6, o7, o8, rfl, g5, hD5, hxl, hm⟩
      have g6 := g5.freeze hD5 trivial nD gD
      refine ⟨_, rfl, _, rfl, len2, fun t ht => ?_⟩
      obtain ⟨g7, s7, e7⟩ := g6.tup ht [.int m, .ref D]
      exact k _ _ _ g7 ⟨t, D, m, xs, rfl, e7, s7 _ _ upd_same, hxl⟩
end
end Sand

set_option Elab.async false
set_option linter.all false
set_option maxRecDepth 100000
set_option maxHeartbeats 4000000
namespace Sand
open PySem PySem.Spec PyProof.Rows L2
section
variable {P : Program} {w : World} {K : PySem.W.Frag} {mg : Str → Option Value} {base : Heap} {C L : Addr} {tb : Addr × Str}
-- 0 _law_labels_here, 1 _law_width, 2 _law_said, 3 _law_one, 4 _law_other, 5 _law_word, 6 _law_equal
abbrev N__law_fits : List Str := ["_law_labels_here", "_law_width", "_law_said", "_law_one", "_law_other", "_law_word", "_law_equal"]
theorem sc__law_fits : FnScope N__law_fits ["_law_labels_here", "_law_width", "_law_said"] (defScope s__law_fits) := C8.fnScope_by (by decide +kernel)
def spLfits : Sp := fun vs H Q _ => ∃ (G : Hp) (lb : Addr) (wd ht : Int) (v : V) (xs : List Int) (ls : List Look), vs = [.ref lb, .int wd, v] ∧ Same G H ∧ 1 ≤ wd ∧ 1 ≤ ht ∧ wd ≤ 9 ∧ ht ≤ 9 ∧ G lb = some (.lst (xs.map V.int)) ∧ xs.length = (4 * wd * ht).toNat ∧ At G v (.list (ls.map lkD)) ∧
  (∀ l, l ∈ ls → OnW wd ht l.1 ∧ OnW wd ht l.2.1) ∧ ∀ r : Bool, Q (.bl r) H
theorem ok__law_fits (D0 : DefAt K mg "_law_fits" s__law_fits) : C8.Cal P w K mg base 1 "_law_fits" spLfits [] := by
  refine D0.cal (N := N__law_fits) (ps := ["_law_labels_here", "_law_width", "_law_said"]) (fun _ _ _ _ _ _ us hl => match us, hl with | [_, _, _], _ => rfl) sc__law_fits (fun vs H Q E h => ?_) (fun f cdv A outer st H vs Q E hr h => ?_)
  · obtain ⟨G, lb, wd, ht, v, xs, ls, rfl, _⟩ := h
    rfl
  · obtain ⟨G, lb, wd, ht, v, xs, ls, rfl, g, w1, h1, w9, h9, hlb, hxl, hv, hon, k⟩ := h
    obtain ⟨l, ys, rfl, hl, hys⟩ := At.lst_ hv
    refine ⟨_, (pss_cons (ps_for PassesOwn.never rfl (pi_list (pv 2)) (pg_tup rfl (pgs_cons (pg_name (i := 3) sc__law_fits.nd rfl (Or.inl rfl)) (pgs_cons (pg_name (i := 4) sc__law_fits.nd rfl (Or.inl rfl)) (pgs_cons (pg_name (i := 5) sc__law_fits.nd rfl (Or.inl rfl)) pgs_nil))))
  (pss_cons (ps_set (i := 6) sc__law_fits.nd rfl (Or.inl rfl) (pe_cmpR op_eq (pe_ix ix_list (pv 0) (pe_op op_add (pe_op op_mul (pe_op op_mul (pe_ix ix_tup (pv 3) pe_int (fun _ _ => rfl)) pe_int) (pv 1)) (pe_ix ix_tup (pv 3) pe_int (fun _ _ => rfl))) (fun _ _ => rfl)) (pe_ix ix_list (pv 0) (pe_op op_add (pe_op op_mul (pe_op op_mul (pe_ix ix_tup (pv 4) pe_int (fun _ _ => rfl)) pe_int) (pv 1)) (pe_ix ix_tup (pv 4) pe_int (fun _ _ => rfl))) (fun _ _ => rfl)) (nomark _)))
  (pss_one (ps_if (pt_cmpR op_ne (pv 6) (pe_cmpR op_eq (pv 5) pe_str (nomark _)) (nomark _)) (pss_one (ps_ret pe_bl)) pss_nil))))
  (pss_one (ps_ret pe_bl))), ?_⟩
    refine ⟨_, rfl, l, rfl, ⟨_, SqL.of (g _ _ hl)⟩, for_list (K := K) (a := l) (xs := ys) (fun i σ H' => H' = H ∧ ∃ (o3 o4 o5 o6 : Option V), σ = [some (.ref lb), some (.int wd), some (.ref l), o3, o4, o5, o6])
      ⟨rfl, none, none, none, none, rfl⟩ (fun i σ H' _ ⟨z, _⟩ => by rw [z]; exact SqL.of (g _ _ hl)) ?_ ?_⟩
    · rintro i y σ H' hy ⟨rfl, o3, o4, o5, o6, rfl⟩
      obtain ⟨q, hqi, hay⟩ := hys.mapAt hy
      obtain ⟨a, x1, x2, rfl, ha, h1', h2'⟩ := hay.look
      obtain ⟨b1, rfl, hb1⟩ := h1'.pt
      obtain ⟨b2, rfl, hb2⟩ := h2'.pt
      obtain ⟨on1, on2⟩ := hon q (List.mem_of_getElem? hqi)
      obtain ⟨i0, i1⟩ := ix_rg (ht := ht) w1 on1
      obtain ⟨j0, j1⟩ := ix_rg (ht := ht) w1 on2
      have at_ : ∀ s : Pt, 0 ≤ ixI wd s → ixI wd s < 4 * wd * ht → ∃ z, atI (xs.map V.int) (ixI wd s) = some (.int z) := fun s z0 z1 => by
        obtain ⟨n, en⟩ : ∃ n : Nat, ixI wd s = (n : Int) := ⟨(ixI wd s).toNat, by omega⟩
        obtain ⟨v, e⟩ := get_ex (l := xs) (n := n) (by omega)
        exact ⟨v, by rw [en]; exact atI_nat (by rw [List.getElem?_map, e]; rfl)⟩
      obtain ⟨z1, e1⟩ := at_ q.1 i0 i1
      obtain ⟨z2, e2⟩ := at_ q.2.1 j0 j1
      have hB1 : SqT K H' b1 [.int q.1.1, .int q.1.2] := SqT.of (g _ _ hb1)
      have hB2 : SqT K H' b2 [.int q.2.1.1, .int q.2.1.2] := SqT.of (g _ _ hb2)
      refine ⟨a, _, rfl, SqT.of (g _ _ ha), rfl, _, _, rfl, _, _, rfl, _, _, rfl, rfl, ?_⟩
      refine ⟨_, rfl, _, rfl, b1, _, 1, _, rfl, rfl, hB1, rfl, _, _, rfl, rfl, cm2 (by decide) (by decide), _, rfl, _, _, rfl, rfl, cm2 (by omega) (by omega), _, rfl, b1, _, 0, _, rfl, rfl, hB1, rfl, _, _, rfl, rfl, lb, _, _, _, rfl, rfl, SqL.of (g _ _ hlb), e1, ?_⟩
      refine ⟨_, rfl, _, rfl, b2, _, 1, _, rfl, rfl, hB2, rfl, _, _, rfl, rfl, cm2 (by decide) (by decide), _, rfl, _, _, rfl, rfl, cm2 (by omega) (by omega), _, rfl, b2, _, 0, _, rfl, rfl, hB2, rfl, _, _, rfl, rfl, lb, _, _, _, rfl, rfl, SqL.of (g _ _ hlb), e2, rfl, ?_⟩
      refine ⟨_, rfl, _, rfl, rfl, rfl, ?_⟩
      by_cases e : V.bl (decide (V.int z1 = V.int z2)) = V.bl (decide (V.str (wS q.2.2) = V.str "same"))
      · exact ⟨false, bnF e, iteF ⟨rfl, _, _, _, _, rfl⟩⟩
      · exact ⟨true, bnT e, iteT (k false)⟩
    · rintro σ H' ⟨rfl, o3, o4, o5, o6, rfl⟩
      exact k true
-- 0 _law_hand_here, 1 _law_width, 2 _law_height, 3 _law_labels_here, 4 _law_said, 5 _law_step, 6 _law_one, 7 _law_other, 8 _law_word
abbrev N__law_truths : List Str := ["_law_hand_here", "_law_width", "_law_height", "_law_labels_here", "_law_said", "_law_step", "_law_one", "_law_other", "_law_word"]
theorem sc__law_truths : FnScope N__law_truths ["_law_hand_here", "_law_width", "_law_height", "_law_labels_here"] (defScope s__law_truths) := C8.fnScope_by (by decide +kernel)
theorem wS_at {r : Int} (h0 : 0 ≤ r) (h1 : r < 2) : atI ([.str "same", .str "apart"] : List V) r = some (.str (wS (decide (r = 0)))) := by
  have : r = 0 ∨ r = 1 := by omega
  rcases this with rfl | rfl <;> decide +kernel
theorem wS_at2 (b : Bool) : atI ([.str "apart", .str "same"] : List V) (if b then 1 else 0) = some (.str (wS b)) := by cases b <;> decide +kernel
def spTruths (tb : Addr × Str) : Sp := fun vs H Q _ => ∃ (G : Hp) (h c : Addr) (b : Nat) (wd ht : Int) (lb : Addr) (xs : List Int), vs = [.ref h, .int wd, .int ht, .ref lb] ∧ Vw tb G H ∧ HandAt G H h c b ∧ b < 10000000 ∧ 1 ≤ wd ∧ 1 ≤ ht ∧ wd ≤ 9 ∧ ht ≤ 9 ∧ G lb = some (.lst (xs.map V.int)) ∧ xs.length = (4 * wd * ht).toNat ∧
  RetH tb h c (b + 100) G H (fun G' u => ∃ ls : List Look, At G' u (.list (ls.map lkD)) ∧ ls.length ≤ 4 ∧ ∀ l, l ∈ ls → OnW wd ht l.1 ∧ OnW wd ht l.2.1) Q
theorem ok__law_truths (D0 : DefAt K mg "_law_truths" s__law_truths) (T : Txt K mg C L) (c__law_take : C8.Cal P w K mg base 1 "_law_take" (spTk tb) []) (c__law_square : C8.Cal P w K mg base 2 "_law_square" (spLsq tb) []) (c__law_fits : C8.Cal P w K mg base 1 "_law_fits" spLfits []) :
    C8.Cal P w K mg base 3 "_law_truths" (spTruths tb) [] := by
  refine D0.cal (N := N__law_truths) (ps := ["_law_hand_here", "_law_width", "_law_height", "_law_labels_here"]) (fun _ _ _ _ _ _ us hl => match us, hl with | [_, _, _, _], _ => rfl) sc__law_truths (fun vs H Q E h => ?_) (fun f cdv A outer st H vs Q E hr h => ?_)
  · obtain ⟨G, h, c, b, wd, ht, lb, xs, rfl, _⟩ := h
    rfl
  · obtain ⟨G, h, c, b, wd, ht, lb, xs, rfl, g, hA, hb, w1, h1, w9, h9, hlb, hxl, k⟩ := h
    refine ⟨_, (pss_cons (ps_set (i := 4) sc__law_truths.nd rfl (Or.inl rfl) (pe_lst pa_nil))
  (pss_cons (ps_for PassesOwn.never rfl (pi_range1 rfl T.range (pa_cons (C8.pe_c c__law_take hr (by decide) rfl (pa_cons (pv 0) (pa_cons pe_int pa_nil))) pa_nil)) (pg_name (i := 5) sc__law_truths.nd rfl (Or.inl rfl))
  (pss_cons (ps_set (i := 6) sc__law_truths.nd rfl (Or.inl rfl) (C8.pe_c c__law_square hr (by decide) rfl (pa_cons (pv 0) (pa_cons (pv 1) (pa_cons (pv 2) pa_nil)))))
  (pss_cons (ps_set (i := 7) sc__law_truths.nd rfl (Or.inl rfl) (C8.pe_c c__law_square hr (by decide) rfl (pa_cons (pv 0) (pa_cons (pv 1) (pa_cons (pv 2) pa_nil)))))
  (pss_cons (ps_set (i := 8) sc__law_truths.nd rfl (Or.inl rfl) (pe_ix ix_list (pe_lst (pa_cons pe_str (pa_cons pe_str pa_nil))) (pe_callTy call_int1 (by rfl) T.int boot_int (pa_cons (C8.pe_c c__law_fits hr (by decide) rfl (pa_cons (pv 3) (pa_cons (pv 1) (pa_cons (pe_lst (pa_cons (pe_tup (pa_cons (pv 6) (pa_cons (pv 7) (pa_cons pe_str pa_nil)))) pa_nil)) pa_nil)))) pa_nil)) (fun _ _ => rfl)))
  (C8.pss_cut (ps_if (pt_cmpR op_eq (C8.pe_c c__law_take hr (by decide) rfl (pa_cons (pv 0) (pa_cons pe_int pa_nil))) pe_int (nomark _)) (pss_one (ps_set (i := 8) sc__law_truths.nd rfl (Or.inl rfl) (pe_ix ix_list (pe_lst (pa_cons pe_str (pa_cons pe_str pa_nil))) (C8.pe_c c__law_take hr (by decide) rfl (pa_cons (pv 0) (pa_cons pe_int pa_nil))) (fun _ _ => rfl)))) pss_nil)
  (pss_one (ps_expr (pe_bm PySem.F.plainAttrs_list PySem.F.slot_list_append PySem.F.type_list_append mt_append (pv 4) (pa_cons (pe_tup (pa_cons (pv 6) (pa_cons (pv 7) (pa_cons (pv 8) pa_nil)))) pa_nil)))))))))
  (pss_one (ps_ret (pv 4))))), ?_⟩
    refine ⟨len0, fun D hD => ?_⟩
    have g1 := (Go.refl (M := own2 h c) g).new (o := .lst []) hD
    have nD := (Go.refl (M := own2 h c) g).fresh hD
    have gD : G D = none := g.gh.free hD
    obtain ⟨Dh, Dc⟩ := hA.nh hD
    have oD : ¬ own2 h c D := fun z => z.elim Dh Dc
    have hA1 := hA.new (o := .lst []) hD
    have hD1 : upd H D (.lst []) D = some (.lst []) := upd_same
    generalize upd H D (.lst []) = H1 at g1 hA1 hD1 ⊢
    refine ⟨_, rfl, G, h, c, b, 5, rfl, g1.vw, hA1, by omega, by omega, by omega, fun H2 r g2 hA2 r0 r1 => ⟨_, rfl, by omega, by omega, ?_⟩⟩
    have g3 := g1.trans g2
    refine for_range (lo := 0) (n := r.toNat) (fun i σ H' => ∃ (G' : Hp) (ls : List Look) (vs : List V) (o5 o6 o7 o8 : Option V), σ = [some (.ref h), some (.int wd), some (.int ht), some (.ref lb), some (.ref D), o5, o6, o7, o8] ∧ Go tb (own2 h c) G H G' H' ∧ HandAt G' H' h c (b + 1 + 10 * i) ∧ G' D = none ∧ H' D = some (.lst vs) ∧ AtAll G' vs (ls.map lkD) ∧ ls.length = i ∧ ∀ l, l ∈ ls → OnW wd ht l.1 ∧ OnW wd ht l.2.1)
      ⟨G, [], [], none, none, none, none, rfl, g3, hA2, gD, g2.loc hD1 trivial oD, .nil, rfl, fun l hl => absurd hl (by simp)⟩ ?_ ?_
    · rintro i σ H4 hi ⟨G4, ls, vs, o5, o6, o7, o8, rfl, g4, hA4, gD4, hD4, hvs, hll, hon⟩
      -- one, other
      refine ⟨_, rfl, _, rfl, _, rfl, G4, h, c, _, wd, ht, rfl, g4.vw, hA4, by omega, w1, h1, w9, h9, fun G5 H5 u1 g5 hA5 ⟨s1, as1, p1, p2, p3, p4⟩ => ?_⟩
      refine ⟨_, rfl, _, rfl, _, rfl, G5, h, c, _, wd, ht, rfl, g5.vw, hA5, by omega, w1, h1, w9, h9, fun G6 H6 u2 g6 hA6 ⟨s2, as2, q1, q2, q3, q4⟩ => ?_⟩
      have g7 := (g4.trans g5).trans g6
      have hD6 := g6.loc (g5.loc hD4 trivial oD) trivial oD
      have gD6 := g6.out (g5.loc hD4 trivial oD) trivial (g5.out hD4 trivial gD4)
      have s46 : Same G4 G6 := fun b o e => g6.gg _ _ (g5.gg _ _ e)
      have on1 : OnW wd ht s1 := ⟨p1, p2, p3, p4⟩
      have on2 : OnW wd ht s2 := ⟨q1, q2, q3, q4⟩
      have as1' := At.mono g6.gg _ as1
      -- word = ['apart', 'same'][int(fits(..))]
      refine ⟨len2, fun q hq => ?_⟩
      obtain ⟨g8, s8, e8⟩ := g7.lst hq [.str "apart", .str "same"]
      have hA8 := hA6.newG (o := .lst [.str "apart", .str "same"]) hq
      have hD8 : upd H6 q (.lst [.str "apart", .str "same"]) D = some (.lst vs) := by rw [upd_ne (ne_of_none hD6 hq)]; exact hD6
      have gD8 : upd G6 q (.lst [.str "apart", .str "same"]) D = none := by rw [upd_ne (ne_of_none hD6 hq)]; exact gD6
      refine ⟨_, rfl, _, rfl, _, rfl, _, rfl, len3, fun t ht' => ⟨len1, fun t2 ht2 => ?_⟩⟩
      obtain ⟨g9, s9, e9⟩ := g8.tup ht' [u1, u2, .str "same"]
      have hA9 := hA8.newG (o := .tup [u1, u2, .str "same"]) ht'
      have hD9 : upd (upd H6 q (.lst [.str "apart", .str "same"])) t (.tup [u1, u2, .str "same"]) D = some (.lst vs) := by rw [upd_ne (ne_of_none hD8 ht')]; exact hD8
      have gD9 : upd (upd G6 q (.lst [.str "apart", .str "same"])) t (.tup [u1, u2, .str "same"]) D = none := by rw [upd_ne (ne_of_none hD8 ht')]; exact gD8
      obtain ⟨g10, s10, e10⟩ := g9.lst ht2 [.ref t]
      have hA10 := hA9.newG (o := .lst [.ref t]) ht2
      have hD10 : upd (upd (upd H6 q (.lst [.str "apart", .str "same"])) t (.tup [u1, u2, .str "same"])) t2 (.lst [.ref t]) D = some (.lst vs) := by rw [upd_ne (ne_of_none hD9 ht2)]; exact hD9
      have gD10 : upd (upd (upd G6 q (.lst [.str "apart", .str "same"])) t (.tup [u1, u2, .str "same"])) t2 (.lst [.ref t]) D = none := by rw [upd_ne (ne_of_none hD9 ht2)]; exact gD9
      have e8' := s10 _ _ (s9 _ _ e8)
      have s610 : Same G6 (upd (upd (upd G6 q (.lst [.str "apart", .str "same"])) t (.tup [u1, u2, .str "same"])) t2 (.lst [.ref t])) := fun b o e => s10 _ _ (s9 _ _ (s8 _ _ e))
      have a1 := At.mono s610 _ as1'
      have a2 := At.mono s610 _ as2
      have alk : At (upd (upd (upd G6 q (.lst [.str "apart", .str "same"])) t (.tup [u1, u2, .str "same"])) t2 (.lst [.ref t])) (.ref t2) (.list ([((s1, s2, true) : Look)].map lkD)) := .lst e10 (.cons (.tup (s10 _ _ e9) (.cons a1 (.cons a2 (.cons (.str _) .nil)))) .nil)
      have hlb' : upd (upd (upd G6 q (.lst [.str "apart", .str "same"])) t (.tup [u1, u2, .str "same"])) t2 (.lst [.ref t]) lb = some (.lst (xs.map V.int)) := s610 _ _ (g7.gg _ _ hlb)
      clear g8 g9 hA8 hA9
      generalize upd (upd (upd G6 q (.lst [.str "apart", .str "same"])) t (.tup [u1, u2, .str "same"])) t2 (.lst [.ref t]) = G10 at *
      generalize upd (upd (upd H6 q (.lst [.str "apart", .str "same"])) t (.tup [u1, u2, .str "same"])) t2 (.lst [.ref t]) = H10 at *
      refine ⟨G10, lb, wd, ht, _, xs, [(s1, s2, true)], rfl, g10.gh, w1, h1, w9, h9, hlb', hxl, alk, fun l hl => ?_, fun rb => ?_⟩
      · rw [List.mem_singleton.mp hl]; exact ⟨on1, on2⟩
      refine .inr ⟨_, rfl, q, _, _, _, rfl, rfl, SqL.of (g10.gh _ _ e8'), wS_at2 rb, ?_⟩
      -- if take(8) == 0
      refine ⟨fun σ H' => ∃ (G' : Hp) (wb : Bool), σ = [some (.ref h), some (.int wd), some (.int ht), some (.ref lb), some (.ref D), some (.int (0 + (i : Int))), some u1, some u2, some (.str (wS wb))] ∧ Go tb (own2 h c) G H G' H' ∧ Same G10 G' ∧ HandAt G' H' h c (b + 1 + 10 * i + 8) ∧ G' D = none ∧ H' D = some (.lst vs), ?_, ?_⟩
      · refine ⟨_, rfl, G10, h, c, _, 8, rfl, g10.vw, hA10, by omega, by omega, by omega, fun H11 r' g11 hA11 z0 z1 => ⟨rfl, ?_⟩⟩
        have hD11 := g11.loc hD10 trivial oD
        by_cases hz : r' = 0
        · refine ⟨true, blT (vi hz), iteT ⟨len2, fun q2 hq2 => ?_⟩⟩
          obtain ⟨g12, s12, e12⟩ := (g10.trans g11).lst hq2 [.str "same", .str "apart"]
          have hA12 := hA11.newG (o := .lst [.str "same", .str "apart"]) hq2
          have hD12 : upd H11 q2 (.lst [.str "same", .str "apart"]) D = some (.lst vs) := by rw [upd_ne (ne_of_none hD11 hq2)]; exact hD11
          have gD12 : upd G10 q2 (.lst [.str "same", .str "apart"]) D = none := by rw [upd_ne (ne_of_none hD11 hq2)]; exact gD10
          refine ⟨_, rfl, _, h, c, _, 2, rfl, g12.vw, hA12, by omega, by omega, by omega, fun H13 r'' g13 hA13 y0 y1 => ?_⟩
          have g14 := g12.trans g13
          exact ⟨q2, _, _, _, rfl, rfl, SqL.of (g14.gh _ _ e12), wS_at y0 y1, _, _, rfl, g14, s12, hA13.more (by omega), gD12, g13.loc hD12 trivial oD⟩
        · exact ⟨false, blF (vi_ne hz), iteF ⟨G10, rb, rfl, g10.trans g11, fun _ _ e => e, hA11.more (by omega), gD10, hD11⟩⟩
      · rintro σ H' ⟨G11, wb, rfl, g11, s11, hA11, gD11, hD11⟩
        refine ⟨_, rfl, .inl ⟨rfl, _, SqL.of hD11⟩, _, rfl, _, rfl, _, rfl, len3, fun t3 ht3 => ?_⟩
        obtain ⟨g12, s12, e12⟩ := g11.tup ht3 [u1, u2, .str (wS wb)]
        have hA12 := hA11.newG (o := .tup [u1, u2, .str (wS wb)]) ht3
        have hD12 : upd H' t3 (.tup [u1, u2, .str (wS wb)]) D = some (.lst vs) := by rw [upd_ne (ne_of_none hD11 ht3)]; exact hD11
        have gD12 : upd G11 t3 (.tup [u1, u2, .str (wS wb)]) D = none := by rw [upd_ne (ne_of_none hD11 ht3)]; exact gD11
        have s1012 : Same G10 (upd G11 t3 (.tup [u1, u2, .str (wS wb)])) := fun b o e => s12 _ _ (s11 _ _ e)
        have vl : vs.length = ls.length := hvs.mapLen
        refine ⟨D, vs, _, rfl, rfl, hD12, le_line (by omega), ?_⟩
        refine ⟨_, ls ++ [(s1, s2, wb)], _, _, _, _, _, rfl, g12.put (o' := .lst (vs ++ [.ref t3])) hD12 trivial (.inl nD) gD12 trivial, (hA12.put Dh Dc).more (by omega), gD12, upd_same, ?_, by rw [List.length_append, hll]; rfl, fun l hl => ?_⟩
        · rw [List.map_append]
          exact (AtAll.mono (fun b o e => s1012 _ _ (s610 _ _ (s46 _ _ e))) _ hvs).snoc (.tup e12 (.cons (At.mono s1012 _ a1) (.cons (At.mono s1012 _ a2) (.cons (.str _) .nil))))
        · rcases List.mem_append.mp hl with z | z
          · exact hon l z
          · rw [List.mem_singleton.mp z]; exact ⟨on1, on2⟩
    · rintro σ H4 ⟨G4, ls, vs, o5, o6, o7, o8, rfl, g4, hA4, gD4, hD4, hvs, hll, hon⟩
      exact ⟨_, rfl, k _ _ _ (g4.freeze hD4 trivial nD gD4) ((hA4.freeze Dh Dc).more (by omega)) ⟨ls, .lst upd_same (AtAll.mono (same_upd gD4) _ hvs), by omega, hon⟩⟩
end
end Sand

set_option Elab.async false
set_option linter.all false
set_option maxRecDepth 100000
set_option maxHeartbeats 4000000
namespace Sand
open PySem PySem.Spec PyProof.Rows L2
theorem op_isBl' {X : Cx} : OpR X (compareOp .Is) (fun x y H Q => (∃ b, y = .bl b) ∧ ((∃ i, x = .int i) ∨ ∃ a, x = .ref a) ∧ Q (.bl false) H) := by
  intro pins s σ H x y v u Q I rx ry h
  obtain ⟨⟨b, rfl⟩, hx, q⟩ := h
  cases (show u = Value.bool b from ry)
  rcases hx with ⟨i, rfl⟩ | ⟨a, rfl⟩
  · obtain ⟨t, rfl⟩ := rx
    exact wpAny_is_other rfl (fun z => by cases z) ⟨.bl false, H, I, rfl, q⟩
  · cases (show v = Value.ref a from rx)
    exact wpAny_is_other rfl (fun z => by cases z) ⟨.bl false, H, I, rfl, q⟩
section
variable {P : Program} {w : World} {K : PySem.W.Frag} {mg : Str → Option Value} {base : Heap} {C L : Addr} {tb : Addr × Str}
-- 0 _law_way, 1 _law_width, 2 _law_height, 3 _law_x, 4 _law_y
abbrev N__law_place : List Str := ["_law_way", "_law_width", "_law_height", "_law_x", "_law_y"]
theorem sc__law_place : FnScope N__law_place ["_law_way", "_law_width", "_law_height", "_law_x", "_law_y"] (defScope s__law_place) := C8.fnScope_by (by decide +kernel)
def spPlace (tb : Addr × Str) : Sp := fun vs H Q _ => ∃ (G : Hp) (y : Way) (a b : Int) (p : Pt), vs = [.str (wayS y), .int a, .int b, .int p.1, .int p.2] ∧ Vw tb G H ∧ Ret tb no G H (fun G' u => At G' u (pD (plc y a b p))) Q
theorem ok__law_place (D0 : DefAt K mg "_law_place" s__law_place) : C8.Cal P w K mg base 1 "_law_place" (spPlace tb) [] := by
  refine D0.cal (N := N__law_place) (ps := ["_law_way", "_law_width", "_law_height", "_law_x", "_law_y"]) (fun _ _ _ _ _ _ us hl => match us, hl with | [_, _, _, _, _], _ => rfl) sc__law_place (fun vs H Q E h => ?_) (fun f cdv A outer st H vs Q E hr h => ?_)
  · obtain ⟨G, y, a, b, p, rfl, _⟩ := h
    rfl
  · obtain ⟨G, y, a, b, ⟨i, j⟩, rfl, g, k⟩ := h
    refine ⟨_, (pss_cons (ps_if (pt_cmpR op_eq (pv 0) pe_str (nomark _)) (pss_one (ps_ret (pe_tup (pa_cons (pe_op op_sub (pv 2) (pv 4)) (pa_cons (pv 3) pa_nil))))) pss_nil)
  (pss_cons (ps_if (pt_cmpR op_eq (pv 0) pe_str (nomark _)) (pss_one (ps_ret (pe_tup (pa_cons (pe_op op_sub (pv 1) (pv 3)) (pa_cons (pe_op op_sub (pv 2) (pv 4)) pa_nil))))) pss_nil)
  (pss_cons (ps_if (pt_cmpR op_eq (pv 0) pe_str (nomark _)) (pss_one (ps_ret (pe_tup (pa_cons (pv 4) (pa_cons (pe_op op_sub (pv 1) (pv 3)) pa_nil))))) pss_nil)
  (pss_cons (ps_if (pt_cmpR op_eq (pv 0) pe_str (nomark _)) (pss_one (ps_ret (pe_tup (pa_cons (pv 3) (pa_cons (pe_op op_sub (pv 2) (pv 4)) pa_nil))))) pss_nil)
  (pss_cons (ps_if (pt_cmpR op_eq (pv 0) pe_str (nomark _)) (pss_one (ps_ret (pe_tup (pa_cons (pe_op op_sub (pv 1) (pv 3)) (pa_cons (pv 4) pa_nil))))) pss_nil)
  (pss_cons (ps_if (pt_cmpR op_eq (pv 0) pe_str (nomark _)) (pss_one (ps_ret (pe_tup (pa_cons (pv 4) (pa_cons (pv 3) pa_nil))))) pss_nil)
  (pss_cons (ps_if (pt_cmpR op_eq (pv 0) pe_str (nomark _)) (pss_one (ps_ret (pe_tup (pa_cons (pe_op op_sub (pv 2) (pv 4)) (pa_cons (pe_op op_sub (pv 1) (pv 3)) pa_nil))))) pss_nil)
  (pss_one (ps_ret (pe_tup (pa_cons (pv 3) (pa_cons (pv 4) pa_nil)))))))))))), ?_⟩
    have fin : ∀ z : Pt, plc y a b (i, j) = z → ∀ q, H q = none → Q (.ref q) (upd H q (.tup [.int z.1, .int z.2])) := fun z e q hq => by
      obtain ⟨g1, s1, e1⟩ := (Go.refl (M := no) g).tup hq [.int z.1, .int z.2]
      exact k _ _ _ g1 (by rw [e]; exact At.ofPt e1)
    cases y
    · exact ⟨_, rfl, rfl, false, blF (by decide +kernel), iteF ⟨_, rfl, rfl, false, blF (by decide +kernel), iteF ⟨_, rfl, rfl, false, blF (by decide +kernel), iteF ⟨_, rfl, rfl, false, blF (by decide +kernel), iteF ⟨_, rfl, rfl, false, blF (by decide +kernel), iteF ⟨_, rfl, rfl, false, blF (by decide +kernel), iteF ⟨_, rfl, rfl, false, blF (by decide +kernel), iteF ⟨_, rfl, _, rfl, len2, fin _ rfl⟩⟩⟩⟩⟩⟩⟩⟩
    · exact ⟨_, rfl, rfl, true, blT (by decide +kernel), iteT ⟨_, rfl, _, rfl, _, _, rfl, rfl, _, rfl, len2, fin _ rfl⟩⟩
    · exact ⟨_, rfl, rfl, false, blF (by decide +kernel), iteF ⟨_, rfl, rfl, true, blT (by decide +kernel), iteT ⟨_, rfl, _, rfl, _, _, rfl, rfl, _, rfl, _, rfl, _, _, rfl, rfl, len2, fin _ rfl⟩⟩⟩
    · exact ⟨_, rfl, rfl, false, blF (by decide +kernel), iteF ⟨_, rfl, rfl, false, blF (by decide +kernel), iteF ⟨_, rfl, rfl, true, blT (by decide +kernel), iteT ⟨_, rfl, _, rfl, _, rfl, _, _, rfl, rfl, len2, fin _ rfl⟩⟩⟩⟩
    · exact ⟨_, rfl, rfl, false, blF (by decide +kernel), iteF ⟨_, rfl, rfl, false, blF (by decide +kernel), iteF ⟨_, rfl, rfl, false, blF (by decide +kernel), iteF ⟨_, rfl, rfl, true, blT (by decide +kernel), iteT ⟨_, rfl, _, rfl, _, rfl, _, _, rfl, rfl, len2, fin _ rfl⟩⟩⟩⟩⟩
    · exact ⟨_, rfl, rfl, false, blF (by decide +kernel), iteF ⟨_, rfl, rfl, false, blF (by decide +kernel), iteF ⟨_, rfl, rfl, false, blF (by decide +kernel), iteF ⟨_, rfl, rfl, false, blF (by decide +kernel), iteF ⟨_, rfl, rfl, true, blT (by decide +kernel), iteT ⟨_, rfl, _, rfl, _, _, rfl, rfl, _, rfl, len2, fin _ rfl⟩⟩⟩⟩⟩⟩
    · exact ⟨_, rfl, rfl, false, blF (by decide +kernel), iteF ⟨_, rfl, rfl, false, blF (by decide +kernel), iteF ⟨_, rfl, rfl, false, blF (by decide +kernel), iteF ⟨_, rfl, rfl, false, blF (by decide +kernel), iteF ⟨_, rfl, rfl, false, blF (by decide +kernel), iteF ⟨_, rfl, rfl, true, blT (by decide +kernel), iteT ⟨_, rfl, _, rfl, len2, fin _ rfl⟩⟩⟩⟩⟩⟩⟩
    · exact ⟨_, rfl, rfl, false, blF (by decide +kernel), iteF ⟨_, rfl, rfl, false, blF (by decide +kernel), iteF ⟨_, rfl, rfl, false, blF (by decide +kernel), iteF ⟨_, rfl, rfl, false, blF (by decide +kernel), iteF ⟨_, rfl, rfl, false, blF (by decide +kernel), iteF ⟨_, rfl, rfl, false, blF (by decide +kernel), iteF ⟨_, rfl, rfl, true, blT (by decide +kernel), iteT ⟨_, rfl, _, rfl, _, _, rfl, rfl, _, rfl, _, rfl, _, _, rfl, rfl, len2, fin _ rfl⟩⟩⟩⟩⟩⟩⟩⟩
-- 0 _law_way, 1 _law_width, 2 _law_height, 3 _law_rows, 4 _law_turned, 5 _law_x, 6 _law_y, 7 _law_kind, 8 _law_a, 9 _law_b
abbrev N__law_set : List Str := ["_law_way", "_law_width", "_law_height", "_law_rows", "_law_turned", "_law_x", "_law_y", "_law_kind", "_law_a", "_law_b"]
theorem sc__law_set : FnScope N__law_set ["_law_way", "_law_width", "_law_height", "_law_rows"] (defScope s__law_set) := C8.fnScope_by (by decide +kernel)
theorem kS_flip (b : Bool) : atI ([.str "-", .str "|"] : List V) (if decide (V.str (kS b) = V.str "-") then 1 else 0) = some (.str (kS (!b))) := by cases b <;> decide +kernel
def spSet (tb : Addr × Str) : Sp := fun vs H Q _ => ∃ (G : Hp) (y : Way) (B : Bd) (v : V) (ms : List Mir), vs = [.str (wayS y), .int B.w, .int B.h, v] ∧ Vw tb G H ∧ At G v (.list (ms.map mD)) ∧ ms.length ≤ 1000 ∧ Ret tb no G H (fun G' u => At G' u (.list ((ms.map (tMir y B)).map mD))) Q
theorem ok__law_set (D0 : DefAt K mg "_law_set" s__law_set) (T : Txt K mg C L) (c__law_place : C8.Cal P w K mg base 1 "_law_place" (spPlace tb) []) : C8.Cal P w K mg base 2 "_law_set" (spSet tb) [] := by
  refine D0.cal (N := N__law_set) (ps := ["_law_way", "_law_width", "_law_height", "_law_rows"]) (fun _ _ _ _ _ _ us hl => match us, hl with | [_, _, _, _], _ => rfl) sc__law_set (fun vs H Q E h => ?_) (fun f cdv A outer st H vs Q E hr h => ?_)
  · obtain ⟨G, y, B, v, ms, rfl, _⟩ := h
    rfl
  · obtain ⟨G, y, B, v, ms, rfl, g, hv, hml, k⟩ := h
    obtain ⟨l, ys, rfl, hl, hys⟩ := At.lst_ hv
    refine ⟨_, (pss_cons (ps_set (i := 4) sc__law_set.nd rfl (Or.inl rfl) (pe_lst pa_nil))
  (pss_cons (ps_for PassesOwn.never rfl (pi_list (pv 3)) (pg_tup rfl (pgs_cons (pg_name (i := 5) sc__law_set.nd rfl (Or.inl rfl)) (pgs_cons (pg_name (i := 6) sc__law_set.nd rfl (Or.inl rfl)) (pgs_cons (pg_name (i := 7) sc__law_set.nd rfl (Or.inl rfl)) pgs_nil))))
  (C8.pss_cut (ps_if (pt_cmpR op_in_seq (pv 0) (pe_tup (pa_cons pe_str (pa_cons pe_str (pa_cons pe_str (pa_cons pe_str pa_nil))))) (by rfl)) (pss_one (ps_set (i := 7) sc__law_set.nd rfl (Or.inl rfl) (pe_ix ix_list (pe_lst (pa_cons pe_str (pa_cons pe_str pa_nil))) (pe_callTy call_int1 (by rfl) T.int boot_int (pa_cons (pe_cmpR op_eq (pv 7) pe_str (nomark _)) pa_nil)) (fun _ _ => rfl)))) pss_nil)
  (pss_cons (ps_asg (C8.pe_c c__law_place hr (by decide) rfl (pa_cons (pv 0) (pa_cons (pe_op op_mul pe_int (pv 1)) (pa_cons (pe_op op_mul pe_int (pv 2)) (pa_cons (pv 5) (pa_cons (pv 6) pa_nil)))))) (pg_tup rfl (pgs_cons (pg_name (i := 8) sc__law_set.nd rfl (Or.inl rfl)) (pgs_cons (pg_name (i := 9) sc__law_set.nd rfl (Or.inl rfl)) pgs_nil))))
  (pss_one (ps_expr (pe_bm PySem.F.plainAttrs_list PySem.F.slot_list_append PySem.F.type_list_append mt_append (pv 4) (pa_cons (pe_tup (pa_cons (pv 8) (pa_cons (pv 9) (pa_cons (pv 7) pa_nil)))) pa_nil)))))))
  (pss_one (ps_ret (pv 4))))), ?_⟩
    refine ⟨len0, fun D hD => ?_⟩
    have g1 := (Go.refl (M := no) g).new (o := .lst []) hD
    have nD := (Go.refl (M := no) g).fresh hD
    have gD : G D = none := g.gh.free hD
    refine ⟨_, rfl, l, rfl, ⟨_, SqL.of (g1.gh _ _ hl)⟩, for_list (K := K) (a := l) (xs := ys) (fun i σ H' => ∃ (G' : Hp) (vs : List V) (o5 o6 o7 o8 o9 : Option V), σ = [some (.str (wayS y)), some (.int B.w), some (.int B.h), some (.ref l), some (.ref D), o5, o6, o7, o8, o9] ∧ Go tb no G H G' H' ∧ G' D = none ∧ H' D = some (.lst vs) ∧ AtAll G' vs (((ms.take i).map (tMir y B)).map mD))
      ⟨G, [], none, none, none, none, none, rfl, g1, gD, upd_same, .nil⟩ (fun i σ H' _ ⟨_, _, _, _, _, _, _, _, z, _⟩ => SqL.of (z.gh _ _ (z.gg _ _ hl))) ?_ ?_⟩
    · rintro i yv σ H1 hy ⟨G1, vs, o5, o6, o7, o8, o9, rfl, gg, gD1, hD1, hvs⟩
      obtain ⟨⟨mx, my, mb⟩, hmi, hay⟩ := hys.mapAt hy
      obtain ⟨t, rfl, ht⟩ := (At.mono gg.gg _ hay).mir
      have hi : i < ms.length := (List.getElem?_eq_some_iff.mp hmi).1
      refine ⟨t, _, rfl, SqT.of (gg.gh _ _ ht), rfl, _, _, rfl, _, _, rfl, _, _, rfl, rfl, ?_⟩
      refine ⟨fun σ H' => ∃ G', σ = [some (.str (wayS y)), some (.int B.w), some (.int B.h), some (.ref l), some (.ref D), some (.int mx), some (.int my), some (.str (kS (sw y mb))), o8, o9] ∧ Go tb no G H G' H' ∧ Same G1 G' ∧ G' D = none ∧ H' D = some (.lst vs), ?_, ?_⟩
      · refine ⟨_, rfl, len4, fun t2 ht2 => ⟨t2, _, rfl, .inr (SqT.of upd_same), rfl, rfl, y.ex, congrArg V.bl (way_ex y), ?_⟩⟩
        obtain ⟨g2, s2, e2⟩ := gg.tup ht2 [.str "quarter", .str "back", .str "cross", .str "anti"]
        have hD2 : upd H1 t2 (.tup [.str "quarter", .str "back", .str "cross", .str "anti"]) D = some (.lst vs) := by rw [upd_ne (ne_of_none hD1 ht2)]; exact hD1
        have gD2 : upd G1 t2 (.tup [.str "quarter", .str "back", .str "cross", .str "anti"]) D = none := by rw [upd_ne (ne_of_none hD1 ht2)]; exact gD1
        rw [kS_sw]
        cases hyx : y.ex with
        | true =>
          refine iteT ⟨len2, fun q hq => ⟨_, rfl, rfl, .inr ⟨_, rfl, q, _, _, _, rfl, rfl, SqL.of upd_same, kS_flip mb, ?_⟩⟩⟩
          obtain ⟨g3, s3, e3⟩ := g2.lst hq [.str "-", .str "|"]
          refine ⟨_, rfl, g3, fun b o e => s3 _ _ (s2 _ _ e), ?_, ?_⟩
          · rw [upd_ne (ne_of_none hD2 hq)]; exact gD2
          · rw [upd_ne (ne_of_none hD2 hq)]; exact hD2
        | false => exact iteF ⟨_, rfl, g2, s2, gD2, hD2⟩
      rintro σ H' ⟨G2, rfl, g2, s2, gD2, hD2⟩
      -- a, b = place(way, 2 * width, 2 * height, x, y)
      refine ⟨_, rfl, _, rfl, _, _, rfl, rfl, c2 _, _, rfl, _, _, rfl, rfl, c2 _, _, rfl, _, rfl, G2, y, _, _, (mx, my), rfl, g2.vw, fun G3 H3 u g3 hu => ?_⟩
      obtain ⟨r, rfl, hr3⟩ := hu.pt
      have g4 := g2.trans g3
      have hD3 := g3.loc hD2 trivial id
      have gD3 := g3.out hD2 trivial gD2
      refine ⟨r, _, rfl, SqT.of (g3.gh _ _ hr3), rfl, _, _, rfl, _, _, rfl, rfl, ?_⟩
      refine ⟨_, rfl, .inl ⟨rfl, _, SqL.of hD3⟩, _, rfl, _, rfl, _, rfl, len3, fun t3 ht3 => ?_⟩
      obtain ⟨g5, s5, e5⟩ := g4.tup ht3 [.int (tMir y B (mx, my, mb)).1, .int (tMir y B (mx, my, mb)).2.1, .str (kS (tMir y B (mx, my, mb)).2.2)]
      have hD5 : upd H3 t3 (.tup [.int (tMir y B (mx, my, mb)).1, .int (tMir y B (mx, my, mb)).2.1, .str (kS (tMir y B (mx, my, mb)).2.2)]) D = some (.lst vs) := by rw [upd_ne (ne_of_none hD3 ht3)]; exact hD3
      have gD5 : upd G3 t3 (.tup [.int (tMir y B (mx, my, mb)).1, .int (tMir y B (mx, my, mb)).2.1, .str (kS (tMir y B (mx, my, mb)).2.2)]) D = none := by rw [upd_ne (ne_of_none hD3 ht3)]; exact gD3
      have vl : vs.length = (ms.take i).length := by rw [hvs.mapLen, List.length_map]
      rw [List.length_take] at vl
      refine ⟨D, vs, _, rfl, rfl, hD5, le_line (by omega), ?_⟩
      refine ⟨_, vs ++ [.ref t3], _, _, _, _, _, rfl, g5.put hD5 trivial (.inl nD) gD5 trivial, gD5, upd_same, ?_⟩
      rw [take_snoc hmi, List.map_append, List.map_append]
      exact (AtAll.mono (fun b o e => s5 _ _ (g3.gg _ _ (s2 _ _ e))) _ hvs).snoc (At.ofMir e5)
    · rintro σ H1 ⟨G1, vs, o5, o6, o7, o8, o9, rfl, gg, gD1, hD1, hvs⟩
      rw [hys.mapLen, List.take_length] at hvs
      exact ⟨_, rfl, k _ _ _ (gg.freeze hD1 trivial nD gD1) (.lst upd_same (AtAll.mono (same_upd gD1) _ hvs))⟩
-- 0 _law_way, 1 _law_width, 2 _law_height, 3 _law_one, 4 _law_other, 5 _law_first
abbrev N__law_pair : List Str := ["_law_way", "_law_width", "_law_height", "_law_one", "_law_other", "_law_first"]
theorem sc__law_pair : FnScope N__law_pair ["_law_way", "_law_width", "_law_height", "_law_one", "_law_other"] (defScope s__law_pair) := C8.fnScope_by (by decide +kernel)
def tPr (y : Way) (B : Bd) (q : Pr) : Pr := (sPl y B q.1, sPl y B q.2)
def spPair (tb : Addr × Str) : Sp := fun vs H Q _ => ∃ (G : Hp) (y : Way) (B : Bd) (v w : V) (q : Pr), vs = [.str (wayS y), .int B.w, .int B.h, v, w] ∧ Vw tb G H ∧ At G v (pD q.1) ∧ At G w (pD q.2) ∧ Ret tb no G H (fun G' u => At G' u (prD (tPr y B q))) Q
theorem ok__law_pair (D0 : DefAt K mg "_law_pair" s__law_pair) (c__law_place : C8.Cal P w K mg base 1 "_law_place" (spPlace tb) []) : C8.Cal P w K mg base 2 "_law_pair" (spPair tb) [] := by
  refine D0.cal (N := N__law_pair) (ps := ["_law_way", "_law_width", "_law_height", "_law_one", "_law_other"]) (fun _ _ _ _ _ _ us hl => match us, hl with | [_, _, _, _, _], _ => rfl) sc__law_pair (fun vs H Q E h => ?_) (fun f cdv A outer st H vs Q E hr h => ?_)
  · obtain ⟨G, y, B, v, w, q, rfl, _⟩ := h
    rfl
  · obtain ⟨G, y, B, v, w', ⟨s1, s2⟩, rfl, g, hv, hw, k⟩ := h
    obtain ⟨b1, rfl, hb1⟩ := hv.pt
    obtain ⟨b2, rfl, hb2⟩ := hw.pt
    refine ⟨_, (pss_cons (ps_set (i := 5) sc__law_pair.nd rfl (Or.inl rfl) (C8.pe_c c__law_place hr (by decide) rfl (pa_cons (pv 0) (pa_cons (pe_op op_sub (pe_op op_mul pe_int (pv 1)) pe_int) (pa_cons (pe_op op_sub (pe_op op_mul pe_int (pv 2)) pe_int) (pa_cons (pe_ix ix_tup (pv 3) pe_int (fun _ _ => rfl)) (pa_cons (pe_ix ix_tup (pv 3) pe_int (fun _ _ => rfl)) pa_nil)))))))
  (pss_one (ps_ret (pe_tup (pa_cons (pv 5) (pa_cons (C8.pe_c c__law_place hr (by decide) rfl (pa_cons (pv 0) (pa_cons (pe_op op_sub (pe_op op_mul pe_int (pv 1)) pe_int) (pa_cons (pe_op op_sub (pe_op op_mul pe_int (pv 2)) pe_int) (pa_cons (pe_ix ix_tup (pv 4) pe_int (fun _ _ => rfl)) (pa_cons (pe_ix ix_tup (pv 4) pe_int (fun _ _ => rfl)) pa_nil)))))) pa_nil)))))), ?_⟩
    have q1 : SqT K H b1 [.int s1.1, .int s1.2] := SqT.of (g.gh _ _ hb1)
    refine ⟨_, rfl, _, rfl, _, _, rfl, rfl, c2 _, _, _, rfl, rfl, _, rfl, _, _, rfl, rfl, c2 _, _, _, rfl, rfl, _, rfl, b1, _, 0, _, rfl, rfl, q1, rfl, _, rfl, b1, _, 1, _, rfl, rfl, q1, rfl, G, y, _, _, s1, rfl, g, fun G1 H1 u1 g1 h1 => ?_⟩
    have q2 : SqT K H1 b2 [.int s2.1, .int s2.2] := SqT.of (g1.gh _ _ (g1.gg _ _ hb2))
    refine ⟨_, rfl, _, rfl, _, rfl, _, _, rfl, rfl, c2 _, _, _, rfl, rfl, _, rfl, _, _, rfl, rfl, c2 _, _, _, rfl, rfl, _, rfl, b2, _, 0, _, rfl, rfl, q2, rfl, _, rfl, b2, _, 1, _, rfl, rfl, q2, rfl, G1, y, _, _, s2, rfl, g1.vw, fun G2 H2 u2 g2 h2 => ⟨len2, fun t ht => ?_⟩⟩
    obtain ⟨g3, s3, e3⟩ := (g1.trans g2).tup ht [u1, u2]
    exact k _ _ _ g3 (.tup e3 (.cons (At.mono (fun b o e => s3 _ _ (g2.gg _ _ e)) _ h1) (.cons (At.mono s3 _ h2) .nil)))
-- 0 _law_found, 1 _law_due, 2 _law_k
abbrev N__law_same : List Str := ["_law_found", "_law_due", "_law_k"]
theorem sc__law_same : FnScope N__law_same ["_law_found", "_law_due"] (defScope s__law_same) := C8.fnScope_by (by decide +kernel)
def spS (R : PyData → Prop) : Sp := fun vs H Q _ => ∃ (G : Hp) (v w : V) (d : PyData), vs = [v, w] ∧ Same G H ∧ At G v d ∧ At G w d ∧ R d ∧ Q (.bl true) H
def isI : PyData → Prop := fun d => ∃ i, d = .int i
def tupOf (R : PyData → Prop) : PyData → Prop := fun d => ∃ ds, d = .tuple ds ∧ ds.length ≤ 10 ∧ ∀ e, e ∈ ds → R e
theorem kit_self (t : Value) : PySem.W.kitOne K t t = some true := by
  unfold PySem.W.kitOne
  rw [if_pos (beq_self_eq_true _)]
theorem kit_ib : PySem.W.kitOne K (.type "int") (.type "bool") = some false := by rfl
theorem kit_ti : PySem.W.kitOne K (.type "tuple") (.type "int") = some false := by rfl
theorem kit_ts : PySem.W.kitOne K (.type "tuple") (.type "str") = some false := by rfl
theorem ok_sameF (D0 : DefAt K mg "_law_same" s__law_same) : C8.Cal P w K mg base 1 "_law_same" (fun _ _ _ _ => False) [] := by
  exact D0.cal (N := N__law_same) (ps := ["_law_found", "_law_due"]) (fun _ _ _ _ _ _ us hl => match us, hl with | [_, _], _ => rfl) sc__law_same (fun vs H Q E h => h.elim) (fun f cdv A outer st H vs Q E hr h => h.elim)
theorem ok_same0 (D0 : DefAt K mg "_law_same" s__law_same) (T : Txt K mg C L) (c__law_same : C8.Cal P w K mg base 1 "_law_same" (fun _ _ _ _ => False) []) : C8.Cal P w K mg base 2 "_law_same" (spS isI) [] := by
  refine D0.cal (N := N__law_same) (ps := ["_law_found", "_law_due"]) (fun _ _ _ _ _ _ us hl => match us, hl with | [_, _], _ => rfl) sc__law_same (fun vs H Q E h => ?_) (fun f cdv A outer st H vs Q E hr h => ?_)
  · obtain ⟨G, v, w, d, rfl, _⟩ := h
    rfl
  · obtain ⟨G, v, w', d, rfl, g, hv, hw, ⟨i, rfl⟩, k⟩ := h
    obtain rfl := hv.int_
    obtain rfl := hw.int_
    refine ⟨_, (pss_cons (ps_if (pt_cmpR op_isN (pv 1) pe_non (nomark _)) (pss_one (ps_ret (pe_cmpR op_isN (pv 0) pe_non (nomark _)))) pss_nil)
  (pss_cons (ps_if (pt_cmpR op_isBl' (pv 1) pe_bl (nomark _)) (pss_one (ps_ret (pe_cmpR op_isBl' (pv 0) pe_bl (nomark _)))) pss_nil)
  (pss_cons (ps_if (pt_cmpR op_isBl' (pv 1) pe_bl (nomark _)) (pss_one (ps_ret (pe_cmpR op_isBl' (pv 0) pe_bl (nomark _)))) pss_nil)
  (pss_cons (ps_if (pt_val (pe_callB call_isi (by rfl) T.isinstance boot_isinstance (pa_cons (pv 1) (pa_cons (pe_bltn (v := .ty "int") (by rfl) T.int boot_int rfl) pa_nil)))) (pss_one (ps_ret (pe_and (pe_callB call_isi (by rfl) T.isinstance boot_isinstance (pa_cons (pv 0) (pa_cons (pe_bltn (v := .ty "int") (by rfl) T.int boot_int rfl) pa_nil))) (pe_and (pe_not (pe_callB call_isi (by rfl) T.isinstance boot_isinstance (pa_cons (pv 0) (pa_cons (pe_bltn (v := .ty "bool") (by rfl) T.bool boot_bool rfl) pa_nil)))) (pe_one (pe_cmpR op_eq (pv 0) (pv 1) (nomark _))))))) pss_nil)
  (pss_cons (ps_if (pt_val (pe_callB call_isi (by rfl) T.isinstance boot_isinstance (pa_cons (pv 1) (pa_cons (pe_bltn (v := .ty "str") (by rfl) T.str boot_str rfl) pa_nil)))) (pss_one (ps_ret (pe_and (pe_callB call_isi (by rfl) T.isinstance boot_isinstance (pa_cons (pv 0) (pa_cons (pe_bltn (v := .ty "str") (by rfl) T.str boot_str rfl) pa_nil))) (pe_one (pe_cmpR op_eq (pv 0) (pv 1) (nomark _)))))) pss_nil)
  (C8.pss_cut (ps_if (pt_val (pe_callB call_isi (by rfl) T.isinstance boot_isinstance (pa_cons (pv 1) (pa_cons (pe_bltn (v := .ty "tuple") (by rfl) T.tuple boot_tuple rfl) pa_nil)))) (pss_one (ps_if (PW.pt (pw_or (pt_not (pt_val (pe_callB call_isi (by rfl) T.isinstance boot_isinstance (pa_cons (pv 0) (pa_cons (pe_bltn (v := .ty "tuple") (by rfl) T.tuple boot_tuple rfl) pa_nil))))) (pw_or1 (pt_cmpR op_ne (pe_callB call_len (by rfl) T.len PySem.boot_len (pa_cons (pv 0) pa_nil)) (pe_callB call_len (by rfl) T.len PySem.boot_len (pa_cons (pv 1) pa_nil)) (nomark _))))) (pss_one (ps_ret pe_bl)) pss_nil)) (pss_one (ps_if (PW.pt (pw_or (pt_not (pt_val (pe_callB call_isi (by rfl) T.isinstance boot_isinstance (pa_cons (pv 0) (pa_cons (pe_bltn (v := .ty "list") (by rfl) T.list boot_list rfl) pa_nil))))) (pw_or1 (pt_cmpR op_ne (pe_callB call_len (by rfl) T.len PySem.boot_len (pa_cons (pv 0) pa_nil)) (pe_callB call_len (by rfl) T.len PySem.boot_len (pa_cons (pv 1) pa_nil)) (nomark _))))) (pss_one (ps_ret pe_bl)) pss_nil)))
  (pss_cons (ps_for PassesOwn.never rfl (pi_range1 rfl T.range (pa_cons (pe_callB call_len (by rfl) T.len PySem.boot_len (pa_cons (pv 1) pa_nil)) pa_nil)) (pg_name (i := 2) sc__law_same.nd rfl (Or.inl rfl))
  (pss_one (ps_if (pt_not (pt_val (C8.pe_c c__law_same hr (by decide) rfl (pa_cons (pe_ix ix_tup (pv 0) (pv 2) (fun _ _ => rfl)) (pa_cons (pe_ix ix_tup (pv 1) (pv 2) (fun _ _ => rfl)) pa_nil))))) (pss_one (ps_ret pe_bl)) pss_nil)))
  (pss_one (ps_ret pe_bl))))))))), ?_⟩
    refine ⟨_, rfl, rfl, false, blF (by simp), iteF ⟨_, rfl, ⟨_, rfl⟩, .inl ⟨_, rfl⟩, false, rfl, iteF ⟨_, rfl, ⟨_, rfl⟩, .inl ⟨_, rfl⟩, false, rfl, iteF ?_⟩⟩⟩
    refine ⟨_, rfl, _, _, _, _, true, rfl, .ty "int", .base (.int _), kit_self _, true, rfl, iteT ?_⟩
    refine ⟨_, rfl, _, _, _, _, true, rfl, .ty "int", .base (.int _), kit_self _, true, rfl, iteT ?_⟩
    refine ⟨_, rfl, _, _, _, _, false, rfl, .ty "bool", .base (.int _), kit_ib, false, rfl, true, rfl, iteT ?_⟩
    refine ⟨_, rfl, _, rfl, rfl, ?_⟩
    rw [decide_eq_true rfl]
    exact k
theorem ok_sameS {R : PyData → Prop} {n : Nat} (D0 : DefAt K mg "_law_same" s__law_same) (T : Txt K mg C L) (c__law_same : C8.Cal P w K mg base n "_law_same" (spS R) []) : C8.Cal P w K mg base (n + 1) "_law_same" (spS (tupOf R)) [] := by
  refine D0.cal (N := N__law_same) (ps := ["_law_found", "_law_due"]) (fun _ _ _ _ _ _ us hl => match us, hl with | [_, _], _ => rfl) sc__law_same (fun vs H Q E h => ?_) (fun f cdv A outer st H vs Q E hr h => ?_)
  · obtain ⟨G, v, w, d, rfl, _⟩ := h
    rfl
  · obtain ⟨G, v, w', d, rfl, g, hv, hw, ⟨ds, rfl, hl, hR⟩, k⟩ := h
    obtain ⟨a, xs, rfl, ha, hxs⟩ := hv.tup_
    obtain ⟨b, ys, rfl, hb, hys⟩ := hw.tup_
    have ha' := g _ _ ha
    have hb' := g _ _ hb
    have hxl := hxs.length
    have hyl := hys.length
    have le_n : n ≤ n := Nat.le_refl n
    refine ⟨_, (pss_cons (ps_if (pt_cmpR op_isN (pv 1) pe_non (nomark _)) (pss_one (ps_ret (pe_cmpR op_isN (pv 0) pe_non (nomark _)))) pss_nil)
  (pss_cons (ps_if (pt_cmpR op_isBl' (pv 1) pe_bl (nomark _)) (pss_one (ps_ret (pe_cmpR op_isBl' (pv 0) pe_bl (nomark _)))) pss_nil)
  (pss_cons (ps_if (pt_cmpR op_isBl' (pv 1) pe_bl (nomark _)) (pss_one (ps_ret (pe_cmpR op_isBl' (pv 0) pe_bl (nomark _)))) pss_nil)
  (pss_cons (ps_if (pt_val (pe_callB call_isi (by rfl) T.isinstance boot_isinstance (pa_cons (pv 1) (pa_cons (pe_bltn (v := .ty "int") (by rfl) T.int boot_int rfl) pa_nil)))) (pss_one (ps_ret (pe_and (pe_callB call_isi (by rfl) T.isinstance boot_isinstance (pa_cons (pv 0) (pa_cons (pe_bltn (v := .ty "int") (by rfl) T.int boot_int rfl) pa_nil))) (pe_and (pe_not (pe_callB call_isi (by rfl) T.isinstance boot_isinstance (pa_cons (pv 0) (pa_cons (pe_bltn (v := .ty "bool") (by rfl) T.bool boot_bool rfl) pa_nil)))) (pe_one (pe_cmpR op_eq (pv 0) (pv 1) (nomark _))))))) pss_nil)
  (pss_cons (ps_if (pt_val (pe_callB call_isi (by rfl) T.isinstance boot_isinstance (pa_cons (pv 1) (pa_cons (pe_bltn (v := .ty "str") (by rfl) T.str boot_str rfl) pa_nil)))) (pss_one (ps_ret (pe_and (pe_callB call_isi (by rfl) T.isinstance boot_isinstance (pa_cons (pv 0) (pa_cons (pe_bltn (v := .ty "str") (by rfl) T.str boot_str rfl) pa_nil))) (pe_one (pe_cmpR op_eq (pv 0) (pv 1) (nomark _)))))) pss_nil)
  (C8.pss_cut (ps_if (pt_val (pe_callB call_isi (by rfl) T.isinstance boot_isinstance (pa_cons (pv 1) (pa_cons (pe_bltn (v := .ty "tuple") (by rfl) T.tuple boot_tuple rfl) pa_nil)))) (pss_one (ps_if (PW.pt (pw_or (pt_not (pt_val (pe_callB call_isi (by rfl) T.isinstance boot_isinstance (pa_cons (pv 0) (pa_cons (pe_bltn (v := .ty "tuple") (by rfl) T.tuple boot_tuple rfl) pa_nil))))) (pw_or1 (pt_cmpR op_ne (pe_callB call_len (by rfl) T.len PySem.boot_len (pa_cons (pv 0) pa_nil)) (pe_callB call_len (by rfl) T.len PySem.boot_len (pa_cons (pv 1) pa_nil)) (nomark _))))) (pss_one (ps_ret pe_bl)) pss_nil)) (pss_one (ps_if (PW.pt (pw_or (pt_not (pt_val (pe_callB call_isi (by rfl) T.isinstance boot_isinstance (pa_cons (pv 0) (pa_cons (pe_bltn (v := .ty "list") (by rfl) T.list boot_list rfl) pa_nil))))) (pw_or1 (pt_cmpR op_ne (pe_callB call_len (by rfl) T.len PySem.boot_len (pa_cons (pv 0) pa_nil)) (pe_callB call_len (by rfl) T.len PySem.boot_len (pa_cons (pv 1) pa_nil)) (nomark _))))) (pss_one (ps_ret pe_bl)) pss_nil)))
  (pss_cons (ps_for PassesOwn.never rfl (pi_range1 rfl T.range (pa_cons (pe_callB call_len (by rfl) T.len PySem.boot_len (pa_cons (pv 1) pa_nil)) pa_nil)) (pg_name (i := 2) sc__law_same.nd rfl (Or.inl rfl))
  (pss_one (ps_if (pt_not (pt_val (C8.pe_c c__law_same hr (Nat.le_refl _) rfl (pa_cons (pe_ix ix_tup (pv 0) (pv 2) (fun _ _ => rfl)) (pa_cons (pe_ix ix_tup (pv 1) (pv 2) (fun _ _ => rfl)) pa_nil))))) (pss_one (ps_ret pe_bl)) pss_nil)))
  (pss_one (ps_ret pe_bl))))))))), ?_⟩
    refine ⟨_, rfl, rfl, false, blF (by simp), iteF ⟨_, rfl, ⟨_, rfl⟩, .inr ⟨_, rfl⟩, false, rfl, iteF ⟨_, rfl, ⟨_, rfl⟩, .inr ⟨_, rfl⟩, false, rfl, iteF ?_⟩⟩⟩
    refine ⟨_, rfl, _, _, _, _, false, rfl, .ty "int", .base (.tup hb'), kit_ti, false, rfl, iteF ?_⟩
    refine ⟨_, rfl, _, _, _, _, false, rfl, .ty "str", .base (.tup hb'), kit_ts, false, rfl, iteF ?_⟩
    refine ⟨fun σ H' => H' = H ∧ σ = [some (.ref a), some (.ref b), none], ?_, ?_⟩
    · refine ⟨_, rfl, _, _, _, _, true, rfl, .ty "tuple", .base (.tup hb'), kit_self _, true, rfl, iteT ?_⟩
      refine ⟨_, rfl, _, _, _, _, true, rfl, .ty "tuple", .base (.tup ha'), kit_self _, true, rfl, iteF ?_⟩
      refine ⟨_, rfl, _, xs.length, rfl, .inr ⟨_, SqT.of ha', rfl⟩, _, rfl, _, ys.length, rfl, .inr ⟨_, SqT.of hb', rfl⟩, rfl, false, bnF (vi (by omega)), iteF ⟨rfl, rfl⟩⟩
    · rintro σ H' ⟨rfl, rfl⟩
      refine ⟨_, rfl, _, ys.length, rfl, .inr ⟨_, SqT.of hb', rfl⟩, _, rfl, by omega, by omega, ?_⟩
      refine for_range (lo := 0) (n := ((ys.length : Nat) : Int).toNat) (fun i σ H2 => H2 = H' ∧ ∃ o2, σ = [some (.ref a), some (.ref b), o2]) ⟨rfl, _, rfl⟩ ?_ ?_
      · rintro i σ H2 hi ⟨rfl, o2, rfl⟩
        rw [Int.toNat_natCast] at hi
        have ez : (0 : Int) + (i : Int) = (i : Int) := Int.zero_add _
        rw [ez]
        obtain ⟨x, ex⟩ := get_ex (l := xs) (n := i) (by omega)
        obtain ⟨y, ey⟩ := get_ex (l := ys) (n := i) hi
        obtain ⟨d, ed, hxd⟩ := hxs.get ex
        obtain ⟨d', ed', hyd⟩ := hys.get ey
        rw [ed] at ed'
        obtain rfl := Option.some.inj ed'
        exact ⟨_, rfl, _, rfl, a, _, _, _, rfl, rfl, SqT.of ha', atI_nat ex, _, rfl, _, rfl, b, _, _, _, rfl, rfl, SqT.of hb', atI_nat ey, G, x, y, d, rfl, g, hxd, hyd, hR d (List.mem_of_getElem? ed), true, rfl, iteF ⟨rfl, _, rfl⟩⟩
      · rintro σ H2 ⟨rfl, o2, rfl⟩
        exact k
end
end Sand

set_option Elab.async false
set_option linter.all false
set_option maxRecDepth 100000
set_option maxHeartbeats 4000000
namespace Sand
open PySem PySem.Spec PyProof.Rows L2
theorem lk_none {ms : List Mir} {x y : Int} (h : (x, y) ∉ Plcs ms) : lk ms x y = none := by
  cases q : lk ms x y with
  | none => rfl
  | some b =>
    refine absurd ?_ h
    unfold lk at q
    obtain ⟨m, h1, h2⟩ := Option.map_eq_some_iff.mp q
    have hm := List.mem_of_find?_eq_some h1
    have hp := List.find?_some h1
    simp only [decide_eq_true_eq] at hp
    exact List.mem_map.mpr ⟨m, hm, by rw [hp.1, hp.2]⟩
theorem grow_bOf {w h : Int} : ∀ (ms pre : List Mir), (Plcs (pre ++ ms)).Nodup → grow (bOf w h pre) ms = bOf w h (pre ++ ms)
  | [], pre, _ => by rw [List.append_nil]; rfl
  | m :: ms, pre, nd => by
    have nd' : (Plcs ((pre ++ [m]) ++ ms)).Nodup := by rw [List.append_assoc]; exact nd
    have hn : (m.1, m.2.1) ∉ Plcs pre := fun z => by
      unfold Plcs at nd z
      rw [List.map_append] at nd
      exact (List.nodup_append.mp nd).2.2 _ z _ (List.mem_map.mpr ⟨m, List.mem_cons_self .., rfl⟩) rfl
    have e : add (bOf w h pre) m = bOf w h (pre ++ [m]) := (add_bOf (B := bOf w h pre) (fun _ _ => rfl) (lk_none hn)).symm
    show grow (add (bOf w h pre) m) ms = _
    rw [e, grow_bOf ms (pre ++ [m]) nd', List.append_assoc]
    rfl
theorem bOf_eq {B : Bd} {n : Nat} {ms : List Mir} (h : Mirs B n ms) : grow (bOf B.w B.h []) ms = B := by
  rw [grow_bOf ms [] h.nd]
  show (⟨B.w, B.h, lk ms⟩ : Bd) = B
  have : lk ms = B.k := funext fun x => funext fun y => (h.k x y).symm
  rw [this]
theorem LiveAt.keep {tb : Addr × Str} {M : Addr → Prop} {C L : Addr} {G H G1 H1 : Hp} {p a c : Addr} {B : Bd} {n : Nat} (k : LiveAt C L G H p a c B n) (g : Go tb M G H G1 H1) (m : ∀ z, M z → z ≠ p ∧ z ≠ a ∧ z ≠ c) : LiveAt C L G1 H1 p a c B n := by
  obtain ⟨dx, q, hp, hq⟩ := k.hp
  obtain ⟨xs, ha, hx⟩ := k.ha
  obtain ⟨ys, hc, hy⟩ := k.hc
  exact ⟨g.out hp trivial k.gp, g.out ha trivial k.ga, g.out hc trivial k.gc, k.ne, ⟨dx, q, g.loc hp trivial fun z => (m _ z).1 rfl, hq.mono g.gg⟩, ⟨xs, g.loc ha trivial fun z => (m _ z).2.1 rfl, hx⟩, ⟨ys, g.loc hc trivial fun z => (m _ z).2.2 rfl, hy⟩⟩
theorem in_ints {i : Int} {ns : List Int} (h : i ∈ ns) : inV (.int i) (ns.map V.int) = true := by
  unfold inV
  rw [List.any_eq_true]
  refine ⟨.int i, List.mem_map.mpr ⟨i, h, rfl⟩, ?_⟩
  simp [eqV]
theorem flat_ints (ns : List Int) : (ns.map V.int).all flatV = true := by
  rw [List.all_eq_true]
  intro x hx
  obtain ⟨i, _, rfl⟩ := List.mem_map.mp hx
  rfl
section
variable {P : Program} {w : World} {K : PySem.W.Frag} {mg : Str → Option Value} {base : Heap} {C L : Addr} {tb : Addr × Str}
-- 0 _law_turned, 1 _law_rows*, 2 _law_told, 3 _law_numbers, 4 _law_row, 5 _law_live, 6 _law_index
abbrev N__law_lives : List Str := ["_law_turned", "_law_rows", "_law_told", "_law_numbers", "_law_row", "_law_live", "_law_index"]
theorem sc__law_lives : FnScope N__law_lives ["_law_turned", "_law_rows", "_law_told", "_law_numbers"] (defScope s__law_lives) := C8.fnScope_by (by decide +kernel)
def spLives (tb : Addr × Str) (C : Addr) : Sp := fun vs H Q _ => ∃ (G : Hp) (p : Addr) (v w x : V) (B : Bd) (n : Nat) (ms : List Mir) (cs : List (List Nat)) (ns : List Int), vs = [.ref p, v, w, x] ∧ Vw tb G H ∧ BoardAt C G p B n ∧ At G v (.list (ms.map mD)) ∧ At G w (.list (cs.map cD)) ∧ At G x (.list (ns.map PyData.int)) ∧ Free B ms ∧ ms.length ≤ 3 ∧ n ≤ 800 ∧
  (∀ c, c ∈ cs → Val ms.length c ∧ c.length ≤ 3 ∧ ((num (grow B (sub ms c)) : Nat) : Int) ∈ ns) ∧ ∀ H', Go tb no G H G H' → Q (.bl true) H'
theorem ok__law_lives (D0 : DefAt K mg "_law_lives" s__law_lives) (T : Txt K mg C L) (c_width : Prp P w K mg base 1 C "width" (spWid C)) (c_height : Prp P w K mg base 1 C "height" (spHei C)) (c_mirrors : Prp P w K mg base 1 C "mirrors" (spMirs tb C))
    (c_LiveBoard : C8.Mak P w K mg base 12 "LiveBoard" L (spInitL tb C L) []) (c_add_all : C8.Met P w K mg base 14 L "add_all" (spAdd tb C L) []) : C8.Cal P w K mg base 15 "_law_lives" (spLives tb C) [] := by
  refine D0.cal (N := N__law_lives) (ps := ["_law_turned", "_law_rows", "_law_told", "_law_numbers"]) (fun _ _ _ _ _ _ us hl => match us, hl with | [_, _, _, _], _ => rfl) sc__law_lives (fun vs H Q E h => ?_) (fun f cdv A outer st H vs Q E hr h => ?_)
  · obtain ⟨G, p, v, w, x, B, n, ms, cs, ns, rfl, _⟩ := h
    rfl
  · obtain ⟨G, p, v, w', x, B, n, ms, cs, ns, rfl, g, hB, hv, hw, hx, hF, hml, hn, hcs, k⟩ := h
    obtain ⟨lr, ys, rfl, hlr, hys⟩ := At.lst_ hv
    obtain ⟨lt, zs, rfl, hlt, hzs⟩ := At.lst_ hw
    obtain ⟨ln, us, rfl, hln, hus⟩ := At.lst_ hx
    rw [AtAll.ints_ hus] at hln
    obtain ⟨dxp, dp, ms1, hp, _, _, w1, h1, w9, h9⟩ := hB.parts
    refine ⟨_, (pss_cons (ps_for PassesOwn.never rfl (pi_list (pv 2)) (pg_name (i := 4) sc__law_lives.nd rfl (Or.inl rfl))
  (pss_cons (ps_set (i := 5) sc__law_lives.nd rfl (Or.inl rfl) (C8.pe_mk c_LiveBoard hr (by decide) rfl (pa_cons (pe_pr c_width hr (by decide) (pv 0) rfl) (pa_cons (pe_pr c_height hr (by decide) (pv 0) rfl) pa_nil))))
  (pss_cons (ps_expr (C8.pe_mt c_add_all hr (by decide) (pv 5) (pa_cons (pe_pr c_mirrors hr (by decide) (pv 0) rfl) pa_nil)))
  (pss_one (ps_if (pt_cmpR op_notIn_seq (C8.pe_mt c_add_all hr (by decide) (pv 5) (pa_cons (pe_lc (own := [("_law_index", 6)]) (g := gName 6) (tt := tYes) (te := tOp (rIxL K) (tVar 1) (tVar 6)) rfl sc__law_lives.nd (pi_list (pv 4)) (blkOk_by (own := [("_law_index", 6)]) (N := N__law_lives) (sc := defScope s__law_lives) (by decide +kernel)) (fun _ _ _ _ _ => (pg_name (i := 6) sc__law_lives.nd rfl (Or.inl rfl))) (fun _ _ _ _ _ => pts_nil) (fun _ _ _ _ _ => (pe_ix ix_list (pv 1) (pv 6) (fun _ _ => rfl)))) pa_nil)) (pv 3) (by rfl)) (pss_one (ps_ret pe_bl)) pss_nil)))))
  (pss_one (ps_ret pe_bl))), ?_⟩
    refine ⟨_, rfl, lt, rfl, ⟨_, SqL.of (g.gh _ _ hlt)⟩, for_list (K := K) (a := lt) (xs := zs) (fun i σ H' => ∃ (G' : Hp) (o4 o5 o6 : Option V), σ = [some (.ref p), some (.ref lr), some (.ref lt), some (.ref ln), o4, o5, o6] ∧ Go tb no G H G' H')
      ⟨G, none, none, none, rfl, Go.refl g⟩ (fun i σ H' _ ⟨_, _, _, _, _, z⟩ => SqL.of (z.gh _ _ (z.gg _ _ hlt))) ?_ ?_⟩
    · rintro i y σ H1 hy ⟨G1, o4, o5, o6, rfl, g1⟩
      obtain ⟨c, hci, hay⟩ := hzs.mapAt hy
      obtain ⟨t, rfl, ht⟩ := (At.mono g1.gg _ hay).cho
      obtain ⟨hval, hcl, hin⟩ := hcs c (List.mem_of_getElem? hci)
      have hB1 := hB.mono g1.gg
      have hp1 := g1.gh _ _ (g1.gg _ _ hp)
      -- live = LiveBoard(turned.width, turned.height)
      refine ⟨_, rfl, p, dxp, _, rfl, hp1, G1, p, B, n, rfl, g1.gh, hB1, _, rfl, p, dxp, _, rfl, hp1, G1, p, B, n, rfl, g1.gh, hB1, fun q dq hq hdq ne => ?_⟩
      have g2 := g1.new (o := .own q) hdq
      have hq2 : upd H1 dq (.own q) q = none := by rw [upd_ne ne.symm]; exact hq
      have g3 := g2.new (o := .ins L dq []) hq2
      have nq := g1.fresh hq
      have gq : G1 q = none := g1.gh.free hq
      refine ⟨G1, q, dq, B.w, B.h, rfl, g3.vw, gq, upd_same, w1, h1, w9, h9, fun G4 H4 a cc g4 na nc hL => ⟨rfl, ?_⟩⟩
      have na' : ¬ Std H a := fun z => na (g3.ex _ z)
      have nc' : ¬ Std H cc := fun z => nc (g3.ex _ z)
      have g5 := g3.own g4 fun b z => .inl (by rw [z]; exact nq)
      have ow : ∀ b, own3 q a cc b → ¬ Std H b ∨ no b := fun b z => .inl (by rcases z with z | z | z <;> rw [z] <;> assumption)
      -- live.add_all(turned.mirrors)
      obtain ⟨dx4, q4, hq4, _⟩ := hL.hp
      have hp5 := g5.gh _ _ (g5.gg _ _ hp)
      refine ⟨_, rfl, q, dx4, _, rfl, hq4, lF_no _ _ _ (by decide +kernel) (by decide +kernel) (by decide +kernel), _, rfl, p, dxp, _, rfl, hp5, G4, p, B, n, rfl, g5.vw, hB.mono g5.gg, by omega, fun G6 H6 u6 g6 ⟨ms0, hu6, hM⟩ => ?_⟩
      have g7 := g5.trans g6
      have hL6 := hL.keep g6 fun _ z => z.elim
      refine ⟨G6, q, a, cc, _, 0, _, ms0, rfl, g7.vw, hL6, hu6, ⟨hM.nd, hM.ins, fun _ _ => rfl⟩, by rw [hM.len]; omega, fun G8 H8 g8 hL8 => ?_⟩
      rw [bOf_eq hM, hM.len] at hL8
      have g9 := g7.own g8 ow
      obtain ⟨dx8, q8, hq8, _⟩ := hL8.hp
      -- if live.add_all([..]) not in numbers
      refine ⟨_, rfl, q, dx8, _, rfl, hq8, lF_no _ _ _ (by decide +kernel) (by decide +kernel) (by decide +kernel), _, rfl, t, rfl, ⟨_, SqL.of (g9.gh _ _ (g8.gg _ _ (g6.gg _ _ (g4.gg _ _ ht))))⟩, fun D hD => ?_⟩
      have nD := g9.fresh hD
      have gD : G8 D = none := g9.gh.free hD
      have g10 := g9.new (o := .lst []) hD
      have hL10 := hL8.keep (Go.new (Go.refl (M := no) g9.vw) (o := .lst []) hD) fun _ z => z.elim
      have ht8 : G8 t = some (.lst (cV c)) := g8.gg _ _ (g6.gg _ _ (g4.gg _ _ ht))
      have hms8 : AtAll G8 ys (ms.map mD) := AtAll.mono g9.gg _ hys
      have hlr8 : G8 lr = some (.lst ys) := g9.gg _ _ hlr
      have gv := Go.refl (M := no) g9.vw
      refine lc_it (walk_list (xs := cV c)) (fun j H' => ∃ vs, Go tb no G8 H8 G8 H' ∧ H' D = some (.lst vs) ∧ AtAll G8 vs ((sub ms (c.take j)).map mD))
        ⟨[], gv.new hD, upd_same, .nil⟩ (fun j H' _ ⟨_, z, _⟩ => SqL.of (z.gh _ _ ht8)) ?_ ?_
      · rintro j yv H11 H11' hj ⟨vs, g11, hD11, hvs⟩ ⟨rfl, hy⟩
        unfold cV at hy
        rw [List.getElem?_map] at hy
        obtain ⟨ix, hix, rfl⟩ := Option.map_eq_some_iff.mp hy
        have hixl : ix < ms.length := hval.2 ix (List.mem_of_getElem? hix)
        obtain ⟨yv, eyv⟩ := get_ex (l := ys) (n := ix) (by rw [hys.mapLen]; exact hixl)
        obtain ⟨m, hmi, hay⟩ := hms8.mapAt eyv
        have vl : vs.length = (sub ms (c.take j)).length := hvs.mapLen
        unfold sub at vl
        rw [List.length_map, List.length_take] at vl
        refine ⟨rfl, _, rfl, _, rfl, lr, _, _, _, rfl, rfl, SqL.of (g11.gh _ _ hlr8), atI_nat eyv, vs, hD11, le_line (by omega), vs ++ [yv], g11.put hD11 trivial (.inl (Std.not hD)) gD trivial, upd_same, ?_⟩
        rw [take_snoc hix]
        have es : sub ms (c.take j ++ [ix]) = sub ms (c.take j) ++ [m] := by
          unfold sub
          rw [List.map_append]
          show _ ++ [ms.getD ix (0, 0, true)] = _
          rw [getD_of hmi]
        rw [es, List.map_append]
        exact hvs.snoc hay
      · rintro H11 ⟨vs, g11, hD11, hvs⟩
        have ecl : (cV c).length = c.length := by unfold cV; rw [List.length_map]
        rw [ecl, List.take_length] at hvs
        have g12 := g11.freeze hD11 trivial (Std.not hD) gD
        have hL12 := hL8.keep g12 fun _ z => z.elim
        have g13 := g9.trans g12
        have hall : At (upd G8 D (.lst vs)) (.ref D) (.list ((sub ms c).map mD)) := .lst upd_same (AtAll.mono (same_upd gD) _ hvs)
        have sl : (sub ms c).length = c.length := by unfold sub; rw [List.length_map]
        refine ⟨_, q, a, cc, B, _, _, sub ms c, rfl, g13.vw, hL12, hall, hF.sub hval, by rw [sl]; omega, fun G14 H14 g14 hL14 => ?_⟩
        have g15 := g13.own g14 ow
        refine ⟨_, rfl, ln, _, rfl, .inl (SqL.of (g15.gh _ _ (g15.gg _ _ hln))), rfl, flat_ints ns, false, by rw [in_ints hin]; rfl, iteF ⟨G14, _, _, _, rfl, g15⟩⟩
    · rintro σ H1 ⟨G1, o4, o5, o6, rfl, g1⟩
      exact k _ g1.small
end
end Sand

set_option Elab.async false
set_option linter.all false
set_option maxRecDepth 100000
set_option maxHeartbeats 4000000
namespace Sand
open PySem PySem.Spec PyProof.Rows L2
/-! ### the plain law: what is asked of a turned board is answered alike -/
theorem sorted_eq : ∀ {l m : List Int}, l.Pairwise (· < ·) → m.Pairwise (· < ·) → (∀ k, k ∈ l ↔ k ∈ m) → l = m
  | [], [], _, _, _ => rfl
  | [], b :: m, _, _, h => absurd ((h b).mpr (List.mem_cons_self ..)) (by simp)
  | a :: l, [], _, _, h => absurd ((h a).mp (List.mem_cons_self ..)) (by simp)
  | a :: l, b :: m, h1, h2, h => by
    obtain ⟨p1, q1⟩ := List.pairwise_cons.mp h1
    obtain ⟨p2, q2⟩ := List.pairwise_cons.mp h2
    have e : a = b := by
      have x1 := (h a).mp (List.mem_cons_self ..)
      have x2 := (h b).mpr (List.mem_cons_self ..)
      rcases List.mem_cons.mp x1 with z | z
      · exact z
      · rcases List.mem_cons.mp x2 with y | y
        · exact y.symm
        · have := p2 a z
          have := p1 b y
          omega
    subst e
    congr 1
    refine sorted_eq q1 q2 fun k => ?_
    constructor
    · intro hk
      rcases List.mem_cons.mp ((h k).mp (List.mem_cons_of_mem _ hk)) with z | z
      · have := p1 k hk
        omega
      · exact z
    · intro hk
      rcases List.mem_cons.mp ((h k).mpr (List.mem_cons_of_mem _ hk)) with z | z
      · have := p2 k hk
        omega
      · exact z
def tLk (y : Way) (B : Bd) (l : Look) : Look := (sPl y B l.1, sPl y B l.2.1, l.2.2)
theorem sub_map {y : Way} {B : Bd} {ms : List Mir} {c : List Nat} (h : ∀ i, i ∈ c → i < ms.length) : sub (ms.map (tMir y B)) c = (sub ms c).map (tMir y B) := by
  unfold sub
  rw [List.map_map]
  refine List.map_congr_left fun i hi => ?_
  have hl := h i hi
  show (ms.map (tMir y B)).getD i (0, 0, true) = tMir y B (ms.getD i (0, 0, true))
  rw [getD_of (List.getElem?_eq_getElem hl)]
  refine getD_of ?_
  rw [List.getElem?_map, List.getElem?_eq_getElem hl]
  rfl
theorem grow_sPl (y : Way) (B : Bd) (ms : List Mir) (s : Pt) : sPl y (grow B ms) s = sPl y B s := by
  obtain ⟨e1, e2⟩ := grow_w B ms
  unfold sPl
  rw [e1, e2]
section
variable {y : Way} {B B' : Bd} {ms : List Mir} {ls : List Look}
theorem turned_sub (t : Turned y B B') {c : List Nat} (h : ∀ i, i ∈ c → i < ms.length) : Turned y (grow B (sub ms c)) (grow B' (sub (ms.map (tMir y B)) c)) := by
  rw [sub_map h]
  exact t.grow _
theorem cn_sub (t : Turned y B B') {c : List Nat} (h : ∀ i, i ∈ c → i < ms.length) {s s' : Pt} (hs : On B s) (hs' : On B s') : Cn (grow B' (sub (ms.map (tMir y B)) c)) (sPl y B s) (sPl y B s') ↔ Cn (grow B (sub ms c)) s s' := by
  have q := (turned_sub t h).cn (on_grow.mpr hs) (on_grow.mpr hs')
  rw [grow_sPl, grow_sPl] at q
  exact q
theorem free_turn (t : Turned y B B') (h : Free B ms) : Free B' (ms.map (tMir y B)) := by
  refine ⟨?_, fun m hm => ?_, fun m hm => ?_⟩
  · rw [plcs_turn]
    exact nodup_map (fun _ _ e => plc_inj e) h.nd
  · obtain ⟨m, hm', rfl⟩ := List.mem_map.mp hm
    have q := ins_turn (y := y) (h.ins m hm')
    unfold Ins
    have hw : B'.w = tW y B := t.w
    have hh : B'.h = tH y B := t.h
    rw [hw, hh]
    exact q
  · obtain ⟨m, hm', rfl⟩ := List.mem_map.mp hm
    have q := t.k (m.1, m.2.1)
    rw [h.no m hm'] at q
    exact q
theorem fit_turn (t : Turned y B B') (ho : ∀ l, l ∈ ls → On B l.1 ∧ On B l.2.1) {c : List Nat} (h : ∀ i, i ∈ c → i < ms.length) : FitC B' (ms.map (tMir y B)) (ls.map (tLk y B)) c ↔ FitC B ms ls c := by
  unfold FitC
  constructor
  · intro k l hl
    have q := k _ (List.mem_map.mpr ⟨l, hl, rfl⟩)
    exact (cn_sub t h (ho l hl).1 (ho l hl).2).symm.trans q
  · intro k l hl
    obtain ⟨l, hl', rfl⟩ := List.mem_map.mp hl
    exact (cn_sub t h (ho l hl').1 (ho l hl').2).trans (k l hl')
theorem fitL_turn (t : Turned y B B') (ho : ∀ l, l ∈ ls → On B l.1 ∧ On B l.2.1) : fitL B' (ms.map (tMir y B)) (ls.map (tLk y B)) = fitL B ms ls := by
  unfold fitL fitIn
  rw [List.length_map]
  refine List.filter_congr fun c hc => ?_
  have q := fit_turn t ho (chs_val hc).2
  exact decide_eq_decide.mpr q
theorem fit_val {c : List Nat} (h : c ∈ fitL B ms ls) : Val ms.length c := chs_val (List.mem_filter.mp h).1
theorem num_turn (t : Turned y B B') {c : List Nat} (h : ∀ i, i ∈ c → i < ms.length) : num (grow B' (sub (ms.map (tMir y B)) c)) = num (grow B (sub ms c)) := (turned_sub t h).num
theorem cts_turn (t : Turned y B B') (ho : ∀ l, l ∈ ls → On B l.1 ∧ On B l.2.1) {ns ns' : List Int} (h : IsCts B ms ls ns) (h' : IsCts B' (ms.map (tMir y B)) (ls.map (tLk y B)) ns') : ns' = ns := by
  refine sorted_eq h'.1 h.1 fun k => ?_
  rw [h.2 k, h'.2 k, fitL_turn t ho]
  constructor
  · rintro ⟨c, hc, e⟩
    exact ⟨c, hc, by rw [e, num_turn t (fit_val hc).2]⟩
  · rintro ⟨c, hc, e⟩
    exact ⟨c, hc, by rw [e, num_turn t (fit_val hc).2]⟩
theorem wors_turn (t : Turned y B B') {q : Pr} (ho : On B q.1 ∧ On B q.2) {fl : List (List Nat)} (hf : ∀ c, c ∈ fl → ∀ i, i ∈ c → i < ms.length) : wors B' (ms.map (tMir y B)) fl (tPr y B q) = wors B ms fl q := by
  have e : cnt B' (ms.map (tMir y B)) (tPr y B q) fl = cnt B ms q fl := by
    unfold cnt
    congr 1
    refine List.filter_congr fun c hc => ?_
    exact decide_eq_decide.mpr (cn_sub t (hf c hc) ho.1 ho.2)
  unfold wors
  rw [e]
theorem best_map {f g : Pr → Int} {r : Pr → Pr} : ∀ (prs : List Pr) (st : Option Pr × Int), (∀ q, q ∈ prs → g (r q) = f q) → (prs.map r).foldl (bst g) (st.1.map r, st.2) = ((prs.foldl (bst f) st).1.map r, (prs.foldl (bst f) st).2)
  | [], _, _ => rfl
  | q :: prs, st, h => by
    have e : bst g (st.1.map r, st.2) (r q) = ((bst f st q).1.map r, (bst f st q).2) := by
      obtain ⟨b, n⟩ := st
      unfold bst
      rw [h q (List.mem_cons_self ..)]
      cases b with
      | none => rfl
      | some b =>
        show (if f q < n then _ else _) = _
        by_cases lt : f q < n
        · simp only [if_pos lt]
          rfl
        · simp only [if_neg lt]
    show (prs.map r).foldl (bst g) (bst g (st.1.map r, st.2) (r q)) = _
    rw [e]
    exact best_map prs (bst f st q) fun q' hq => h q' (List.mem_cons_of_mem _ hq)
theorem best_turn (t : Turned y B B') (ho : ∀ l, l ∈ ls → On B l.1 ∧ On B l.2.1) {prs : List Pr} (hp : ∀ q, q ∈ prs → On B q.1 ∧ On B q.2) :
    (bestL (wors B' (ms.map (tMir y B)) (fitL B' (ms.map (tMir y B)) (ls.map (tLk y B)))) (prs.map (tPr y B))).1 = (bestL (wors B ms (fitL B ms ls)) prs).1.map (tPr y B) := by
  rw [fitL_turn t ho]
  have := best_map (f := wors B ms (fitL B ms ls)) (g := wors B' (ms.map (tMir y B)) (fitL B ms ls)) (r := tPr y B) prs (none, 0) fun q hq => wors_turn t (hp q hq) fun c hc => (fit_val hc).2
  exact congrArg Prod.fst this
theorem bst_some {f : Pr → Int} : ∀ (prs : List Pr) (st : Option Pr × Int), st.1.isSome = true → (prs.foldl (bst f) st).1.isSome = true
  | [], _, h => h
  | q :: prs, st, h => by
    refine bst_some prs (bst f st q) ?_
    obtain ⟨b, n⟩ := st
    cases b with
    | none => cases h
    | some b =>
      show (if f q < n then ((some q, f q) : Option Pr × Int) else (some b, n)).1.isSome = true
      split <;> rfl
theorem best_some {f : Pr → Int} {prs : List Pr} (h : prs ≠ []) : ∃ q, (bestL f prs).1 = some q := by
  cases prs with
  | nil => exact absurd rfl h
  | cons q prs =>
    have := bst_some (f := f) prs (bst f (none, 0) q) rfl
    exact Option.isSome_iff_exists.mp this
theorem best_mem {f : Pr → Int} : ∀ (prs : List Pr) (st : Option Pr × Int) {b : Pr}, (prs.foldl (bst f) st).1 = some b → b ∈ prs ∨ st.1 = some b
  | [], _, _, h => .inr h
  | q :: prs, st, b, h => by
    rcases best_mem prs (bst f st q) h with z | z
    · exact .inl (List.mem_cons_of_mem _ z)
    · obtain ⟨b0, n⟩ := st
      cases b0 with
      | none =>
        obtain rfl := Option.some.inj (show some q = some b from z)
        exact .inl (List.mem_cons_self ..)
      | some b0 =>
        have z' : (if f q < n then ((some q, f q) : Option Pr × Int) else (some b0, n)).1 = some b := z
        split at z'
        · obtain rfl := Option.some.inj z'
          exact .inl (List.mem_cons_self ..)
        · exact .inr z'
end
end Sand

set_option Elab.async false
set_option linter.all false
set_option maxRecDepth 100000
set_option maxHeartbeats 8000000
namespace Sand
open PySem PySem.Spec PyProof.Rows L2
/-! ### data that may be compared -/
theorem lay_ints : ∀ ns : List Int, PyData.canLayAll0 (ns.map PyData.int) = true ∧ PyData.depthAll (ns.map PyData.int) = 0
  | [] => ⟨rfl, rfl⟩
  | n :: ns => by
    obtain ⟨h1, h2⟩ := lay_ints ns
    refine ⟨?_, ?_⟩
    · show (PyData.canLay0 (.int n) && PyData.canLayAll0 (ns.map PyData.int)) = true
      rw [h1]; rfl
    · show max (PyData.depth (.int n)) (PyData.depthAll (ns.map PyData.int)) = 0
      rw [h2]; rfl
theorem shaped_ints (ns : List Int) : SeqAt.shaped (.list (ns.map PyData.int)) = true := by
  obtain ⟨h1, h2⟩ := lay_ints ns
  unfold SeqAt.shaped
  rw [Bool.and_eq_true]
  refine ⟨h1, decide_eq_true ?_⟩
  show PyData.depthAll (ns.map PyData.int) + 1 ≤ 64
  rw [h2]; decide
theorem cD_int (c : List Nat) : cD c = .list ((c.map fun (i : Nat) => (i : Int)).map PyData.int) := by unfold cD; rw [List.map_map]; rfl
theorem lay_cD : ∀ cs : List (List Nat), PyData.canLayAll0 (cs.map cD) = true ∧ PyData.depthAll (cs.map cD) ≤ 1
  | [] => ⟨rfl, Nat.zero_le _⟩
  | c :: cs => by
    obtain ⟨h1, h2⟩ := lay_cD cs
    obtain ⟨h3, h4⟩ := lay_ints (c.map fun (i : Nat) => (i : Int))
    refine ⟨?_, ?_⟩
    · show (PyData.canLay0 (cD c) && PyData.canLayAll0 (cs.map cD)) = true
      rw [h1, cD_int]
      show (PyData.canLayAll0 _ && true) = true
      rw [h3]; rfl
    · show max (PyData.depth (cD c)) (PyData.depthAll (cs.map cD)) ≤ 1
      rw [cD_int]
      show max (PyData.depthAll ((c.map fun (i : Nat) => (i : Int)).map PyData.int) + 1) _ ≤ 1
      rw [h4]
      omega
theorem shaped_cDs (cs : List (List Nat)) : SeqAt.shaped (.list (cs.map cD)) = true := by
  obtain ⟨h1, h2⟩ := lay_cD cs
  unfold SeqAt.shaped
  rw [Bool.and_eq_true]
  refine ⟨h1, decide_eq_true ?_⟩
  show PyData.depthAll (cs.map cD) + 1 ≤ 64
  omega
theorem eqv_self {d : PyData} (h : SeqAt.shaped d = true) : PyData.eqv d d = true := SeqAt.eqv_refl d (SeqAt.canLay_of_shaped h)
/-- the names of the ways, in the law's order -/
def wayL : List V := [.str "same", .str "quarter", .str "half", .str "back", .str "flip", .str "mirror", .str "cross", .str "anti"]
theorem way_of {v : V} (h : v ∈ wayL) : ∃ y, v = .str (wayS y) := by
  unfold wayL at h
  simp only [List.mem_cons, List.not_mem_nil, or_false] at h
  rcases h with h | h | h | h | h | h | h | h
  · exact ⟨.same, h⟩
  · exact ⟨.quarter, h⟩
  · exact ⟨.half, h⟩
  · exact ⟨.back, h⟩
  · exact ⟨.flip, h⟩
  · exact ⟨.mirror, h⟩
  · exact ⟨.cross, h⟩
  · exact ⟨.anti, h⟩
theorem mem_cutV {xs : List V} {lo hi : Option Int} {v : V} (h : v ∈ cutV xs lo hi) : v ∈ xs := by
  unfold cutV at h
  exact List.mem_of_mem_drop (List.mem_of_mem_take h)
theorem AtAll.cut {G : Hp} {xs : List V} {α : Type} {f : α → PyData} {as : List α} (h : AtAll G xs (as.map f)) (hi : Option Int) : ∃ bs : List α, AtAll G (cutV xs none hi) (bs.map f) ∧ ∀ b, b ∈ bs → b ∈ as := by
  unfold cutV
  refine ⟨(as.drop (HT.sIx xs.length 0 none)).take (HT.sIx xs.length xs.length hi - HT.sIx xs.length 0 none), ?_, fun b hb => List.mem_of_mem_drop (List.mem_of_mem_take hb)⟩
  rw [List.map_take, List.map_drop]
  exact (h.drop _).take _
theorem on_bOf {x y : Int} {ms : List Mir} {s : Pt} : On (bOf x y ms) s ↔ OnW x y s := Iff.rfl
/-- what the scene and the draws are to the law -/
structure Case (G : Hp) (lm ls la lq : Addr) (x y : Int) (ms sp : List Mir) (lks : List Look) (prs : List Pr) : Prop where
  x1 : 1 ≤ x
  y1 : 1 ≤ y
  x9 : x ≤ 9
  y9 : y ≤ 9
  m : At G (.ref lm) (.list (ms.map mD))
  s : At G (.ref ls) (.list (sp.map mD))
  a : At G (.ref la) (.list (lks.map lkD))
  q : At G (.ref lq) (.list (prs.map prD))
  nd : (Plcs ms ++ Plcs sp).Nodup
  im : ∀ m, m ∈ ms → InsI x y m.1 m.2.1
  is : ∀ m, m ∈ sp → InsI x y m.1 m.2.1
  lm : ms.length ≤ 400
  ls : sp.length ≤ 3
  ol : ∀ l, l ∈ lks → OnW x y l.1 ∧ OnW x y l.2.1
  oq : ∀ q, q ∈ prs → OnW x y q.1 ∧ OnW x y q.2
  ne : prs ≠ []
theorem Case.mono {G G' : Hp} {lm ls la lq : Addr} {x y : Int} {ms sp : List Mir} {lks : List Look} {prs : List Pr} (s : Same G G') (k : Case G lm ls la lq x y ms sp lks prs) : Case G' lm ls la lq x y ms sp lks prs :=
  ⟨k.x1, k.y1, k.x9, k.y9, At.mono s _ k.m, At.mono s _ k.s, At.mono s _ k.a, At.mono s _ k.q, k.nd, k.im, k.is, k.lm, k.ls, k.ol, k.oq, k.ne⟩
theorem Case.free {G : Hp} {lm ls la lq : Addr} {x y : Int} {ms sp : List Mir} {lks : List Look} {prs : List Pr} (k : Case G lm ls la lq x y ms sp lks prs) : Free (bOf x y ms) sp := by
  obtain ⟨n1, n2, n3⟩ := List.nodup_append.mp k.nd
  exact ⟨n2, k.is, fun m hm => lk_none fun z => n3 _ z _ (List.mem_map.mpr ⟨m, hm, rfl⟩) rfl⟩
section
variable {P : Program} {w : World} {K : PySem.W.Frag} {mg : Str → Option Value} {base : Heap} {C L : Addr} {tb : Addr × Str}
/-- list(xs): a new list of the same data -/
theorem list_of {M : Addr → Prop} {G H G1 H1 : Hp} {l : Addr} {xs : List V} {ds : List PyData} (g : Go tb M G H G1 H1) (hl : H1 l = none) (h : AtAll G1 xs ds) : Go tb M G H (upd G1 l (.lst xs)) (upd H1 l (.lst xs)) ∧ Same G1 (upd G1 l (.lst xs)) ∧ At (upd G1 l (.lst xs)) (.ref l) (.list ds) := by
  obtain ⟨g1, s1, e1⟩ := g.lst hl xs
  exact ⟨g1, s1, .lst e1 (AtAll.mono s1 _ h)⟩
end
end Sand

set_option Elab.async false
set_option linter.all false
set_option maxRecDepth 100000
set_option maxHeartbeats 8000000
namespace Sand
open PySem PySem.Spec PyProof.Rows L2
section
variable {P : Program} {w : World} {K : PySem.W.Frag} {mg : Str → Option Value} {base : Heap} {C L : Addr} {tb : Addr × Str}
-- 0 _law_script, 1 _law_hand_here*, 2 _law_width*, 3 _law_height*, 4 _law_mirrors, 5 _law_spare, 6 _law_hidden, 7 _law_said, 8 _law_asked, 9 _law_step, 10 _law_base, 11 _law_told, 12 _law_numbers, 13 _law_best, 14 _law_ways, 15 _law_first, 16 _law_way*, 17 _law_turned, 18 _law_rows, 19 _law_looks, 20 _law_one, 21 _law_other, 22 _law_word, 23 _law_pair_here, 24 _law_pairs_here, 25 _law_due, 26 _law_row
abbrev N_law : List Str := ["_law_script", "_law_hand_here", "_law_width", "_law_height", "_law_mirrors", "_law_spare", "_law_hidden", "_law_said", "_law_asked", "_law_step", "_law_base", "_law_told", "_law_numbers", "_law_best", "_law_ways", "_law_first", "_law_way", "_law_turned", "_law_rows", "_law_looks", "_law_one", "_law_other", "_law_word", "_law_pair_here", "_law_pairs_here", "_law_due", "_law_row"]
theorem sc_law : FnScope N_law ["_law_script"] (defScope s_law) := C8.fnScope_by (by decide +kernel)
def spLaw (K : PySem.W.Frag) (tb : Addr × Str) : Sp := fun vs H Q _ => ∃ (G : Hp) (a : Addr) (ns : List Int), vs = [.ref a] ∧ Vw tb G H ∧ SqL K H a (ns.map V.int) ∧ ns.length ≤ 63 ∧ ∀ H', Q (.bl true) H'
theorem law_fn {f : Addr} {fd : FuncData} (F : Fun K "law" "law" s_law f fd) (T : Txt K mg C L) (c__law_hand : C8.Cal P w K mg base 1 "_law_hand" (spHand K tb) []) (c__law_take : C8.Cal P w K mg base 1 "_law_take" (spTk tb) []) (c__law_scene : C8.Cal P w K mg base 3 "_law_scene" (spScene tb) [])
    (c__law_labels : C8.Cal P w K mg base 3 "_law_labels" (spLabels tb) []) (c__law_truths : C8.Cal P w K mg base 3 "_law_truths" (spTruths tb) []) (c__law_square : C8.Cal P w K mg base 2 "_law_square" (spLsq tb) []) (c_Board : C8.Mak P w K mg base 4 "Board" C (spInitB tb C) [])
    (c_fitting : C8.Cal P w K mg base 13 "fitting" (spFit tb C) []) (c_fitting_counts : C8.Cal P w K mg base 13 "fitting_counts" (spCts tb C) []) (c_best_look : C8.Cal P w K mg base 13 "best_look" (spBest tb C) []) (c_turned : C8.Met P w K mg base 6 C "turned" (spTurn tb C) [])
    (c__law_set : C8.Cal P w K mg base 2 "_law_set" (spSet tb) []) (c__law_pair : C8.Cal P w K mg base 2 "_law_pair" (spPair tb) []) (c__law_same : C8.Cal P w K mg base 4 "_law_same" (spS (tupOf (tupOf isI))) []) (c__law_lives : C8.Cal P w K mg base 15 "_law_lives" (spLives tb C) []) :
    FnOk P w K mg base CX0 16 f fd ["_law_script"] (spLaw K tb) := by
  refine F.ok (N := N_law) sc_law (k := 15) (fun vs H Q E h => ?_) (fun cdv A outer st H vs Q E hr h => ?_)
  · obtain ⟨G, a, ns, rfl, _⟩ := h
    rfl
  · obtain ⟨G, a, ns, rfl, g, hs, hl, k⟩ := h
    refine ⟨_, (pss_cons (ps_set (i := 1) sc_law.nd rfl (Or.inr rfl) (C8.pe_c c__law_hand hr (by decide) rfl (pa_cons (pv 0) pa_nil)))
  (pss_cons (ps_asg (C8.pe_c c__law_scene hr (by decide) rfl (pa_cons (pv 1) pa_nil)) (pg_tup rfl (pgs_cons (pg_name (i := 2) sc_law.nd rfl (Or.inr rfl)) (pgs_cons (pg_name (i := 3) sc_law.nd rfl (Or.inr rfl)) (pgs_cons (pg_name (i := 4) sc_law.nd rfl (Or.inl rfl)) (pgs_cons (pg_name (i := 5) sc_law.nd rfl (Or.inl rfl)) pgs_nil))))))
  (pss_cons (ps_set (i := 6) sc_law.nd rfl (Or.inl rfl) (pe_op op_cat (pv 4) (pe_lc (own := [("_law_row", 26)]) (g := gName 26) (tt := tTest (tOp rEq (tCall (spTk tb) [] C8.E0 (tCons (tVar 1) (tCons (tC (.int 2)) tNil))) (tC (.int 0)))) (te := tVar 26) rfl sc_law.nd (pi_list (pv 5)) (blkOk_by (own := [("_law_row", 26)]) (N := N_law) (sc := defScope s_law) (by decide +kernel)) (fun _ _ _ _ _ => (pg_name (i := 26) sc_law.nd rfl (Or.inl rfl))) (fun _ _ _ _ _ => pts_one (pt_cmpR op_eq (C8.pe_c c__law_take hr (by decide) rfl (pa_cons (pv 1) (pa_cons pe_int pa_nil))) pe_int (nomark _))) (fun _ _ _ _ _ => (pv 26)))))
  (pss_cons (ps_set (i := 7) sc_law.nd rfl (Or.inl rfl) (C8.pe_c c__law_truths hr (by decide) rfl (pa_cons (pv 1) (pa_cons (pv 2) (pa_cons (pv 3) (pa_cons (pe_ix ix_tup (C8.pe_c c__law_labels hr (by decide) rfl (pa_cons (pv 2) (pa_cons (pv 3) (pa_cons (pv 6) pa_nil)))) pe_int (fun _ _ => rfl)) pa_nil))))))
  (pss_cons (ps_set (i := 8) sc_law.nd rfl (Or.inl rfl) (pe_lst pa_nil))
  (pss_cons (ps_for PassesOwn.never rfl (pi_range1 rfl T.range (pa_cons (pe_op op_add pe_int (C8.pe_c c__law_take hr (by decide) rfl (pa_cons (pv 1) (pa_cons pe_int pa_nil)))) pa_nil)) (pg_name (i := 9) sc_law.nd rfl (Or.inl rfl))
  (pss_one (ps_expr (pe_bm PySem.F.plainAttrs_list PySem.F.slot_list_append PySem.F.type_list_append mt_append (pv 8) (pa_cons (pe_tup (pa_cons (C8.pe_c c__law_square hr (by decide) rfl (pa_cons (pv 1) (pa_cons (pv 2) (pa_cons (pv 3) pa_nil)))) (pa_cons (C8.pe_c c__law_square hr (by decide) rfl (pa_cons (pv 1) (pa_cons (pv 2) (pa_cons (pv 3) pa_nil)))) pa_nil))) pa_nil)))))
  (pss_cons (ps_set (i := 10) sc_law.nd rfl (Or.inl rfl) (C8.pe_mk c_Board hr (by decide) rfl (pa_cons (pv 2) (pa_cons (pv 3) (pa_cons (pe_callTy call_list_of (by rfl) T.list boot_list (pa_cons (pv 4) pa_nil)) pa_nil)))))
  (pss_cons (ps_set (i := 11) sc_law.nd rfl (Or.inl rfl) (C8.pe_c c_fitting hr (by decide) rfl (pa_cons (pv 10) (pa_cons (pe_callTy call_list_of (by rfl) T.list boot_list (pa_cons (pv 5) pa_nil)) (pa_cons (pe_callTy call_list_of (by rfl) T.list boot_list (pa_cons (pv 7) pa_nil)) pa_nil)))))
  (pss_cons (ps_set (i := 12) sc_law.nd rfl (Or.inl rfl) (C8.pe_c c_fitting_counts hr (by decide) rfl (pa_cons (pv 10) (pa_cons (pe_callTy call_list_of (by rfl) T.list boot_list (pa_cons (pv 5) pa_nil)) (pa_cons (pe_callTy call_list_of (by rfl) T.list boot_list (pa_cons (pv 7) pa_nil)) pa_nil)))))
  (pss_cons (ps_set (i := 13) sc_law.nd rfl (Or.inl rfl) (C8.pe_c c_best_look hr (by decide) rfl (pa_cons (pv 10) (pa_cons (pe_callTy call_list_of (by rfl) T.list boot_list (pa_cons (pv 5) pa_nil)) (pa_cons (pe_callTy call_list_of (by rfl) T.list boot_list (pa_cons (pv 7) pa_nil)) (pa_cons (pe_callTy call_list_of (by rfl) T.list boot_list (pa_cons (pv 8) pa_nil)) pa_nil))))))
  (pss_cons (ps_set (i := 14) sc_law.nd rfl (Or.inl rfl) (pe_lst (pa_cons pe_str (pa_cons pe_str (pa_cons pe_str (pa_cons pe_str (pa_cons pe_str (pa_cons pe_str (pa_cons pe_str (pa_cons pe_str pa_nil))))))))))
  (pss_cons (ps_set (i := 15) sc_law.nd rfl (Or.inl rfl) (C8.pe_c c__law_take hr (by decide) rfl (pa_cons (pv 1) (pa_cons pe_int pa_nil))))
  (pss_cons (ps_for PassesOwn.never rfl (pi_list (pe_slice sl_list (pe_op op_cat (pe_slice sl_list (pv 14) (po_some (pv 15)) po_none) (pe_slice sl_list (pv 14) po_none (po_some (pv 15)))) po_none (po_some pe_int))) (pg_name (i := 16) sc_law.nd rfl (Or.inr rfl))
  (pss_cons (ps_set (i := 17) sc_law.nd rfl (Or.inl rfl) (C8.pe_mt c_turned hr (by decide) (pv 10) (pa_cons (pv 16) pa_nil)))
  (pss_cons (ps_set (i := 18) sc_law.nd rfl (Or.inl rfl) (C8.pe_c c__law_set hr (by decide) rfl (pa_cons (pv 16) (pa_cons (pv 2) (pa_cons (pv 3) (pa_cons (pv 5) pa_nil))))))
  (pss_cons (ps_set (i := 19) sc_law.nd rfl (Or.inl rfl) (pe_lst pa_nil))
  (pss_cons (ps_for PassesOwn.never rfl (pi_list (pv 7)) (pg_tup rfl (pgs_cons (pg_name (i := 20) sc_law.nd rfl (Or.inl rfl)) (pgs_cons (pg_name (i := 21) sc_law.nd rfl (Or.inl rfl)) (pgs_cons (pg_name (i := 22) sc_law.nd rfl (Or.inl rfl)) pgs_nil))))
  (pss_cons (ps_set (i := 23) sc_law.nd rfl (Or.inl rfl) (C8.pe_c c__law_pair hr (by decide) rfl (pa_cons (pv 16) (pa_cons (pv 2) (pa_cons (pv 3) (pa_cons (pv 20) (pa_cons (pv 21) pa_nil)))))))
  (pss_one (ps_expr (pe_bm PySem.F.plainAttrs_list PySem.F.slot_list_append PySem.F.type_list_append mt_append (pv 19) (pa_cons (pe_tup (pa_cons (pe_ix ix_tup (pv 23) pe_int (fun _ _ => rfl)) (pa_cons (pe_ix ix_tup (pv 23) pe_int (fun _ _ => rfl)) (pa_cons (pv 22) pa_nil)))) pa_nil))))))
  (pss_cons (ps_setLc (i := 24) (own := [("_law_one", 20), ("_law_other", 21)]) (g := gTup K 2 (gCons (gName 20) (gCons (gName 21) gNil))) (tt := tYes) (te := tCall (spPair tb) [] C8.E0 (tCons (tVar 16) (tCons (tVar 2) (tCons (tVar 3) (tCons (tVar 20) (tCons (tVar 21) tNil)))))) rfl sc_law.nd rfl rfl (sw_true rfl rfl rfl (by decide +kernel)) (pi_list (pv 8)) (blkOk_by (own := [("_law_one", 20), ("_law_other", 21)]) (N := N_law) (sc := defScope s_law) (by decide +kernel)) (fun _ _ _ _ _ => (pg_tup rfl (pgs_cons (pg_name (i := 20) sc_law.nd rfl (Or.inl rfl)) (pgs_cons (pg_name (i := 21) sc_law.nd rfl (Or.inl rfl)) pgs_nil)))) (fun _ _ _ _ _ => pts_nil) (fun _ _ _ _ _ => (C8.pe_c c__law_pair hr (by decide) rfl (pa_cons (pv 16) (pa_cons (pv 2) (pa_cons (pv 3) (pa_cons (pv 20) (pa_cons (pv 21) pa_nil))))))))
  (pss_cons (ps_if (PW.pt (pw_or (pt_cmpR (op_neD hr.units) (C8.pe_c c_fitting hr (by decide) rfl (pa_cons (pv 17) (pa_cons (pe_callTy call_list_of (by rfl) T.list boot_list (pa_cons (pv 18) pa_nil)) (pa_cons (pe_callTy call_list_of (by rfl) T.list boot_list (pa_cons (pv 19) pa_nil)) pa_nil)))) (pv 11) (nomark _)) (pw_or1 (pt_cmpR (op_neD hr.units) (C8.pe_c c_fitting_counts hr (by decide) rfl (pa_cons (pv 17) (pa_cons (pe_callTy call_list_of (by rfl) T.list boot_list (pa_cons (pv 18) pa_nil)) (pa_cons (pe_callTy call_list_of (by rfl) T.list boot_list (pa_cons (pv 19) pa_nil)) pa_nil)))) (pv 12) (nomark _))))) (pss_one (ps_ret pe_bl)) pss_nil)
  (pss_cons (ps_set (i := 25) sc_law.nd rfl (Or.inl rfl) (C8.pe_c c__law_pair hr (by decide) rfl (pa_cons (pv 16) (pa_cons (pv 2) (pa_cons (pv 3) (pa_cons (pe_ix ix_tup (pv 13) pe_int (fun _ _ => rfl)) (pa_cons (pe_ix ix_tup (pv 13) pe_int (fun _ _ => rfl)) pa_nil)))))))
  (pss_cons (ps_if (pt_not (pt_val (C8.pe_c c__law_same hr (by decide) rfl (pa_cons (C8.pe_c c_best_look hr (by decide) rfl (pa_cons (pv 17) (pa_cons (pe_callTy call_list_of (by rfl) T.list boot_list (pa_cons (pv 18) pa_nil)) (pa_cons (pe_callTy call_list_of (by rfl) T.list boot_list (pa_cons (pv 19) pa_nil)) (pa_cons (pv 24) pa_nil))))) (pa_cons (pv 25) pa_nil))))) (pss_one (ps_ret pe_bl)) pss_nil)
  (pss_one (ps_if (pt_not (pt_val (C8.pe_c c__law_lives hr (by decide) rfl (pa_cons (pv 17) (pa_cons (pv 18) (pa_cons (pe_slice sl_list (pv 11) po_none (po_some pe_int)) (pa_cons (pv 12) pa_nil))))))) (pss_one (ps_ret pe_bl)) pss_nil)))))))))))
  (pss_one (ps_ret pe_bl))))))))))))))), ?_⟩
    -- hand
    refine ⟨_, rfl, G, a, ns, rfl, g, hs, hl, fun G1 H1 h c g1 nh nc hA1 => ?_⟩
    have ow : ∀ b, own2 h c b → ¬ Std H b ∨ no b := fun b z => .inl (by rcases z with z | z <;> rw [z] <;> assumption)
    -- scene
    refine ⟨_, rfl, G1, h, c, 0, rfl, g1.vw, hA1, by decide, fun G2 H2 u g2 hA2 ⟨t, x, y, vm, vs, ms, sp, eu, et, hS⟩ => ?_⟩
    subst eu
    have g3 := g1.own g2 ow
    obtain ⟨x1, y1, x9, y9, hSm, hSs, hnd, him, his, hlm4, hls3⟩ := hS
    obtain ⟨lm, ym, rfl, hlm, hym⟩ := At.lst_ hSm
    obtain ⟨ls, ysp, rfl, hls, hysp⟩ := At.lst_ hSs
    refine ⟨t, _, rfl, SqT.of (g3.gh _ _ et), rfl, _, _, rfl, _, _, rfl, _, _, rfl, _, _, rfl, rfl, ?_⟩
    -- hidden
    refine ⟨_, rfl, _, rfl, ls, rfl, ⟨_, SqL.of (g3.gh _ _ hls)⟩, fun D hD => ?_⟩
    have nD := g3.fresh hD
    have gD : G2 D = none := g3.gh.free hD
    obtain ⟨Dh, Dc⟩ := hA2.nh hD
    have oD : ¬ own2 h c D := fun z => z.elim Dh Dc
    have ypl : ysp.length = sp.length := hysp.mapLen
    have yml : ym.length = ms.length := hym.mapLen
    refine lc_it (walk_list (xs := ysp)) (fun i H' => ∃ (vs : List V) (hid : List Mir), Go tb no G H G2 H' ∧ HandAt G2 H' h c (0 + 3000 + i) ∧ H' D = some (.lst vs) ∧ AtAll G2 vs (hid.map mD) ∧ hid.length ≤ i)
      ⟨[], [], g3.new hD, hA2.new hD, upd_same, .nil, Nat.le_refl _⟩ (fun i H' _ ⟨_, _, z, _⟩ => SqL.of (z.gh _ _ hls)) ?_ ?_
    · rintro i yv H4 H4' hi ⟨vs, hid, g4, hA4, hD4, hvs, hhl⟩ ⟨rfl, hy⟩
      obtain ⟨m, hmi, hay⟩ := hysp.mapAt hy
      refine ⟨rfl, _, rfl, G2, h, c, _, 2, rfl, g4.vw, hA4, by omega, by omega, by omega, fun H5 r g5 hA5 r0 r1 => ⟨rfl, ?_⟩⟩
      have g6 := g4.own g5 ow
      have hD5 := g5.loc hD4 trivial oD
      have vl : vs.length = hid.length := hvs.mapLen
      by_cases hz : r = 0
      · refine ⟨true, blT (vi hz), iteT ⟨_, rfl, vs, hD5, le_line (by omega), vs ++ [yv], hid ++ [m], g6.put hD5 trivial (.inl nD) gD trivial, (hA5.put Dh Dc).more (by omega), upd_same, ?_, by rw [List.length_append, List.length_singleton]; omega⟩⟩
        rw [List.map_append]
        exact hvs.snoc hay
      · exact ⟨false, blF (vi_ne hz), iteF ⟨vs, hid, g6, hA5.more (by omega), hD5, hvs, by omega⟩⟩
    rintro H4 ⟨vs, hid, g4, hA4, hD4, hvs, hhl⟩
    have vl : vs.length = hid.length := hvs.mapLen
    refine ⟨lm, D, ym, vs, rfl, rfl, g4.gh _ _ hlm, hD4, Nat.le_of_lt (le_line (by omega)), fun p hp => ?_⟩
    obtain ⟨g5, s5, e5⟩ := g4.lst hp (ym ++ vs)
    have hA5 := hA4.newG (o := .lst (ym ++ vs)) hp
    have ah : At (upd G2 p (.lst (ym ++ vs))) (.ref p) (.list ((ms ++ hid).map mD)) := .lst e5 (by rw [List.map_append]; exact (AtAll.mono s5 _ hym).app (AtAll.mono s5 _ hvs))
    have hlm5 := s5 _ _ hlm
    have hls5 := s5 _ _ hls
    have hym5 := AtAll.mono s5 _ hym
    have hysp5 := AtAll.mono s5 _ hysp
    generalize upd G2 p (.lst (ym ++ vs)) = G5 at g5 hA5 ah hlm5 hls5 hym5 hysp5
    -- said
    refine ⟨_, rfl, _, rfl, _, rfl, _, rfl, _, rfl, _, rfl, G5, x, y, _, ms ++ hid, rfl, g5.vw, x1, y1, x9, y9, ah, by rw [List.length_append]; omega, fun G6 H6 u g6 ⟨t6, lb, mm, xs, eu, et6, elb, exl⟩ => ?_⟩
    subst eu
    have g7 := g5.trans g6
    have hA6 := hA5.keep g6 id id
    refine ⟨t6, _, 1, _, rfl, rfl, SqT.of (g6.gh _ _ et6), rfl, G6, h, c, _, x, y, lb, xs, rfl, g7.vw, hA6, by omega, x1, y1, x9, y9, elb, exl, fun G7 H7 u g8 hA7 ⟨lks, hlk, hll, hlo⟩ => ?_⟩
    obtain ⟨la, yl, rfl, hla, hyl⟩ := At.lst_ hlk
    have g9 := g7.own g8 ow
    have s57 : Same G5 G7 := fun b o e => g8.gg _ _ (g6.gg _ _ e)
    -- asked = []
    refine ⟨len0, fun Q2 hQ2 => ?_⟩
    have nQ := g9.fresh hQ2
    have gQ : G7 Q2 = none := g9.gh.free hQ2
    obtain ⟨Qh, Qc⟩ := hA7.nh hQ2
    have oQ : ¬ own2 h c Q2 := fun z => z.elim Qh Qc
    have g10 := g9.new (o := .lst []) hQ2
    have hA10 := hA7.new (o := .lst []) hQ2
    have hQ10 : upd H7 Q2 (.lst []) Q2 = some (.lst []) := upd_same
    generalize upd H7 Q2 (.lst []) = H10 at g10 hA10 hQ10 ⊢
    refine ⟨_, rfl, G7, h, c, _, 4, rfl, g10.vw, hA10, by omega, by omega, by omega, fun H11 r g11 hA11 r0 r1 => ⟨_, _, rfl, rfl, _, rfl, by omega, by omega, ?_⟩⟩
    have g12 := g10.own g11 ow
    refine for_range (lo := 0) (n := (1 + r).toNat) (fun i σ H' => ∃ (G' : Hp) (prs : List Pr) (vs : List V) (o9 : Option V), σ = [some (.ref a), some (.ref h), some (.int x), some (.int y), some (.ref lm), some (.ref ls), some (.ref p), some (.ref la), some (.ref Q2), o9, none, none, none, none, none, none, none, none, none, none, none, none, none, none, none, none, none] ∧
        Go tb no G H G' H' ∧ Same G7 G' ∧ HandAt G' H' h c (5000 + 10 * i) ∧ G' Q2 = none ∧ H' Q2 = some (.lst vs) ∧ AtAll G' vs (prs.map prD) ∧ prs.length = i ∧ ∀ q, q ∈ prs → OnW x y q.1 ∧ OnW x y q.2)
      ⟨G7, [], [], none, rfl, g12, fun _ _ e => e, hA11.more (by omega), gQ, g11.loc hQ10 trivial oQ, .nil, rfl, fun q hq => absurd hq (by simp)⟩ ?_ ?_
    · rintro i σ H12 hi ⟨G12, prs, vs, o9, rfl, g12, s12, hA12, gQ12, hQ12, hvs, hpl, hpo⟩
      refine ⟨_, rfl, .inl ⟨rfl, _, SqL.of hQ12⟩, _, rfl, _, rfl, _, rfl, G12, h, c, _, x, y, rfl, g12.vw, hA12, by omega, x1, y1, x9, y9, fun G13 H13 u1 g13 hA13 ⟨s1, as1, p1, p2, p3, p4⟩ => ?_⟩
      refine ⟨_, rfl, _, rfl, _, rfl, G13, h, c, _, x, y, rfl, g13.vw, hA13, by omega, x1, y1, x9, y9, fun G14 H14 u2 g14 hA14 ⟨s2, as2, q1, q2, q3, q4⟩ => ⟨len2, fun t ht => ?_⟩⟩
      have g15 := (g12.own g13 ow).own g14 ow
      have hQ14 := g14.loc (g13.loc hQ12 trivial oQ) trivial oQ
      have gQ14 := g14.out (g13.loc hQ12 trivial oQ) trivial (g13.out hQ12 trivial gQ12)
      obtain ⟨g16, s16, e16⟩ := g15.tup ht [u1, u2]
      have hA16 := hA14.newG (o := .tup [u1, u2]) ht
      have hQ16 : upd H14 t (.tup [u1, u2]) Q2 = some (.lst vs) := by rw [upd_ne (ne_of_none hQ14 ht)]; exact hQ14
      have gQ16 : upd G14 t (.tup [u1, u2]) Q2 = none := by rw [upd_ne (ne_of_none hQ14 ht)]; exact gQ14
      have vl : vs.length = prs.length := hvs.mapLen
      have s1216 : Same G12 (upd G14 t (.tup [u1, u2])) := fun b o e => s16 _ _ (g14.gg _ _ (g13.gg _ _ e))
      refine ⟨Q2, vs, _, rfl, rfl, hQ16, le_line (by omega), ?_⟩
      refine ⟨_, prs ++ [(s1, s2)], _, _, rfl, g16.put (o' := .lst (vs ++ [.ref t])) hQ16 trivial (.inl nQ) gQ16 trivial, fun b o e => s1216 _ _ (s12 _ _ e), (hA16.put Qh Qc).more (by omega), gQ16, upd_same, ?_, by rw [List.length_append, hpl]; rfl, fun q hq => ?_⟩
      · rw [List.map_append]
        exact (AtAll.mono s1216 _ hvs).snoc (.tup e16 (.cons (At.mono (fun b o e => s16 _ _ (g14.gg _ _ e)) _ as1) (.cons (At.mono s16 _ as2) .nil)))
      · rcases List.mem_append.mp hq with z | z
        · exact hpo q z
        · rw [List.mem_singleton.mp z]
          exact ⟨⟨p1, p2, p3, p4⟩, ⟨q1, q2, q3, q4⟩⟩
    rintro σ H12 ⟨G12, prs, vq, o9, rfl, g12, s12, hA12, gQ12, hQ12, hvq, hpl, hpo⟩
    have g13 := g12.freeze hQ12 trivial nQ gQ12
    have hA13 := hA12.freeze (D := Q2) (o := .lst vq) Qh Qc
    have s13 := same_upd (o := .lst vq) gQ12
    have s713 : Same G7 (upd G12 Q2 (.lst vq)) := fun b o e => s13 _ _ (s12 _ _ e)
    have s513 : Same G5 (upd G12 Q2 (.lst vq)) := fun b o e => s713 _ _ (s57 _ _ e)
    have hC : Case (upd G12 Q2 (.lst vq)) lm ls la Q2 x y ms sp lks prs := ⟨x1, y1, x9, y9, .lst (s513 _ _ hlm5) (AtAll.mono s513 _ hym5), .lst (s513 _ _ hls5) (AtAll.mono s513 _ hysp5), .lst (s713 _ _ hla) (AtAll.mono s713 _ hyl), .lst upd_same (AtAll.mono s13 _ hvq), hnd, him, his, hlm4, hls3, hlo, hpo, fun z => by
      rw [z] at hpl
      simp only [List.length_nil] at hpl
      omega⟩
    generalize upd G12 Q2 (.lst vq) = G13 at g13 hA13 hC
    clear s13 s713 s513
    -- base = Board(width, height, list(mirrors))
    obtain ⟨lm0, ym0, em0, hlm0, hym0⟩ := At.lst_ hC.m
    obtain rfl : lm = lm0 := V.ref.inj em0
    obtain ⟨ls0, ys0, es0, hls0, hys0⟩ := At.lst_ hC.s
    obtain rfl : ls = ls0 := V.ref.inj es0
    obtain ⟨la0, ya0, ea0, hla0, hya0⟩ := At.lst_ hC.a
    obtain rfl : la = la0 := V.ref.inj ea0
    obtain ⟨lq0, yq0, eq0, hlq0, hyq0⟩ := At.lst_ hC.q
    obtain rfl : Q2 = lq0 := V.ref.inj eq0
    refine ⟨_, rfl, _, rfl, _, rfl, lm, _, rfl, .inl (SqL.of (g13.gh _ _ hlm0)), fun l1 hl1 => ?_⟩
    obtain ⟨g14, s14, a14⟩ := list_of g13 hl1 hym0
    have hA14 := hA13.newG (o := .lst ym0) hl1
    refine fun i di hi hdi ne => mk_board2 (C := C) (M := no) g14 hi hdi ne a14 (List.nodup_append.mp hnd).1 him (by omega) x1 y1 x9 y9 fun G15 H15 g15 g145 hb => ⟨rfl, ?_⟩
    have hA15 := hA14.keep g145 id id
    have s15 : Same G13 G15 := fun b o e => g145.gg _ _ (s14 _ _ e)
    -- told = fitting(base, list(spare), list(said))
    refine ⟨_, rfl, _, rfl, ls, _, rfl, .inl (SqL.of (g15.gh _ _ (s15 _ _ hls0))), fun l2 hl2 => ?_⟩
    obtain ⟨g16, s16, a16⟩ := list_of g15 hl2 (AtAll.mono s15 _ hys0)
    have hA16 := hA15.newG (o := .lst ys0) hl2
    refine ⟨_, rfl, la, _, rfl, .inl (SqL.of (g16.gh _ _ (s16 _ _ (s15 _ _ hla0)))), fun l3 hl3 => ?_⟩
    obtain ⟨g17, s17, a17⟩ := list_of g16 hl3 (AtAll.mono s16 _ (AtAll.mono s15 _ hya0))
    have hA17 := hA16.newG (o := .lst ya0) hl3
    refine ⟨_, i, _, _, bOf x y ms, ms.length, sp, lks, rfl, g17.vw, ⟨(hb.mono s16).mono s17, At.mono s17 _ a16, a17, hC.free, hC.ol, by omega, hC.ls⟩, fun G18 H18 u18 g178 htold => ?_⟩
    have g18 := g17.trans g178
    have hA18 := hA17.keep g178 id id
    have s18 : Same G15 G18 := fun b o e => g178.gg _ _ (s17 _ _ (s16 _ _ e))
    -- numbers
    refine ⟨_, rfl, _, rfl, ls, _, rfl, .inl (SqL.of (g18.gh _ _ (s18 _ _ (s15 _ _ hls0)))), fun l4 hl4 => ?_⟩
    obtain ⟨g19, s19, a19⟩ := list_of g18 hl4 (AtAll.mono s18 _ (AtAll.mono s15 _ hys0))
    have hA19 := hA18.newG (o := .lst ys0) hl4
    refine ⟨_, rfl, la, _, rfl, .inl (SqL.of (g19.gh _ _ (s19 _ _ (s18 _ _ (s15 _ _ hla0))))), fun l5 hl5 => ?_⟩
    obtain ⟨g20, s20, a20⟩ := list_of g19 hl5 (AtAll.mono s19 _ (AtAll.mono s18 _ (AtAll.mono s15 _ hya0)))
    have hA20 := hA19.newG (o := .lst ya0) hl5
    refine ⟨_, i, _, _, bOf x y ms, ms.length, sp, lks, rfl, g20.vw, ⟨((hb.mono s18).mono s19).mono s20, At.mono s20 _ a19, a20, hC.free, hC.ol, by omega, hC.ls⟩, fun G21 H21 u21 g201 ⟨cts, hcts, hctl, hisc⟩ => ?_⟩
    have g21 := g20.trans g201
    have hA21 := hA20.keep g201 id id
    have s21 : Same G18 G21 := fun b o e => g201.gg _ _ (s20 _ _ (s19 _ _ e))
    have s1321 : Same G13 G21 := fun b o e => s21 _ _ (s18 _ _ (s15 _ _ e))
    -- best
    refine ⟨_, rfl, _, rfl, ls, _, rfl, .inl (SqL.of (g21.gh _ _ (s1321 _ _ hls0))), fun l6 hl6 => ?_⟩
    obtain ⟨g22, s22, a22⟩ := list_of g21 hl6 (AtAll.mono s1321 _ hys0)
    have hA22 := hA21.newG (o := .lst ys0) hl6
    refine ⟨_, rfl, la, _, rfl, .inl (SqL.of (g22.gh _ _ (s22 _ _ (s1321 _ _ hla0)))), fun l7 hl7 => ?_⟩
    obtain ⟨g23, s23, a23⟩ := list_of g22 hl7 (AtAll.mono s22 _ (AtAll.mono s1321 _ hya0))
    have hA23 := hA22.newG (o := .lst ya0) hl7
    refine ⟨_, rfl, Q2, _, rfl, .inl (SqL.of (g23.gh _ _ (s23 _ _ (s22 _ _ (s1321 _ _ hlq0))))), fun l8 hl8 => ?_⟩
    obtain ⟨g24, s24, a24⟩ := list_of g23 hl8 (AtAll.mono s23 _ (AtAll.mono s22 _ (AtAll.mono s1321 _ hyq0)))
    have hA24 := hA23.newG (o := .lst yq0) hl8
    have hb21 := (hb.mono s18).mono s21
    refine ⟨_, i, _, _, _, bOf x y ms, ms.length, sp, lks, prs, rfl, g24.vw, ⟨((hb21.mono s22).mono s23).mono s24, At.mono s24 _ (At.mono s23 _ a22), At.mono s24 _ a23, hC.free, hC.ol, by omega, hC.ls⟩, a24, hC.oq, fun G25 H25 u25 g245 hbest => ?_⟩
    have g25 := g24.trans g245
    have hA25 := hA24.keep g245 id id
    have s25 : Same G21 G25 := fun b o e => g245.gg _ _ (s24 _ _ (s23 _ _ (s22 _ _ e)))
    have hC25 := hC.mono fun b o e => s25 _ _ (s1321 _ _ e)
    have hb25 := hb21.mono s25
    have htold25 := At.mono (fun b o e => s25 _ _ (s21 _ _ e)) _ htold
    have hcts25 := At.mono s25 _ hcts
    clear s14 s15 s16 s17 s18 s19 s20 s21 s22 s23 s24 s25 g14 g15 g16 g17 g18 g19 g20 g21 g22 g23 g24 hA14 hA15 hA16 hA17 hA18 hA19 hA20 hA21 hA22 hA23 hA24
    obtain ⟨bq, hbq⟩ := best_some (f := wors (bOf x y ms) sp (fitL (bOf x y ms) sp lks)) hC.ne
    rw [hbq] at hbest
    obtain ⟨ab, bx1, bx2, rfl, hab, hbx1, hbx2⟩ := At.pr (q := bq) hbest
    -- ways
    refine ⟨len8, fun W hW => ?_⟩
    obtain ⟨g26, s26, e26⟩ := g25.lst hW wayL
    have hA26 := hA25.newG (o := .lst wayL) hW
    refine ⟨_, rfl, _, h, c, _, 8, rfl, g26.vw, hA26, by omega, by omega, by omega, fun H27 fr g267 hA27 r0' r1' => ?_⟩
    have g27 := g26.own g267 ow
    -- for way in ..
    refine ⟨_, rfl, _, rfl, fr, rfl, W, wayL, rfl, SqL.of (g27.gh _ _ e26), fun p1 hp1 => ?_⟩
    obtain ⟨g28, s28, e28⟩ := g27.lst hp1 (cutV wayL (some fr) none)
    refine ⟨_, rfl, _, rfl, fr, rfl, W, wayL, rfl, SqL.of (g28.gh _ _ (s28 _ _ e26)), fun p2 hp2 => ?_⟩
    obtain ⟨g29, s29, e29⟩ := g28.lst hp2 (cutV wayL none (some fr))
    have c1l := cutV_length wayL (some fr) none
    have c2l := cutV_length wayL none (some fr)
    have wl : wayL.length = 8 := rfl
    refine ⟨p1, p2, _, _, rfl, rfl, g29.gh _ _ (s29 _ _ e28), upd_same, Nat.le_of_lt (le_line (by omega)), fun p3 hp3 => ?_⟩
    obtain ⟨g30, s30, e30⟩ := g29.lst hp3 (cutV wayL (some fr) none ++ cutV wayL none (some fr))
    refine ⟨3, rfl, p3, _, rfl, SqL.of upd_same, fun p4 hp4 => ?_⟩
    obtain ⟨g31, s31, e31⟩ := g30.lst hp4 (cutV (cutV wayL (some fr) none ++ cutV wayL none (some fr)) none (some 3))
    have s2531 : Same G25 (upd (upd (upd (upd (upd G25 W (.lst wayL)) p1 (.lst (cutV wayL (some fr) none))) p2 (.lst (cutV wayL none (some fr)))) p3 (.lst (cutV wayL (some fr) none ++ cutV wayL none (some fr)))) p4 (.lst (cutV (cutV wayL (some fr) none ++ cutV wayL none (some fr)) none (some 3)))) := fun b o e => s31 _ _ (s30 _ _ (s29 _ _ (s28 _ _ (s26 _ _ e))))
    have hmem : ∀ v, v ∈ cutV (cutV wayL (some fr) none ++ cutV wayL none (some fr)) none (some 3) → ∃ yw, v = .str (wayS yw) := fun v hv => way_of ((List.mem_append.mp (mem_cutV hv)).elim mem_cutV mem_cutV)
    generalize cutV (cutV wayL (some fr) none ++ cutV wayL none (some fr)) none (some 3) = wys at g31 e31 s2531 hmem ⊢
    generalize upd (upd (upd (upd (upd G25 W (.lst wayL)) p1 (.lst (cutV wayL (some fr) none))) p2 (.lst (cutV wayL none (some fr)))) p3 (.lst (cutV wayL (some fr) none ++ cutV wayL none (some fr)))) p4 (.lst wys) = G31 at g31 e31 s2531
    have hC31 := hC25.mono s2531
    have hb31 := hb25.mono s2531
    have htold31 := At.mono s2531 _ htold25
    have hcts31 := At.mono s2531 _ hcts25
    have hab31 := s2531 _ _ hab
    have hbx1' := At.mono s2531 _ hbx1
    have hbx2' := At.mono s2531 _ hbx2
    clear g26 g27 g28 g29 g30 s26 s28 s29 s30 s31 e26 e28 e29 e30 s2531
    refine ⟨p4, rfl, ⟨_, SqL.of upd_same⟩, for_list (K := K) (a := p4) (xs := wys) (fun j σ H' => ∃ (G' : Hp) (o16 o17 o18 o19 o20 o21 o22 o23 o24 o25 o26 : Option V), σ = [some (.ref a), some (.ref h), some (.int x), some (.int y), some (.ref lm), some (.ref ls), some (.ref p), some (.ref la), some (.ref Q2), o9, some (.ref i), some u18, some u21, some (.ref ab), some (.ref W), some (.int fr), o16, o17, o18, o19, o20, o21, o22, o23, o24, o25, o26] ∧ Go tb no G H G' H' ∧ Same G31 G')
      ⟨G31, none, none, none, none, none, none, none, none, none, none, none, rfl, g31, fun _ _ e => e⟩ (fun j σ H' _ ⟨_, _, _, _, _, _, _, _, _, _, _, _, _, z, z2⟩ => SqL.of (z.gh _ _ (z2 _ _ e31))) ?_ ?_⟩
    · rintro j yv σ H32 hyv ⟨G32, o16, o17, o18, o19, o20, o21, o22, o23, o24, o25, o26, rfl, g32, s32⟩
      obtain ⟨yw, rfl⟩ := hmem yv (List.mem_of_getElem? hyv)
      have hC32 := hC31.mono s32
      have hb32 := hb31.mono s32
      -- turned = base.turned(way)
      obtain ⟨dxi, _, _, hi1, _⟩ := hb32.parts
      refine ⟨_, rfl, i, dxi, _, rfl, g32.gh _ _ hi1, bF_no _ _ _ (by decide +kernel) (by decide +kernel) (by decide +kernel), _, rfl, G32, i, bOf x y ms, ms.length, yw, rfl, g32.vw, hb32, by omega, fun G33 H33 u33 g323 ⟨q', B', eu, hB', hT⟩ => ?_⟩
      subst eu
      have g33 := g32.trans g323
      -- rows = set(way, width, height, spare)
      refine ⟨_, rfl, _, rfl, _, rfl, _, rfl, G33, yw, bOf x y ms, _, sp, rfl, g33.vw, At.mono g323.gg _ hC32.s, by omega, fun G34 H34 rows g334 hrows => ?_⟩
      have g34 := g33.trans g334
      have s3234 : Same G32 G34 := fun b o e => g334.gg _ _ (g323.gg _ _ e)
      have hC34 := hC32.mono s3234
      -- looks = []
      refine ⟨len0, fun D3 hD3 => ?_⟩
      have nD3 := g34.fresh hD3
      have gD3 : G34 D3 = none := g34.gh.free hD3
      have g35 := g34.new (o := .lst []) hD3
      obtain ⟨la0, ya0, ea0, hla0, hya0⟩ := At.lst_ hC34.a
      obtain rfl : la = la0 := V.ref.inj ea0
      refine ⟨_, rfl, la, rfl, ⟨_, SqL.of (g35.gh _ _ hla0)⟩, for_list (K := K) (a := la) (xs := ya0) (fun m σ H' => ∃ (G' : Hp) (vs : List V) (o20 o21 o22 o23 : Option V), σ = [some (.ref a), some (.ref h), some (.int x), some (.int y), some (.ref lm), some (.ref ls), some (.ref p), some (.ref la), some (.ref Q2), o9, some (.ref i), some u18, some u21, some (.ref ab), some (.ref W), some (.int fr), some (.str (wayS yw)), some (.ref q'), some rows, some (.ref D3), o20, o21, o22, o23, o24, o25, o26] ∧
          Go tb no G H G' H' ∧ Same G34 G' ∧ G' D3 = none ∧ H' D3 = some (.lst vs) ∧ AtAll G' vs (((lks.take m).map (tLk yw (bOf x y ms))).map lkD))
        ⟨G34, [], _, _, _, _, rfl, g35, fun _ _ e => e, gD3, upd_same, .nil⟩ (fun m σ H' _ ⟨_, _, _, _, _, _, _, z, z2, _⟩ => SqL.of (z.gh _ _ (z2 _ _ hla0))) ?_ ?_⟩
      · rintro m lv σ H36 hlv ⟨G36, vs, o20, o21, o22, o23, rfl, g36, s36, gD36, hD36, hvs⟩
        obtain ⟨lk1, hlki, hal⟩ := hya0.mapAt hlv
        obtain ⟨al, x1', x2', rfl, hal1, ha1, ha2⟩ := (At.mono s36 _ hal).look
        refine ⟨al, _, rfl, SqT.of (g36.gh _ _ hal1), rfl, _, _, rfl, _, _, rfl, _, _, rfl, rfl, ?_⟩
        refine ⟨_, rfl, _, rfl, _, rfl, _, rfl, _, rfl, G36, yw, bOf x y ms, _, _, (lk1.1, lk1.2.1), rfl, g36.vw, ha1, ha2, fun G37 H37 u37 g367 hu37 => ?_⟩
        obtain ⟨r3, z1, z2, rfl, hr3, hz1, hz2⟩ := hu37.pr
        have g37 := g36.trans g367
        have hD37 := g367.loc hD36 trivial id
        have gD37 := g367.out hD36 trivial gD36
        refine ⟨_, rfl, .inl ⟨rfl, _, SqL.of hD37⟩, _, rfl, r3, _, 0, _, rfl, rfl, SqT.of (g37.gh _ _ hr3), rfl, _, rfl, r3, _, 1, _, rfl, rfl, SqT.of (g37.gh _ _ hr3), rfl, _, rfl, len3, fun t3 ht3 => ?_⟩
        obtain ⟨g38, s38, e38⟩ := g37.tup ht3 [z1, z2, .str (wS lk1.2.2)]
        have hD38 : upd H37 t3 (.tup [z1, z2, .str (wS lk1.2.2)]) D3 = some (.lst vs) := by rw [upd_ne (ne_of_none hD37 ht3)]; exact hD37
        have gD38 : upd G37 t3 (.tup [z1, z2, .str (wS lk1.2.2)]) D3 = none := by rw [upd_ne (ne_of_none hD37 ht3)]; exact gD37
        have vl : vs.length = (lks.take m).length := by rw [hvs.mapLen, List.length_map]
        rw [List.length_take] at vl
        have s3638 : Same G36 (upd G37 t3 (.tup [z1, z2, .str (wS lk1.2.2)])) := fun b o e => s38 _ _ (g367.gg _ _ e)
        refine ⟨D3, vs, _, rfl, rfl, hD38, le_line (by omega), ?_⟩
        refine ⟨_, vs ++ [.ref t3], _, _, _, _, rfl, g38.put hD38 trivial (.inl nD3) gD38 trivial, fun b o e => s3638 _ _ (s36 _ _ e), gD38, upd_same, ?_⟩
        rw [take_snoc hlki, List.map_append, List.map_append]
        exact (AtAll.mono s3638 _ hvs).snoc (.tup e38 (.cons (At.mono s38 _ hz1) (.cons (At.mono s38 _ hz2) (.cons (.str _) .nil))))
      rintro σ H36 ⟨G36, vl3, o20, o21, o22, o23, rfl, g36, s36, gD36, hD36, hvs⟩
      rw [hya0.mapLen, List.take_length] at hvs
      have g37 := g36.freeze hD36 trivial nD3 gD36
      have s37 := same_upd (o := .lst vl3) gD36
      have e37 : upd G36 D3 (.lst vl3) D3 = some (.lst vl3) := upd_same
      have hvs37 := AtAll.mono s37 _ hvs
      have s3437 : Same G34 (upd G36 D3 (.lst vl3)) := fun b o e => s37 _ _ (s36 _ _ e)
      generalize upd G36 D3 (.lst vl3) = G37 at g37 s37 e37 hvs37 s3437
      -- pairs = [pair(..) for one, other in asked]
      have hC37 := hC34.mono s3437
      obtain ⟨lq0, yq0, eq0, hlq0, hyq0⟩ := At.lst_ hC37.q
      obtain rfl : Q2 = lq0 := V.ref.inj eq0
      refine ⟨_, rfl, Q2, rfl, ⟨_, SqL.of (g37.gh _ _ hlq0)⟩, fun Z hZ => ?_⟩
      have nZ := g37.fresh hZ
      have gZ : G37 Z = none := g37.gh.free hZ
      have yql : yq0.length = prs.length := hyq0.mapLen
      refine lc_it (walk_list (xs := yq0)) (fun m H' => ∃ (G' : Hp) (vs : List V), Go tb no G H G' H' ∧ Same G37 G' ∧ G' Z = none ∧ H' Z = some (.lst vs) ∧ AtAll G' vs (((prs.take m).map (tPr yw (bOf x y ms))).map prD))
        ⟨G37, [], g37.new hZ, fun _ _ e => e, gZ, upd_same, .nil⟩ (fun m H' _ ⟨_, _, z, z2, _⟩ => SqL.of (z.gh _ _ (z2 _ _ hlq0))) ?_ ?_
      · rintro m qv H38 H38' hm ⟨G38, vs, g38, s38, gZ38, hZ38, hvs⟩ ⟨rfl, hqv⟩
        obtain ⟨qq, hqi, haq⟩ := hyq0.mapAt hqv
        obtain ⟨al, x1', x2', rfl, hal1, ha1, ha2⟩ := (At.mono s38 _ haq).pr
        refine ⟨al, _, rfl, SqT.of (g38.gh _ _ hal1), rfl, _, _, rfl, _, _, rfl, rfl, rfl, ?_⟩
        refine ⟨_, rfl, _, rfl, _, rfl, _, rfl, _, rfl, G38, yw, bOf x y ms, _, _, qq, rfl, g38.vw, ha1, ha2, fun G39 H39 u39 g389 hu39 => ?_⟩
        have hZ39 := g389.loc hZ38 trivial id
        have gZ39 := g389.out hZ38 trivial gZ38
        have vl : vs.length = (prs.take m).length := by rw [hvs.mapLen, List.length_map]
        rw [List.length_take] at vl
        refine ⟨vs, hZ39, le_line (by omega), G39, vs ++ [u39], (g38.trans g389).put hZ39 trivial (.inl nZ) gZ39 trivial, fun b o e => g389.gg _ _ (s38 _ _ e), gZ39, upd_same, ?_⟩
        rw [take_snoc hqi, List.map_append, List.map_append]
        exact (AtAll.mono g389.gg _ hvs).snoc hu39
      rintro H38 ⟨G38, vz, g38, s38, gZ38, hZ38, hvz⟩
      rw [yql, List.take_length] at hvz
      have g39 := g38.freeze hZ38 trivial nZ gZ38
      have s39 := same_upd (o := .lst vz) gZ38
      have e39 : upd G38 Z (.lst vz) Z = some (.lst vz) := upd_same
      have hvz39 := AtAll.mono s39 _ hvz
      have s3739 : Same G37 (upd G38 Z (.lst vz)) := fun b o e => s39 _ _ (s38 _ _ e)
      generalize upd G38 Z (.lst vz) = G39 at g39 s39 e39 hvz39 s3739
      -- what is known of the turned board
      have s3439 : Same G34 G39 := fun b o e => s3739 _ _ (s3437 _ _ e)
      have s3339 : Same G33 G39 := fun b o e => s3439 _ _ (g334.gg _ _ e)
      have s3139 : Same G31 G39 := fun b o e => s3439 _ _ (s3234 _ _ (s32 _ _ e))
      have hB39 := hB'.mono s3339
      have hrows39 := At.mono s3439 _ hrows
      obtain ⟨lr, yr, rfl, hlr, hyr⟩ := At.lst_ hrows39
      have hlk39 : At G39 (.ref D3) (.list ((lks.map (tLk yw (bOf x y ms))).map lkD)) := .lst (s3739 _ _ e37) (AtAll.mono s3739 _ hvs37)
      obtain ⟨ld0, yd, ed0, hld, hyd⟩ := At.lst_ hlk39
      obtain rfl : D3 = ld0 := V.ref.inj ed0
      have htold39 := At.mono s3139 _ htold31
      have hcts39 := At.mono s3139 _ hcts31
      have hF' := free_turn hT hC.free
      have hO' : ∀ l, l ∈ lks.map (tLk yw (bOf x y ms)) → On B' l.1 ∧ On B' l.2.1 := fun l hl => by
        obtain ⟨l0, hl0, rfl⟩ := List.mem_map.mp hl
        exact ⟨hT.on (hlo l0 hl0).1, hT.on (hlo l0 hl0).2⟩
      have hQ' : ∀ q, q ∈ prs.map (tPr yw (bOf x y ms)) → On B' q.1 ∧ On B' q.2 := fun q hq => by
        obtain ⟨q0, hq0, rfl⟩ := List.mem_map.mp hq
        exact ⟨hT.on (hpo q0 hq0).1, hT.on (hpo q0 hq0).2⟩
      have spl : (sp.map (tMir yw (bOf x y ms))).length = sp.length := List.length_map ..
      have mkA : ∀ {G' : Hp} {v w : V}, BoardAt C G' q' B' ms.length → At G' v (.list ((sp.map (tMir yw (bOf x y ms))).map mD)) → At G' w (.list ((lks.map (tLk yw (bOf x y ms))).map lkD)) → Asked C G' q' v w B' ms.length (sp.map (tMir yw (bOf x y ms))) (lks.map (tLk yw (bOf x y ms))) := fun b1 b2 b3 => ⟨b1, b2, b3, hF', hO', by rw [spl]; omega, by rw [spl]; exact hls3⟩
      -- fitting(turned, list(rows), list(looks)) != told
      refine ⟨_, rfl, _, rfl, lr, _, rfl, .inl (SqL.of (g39.gh _ _ hlr)), fun l1 hl1 => ?_⟩
      obtain ⟨g40, s40, a40⟩ := list_of g39 hl1 hyr
      refine ⟨_, rfl, D3, _, rfl, .inl (SqL.of (g40.gh _ _ (s40 _ _ hld))), fun l2 hl2 => ?_⟩
      obtain ⟨g41, s41, a41⟩ := list_of g40 hl2 (AtAll.mono s40 _ hyd)
      refine ⟨_, q', _, _, B', ms.length, _, _, rfl, g41.vw, mkA ((hB39.mono s40).mono s41) (At.mono s41 _ a40) a41, fun G42 H42 u42 g412 hfit => ?_⟩
      rw [fitL_turn hT hlo] at hfit
      have g42 := g41.trans g412
      have s42 : Same G39 G42 := fun b o e => g412.gg _ _ (s41 _ _ (s40 _ _ e))
      refine ⟨_, rfl, _, _, At.dp (g42.gh) _ hfit, At.dp (g42.gh) _ (At.mono s42 _ htold39), shaped_cDs _, shaped_cDs _, false, by rw [eqv_self (shaped_cDs _)]; rfl, iteF ?_⟩
      -- fitting_counts(..) != numbers
      refine ⟨_, rfl, _, rfl, lr, _, rfl, .inl (SqL.of (g42.gh _ _ (s42 _ _ hlr))), fun l3 hl3 => ?_⟩
      obtain ⟨g43, s43, a43⟩ := list_of g42 hl3 (AtAll.mono s42 _ hyr)
      refine ⟨_, rfl, D3, _, rfl, .inl (SqL.of (g43.gh _ _ (s43 _ _ (s42 _ _ hld)))), fun l4 hl4 => ?_⟩
      obtain ⟨g44, s44, a44⟩ := list_of g43 hl4 (AtAll.mono s43 _ (AtAll.mono s42 _ hyd))
      refine ⟨_, q', _, _, B', ms.length, _, _, rfl, g44.vw, mkA (((hB39.mono s42).mono s43).mono s44) (At.mono s44 _ a43) a44, fun G45 H45 u45 g445 ⟨cts', hcts', _, hisc'⟩ => ?_⟩
      obtain rfl := cts_turn hT hlo hisc hisc'
      have g45 := g44.trans g445
      have s45 : Same G42 G45 := fun b o e => g445.gg _ _ (s44 _ _ (s43 _ _ e))
      have s3945 : Same G39 G45 := fun b o e => s45 _ _ (s42 _ _ e)
      refine ⟨_, rfl, _, _, At.dp (g45.gh) _ hcts', At.dp (g45.gh) _ (At.mono s3945 _ hcts39), shaped_ints _, shaped_ints _, false, by rw [eqv_self (shaped_ints _)]; rfl, iteF ?_⟩
      -- due = pair(way, width, height, best[0], best[1])
      have hab45 := s3945 _ _ (s3139 _ _ hab31)
      have hb1 := At.mono s3945 _ (At.mono s3139 _ hbx1')
      have hb2 := At.mono s3945 _ (At.mono s3139 _ hbx2')
      refine ⟨_, rfl, _, rfl, _, rfl, _, rfl, ab, _, 0, _, rfl, rfl, SqT.of (g45.gh _ _ hab45), rfl, _, rfl, ab, _, 1, _, rfl, rfl, SqT.of (g45.gh _ _ hab45), rfl, G45, yw, bOf x y ms, _, _, bq, rfl, g45.vw, hb1, hb2, fun G46 H46 due g456 hdue => ?_⟩
      have g46 := g45.trans g456
      have s3946 : Same G39 G46 := fun b o e => g456.gg _ _ (s3945 _ _ e)
      -- same(best_look(..), due)
      refine ⟨_, rfl, _, rfl, lr, _, rfl, .inl (SqL.of (g46.gh _ _ (s3946 _ _ hlr))), fun l5 hl5 => ?_⟩
      obtain ⟨g47, s47, a47⟩ := list_of g46 hl5 (AtAll.mono s3946 _ hyr)
      refine ⟨_, rfl, D3, _, rfl, .inl (SqL.of (g47.gh _ _ (s47 _ _ (s3946 _ _ hld)))), fun l6 hl6 => ?_⟩
      obtain ⟨g48, s48, a48⟩ := list_of g47 hl6 (AtAll.mono s47 _ (AtAll.mono s3946 _ hyd))
      have hZ48 : At (upd (upd G46 l5 (.lst yr)) l6 (.lst yd)) (.ref Z) (.list ((prs.map (tPr yw (bOf x y ms))).map prD)) := .lst (s48 _ _ (s47 _ _ (s3946 _ _ e39))) (AtAll.mono s48 _ (AtAll.mono s47 _ (AtAll.mono s3946 _ hvz39)))
      refine ⟨_, rfl, _, q', _, _, _, B', ms.length, _, _, prs.map (tPr yw (bOf x y ms)), rfl, g48.vw, mkA (((hB39.mono s3946).mono s47).mono s48) (At.mono s48 _ a47) a48, hZ48, hQ', fun G49 H49 u49 g489 hu49 => ?_⟩
      rw [best_turn hT hlo hpo, hbq] at hu49
      have g49 := g48.trans g489
      have s4649 : Same G46 G49 := fun b o e => g489.gg _ _ (s48 _ _ (s47 _ _ e))
      have s3949 : Same G39 G49 := fun b o e => s4649 _ _ (s3946 _ _ e)
      have hR : tupOf (tupOf isI) (prD (tPr yw (bOf x y ms) bq)) := ⟨_, rfl, by show 2 ≤ 10; decide, fun e he => by
        have one : ∀ s : Pt, tupOf isI (pD s) := fun s => ⟨_, rfl, by show 2 ≤ 10; decide, fun e he => by
          rcases List.mem_cons.mp he with z | z
          · exact ⟨_, z⟩
          · exact ⟨_, List.mem_singleton.mp z⟩⟩
        rcases List.mem_cons.mp he with z | z
        · rw [z]; exact one _
        · rw [List.mem_singleton.mp z]; exact one _⟩
      refine ⟨_, rfl, G49, u49, due, _, rfl, g49.gh, hu49, At.mono s4649 _ hdue, hR, true, rfl, iteF ?_⟩
      -- lives(turned, rows, told[:1], numbers)
      have htold49 := At.mono s3949 _ htold39
      obtain ⟨lt, yt, rfl, hlt, hyt⟩ := At.lst_ htold49
      refine ⟨_, rfl, _, rfl, _, rfl, 1, rfl, lt, _, rfl, SqL.of (g49.gh _ _ hlt), fun l7 hl7 => ?_⟩
      obtain ⟨bs, hbs, hbm⟩ := hyt.cut (some 1)
      obtain ⟨g50, s50, a50⟩ := list_of g49 hl7 hbs
      refine ⟨_, rfl, _, q', _, _, _, B', ms.length, sp.map (tMir yw (bOf x y ms)), bs, cts', rfl, g50.vw, (hB39.mono s3949).mono s50, At.mono s50 _ (At.mono s3949 _ hrows39), a50, At.mono s50 _ (At.mono s3949 _ hcts39), hF', by rw [spl]; exact hls3, by omega, fun cc hcc => ?_, fun H51 g501 => ⟨true, rfl, iteF ?_⟩⟩
      · have hf := hbm cc hcc
        have hv := fit_val hf
        obtain ⟨kk, pc⟩ := chs_cho (List.mem_filter.mp hf).1
        refine ⟨by rw [spl]; exact hv, ?_, ?_⟩
        · have := pc.len
          have := pc.kl
          have := pc.le
          omega
        · rw [num_turn hT hv.2]
          exact (hisc.2 _).mpr ⟨cc, hf, rfl⟩
      · exact ⟨_, _, _, _, _, _, _, _, _, _, _, _, rfl, g50.trans g501, fun b o e => s50 _ _ (s3949 _ _ (s3139 _ _ e))⟩
    · rintro σ H32 ⟨G32, o16, o17, o18, o19, o20, o21, o22, o23, o24, o25, o26, rfl, g32, s32⟩
      exact k H32
end
end Sand

set_option Elab.async false
set_option linter.all false
set_option maxRecDepth 100000
set_option maxHeartbeats 0
namespace SandH
open PySem PySem.Spec PyProof.Rows L2 Sand
/-! ### facts by names -/
/-- a property's object, its getter -/
def prA (C f : Str) (K : PySem.W.Frag) : Addr := match PySem.W.findIn K (.ref (He.ga K C)) f with
  | some (some (.ref p)) => p
  | _ => 0
def prG (C f : Str) (K : PySem.W.Frag) : Addr := match PySem.W.recIn K (prA C f K) "property" with
  | some (.ref g :: _) => g
  | _ => 0
def prB (C f : Str) (K : PySem.W.Frag) : Bool := He.eqO (PySem.W.findIn K (.ref (He.ga K C)) f) (some (some (.ref (prA C f K)))) && (He.eqO (PySem.W.specialIn K (.ref (prA C f K)) "__get__") (some (some (.builtin "property.__get__"))) &&
  (decide (PySem.W.takesIn K (.ref (prA C f K)) = some true) && (match PySem.W.recIn K (prA C f K) "property" with
    | some (.ref g :: _) => true
    | _ => false)))
theorem prB_ok {C f : Str} {K : PySem.W.Frag} (h : prB C f K = true) : PropOf K (He.ga K C) f (prA C f K) (prG C f K) := by
  obtain ⟨h1, h⟩ := He.ba h
  obtain ⟨h2, h⟩ := He.ba h
  obtain ⟨h3, h4⟩ := He.ba h
  refine ⟨He.eqO_ok h1, He.eqO_ok h2, of_decide_eq_true h3, ?_⟩
  unfold prG
  cases e : PySem.W.recIn K (prA C f K) "property" with
  | none =>
    rw [e] at h4
    cases h4
  | some l =>
    rw [e] at h4
    cases l with
    | nil => cases h4
    | cons v r =>
      cases v with
      | ref g => exact ⟨r, rfl⟩
      | _ => cases h4
def gD (x : Str) (st : Stmt) : He5.DefA := ⟨fun K => He.ga K x, x, x, defArgs st, defBody st, defScope st, [], []⟩
def mD (C m q : Str) (st : Stmt) : He5.DefA := ⟨fun K => He.ma K (He.ga K C) m, m, q, defArgs st, defBody st, defScope st, [], []⟩
def pD (C m q : Str) (st : Stmt) : He5.DefA := ⟨prG C m, m, q, defArgs st, defBody st, defScope st, [], []⟩
def fn0 : List He5.DefA := [gD "ends_of" s_ends_of, gD "square_after" s_square_after, gD "other_end" s_other_end, gD "thread_from" s_thread_from, gD "all_threads" s_all_threads, gD "thread_count" s_thread_count, gD "check_square" s_check_square, gD "check_offered" s_check_offered, gD "check_looks" s_check_looks, gD "choices" s_choices, gD "thread_indexes" s_thread_indexes, gD "agrees" s_agrees, gD "fitting_boards" s_fitting_boards, gD "fitting" s_fitting, gD "best_look" s_best_look, gD "fitting_counts" s_fitting_counts, gD "is_inside" s_is_inside, gD "check_mirror" s_check_mirror, gD "kinds_of" s_kinds_of, gD "other_kind" s_other_kind]
def fn1 : List He5.DefA := [gD "moved_place" s_moved_place, gD "grown_by" s_grown_by, gD "_law_hand" s__law_hand, gD "_law_take" s__law_take, gD "_law_points" s__law_points, gD "_law_sizes" s__law_sizes, gD "_law_scene" s__law_scene, gD "_law_pairs" s__law_pairs, gD "_law_links" s__law_links, gD "_law_labels" s__law_labels, gD "_law_square" s__law_square, gD "_law_fits" s__law_fits, gD "_law_truths" s__law_truths, gD "_law_same" s__law_same, gD "_law_place" s__law_place, gD "_law_set" s__law_set, gD "_law_pair" s__law_pair, gD "_law_lives" s__law_lives, gD "law" s_law, mD "Board" "__init__" "Board.__init__" s_Board___init__]
def fn2 : List He5.DefA := [mD "Board" "mirror_at" "Board.mirror_at" s_Board_mirror_at, mD "Board" "with_mirror" "Board.with_mirror" s_Board_with_mirror, mD "Board" "turned" "Board.turned" s_Board_turned, pD "Board" "width" "Board.width" s_Board_width, pD "Board" "height" "Board.height" s_Board_height, pD "Board" "mirrors" "Board.mirrors" s_Board_mirrors, mD "LiveBoard" "__init__" "LiveBoard.__init__" s_LiveBoard___init__, mD "LiveBoard" "take_in" "LiveBoard.take_in" s_LiveBoard_take_in, mD "LiveBoard" "add_all" "LiveBoard.add_all" s_LiveBoard_add_all]
def fn : List He5.DefA := fn0 ++ fn1 ++ fn2
def fa0 : List He.Fa := [.glo "ends_of", .glo "square_after", .glo "other_end", .glo "thread_from", .glo "all_threads", .glo "thread_count", .glo "check_square", .glo "check_offered", .glo "check_looks", .glo "choices", .glo "thread_indexes", .glo "agrees", .glo "fitting_boards", .glo "fitting", .glo "best_look", .glo "fitting_counts", .glo "is_inside", .glo "check_mirror", .glo "kinds_of", .glo "other_kind"]
def fa1 : List He.Fa := [.glo "moved_place", .glo "grown_by", .glo "_law_hand", .glo "_law_take", .glo "_law_points", .glo "_law_sizes", .glo "_law_scene", .glo "_law_pairs", .glo "_law_links", .glo "_law_labels", .glo "_law_square", .glo "_law_fits", .glo "_law_truths", .glo "_law_same", .glo "_law_place", .glo "_law_set", .glo "_law_pair", .glo "_law_lives", .glo "law", .glo "Board"]
def fa2 : List He.Fa := [.cls "Board", .mkr "Board", .meth "Board" "mirror_at", .meth "Board" "with_mirror", .meth "Board" "turned", .glo "LiveBoard", .cls "LiveBoard", .mkr "LiveBoard", .meth "LiveBoard" "take_in", .meth "LiveBoard" "add_all", .noat "Board" "wide", .noat "Board" "high", .noat "Board" "kinds", .noat "LiveBoard" "now", .noat "LiveBoard" "added", .noat "LiveBoard" "counts", .free "len", .free "range", .free "min", .free "max"]
def fa3 : List He.Fa := [.free "sorted", .free "enumerate", .free "list", .free "int", .free "abs", .free "isinstance", .free "bool", .free "str", .free "tuple", .glo "WORDS", .glo "KINDS", .glo "WAYS", .glo "EXCHANGING"]
def fa : List He.Fa := fa0 ++ fa1 ++ fa2 ++ fa3
def ex (K : PySem.W.Frag) : Bool := prB "Board" "width" K && (prB "Board" "height" K && (prB "Board" "mirrors" K && (He.tupB K "WORDS" [.str "same", .str "apart"] && (He.tupB K "KINDS" [.str "-", .str "|"] && (He.tupB K "WAYS" [.str "same", .str "quarter", .str "half", .str "back", .str "flip", .str "mirror", .str "cross", .str "anti"] && (He.tupB K "EXCHANGING" [.str "quarter", .str "back", .str "cross", .str "anti"]))))))
def tf : List He.Defn := [("thread_from", none)]
/-! ### the Hook: facts, defs, a Bool more, the tables of code objects -/
abbrev Al : Type := He.AlD × Bool
section
variable (n : Nat) (fa : List He.Fa) (fn : List He5.DefA) (tf : List He.Defn) (ex : PySem.W.Frag → Bool)
abbrev frK (g : Addr → Option Obj) : PySem.W.Frag := He.frT g (He.asD g n)
def obK (g : Addr → Option Obj) : Al := (He5.obsA fa fn (frK n g), ex (frK n g) && He.tabsB g tf (frK n g))
structure Says (h : Heap) (K : PySem.W.Frag) : Prop where
  t : He5.SaysA fa fn K
  more : ex K = true
  hd : ∀ p ∈ tf, PySem.W.codeHdIn K (He.cT K p).1 (He.cT K p).2 = true
  out : ∀ p ∈ tf, K.lookup (He.cT K p).2 = none
  empty : ∀ p ∈ tf, h.get? (He.cT K p).2 = some { cls := .none, data := .fields #[] }
theorem says_of {h : Heap} (e : obK n fa fn tf ex h.get? = (He5.valA fn, true)) : Says fa fn tf ex h (frK n h.get?) := by
  have e2 : (ex (frK n h.get?) && He.tabsB h.get? tf (frK n h.get?)) = true := congrArg (fun z : Al => z.2) e
  obtain ⟨h1, h2⟩ := He.ba e2
  have key : ∀ p ∈ tf, PySem.W.codeHdIn (frK n h.get?) (He.cT (frK n h.get?) p).1 (He.cT (frK n h.get?) p).2 = true ∧ ∃ o, h.get? (He.cT (frK n h.get?) p).2 = some o ∧ He.emptyTab o = true := fun p hp => by
    obtain ⟨h3, h4⟩ := He.ba (List.all_eq_true.mp h2 p hp)
    refine ⟨h3, ?_⟩
    cases q : h.get? (He.cT (frK n h.get?) p).2 with
    | none =>
      rw [q] at h4
      cases h4
    | some o =>
      rw [q] at h4
      exact ⟨o, rfl, h4⟩
  refine ⟨congrArg (fun z : Al => z.1) e, h1, fun p hp => (key p hp).1, fun p hp => ?_, fun p hp => ?_⟩
  · obtain ⟨_, o, q, z⟩ := key p hp
    exact He.frT_none q z
  · obtain ⟨_, o, q, z⟩ := key p hp
    rw [q, He.emptyTab_eq z]
def hkG : PySem.W.Hook where
  α := Al
  obs := fun s => obK n fa fn tf ex s.heap.get?
  val := fun _ => (He5.valA fn, true)
  says := fun _ h => ∃ K : PySem.W.Frag, K.In h ∧ Says fa fn tf ex h K
  of := fun _ _ e => ⟨_, He.frT_in, says_of n fa fn tf ex e⟩
  keeps := fun _ _ _ ⟨K, hK, c⟩ k => ⟨K, PySem.W.Frag.In.keeps hK k, ⟨c.t, c.more, c.hd, c.out, fun p hp => k _ _ (c.empty p hp)⟩⟩
def obG (s : PySem.W.SharedT) : Al := obK n fa fn tf ex (HandSHeadRun.getT s)
theorem obG_eq (s : PySem.W.SharedT) : obG n fa fn tf ex s = (hkG n fa fn tf ex).obs s.abs := by
  have e : HandSHeadRun.getT s = s.abs.heap.get? := funext fun a => HandSHeadRun.getT_eq s a
  show obK n fa fn tf ex (HandSHeadRun.getT s) = obK n fa fn tf ex s.abs.heap.get?
  rw [e]
end
abbrev R : PySem.W.OpenRow := PySem.W.OpenLaw.row PySem.Challenge.rw_sandthreads_k81_whole_looks_on_turned_bo
abbrev hk : PySem.W.Hook := hkG 6 fa fn tf ex
abbrev ob (s : PySem.W.SharedT) : Al := obG 6 fa fn tf ex s
def loose0 : List Str := ["_wall", "__name__", "SandError", "InvalidSize", "InvalidPoint", "InvalidMirror", "InvalidSquare", "InvalidTurn", "InvalidWord", "Taken", "NotFewer", "ends_of", "square_after", "other_end", "thread_from", "all_threads", "thread_count", "WORDS", "check_square", "check_offered"]
def loose1 : List Str := ["check_looks", "choices", "thread_indexes", "agrees", "fitting_boards", "fitting", "best_look", "fitting_counts", "KINDS", "WAYS", "EXCHANGING", "is_inside", "check_mirror", "kinds_of", "other_kind", "moved_place", "Board", "grown_by", "LiveBoard", "JoiningBoard"]
def loose2 : List Str := ["_law_hand", "_law_take", "_law_points", "_law_sizes", "_law_scene", "_law_pairs", "_law_links", "_law_labels", "_law_square", "_law_fits", "_law_truths", "_law_same", "_law_place", "_law_set", "_law_pair", "_law_lives"]
def loose : List Str := loose0 ++ loose1 ++ loose2
abbrev qv : Program := PySem.W.view R.prog [61]
theorem run (w : World) : HandSHeadRun.RunEq R qv hk ob 30000 loose w := by
  intro os
  kernel_rfl
end SandH

set_option Elab.async false
set_option linter.all false
set_option maxRecDepth 100000
set_option maxHeartbeats 8000000
/-! What the head says, as the walk asks for it. -/
namespace SandH
open PySem PySem.Spec PyProof.Rows L2 Sand
section
variable {K : PySem.W.Frag} {h : Heap} {mg : Str → Option Value} (X : K.In h) (G : h.Ns mainGlobals mg) (c : He5.SaysA fa fn K)
include X G c
theorem defAt_of {x : Str} {st : Stmt} (i j : Nat) (h1 : fn[i]? = some (gD x st)) (h2 : fa[j]? = some (.glo x)) : DefAt K mg x st := by
  obtain ⟨fd, F⟩ := c.def_ i h1
  exact ⟨⟨_, fd, He5.fun_of F, He.glo_ok X G (c.fact j h2)⟩⟩
theorem makAt_of {cn q : Str} {st : Stmt} (i j l : Nat) (h1 : fn[i]? = some (mD cn "__init__" q st)) (h2 : fa[j]? = some (.mkr cn)) (h3 : fa[l]? = some (.glo cn)) : MakAt K mg cn (He.ga K cn) q st := by
  obtain ⟨fd, F⟩ := c.def_ i h1
  exact ⟨⟨_, fd, He5.fun_of F, He.mkr_ok (c.fact j h2), He.glo_ok X G (c.fact l h3)⟩⟩
end
section
variable {K : PySem.W.Frag} (c : He5.SaysA fa fn K)
include c
theorem metAt_of {cn m q : Str} {st : Stmt} (i j : Nat) (h1 : fn[i]? = some (mD cn m q st)) (h2 : fa[j]? = some (.meth cn m)) : MetAt K (He.ga K cn) m q st := by
  obtain ⟨fd, F⟩ := c.def_ i h1
  exact ⟨⟨_, fd, He5.fun_of F, He.meth_ok (c.fact j h2)⟩⟩
theorem prpAt_of {cn m q : Str} {st : Stmt} (i : Nat) (h1 : fn[i]? = some (pD cn m q st)) (h2 : prB cn m K = true) : PrpAt K (He.ga K cn) m q st := by
  obtain ⟨fd, F⟩ := c.def_ i h1
  exact ⟨⟨_, _, fd, He5.fun_of F, prB_ok h2⟩⟩
end
section
variable {K : PySem.W.Frag} {h : Heap} {mg : Str → Option Value} (X : K.In h) (G : h.Ns mainGlobals mg) (c : He5.SaysA fa fn K)
include X G c
theorem d_ends_of : DefAt K mg "ends_of" s_ends_of := defAt_of X G c 0 0 rfl rfl
theorem d_square_after : DefAt K mg "square_after" s_square_after := defAt_of X G c 1 1 rfl rfl
theorem d_other_end : DefAt K mg "other_end" s_other_end := defAt_of X G c 2 2 rfl rfl
theorem d_thread_from : DefAt K mg "thread_from" s_thread_from := defAt_of X G c 3 3 rfl rfl
theorem d_all_threads : DefAt K mg "all_threads" s_all_threads := defAt_of X G c 4 4 rfl rfl
theorem d_thread_count : DefAt K mg "thread_count" s_thread_count := defAt_of X G c 5 5 rfl rfl
theorem d_check_square : DefAt K mg "check_square" s_check_square := defAt_of X G c 6 6 rfl rfl
theorem d_check_offered : DefAt K mg "check_offered" s_check_offered := defAt_of X G c 7 7 rfl rfl
theorem d_check_looks : DefAt K mg "check_looks" s_check_looks := defAt_of X G c 8 8 rfl rfl
theorem d_choices : DefAt K mg "choices" s_choices := defAt_of X G c 9 9 rfl rfl
theorem d_thread_indexes : DefAt K mg "thread_indexes" s_thread_indexes := defAt_of X G c 10 10 rfl rfl
theorem d_agrees : DefAt K mg "agrees" s_agrees := defAt_of X G c 11 11 rfl rfl
theorem d_fitting_boards : DefAt K mg "fitting_boards" s_fitting_boards := defAt_of X G c 12 12 rfl rfl
theorem d_fitting : DefAt K mg "fitting" s_fitting := defAt_of X G c 13 13 rfl rfl
theorem d_best_look : DefAt K mg "best_look" s_best_look := defAt_of X G c 14 14 rfl rfl
theorem d_fitting_counts : DefAt K mg "fitting_counts" s_fitting_counts := defAt_of X G c 15 15 rfl rfl
theorem d_is_inside : DefAt K mg "is_inside" s_is_inside := defAt_of X G c 16 16 rfl rfl
theorem d_check_mirror : DefAt K mg "check_mirror" s_check_mirror := defAt_of X G c 17 17 rfl rfl
theorem d_kinds_of : DefAt K mg "kinds_of" s_kinds_of := defAt_of X G c 18 18 rfl rfl
theorem d_other_kind : DefAt K mg "other_kind" s_other_kind := defAt_of X G c 19 19 rfl rfl
theorem d_moved_place : DefAt K mg "moved_place" s_moved_place := defAt_of X G c 20 20 rfl rfl
theorem d_grown_by : DefAt K mg "grown_by" s_grown_by := defAt_of X G c 21 21 rfl rfl
theorem d__law_hand : DefAt K mg "_law_hand" s__law_hand := defAt_of X G c 22 22 rfl rfl
theorem d__law_take : DefAt K mg "_law_take" s__law_take := defAt_of X G c 23 23 rfl rfl
theorem d__law_points : DefAt K mg "_law_points" s__law_points := defAt_of X G c 24 24 rfl rfl
theorem d__law_sizes : DefAt K mg "_law_sizes" s__law_sizes := defAt_of X G c 25 25 rfl rfl
theorem d__law_scene : DefAt K mg "_law_scene" s__law_scene := defAt_of X G c 26 26 rfl rfl
theorem d__law_pairs : DefAt K mg "_law_pairs" s__law_pairs := defAt_of X G c 27 27 rfl rfl
theorem d__law_links : DefAt K mg "_law_links" s__law_links := defAt_of X G c 28 28 rfl rfl
theorem d__law_labels : DefAt K mg "_law_labels" s__law_labels := defAt_of X G c 29 29 rfl rfl
theorem d__law_square : DefAt K mg "_law_square" s__law_square := defAt_of X G c 30 30 rfl rfl
theorem d__law_fits : DefAt K mg "_law_fits" s__law_fits := defAt_of X G c 31 31 rfl rfl
theorem d__law_truths : DefAt K mg "_law_truths" s__law_truths := defAt_of X G c 32 32 rfl rfl
theorem d__law_same : DefAt K mg "_law_same" s__law_same := defAt_of X G c 33 33 rfl rfl
theorem d__law_place : DefAt K mg "_law_place" s__law_place := defAt_of X G c 34 34 rfl rfl
theorem d__law_set : DefAt K mg "_law_set" s__law_set := defAt_of X G c 35 35 rfl rfl
theorem d__law_pair : DefAt K mg "_law_pair" s__law_pair := defAt_of X G c 36 36 rfl rfl
theorem d__law_lives : DefAt K mg "_law_lives" s__law_lives := defAt_of X G c 37 37 rfl rfl
theorem d_law : DefAt K mg "law" s_law := defAt_of X G c 38 38 rfl rfl
theorem d_Board___init__ : MakAt K mg "Board" (He.ga K "Board") "Board.__init__" s_Board___init__ := makAt_of X G c 39 41 39 rfl rfl rfl
theorem d_Board_mirror_at : MetAt K (He.ga K "Board") "mirror_at" "Board.mirror_at" s_Board_mirror_at := metAt_of c 40 42 rfl rfl
theorem d_Board_with_mirror : MetAt K (He.ga K "Board") "with_mirror" "Board.with_mirror" s_Board_with_mirror := metAt_of c 41 43 rfl rfl
theorem d_Board_turned : MetAt K (He.ga K "Board") "turned" "Board.turned" s_Board_turned := metAt_of c 42 44 rfl rfl
theorem d_Board_width (e : prB "Board" "width" K = true) : PrpAt K (He.ga K "Board") "width" "Board.width" s_Board_width := prpAt_of c 43 rfl e
theorem d_Board_height (e : prB "Board" "height" K = true) : PrpAt K (He.ga K "Board") "height" "Board.height" s_Board_height := prpAt_of c 44 rfl e
theorem d_Board_mirrors (e : prB "Board" "mirrors" K = true) : PrpAt K (He.ga K "Board") "mirrors" "Board.mirrors" s_Board_mirrors := prpAt_of c 45 rfl e
theorem d_LiveBoard___init__ : MakAt K mg "LiveBoard" (He.ga K "LiveBoard") "LiveBoard.__init__" s_LiveBoard___init__ := makAt_of X G c 46 47 45 rfl rfl rfl
theorem d_LiveBoard_take_in : MetAt K (He.ga K "LiveBoard") "take_in" "LiveBoard.take_in" s_LiveBoard_take_in := metAt_of c 47 48 rfl rfl
theorem d_LiveBoard_add_all : MetAt K (He.ga K "LiveBoard") "add_all" "LiveBoard.add_all" s_LiveBoard_add_all := metAt_of c 48 49 rfl rfl
theorem f_len : mg "len" = none := He.free_ok X G (c.fact 56 (f := .free "len") rfl)
theorem f_range : mg "range" = none := He.free_ok X G (c.fact 57 (f := .free "range") rfl)
theorem f_min : mg "min" = none := He.free_ok X G (c.fact 58 (f := .free "min") rfl)
theorem f_max : mg "max" = none := He.free_ok X G (c.fact 59 (f := .free "max") rfl)
theorem f_sorted : mg "sorted" = none := He.free_ok X G (c.fact 60 (f := .free "sorted") rfl)
theorem f_enumerate : mg "enumerate" = none := He.free_ok X G (c.fact 61 (f := .free "enumerate") rfl)
theorem f_list : mg "list" = none := He.free_ok X G (c.fact 62 (f := .free "list") rfl)
theorem f_int : mg "int" = none := He.free_ok X G (c.fact 63 (f := .free "int") rfl)
theorem f_abs : mg "abs" = none := He.free_ok X G (c.fact 64 (f := .free "abs") rfl)
theorem f_isinstance : mg "isinstance" = none := He.free_ok X G (c.fact 65 (f := .free "isinstance") rfl)
theorem f_bool : mg "bool" = none := He.free_ok X G (c.fact 66 (f := .free "bool") rfl)
theorem f_str : mg "str" = none := He.free_ok X G (c.fact 67 (f := .free "str") rfl)
theorem f_tuple : mg "tuple" = none := He.free_ok X G (c.fact 68 (f := .free "tuple") rfl)
theorem n_Board_wide : NoAttr K (He.ga K "Board") "wide" := He.noat_ok (c.fact 50 (f := .noat "Board" "wide") rfl)
theorem n_Board_high : NoAttr K (He.ga K "Board") "high" := He.noat_ok (c.fact 51 (f := .noat "Board" "high") rfl)
theorem n_Board_kinds : NoAttr K (He.ga K "Board") "kinds" := He.noat_ok (c.fact 52 (f := .noat "Board" "kinds") rfl)
theorem c_Board : Cls K (He.ga K "Board") := He.cls_ok (c.fact 40 (f := .cls "Board") rfl)
theorem n_LiveBoard_now : NoAttr K (He.ga K "LiveBoard") "now" := He.noat_ok (c.fact 53 (f := .noat "LiveBoard" "now") rfl)
theorem n_LiveBoard_added : NoAttr K (He.ga K "LiveBoard") "added" := He.noat_ok (c.fact 54 (f := .noat "LiveBoard" "added") rfl)
theorem n_LiveBoard_counts : NoAttr K (He.ga K "LiveBoard") "counts" := He.noat_ok (c.fact 55 (f := .noat "LiveBoard" "counts") rfl)
theorem c_LiveBoard : Cls K (He.ga K "LiveBoard") := He.cls_ok (c.fact 46 (f := .cls "LiveBoard") rfl)
theorem g_WORDS : mg "WORDS" = some (.ref (He.ga K "WORDS")) := He.glo_ok X G (c.fact 69 (f := .glo "WORDS") rfl)
theorem g_KINDS : mg "KINDS" = some (.ref (He.ga K "KINDS")) := He.glo_ok X G (c.fact 70 (f := .glo "KINDS") rfl)
theorem g_WAYS : mg "WAYS" = some (.ref (He.ga K "WAYS")) := He.glo_ok X G (c.fact 71 (f := .glo "WAYS") rfl)
theorem g_EXCHANGING : mg "EXCHANGING" = some (.ref (He.ga K "EXCHANGING")) := He.glo_ok X G (c.fact 72 (f := .glo "EXCHANGING") rfl)
theorem txt (e : ex K = true) : Txt K mg (He.ga K "Board") (He.ga K "LiveBoard") := by
  unfold ex at e
  simp only [Bool.and_eq_true] at e
  obtain ⟨_, _, _, e1, e2, e3, e4⟩ := e
  exact ⟨c_Board X G c, c_LiveBoard X G c, n_Board_wide X G c, n_Board_high X G c, n_Board_kinds X G c, n_LiveBoard_now X G c, n_LiveBoard_added X G c, n_LiveBoard_counts X G c, f_len X G c, f_range X G c, f_min X G c, f_max X G c, f_sorted X G c, f_enumerate X G c, f_list X G c, f_int X G c, f_abs X G c, f_isinstance X G c, f_bool X G c, f_str X G c, f_tuple X G c,
    ⟨_, ⟨_, g_WORDS X G c, rfl⟩, He.tupB_ok e1⟩, ⟨_, ⟨_, g_KINDS X G c, rfl⟩, He.tupB_ok e2⟩, ⟨_, ⟨_, g_WAYS X G c, rfl⟩, He.tupB_ok e3⟩, ⟨_, ⟨_, g_EXCHANGING X G c, rfl⟩, He.tupB_ok e4⟩⟩
theorem d_thread : DefAtC K mg "thread_from" s_thread_from (He.codeOf K ("thread_from", none)) := by
  obtain ⟨fd, F⟩ := c.def_ 3 (d := gD "thread_from" s_thread_from) rfl
  have F2 : Fun K "thread_from" "thread_from" s_thread_from (He.ga K "thread_from") fd := He5.fun_of F
  obtain ⟨⟨oc, od, kV, doc, pm, an, cdv, ct, osl, e, l, cd⟩, kp⟩ := F2
  obtain ⟨cc, rfl⟩ := He.codeIn_ref cd
  subst e
  have ec : He.codeOf K ("thread_from", none) = cc := He.codeOf_eq (p := ("thread_from", none)) l rfl
  rw [ec]
  exact ⟨⟨_, oc, od, kV, doc, pm, an, ct, osl, l, cd, kp, He.glo_ok X G (c.fact 3 (f := .glo "thread_from") rfl)⟩⟩
end
/-- every def keeps its promise; the law's last -/
theorem law_all {P : Program} {w : World} {K : PySem.W.Frag} {h base : Heap} {mg : Str → Option Value} (X : K.In h) (G : h.Ns mainGlobals mg) (c : He5.SaysA fa fn K) (e : ex K = true) {Pt_ : Addr} (TB : LamX.TabB base mg (He.codeOf K ("thread_from", none)) Pt_) {f : Addr} {fd : FuncData} (F : Fun K "law" "law" s_law f fd) :
    FnOk P w K mg base CX0 16 f fd ["_law_script"] (spLaw K (Pt_, lamQ)) := by
  have T := txt X G c e
  unfold ex at e
  simp only [Bool.and_eq_true] at e
  obtain ⟨p1, p2, p3, _⟩ := e
  have k_ends := ok_ends_of (P := P) (w := w) (base := base) (tb := (Pt_, lamQ)) (d_ends_of X G c)
  have k_other := ok_other_end (d_other_end X G c) k_ends
  have k_width := ok_width (P := P) (w := w) (mg := mg) (base := base) (d_Board_width X G c p1) T
  have k_height := ok_height (P := P) (w := w) (mg := mg) (base := base) (d_Board_height X G c p2) T
  have k_inside := ok_is_inside (P := P) (w := w) (base := base) (d_is_inside X G c)
  have k_mat := ok_mirror_at (tb := (Pt_, lamQ)) (d_Board_mirror_at X G c) T k_inside
  have k_after := ok_square_after (d_square_after X G c) k_width k_height k_mat
  have k_thread := ok_thread_from (d_thread X G c) T TB rfl k_ends k_other k_after
  have k_all := ok_all_threads (d_all_threads X G c) T k_width k_height k_thread
  have k_count := ok_thread_count (d_thread_count X G c) T k_all
  have k_idx := ok_thread_indexes (d_thread_indexes X G c) T k_all
  have k_agr := ok_agrees (P := P) (w := w) (base := base) (d_agrees X G c)
  have k_chk := ok_check_mirror (tb := (Pt_, lamQ)) (d_check_mirror X G c) T k_inside
  have k_kinds := ok_kinds_of (d_kinds_of X G c) k_chk
  have k_Board := ok_initB (d_Board___init__ X G c) T k_kinds
  have k_mirrors := ok_mirrors (P := P) (w := w) (mg := mg) (base := base) (tb := (Pt_, lamQ)) (d_Board_mirrors X G c p3) T
  have k_with := ok_with_mirror (d_Board_with_mirror X G c) T k_chk k_mirrors k_Board
  have k_ok := ok_other_kind (P := P) (w := w) (base := base) (d_other_kind X G c)
  have k_moved := ok_moved_place (P := P) (w := w) (base := base) (tb := (Pt_, lamQ)) (d_moved_place X G c)
  have k_turned := ok_turned (d_Board_turned X G c) T k_mirrors k_Board k_ok k_moved
  have k_sq := ok_check_square (d_check_square X G c) k_width k_height
  have k_off := ok_check_offered (d_check_offered X G c) k_with
  have k_lks := ok_check_looks (d_check_looks X G c) T k_sq
  have k_grown := ok_grown_by (d_grown_by X G c) k_with k_count
  have k_Live := ok_initL (d_LiveBoard___init__ X G c) T k_Board k_count
  have k_take := ok_take_in (d_LiveBoard_take_in X G c) T k_grown
  have k_add := ok_add_all (d_LiveBoard_add_all X G c) T k_take
  have k_chs := ok_choices (P := P) (w := w) (base := base) (tb := (Pt_, lamQ)) (d_choices X G c) T
  have k_fb := ok_fitting_boards (d_fitting_boards X G c) T k_chs k_with k_idx k_agr
  have k_fit := ok_fitting (d_fitting X G c) k_off k_lks k_fb
  have k_cts := ok_fitting_counts (d_fitting_counts X G c) T k_off k_lks k_fb
  have k_best := ok_best_look (d_best_look X G c) T k_off k_lks k_sq k_fb
  have k_hand := ok__law_hand (P := P) (w := w) (base := base) (tb := (Pt_, lamQ)) (d__law_hand X G c) T
  have k_tk := ok__law_take (P := P) (w := w) (base := base) (tb := (Pt_, lamQ)) (d__law_take X G c) T
  have k_pts := ok__law_points (P := P) (w := w) (base := base) (tb := (Pt_, lamQ)) (d__law_points X G c) T
  have k_sz := ok__law_sizes (d__law_sizes X G c) T k_tk
  have k_lsq := ok__law_square (d__law_square X G c) k_tk
  have k_scene := ok__law_scene (d__law_scene X G c) T k_tk k_sz k_pts
  have k_pairs := ok__law_pairs (P := P) (w := w) (base := base) (tb := (Pt_, lamQ)) (d__law_pairs X G c)
  have k_links := ok__law_links (d__law_links X G c) T k_pairs
  have k_labels := ok__law_labels (d__law_labels X G c) T k_links
  have k_lfits := ok__law_fits (P := P) (w := w) (base := base) (d__law_fits X G c)
  have k_truths := ok__law_truths (d__law_truths X G c) T k_tk k_lsq k_lfits
  have k_place := ok__law_place (P := P) (w := w) (base := base) (tb := (Pt_, lamQ)) (d__law_place X G c)
  have k_set := ok__law_set (d__law_set X G c) T k_place
  have k_pair := ok__law_pair (d__law_pair X G c) k_place
  have k_s0 := ok_same0 (d__law_same X G c) T (ok_sameF (P := P) (w := w) (base := base) (d__law_same X G c))
  have k_s1 := ok_sameS (d__law_same X G c) T k_s0
  have k_s2 := ok_sameS (d__law_same X G c) T k_s1
  have k_lives := ok__law_lives (d__law_lives X G c) T k_width k_height k_mirrors k_Live k_add
  exact law_fn F T k_hand k_tk k_scene k_labels k_truths k_lsq k_Board k_fit k_cts k_best k_turned k_set k_pair k_s2 k_lives
end SandH
open PySem PySem.W PySem.Calls PyProof.Rows
theorem PySem.Challenge.cw_sandthreads_k81_whole_looks_on_turned_bo_holds : PySem.Challenge.rw_sandthreads_k81_whole_looks_on_turned_bo.Holds := by
  w_on; o_law
  refine HandSHeadRun.head_any (r := SandH.R) (q := SandH.qv) (H := SandH.hk) (ob := SandH.ob) (M := 30000) (loose := SandH.loose) (d := HandSHeadRun.topDef SandH.R.prog 61) (kwd := []) (fun s => SandH.obG_eq 6 SandH.fa SandH.fn SandH.tf SandH.ex s)
    (by kernel_rfl) (fun s => by kernel_rfl) SandH.run (by kernel_rfl) (by kernel_rfl) (by kernel_rfl) (by rfl) (by first | assumption | decide +kernel) (by decide +kernel) ⟨rfl, rfl, rfl, rfl, rfl, by decide +kernel⟩ ?hw ?hc
  case hw => w_witness2
  case hc =>
    refine LamX.walk_ofTsE (l := PySem.Challenge.rw_sandthreads_k81_whole_looks_on_turned_bo) (n := 63) (k := 16) (x := "_law_script") (CX := fun _ => L2.CX0) rfl (by decide) (by kernel_rfl) ⟨rfl, by decide, by decide⟩ ?F (fun _ _ _ _ _ z => z)
    intro w mg fa h Y G hmg0
    obtain ⟨K, KX, c⟩ := Y
    have hmg : mg ("law" : PySem.Str) = some (.ref fa) := by
      have e : (HandSHeadRun.topDef SandH.R.prog 61).name = ("law" : PySem.Str) := by kernel_rfl
      rw [← e]
      exact hmg0
    obtain ⟨⟨f, fd, F, hf⟩⟩ := SandH.d_law KX G c.t
    have ef : fa = f := by
      rw [hmg] at hf
      exact Value.ref.inj (Option.some.inj hf)
    subst ef
    have hd := c.hd ("thread_from", none) (List.mem_singleton.mpr rfl)
    have out := c.out ("thread_from", none) (List.mem_singleton.mpr rfl)
    have emp := c.empty ("thread_from", none) (List.mem_singleton.mpr rfl)
    refine ⟨K, KX, fd, [He.cT K ("thread_from", none)], Sand.spLaw K ((He.cT K ("thread_from", none)).2, Sand.lamQ), fun p hp => by rw [List.mem_singleton.mp hp]; exact emp, fun p hp => by rw [List.mem_singleton.mp hp]; exact out, fun p hp => by rw [List.mem_singleton.mp hp]; exact PySem.W.codeHd_of_K KX hd, ?_, ?_, ?_⟩
    · intro s u
      obtain ⟨⟨oc, od, kV, doc, pm, an, cdv, ct, osl, e, l, cd⟩, kp⟩ := F
      subst e
      exact .of_eq rfl
    · intro H a ns hl _ hT hS
      have tt : LamX.TabS H (He.cT K ("thread_from", none)).2 Sand.lamQ := LamX.TabS.nil (hT _ (List.mem_singleton.mpr rfl))
      exact ⟨fun _ => none, a, ns, rfl, ⟨fun _ _ e _ _ => e, fun _ e => e, fun _ _ e => (by cases e), fun _ _ e => (by cases e), fun _ _ _ e => (by cases e), fun _ _ e => (by cases e), tt, tt⟩, hS, hl, fun _ => rfl⟩
    · intro base KB GB TB
      exact SandH.law_all KX G c.t c.more (TB _ (List.mem_singleton.mpr rfl)) F

