import PyProof.Rows.All
import Wide.All
import OpenK.AllK
import Wide.FinOn
import HandS.ForMost
import HandS.Codes
import HandS.Style
import HandS.Deep
import HandS.Zip
import HandS.IsInst
import HandS.SortRule
import HandS.SortInts
import HandS.SetKeys
import HandS.DictTup
import HandS.Conv
import HandS.TupAny
import HandS.TupLe
import HandS.Wide
import HandS.WideBits
import HandS.Flow
import HandS.Walk
import KE.SortData
import KE.DataMinMax
import PyProof.DictMoreH
import HandS.SetFor
import HandS.Strs
import KE.GoesMore
import KE.GoesZip
import KE.GoesEnum
import PySem.Challenge.RW_websolids_k32_whole_webs_that_can_be_dra
set_option Elab.async false
set_option linter.all false
set_option maxRecDepth 100000
set_option maxHeartbeats 1000000
namespace Wb
/-! parity of a Bool function over i < n -/
def par (f : Nat → Bool) : Nat → Bool
  | 0 => false
  | n + 1 => par f n ^^ f n
theorem par_congr {f g : Nat → Bool} : ∀ {n : Nat}, (∀ i, i < n → f i = g i) → par f n = par g n
  | 0, _ => rfl
  | n + 1, h => by
    show (par f n ^^ f n) = (par g n ^^ g n)
    rw [par_congr (n := n) fun i hi => h i (by omega), h n (by omega)]
theorem par_zero {f : Nat → Bool} : ∀ {n : Nat}, (∀ i, i < n → f i = false) → par f n = false
  | 0, _ => rfl
  | n + 1, h => by
    show (par f n ^^ f n) = false
    rw [par_zero (n := n) fun i hi => h i (by omega), h n (by omega)]; rfl
theorem xor4 (a b c d : Bool) : ((a ^^ b) ^^ (c ^^ d)) = ((a ^^ c) ^^ (b ^^ d)) := by
  cases a <;> cases b <;> cases c <;> cases d <;> rfl
theorem par_xor (f g : Nat → Bool) : ∀ n : Nat, par (fun i => f i ^^ g i) n = (par f n ^^ par g n)
  | 0 => rfl
  | n + 1 => by
    show (par (fun i => f i ^^ g i) n ^^ (f n ^^ g n)) = ((par f n ^^ f n) ^^ (par g n ^^ g n))
    rw [par_xor f g n, xor4]
theorem par_and (c : Bool) (f : Nat → Bool) : ∀ n : Nat, par (fun i => c && f i) n = (c && par f n)
  | 0 => by cases c <;> rfl
  | n + 1 => by
    show (par (fun i => c && f i) n ^^ (c && f n)) = (c && (par f n ^^ f n))
    rw [par_and c f n]; cases c <;> rfl
theorem par_one {f : Nat → Bool} {a : Nat} : ∀ {n : Nat}, a < n → (∀ i, i < n → i ≠ a → f i = false) → par f n = f a
  | n + 1, ha, h => by
    show (par f n ^^ f n) = f a
    by_cases e : a = n
    · subst e
      rw [par_zero fun i hi => h i (by omega) (by omega)]; cases f a <;> rfl
    · rw [par_one (n := n) (by omega) fun i hi hn => h i (by omega) hn, h n (by omega) (by omega)]; cases f a <;> rfl
theorem par_two {f : Nat → Bool} {a b : Nat} {n : Nat} (hab : a ≠ b) (ha : a < n) (hb : b < n) (h : ∀ i, i < n → i ≠ a → i ≠ b → f i = false) : par f n = (f a ^^ f b) := by
  have e : par f n = par (fun i => (decide (i = a) && f i) ^^ (decide (i = b) && f i)) n := par_congr fun i hi => by
    by_cases h1 : i = a
    · subst h1; simp [hab]
    · by_cases h2 : i = b
      · subst h2; simp [h1]
      · simp [h1, h2, h i hi h1 h2]
  rw [e, par_xor, par_one ha, par_one hb]
  · simp
  · intro i _ h1; simp [h1]
  · intro i _ h1; simp [h1]
theorem par_swap (f : Nat → Nat → Bool) (m : Nat) : ∀ n : Nat, par (fun i => par (fun j => f i j) m) n = par (fun j => par (fun i => f i j) n) m
  | 0 => by
    show false = par (fun _ => false) m
    rw [par_zero fun _ _ => rfl]
  | n + 1 => by
    show (par (fun i => par (fun j => f i j) m) n ^^ par (fun j => f n j) m) = par (fun j => par (fun i => f i j) n ^^ f n j) m
    rw [par_swap f m n, par_xor]
/-- shaking hands -/
theorem par_hands {x : Nat → Nat → Bool} (hs : ∀ u v, x u v = x v u) (hi : ∀ u, x u u = false) : ∀ n : Nat, par (fun u => par (x u) n) n = false
  | 0 => rfl
  | n + 1 => by
    show (par (fun u => par (x u) n ^^ x u n) n ^^ (par (x n) n ^^ x n n)) = false
    rw [par_xor, par_hands hs hi n, hi n]
    have e : par (fun i => x i n) n = par (x n) n := par_congr fun i _ => hs i n
    rw [e]; cases par (x n) n <;> rfl

abbrev E2 := Nat → Nat → Bool
def Sym (x : E2) : Prop := ∀ u v, x u v = x v u
def Sub (x B : E2) : Prop := ∀ u v, x u v = true → B u v = true
/-- a graph on corners below n -/
structure Gr (n : Nat) (B : E2) : Prop where
  sym : Sym B
  irr : ∀ u, B u u = false
  bnd : ∀ u v, B u v = true → u < n ∧ v < n
theorem Gr.bnd1 {n : Nat} {B : E2} (G : Gr n B) {u v : Nat} (h : B u v = true) : u < n := (G.bnd u v h).1
theorem Gr.bnd2 {n : Nat} {B : E2} (G : Gr n B) {u v : Nat} (h : B u v = true) : v < n := (G.bnd u v h).2
theorem Gr.ne {n : Nat} {B : E2} (G : Gr n B) {u v : Nat} (h : B u v = true) : u ≠ v := fun e => by
  subst e; rw [G.irr] at h; cases h
theorem Gr.symm {n : Nat} {B : E2} (G : Gr n B) {u v : Nat} (h : B u v = true) : B v u = true := by
  rw [G.sym]; exact h
theorem Gr.sub {n : Nat} {A B : E2} (G : Gr n B) (hs : Sym A) (h : Sub A B) : Gr n A where
  sym := hs
  irr u := by
    cases e : A u u with
    | false => rfl
    | true => have := h u u e; rw [G.irr] at this; cases this
  bnd u v e := G.bnd u v (h u v e)
def dv (n : Nat) (x : E2) (u : Nat) : Bool := par (x u) n
structure Flow (n : Nat) (B x : E2) : Prop where
  sym : Sym x
  sub : Sub x B
  even : ∀ u, dv n x u = false
def xr (x y : E2) : E2 := fun u v => x u v ^^ y u v
theorem Sym.xr {x y : E2} (h : Sym x) (g : Sym y) : Sym (xr x y) := fun u v => by
  show (x u v ^^ y u v) = (x v u ^^ y v u); rw [h u v, g u v]
theorem Sub.xr {x y B : E2} (h : Sub x B) (g : Sub y B) : Sub (xr x y) B := fun u v e => by
  cases e1 : x u v with
  | true => exact h u v e1
  | false => cases e2 : y u v with
    | true => exact g u v e2
    | false => simp [Wb.xr, e1, e2] at e
theorem dv_xr (n : Nat) (x y : E2) (u : Nat) : dv n (xr x y) u = (dv n x u ^^ dv n y u) := par_xor (x u) (y u) n
theorem Flow.xr {n : Nat} {B x y : E2} (h : Flow n B x) (g : Flow n B y) : Flow n B (xr x y) where
  sym := h.sym.xr g.sym
  sub := h.sub.xr g.sub
  even u := by rw [dv_xr, h.even, g.even]; rfl
def edge (b c : Nat) : E2 := fun u v => (decide (u = b) && decide (v = c)) || (decide (u = c) && decide (v = b))
theorem edge_sym (b c : Nat) : Sym (edge b c) := fun u v => by
  simp only [edge]; by_cases h1 : u = b <;> by_cases h2 : u = c <;> by_cases h3 : v = b <;> by_cases h4 : v = c <;> simp [h1, h2, h3, h4]
theorem edge_iff {b c u v : Nat} : edge b c u v = true ↔ (u = b ∧ v = c) ∨ (u = c ∧ v = b) := by simp [edge]
theorem edge_sub {A : E2} (hs : Sym A) {b c : Nat} (h : A b c = true) : Sub (edge b c) A := fun u v e => by
  rcases edge_iff.mp e with ⟨rfl, rfl⟩ | ⟨rfl, rfl⟩
  · exact h
  · rw [hs]; exact h
theorem edge_dv {n b c : Nat} (hbc : b ≠ c) (hb : b < n) (hc : c < n) (u : Nat) : dv n (edge b c) u = (decide (u = b) ^^ decide (u = c)) := by
  unfold dv
  by_cases h1 : u = b
  · subst h1
    rw [par_one hc]
    · simp [edge, hbc]
    · intro i _ hi; simp [edge, hi, hbc]
  · by_cases h2 : u = c
    · subst h2
      rw [par_one hb]
      · simp [edge, h1]
      · intro i _ hi; simp [edge, hi, h1]
    · rw [par_zero]
      · simp [h1, h2]
      · intro i _; simp [edge, h1, h2]
/-- b is come to from a by ties of A -/
inductive Conn (A : E2) (a : Nat) : Nat → Prop where
  | refl : Conn A a a
  | step {b c : Nat} : Conn A a b → A b c = true → Conn A a c
theorem Conn.trans {A : E2} {a b c : Nat} (h : Conn A a b) (g : Conn A b c) : Conn A a c := by
  induction g with
  | refl => exact h
  | step _ e ih => exact ih.step e
theorem Conn.one {A : E2} {a b : Nat} (h : A a b = true) : Conn A a b := Conn.refl.step h
theorem Conn.symm {A : E2} (hs : Sym A) {a b : Nat} (h : Conn A a b) : Conn A b a := by
  induction h with
  | refl => exact .refl
  | step _ e ih => exact (Conn.one (by rw [hs]; exact e)).trans ih
theorem Conn.mono {A A' : E2} (hs : Sub A A') {a b : Nat} (h : Conn A a b) : Conn A' a b := by
  induction h with
  | refl => exact .refl
  | step _ e ih => exact ih.step (hs _ _ e)
theorem zero_dv (n u : Nat) : dv n (fun _ _ => false) u = false := par_zero fun _ _ => rfl
theorem Conn.flow {n : Nat} {A : E2} (G : Gr n A) {a b : Nat} (h : Conn A a b) : ∃ x, Sym x ∧ Sub x A ∧ ∀ u, dv n x u = (decide (u = a) ^^ decide (u = b)) := by
  induction h with
  | refl => exact ⟨fun _ _ => false, fun _ _ => rfl, fun _ _ e => (by cases e), fun u => (by rw [zero_dv]; simp)⟩
  | @step b c _ e ih =>
    obtain ⟨x, h1, h2, h3⟩ := ih
    refine ⟨Wb.xr x (edge b c), h1.xr (edge_sym b c), h2.xr (edge_sub G.sym e), fun u => ?_⟩
    rw [dv_xr, h3, edge_dv (G.ne e) (G.bnd1 e) (G.bnd2 e)]
    cases decide (u = a) <;> cases decide (u = b) <;> cases decide (u = c) <;> rfl
/-- any even lot of corners that are come to from b is what some ties of A leave -/
theorem pair_flow {n : Nat} {A : E2} (G : Gr n A) {b : Nat} (c : Nat → Bool) (hc : ∀ v, v < n → c v = true → Conn A b v) (he : par c n = false) : ∃ y, Sym y ∧ Sub y A ∧ ∀ u, u < n → dv n y u = c u := by
  have key : ∀ k, k ≤ n → ∃ y, Sym y ∧ Sub y A ∧ ∀ u, dv n y u = ((decide (u < k) && c u) ^^ (decide (u = b) && par c k)) := by
    intro k
    induction k with
    | zero => intro _; exact ⟨fun _ _ => false, fun _ _ => rfl, fun _ _ e => (by cases e), fun u => (by rw [zero_dv]; simp [par])⟩
    | succ k ih =>
      intro hk
      obtain ⟨y, h1, h2, h3⟩ := ih (by omega)
      cases e : c k with
      | false =>
        refine ⟨y, h1, h2, fun u => ?_⟩
        rw [h3]
        have ep : par c (k + 1) = par c k := by show (par c k ^^ c k) = _; rw [e]; simp
        rw [ep]
        by_cases hu : u = k
        · subst hu; simp [e]
        · have : decide (u < k) = decide (u < k + 1) := by
            by_cases h : u < k
            · simp [h]; omega
            · have : ¬ u < k + 1 := by omega
              simp [h, this]
          rw [this]
      | true =>
        obtain ⟨x, g1, g2, g3⟩ := (hc k (by omega) e).flow G
        refine ⟨xr y x, h1.xr g1, h2.xr g2, fun u => ?_⟩
        rw [dv_xr, h3, g3]
        have ep : par c (k + 1) = !par c k := by show (par c k ^^ c k) = _; rw [e]; simp
        rw [ep]
        by_cases hu : u = k
        · subst hu
          simp [e]
          cases decide (u = b) <;> cases par c u <;> rfl
        · have : decide (u < k) = decide (u < k + 1) := by
            by_cases h : u < k
            · simp [h]; omega
            · have : ¬ u < k + 1 := by omega
              simp [h, this]
          rw [this]
          simp [hu]
          cases decide (u < k + 1) <;> cases c u <;> cases decide (u = b) <;> cases par c k <;> rfl
  obtain ⟨y, h1, h2, h3⟩ := key n (Nat.le_refl n)
  refine ⟨y, h1, h2, fun u hu => ?_⟩
  rw [h3, he]; simp [hu]
end Wb
set_option maxHeartbeats 1000000
namespace Wb
open Classical
section
variable {α ρ : Type} {n : Nat} {B H : E2} {fc : Nat → Nat → α} {R : ρ → Prop} {on : ρ → E2} {φ : α → ρ}
def dl (fc : Nat → Nat → α) (T : α → Bool) : E2 := fun u v => T (fc u v) ^^ T (fc v u)
theorem dl_sym (fc : Nat → Nat → α) (T : α → Bool) : Sym (dl fc T) := fun u v => by
  simp only [dl]; cases T (fc u v) <;> cases T (fc v u) <;> rfl
/-- fc u v: the face to the left of the step from u to v -/
structure Plane (n : Nat) (B : E2) (fc : Nat → Nat → α) : Prop where
  even : ∀ (T : α → Bool) (u : Nat), par (fun v => B u v && dl fc T u v) n = false
  pot : ∀ x, Flow n B x → ∃ T : α → Bool, ∀ u v, B u v = true → x u v = dl fc T u v
def Av (B : E2) (y : Nat) : E2 := fun u v => B u v && (decide (u ≠ y) && decide (v ≠ y))
theorem Av_iff {B : E2} {y u v : Nat} : Av B y u v = true ↔ B u v = true ∧ u ≠ y ∧ v ≠ y := by simp [Av]
/-- no corner parts the ties -/
def TC (B : E2) : Prop := ∀ y a b, B y a = true → B y b = true → Conn (Av B y) a b
theorem gr_av (G : Gr n B) (y : Nat) : Gr n (Av B y) := G.sub (fun u v => by
  simp only [Av, G.sym u v]; cases B v u <;> simp [Bool.and_comm]) fun u v e => (Av_iff.mp e).1
theorem tc_flow (G : Gr n B) (hT : TC B) {y a b : Nat} (ha : B y a = true) (hb : B y b = true) : ∃ z, Flow n B z ∧ ∀ v, z y v = (decide (v = a) ^^ decide (v = b)) := by
  obtain ⟨x, h1, h2, h3⟩ := (hT y a b ha hb).flow (gr_av G y)
  have hx : ∀ v, x y v = false := fun v => by
    cases e : x y v with
    | false => rfl
    | true => exact absurd rfl (Av_iff.mp (h2 y v e)).2.1
  refine ⟨xr x (xr (edge y a) (edge y b)), ⟨h1.xr ((edge_sym y a).xr (edge_sym y b)), Sub.xr (fun u v e => (Av_iff.mp (h2 u v e)).1) (Sub.xr (edge_sub G.sym ha) (edge_sub G.sym hb)), fun u => ?_⟩, fun v => ?_⟩
  · rw [dv_xr, dv_xr, h3, edge_dv (G.ne ha) (G.bnd1 ha) (G.bnd2 ha), edge_dv (G.ne hb) (G.bnd1 hb) (G.bnd2 hb)]
    cases decide (u = a) <;> cases decide (u = b) <;> cases decide (u = y) <;> rfl
  · have na := G.ne ha
    have nb := G.ne hb
    simp only [xr, hx, edge]
    simp [na, nb]
/-- where a lot of faces has no border at a corner, all ties there are in it or none -/
theorem all_at (G : Gr n B) (hT : TC B) (P : Plane n B fc) (Z : α → Bool) {y : Nat} (hZ : ∀ v, B y v = true → Z (fc y v) = Z (fc v y)) {a b : Nat} (ha : B y a = true) (hb : B y b = true) : Z (fc y a) = Z (fc y b) := by
  by_cases hab : a = b
  · rw [hab]
  obtain ⟨z, hz, hy⟩ := tc_flow G hT ha hb
  obtain ⟨T, hTz⟩ := P.pot z hz
  have h := P.even (fun f => T f && Z f) y
  have e : ∀ v, (B y v && dl fc (fun f => T f && Z f) y v) = (B y v && (Z (fc y v) && (decide (v = a) ^^ decide (v = b)))) := fun v => by
    cases eB : B y v with
    | false => rfl
    | true =>
      have h1 := hTz y v eB
      rw [hy v] at h1
      rw [h1]
      simp only [dl, ← hZ v eB]
      cases Z (fc y v) <;> simp
  rw [show (fun v => B y v && dl fc (fun f => T f && Z f) y v) = fun v => (B y v && (Z (fc y v) && (decide (v = a) ^^ decide (v = b)))) from funext e, par_two hab (G.bnd2 ha) (G.bnd2 hb)] at h
  · simp [ha, hb, hab, Ne.symm hab] at h
    rw [h]
  · intro i _ h1 h2; simp [h1, h2]
theorem all_near (G : Gr n B) (hT : TC B) (P : Plane n B fc) (hcon : ∀ u v a b, B u a = true → B v b = true → Conn B u v) (Z : α → Bool) (hZ : ∀ u v, B u v = true → Z (fc u v) = Z (fc v u)) {u v a b : Nat} (ha : B u a = true) (hb : B v b = true) : Z (fc u a) = Z (fc v b) := by
  have key : ∀ w, Conn B u w → ∀ c, B w c = true → Z (fc u a) = Z (fc w c) := fun w hw => by
    induction hw with
    | refl => exact fun c hc => all_at G hT P Z (fun v h => hZ u v h) ha hc
    | @step p q _ e ih =>
      intro c hc
      rw [ih q e, hZ p q e]
      exact all_at G hT P Z (fun v h => hZ q v h) (G.symm e) hc
  exact key v (hcon u v a b ha hb) b hb
/-- a ring, by its ties -/
structure Cyc (n : Nat) (e : E2) : Prop where
  gr : Gr n e
  deg : ∀ u a, e u a = true → ∃ b, b ≠ a ∧ e u b = true ∧ ∀ v, e u v = true → v = a ∨ v = b
  con : ∀ u v a b, e u a = true → e v b = true → Conn e u v
theorem Cyc.const {e : E2} (C : Cyc n e) {x : E2} (hs : Sym x) (hsub : Sub x e) (hev : ∀ u, dv n x u = false) {u v a b : Nat} (ha : e u a = true) (hb : e v b = true) : x u a = x v b := by
  have one : ∀ u a c, e u a = true → e u c = true → x u a = x u c := fun u a c h1 h2 => by
    obtain ⟨b, hb, eb, hall⟩ := C.deg u a h1
    have h := hev u
    unfold dv at h
    rw [par_two (Ne.symm hb) (C.gr.bnd2 h1) (C.gr.bnd2 eb)] at h
    · have hab : x u a = x u b := by
        cases e1 : x u a <;> cases e2 : x u b <;> simp [e1, e2] at h ⊢
      rcases hall c h2 with rfl | rfl
      · rfl
      · exact hab
    · intro i _ hi1 hi2
      cases e1 : x u i with
      | false => rfl
      | true => rcases hall i (hsub u i e1) with h | h
                · exact absurd h hi1
                · exact absurd h hi2
  have key : ∀ w, Conn e u w → ∀ c, e w c = true → x u a = x w c := fun w hw => by
    induction hw with
    | refl => exact fun c hc => one u a c ha hc
    | @step p q _ e' ih =>
      intro c hc
      rw [ih q e', hs p q]
      exact one q p c (C.gr.symm e') hc
  exact key v (C.con u v a b ha hb) b hb
structure Rings (n : Nat) (H : E2) (R : ρ → Prop) (on : ρ → E2) : Prop where
  cyc : ∀ r, R r → Cyc n (on r)
  iff : ∀ u v, H u v = true ↔ ∃ r, R r ∧ on r u v = true
  two : ∀ r s t u v, R r → R s → R t → on r u v = true → on s u v = true → on t u v = true → r = s ∨ r = t ∨ s = t
structure Fit (B H : E2) (R : ρ → Prop) (on : ρ → E2) (fc : Nat → Nat → α) (φ : α → ρ) : Prop where
  mem : ∀ u v, B u v = true → R (φ (fc u v))
  drawn : ∀ u v, H u v = true → on (φ (fc u v)) u v = true ∧ φ (fc u v) ≠ φ (fc v u)
  left : ∀ u v, B u v = true → H u v = false → φ (fc u v) = φ (fc v u)
/-- all that stands while a block is drawn -/
structure Stage (n : Nat) (B H : E2) (R : ρ → Prop) (on : ρ → E2) (fc : Nat → Nat → α) (φ : α → ρ) : Prop where
  g : Gr n B
  tc : TC B
  con : ∀ u v a b, B u a = true → B v b = true → Conn B u v
  p : Plane n B fc
  rg : Rings n H R on
  sub : Sub H B
  ft : Fit B H R on fc φ
variable (S : Stage n B H R on fc φ)
include S
theorem Stage.onH {F : ρ} (hF : R F) {u v : Nat} (h : on F u v = true) : H u v = true := (S.rg.iff u v).mpr ⟨F, hF, h⟩
theorem Stage.symH : Sym H := fun u v => by
  have key : ∀ u v, H u v = true → H v u = true := fun u v h => by
    obtain ⟨r, hr, h⟩ := (S.rg.iff u v).mp h
    exact (S.rg.iff v u).mpr ⟨r, hr, (S.rg.cyc r hr).gr.symm h⟩
  cases e1 : H u v with
  | true => rw [key u v e1]
  | false => cases e2 : H v u with
    | false => rfl
    | true => rw [key v u e2] at e1; cases e1
theorem Stage.side {F : ρ} (hF : R F) {u v : Nat} (h : on F u v = true) : (φ (fc u v) = F ∧ φ (fc v u) ≠ F) ∨ (φ (fc u v) ≠ F ∧ φ (fc v u) = F) := by
  have hH := S.onH hF h
  have d1 := S.ft.drawn u v hH
  have hH' : H v u = true := by rw [S.symH]; exact hH
  have d2 := S.ft.drawn v u hH'
  have m1 := S.ft.mem u v (S.sub _ _ hH)
  have m2 := S.ft.mem v u (S.sub _ _ hH')
  have o2 := (S.rg.cyc _ m2).gr.symm d2.1
  rcases S.rg.two _ _ F u v m1 m2 hF d1.1 o2 h with e | e | e
  · exact absurd e d1.2
  · exact .inl ⟨e, fun e' => d1.2 (e.trans e'.symm)⟩
  · exact .inr ⟨fun e' => d1.2 (e'.trans e.symm), e⟩
/-- off a ring's own ties no drawn tie has the ring beside it -/
theorem Stage.off {F : ρ} {u v : Nat} (hH : H u v = true) (h : on F u v = false) : φ (fc u v) ≠ F ∧ φ (fc v u) ≠ F := by
  have hH' : H v u = true := by rw [S.symH]; exact hH
  have m2 := S.ft.mem v u (S.sub _ _ hH')
  refine ⟨fun e => ?_, fun e => ?_⟩
  · have := (S.ft.drawn u v hH).1
    rw [e, h] at this; cases this
  · have := (S.rg.cyc _ m2).gr.symm (S.ft.drawn v u hH').1
    rw [e, h] at this; cases this
/-- what a potential is along a ring, inside -/
theorem Stage.ring {F : ρ} (hF : R F) (T : α → Bool) (xin y : E2) (hxs : Sym xin)
    (hx1 : ∀ u v, B u v = true → H u v = false → φ (fc u v) = F → xin u v = dl fc T u v)
    (hx2 : ∀ u v, xin u v = true → B u v = true ∧ H u v = false ∧ φ (fc u v) = F)
    (hys : Sym y) (hy : Sub y (on F)) (hd : ∀ u, dv n y u = dv n xin u) :
    ∃ c, ∀ u v, on F u v = true → φ (fc u v) = F → T (fc u v) = (y u v ^^ c) := by
  by_cases hne : ∃ u v, on F u v = true
  rotate_left
  · exact ⟨false, fun u v h => absurd ⟨u, v, h⟩ hne⟩
  obtain ⟨u0, v0, h0⟩ := hne
  let Z : α → Bool := fun f => T f && decide (φ f = F)
  let q : E2 := fun u v => B u v && dl fc Z u v
  have qs : Sym q := fun u v => by
    show (B u v && dl fc Z u v) = (B v u && dl fc Z v u)
    rw [S.g.sym u v, dl_sym fc Z u v]
  let w : E2 := xr q (xr xin y)
  have ws : Sym w := qs.xr (hxs.xr hys)
  have wsub : Sub w (on F) := fun u v e => by
    cases ho : on F u v with
    | true => rfl
    | false =>
      exfalso
      have hyf : y u v = false := by
        cases e1 : y u v with
        | false => rfl
        | true => rw [hy u v e1] at ho; cases ho
      have : (q u v ^^ xin u v) = true := by
        have e' : (q u v ^^ (xin u v ^^ y u v)) = true := e
        rw [hyf] at e'; simpa using e'
      have xf : xin u v = false ∨ (B u v = true ∧ H u v = false ∧ φ (fc u v) = F) := by
        cases e1 : xin u v with
        | false => exact .inl rfl
        | true => exact .inr (hx2 u v e1)
      cases eB : B u v with
      | false =>
        have q0 : q u v = false := by show (B u v && _) = false; rw [eB]; rfl
        rcases xf with h | h
        · rw [q0, h] at this; cases this
        · rw [eB] at h; cases h.1
      | true =>
        cases eH : H u v with
        | true =>
          have o := S.off eH ho
          have q0 : q u v = false := by
            show (B u v && ((T (fc u v) && decide (φ (fc u v) = F)) ^^ (T (fc v u) && decide (φ (fc v u) = F)))) = false
            simp [o.1, o.2]
          rcases xf with h | h
          · rw [q0, h] at this; cases this
          · rw [eH] at h; cases h.2.1
        | false =>
          have l := S.ft.left u v eB eH
          by_cases hf : φ (fc u v) = F
          · have hf2 : φ (fc v u) = F := l ▸ hf
            have q1 : q u v = dl fc T u v := by
              show (B u v && ((T (fc u v) && decide (φ (fc u v) = F)) ^^ (T (fc v u) && decide (φ (fc v u) = F)))) = _
              simp [eB, hf, hf2, dl]
            rw [q1, hx1 u v eB eH hf] at this; simp at this
          · have hf2 : ¬ φ (fc v u) = F := l ▸ hf
            have q0 : q u v = false := by
              show (B u v && ((T (fc u v) && decide (φ (fc u v) = F)) ^^ (T (fc v u) && decide (φ (fc v u) = F)))) = false
              simp [hf, hf2]
            rcases xf with h | h
            · rw [q0, h] at this; cases this
            · exact hf h.2.2
  have wev : ∀ u, dv n w u = false := fun u => by
    show dv n (xr q (xr xin y)) u = false
    rw [dv_xr, dv_xr, hd u]
    have : dv n q u = false := S.p.even Z u
    rw [this]; simp
  refine ⟨w u0 v0, fun u v ho hf => ?_⟩
  have e := (S.rg.cyc F hF).const ws wsub wev h0 ho
  have hH := S.onH hF ho
  have hf2 : φ (fc v u) ≠ F := by
    rcases S.side hF ho with h | h
    · exact h.2
    · exact absurd hf h.1
  have q1 : q u v = T (fc u v) := by
    show (B u v && ((T (fc u v) && decide (φ (fc u v) = F)) ^^ (T (fc v u) && decide (φ (fc v u) = F)))) = _
    simp [S.sub _ _ hH, hf, hf2]
  have x0 : xin u v = false := by
    cases e1 : xin u v with
    | false => rfl
    | true => have := (hx2 u v e1).2.1; rw [hH] at this; cases this
  rw [e]
  show T (fc u v) = (y u v ^^ (q u v ^^ (xin u v ^^ y u v)))
  rw [q1, x0]
  cases y u v <;> simp
/-- round a corner that is not drawn all belongs to one ring -/
theorem Stage.und {y a b : Nat} (hu : ∀ v, H y v = false) (ha : B y a = true) (hb : B y b = true) : φ (fc y a) = φ (fc y b) := by
  have h := all_at S.g S.tc S.p (fun f => decide (φ f = φ (fc y a))) (y := y) (fun v hv => by rw [S.ft.left y v hv (hu v)]) ha hb
  simp at h
  exact h.symm
/-- where a tie that is left touches a drawn corner, this lies on the tie's ring -/
theorem Stage.touch {c p q : Nat} (hp : B c p = true) (hl : H c p = false) (hh : H c q = true) : ∃ v, on (φ (fc c p)) c v = true := by
  refine Classical.byContradiction fun hno => ?_
  have hno : ∀ v, on (φ (fc c p)) c v = false := fun v => by
    cases e : on (φ (fc c p)) c v with
    | false => rfl
    | true => exact absurd ⟨v, e⟩ hno
  have h := all_at S.g S.tc S.p (fun f => decide (φ f = φ (fc c p))) (y := c) (fun v hv => by
    cases eH : H c v with
    | true => have o := S.off eH (hno v); simp [o.1, o.2]
    | false => rw [S.ft.left c v hv eH]) hp (S.sub _ _ hh)
  have o := S.off hh (hno q)
  simp [o.1] at h
/-- the faces of one ring hang together over ties that are left -/
theorem Stage.inner {F : ρ} (hF : R F) (hne : ∃ u v, on F u v = true) (T : α → Bool) (hT : ∀ u v, B u v = true → H u v = false → φ (fc u v) = F → T (fc u v) = T (fc v u)) :
    ∃ c, ∀ u v, B u v = true → φ (fc u v) = F → T (fc u v) = c := by
  obtain ⟨c, hc⟩ := S.ring hF T (fun _ _ => false) (fun _ _ => false) (fun _ _ => rfl) (fun u v h1 h2 h3 => by rw [dl, hT u v h1 h2 h3]; simp) (fun _ _ e => by cases e) (fun _ _ => rfl) (fun _ _ e => by cases e) (fun _ => rfl)
  refine ⟨c, fun u v hB hf => ?_⟩
  have hc : ∀ u v, on F u v = true → φ (fc u v) = F → T (fc u v) = c := fun u v h1 h2 => by rw [hc u v h1 h2]; simp
  refine Classical.byContradiction fun hno => ?_
  obtain ⟨u0, v0, h0⟩ := hne
  have key : ∀ u v a b, B u a = true → B v b = true → decide (φ (fc u a) = F ∧ T (fc u a) ≠ c) = decide (φ (fc v b) = F ∧ T (fc v b) ≠ c) := fun u v a b ha hb => all_near S.g S.tc S.p S.con (fun f => decide (φ f = F ∧ T f ≠ c)) (fun u v hB => by
    cases eH : H u v with
    | false =>
      have l := S.ft.left u v hB eH
      by_cases hf : φ (fc u v) = F
      · have hf2 : φ (fc v u) = F := l ▸ hf
        simp [hf, hf2, hT u v hB eH hf]
      · have hf2 : ¬ φ (fc v u) = F := l ▸ hf
        simp [hf, hf2]
    | true =>
      have z : ∀ u v, H u v = true → ¬ (φ (fc u v) = F ∧ T (fc u v) ≠ c) := fun u v eH h => by
        cases ho : on F u v with
        | true => exact h.2 (hc u v ho h.1)
        | false => exact (S.off eH ho).1 h.1
      have e1 := z u v eH
      have e2 := z v u (by rw [S.symH]; exact eH)
      simp [e1, e2]) ha hb
  have hH0 := S.onH hF h0
  have k1 := key _ _ _ _ hB (S.sub _ _ hH0)
  have z0 : ¬ (φ (fc u0 v0) = F ∧ T (fc u0 v0) ≠ c) := fun h => h.2 (hc u0 v0 h0 h.1)
  simp [hf, hno] at k1
  exact z0 ⟨k1.1, k1.2⟩
/-- a way put into its own ring -/
theorem Stage.put {F F1 F2 : ρ} (hF : R F) (n1 : ¬ R F1) (n2 : ¬ R F2) (n12 : F1 ≠ F2) {W y : E2} (hWs : Sym W) (hW : ∀ u v, W u v = true → B u v = true ∧ H u v = false ∧ φ (fc u v) = F)
    (hys : Sym y) (hy : Sub y (on F)) (hd : ∀ u, dv n y u = dv n W u)
    (o1 : ∀ u v, on F1 u v = ((on F u v && y u v) || W u v)) (o2 : ∀ u v, on F2 u v = ((on F u v && !y u v) || W u v)) :
    ∃ φ' : α → ρ, Fit B (fun u v => H u v || W u v) (fun r => (R r ∧ r ≠ F) ∨ r = F1 ∨ r = F2) on fc φ' := by
  have flow : Flow n B (xr W y) := ⟨hWs.xr hys, Sub.xr (fun u v e => (hW u v e).1) (fun u v e => S.sub _ _ (S.onH hF (hy u v e))), fun u => by rw [dv_xr, hd]; simp⟩
  obtain ⟨T, hT⟩ := S.p.pot _ flow
  have yH : ∀ u v, H u v = false → y u v = false := fun u v h => by
    cases e : y u v with
    | false => rfl
    | true => rw [S.onH hF (hy u v e)] at h; cases h
  have hTW : ∀ u v, B u v = true → H u v = false → W u v = dl fc T u v := fun u v h1 h2 => by
    rw [← hT u v h1]; simp [xr, yH u v h2]
  obtain ⟨c, hc⟩ := S.ring hF T W y hWs (fun u v h1 h2 _ => hTW u v h1 h2) hW hys hy hd
  refine ⟨fun f => if φ f = F then (if (T f ^^ c) = true then F1 else F2) else φ f, ?_, ?_, ?_⟩
  · intro u v hB
    show (R (if _ then _ else _) ∧ _) ∨ _
    by_cases hf : φ (fc u v) = F
    · right
      simp only [hf, if_true]
      by_cases h : (T (fc u v) ^^ c) = true
      · simp [h]
      · simp [h]
    · left
      simp only [hf, if_false]
      exact ⟨S.ft.mem u v hB, hf⟩
  · intro u v h
    cases eH : H u v with
    | true =>
      have hvu : H v u = true := by rw [S.symH]; exact eH
      have m1 := S.ft.mem u v (S.sub _ _ eH)
      have m2 := S.ft.mem v u (S.sub _ _ hvu)
      have d := S.ft.drawn u v eH
      by_cases hf : φ (fc u v) = F
      · have hf2 : ¬ φ (fc v u) = F := fun e => d.2 (hf.trans e.symm)
        have ho : on F u v = true := hf ▸ d.1
        have ht := hc u v ho hf
        simp only [hf, hf2, if_true, if_false]
        have ht' : (T (fc u v) ^^ c) = y u v := by rw [ht]; simp
        rw [ht']
        cases ey : y u v with
        | true =>
          simp only [if_true]
          refine ⟨by rw [o1]; simp [ho, ey], fun e => n1 (e ▸ m2)⟩
        | false =>
          simp
          refine ⟨by rw [o2]; simp [ho, ey], fun e => n2 (e ▸ m2)⟩
      · simp only [hf, if_false]
        refine ⟨d.1, ?_⟩
        by_cases hf2 : φ (fc v u) = F
        · simp only [hf2, if_true]
          by_cases h : (T (fc v u) ^^ c) = true
          · rw [if_pos h]; exact fun e => n1 (e ▸ m1)
          · rw [if_neg h]; exact fun e => n2 (e ▸ m1)
        · simp only [hf2, if_false]; exact d.2
    | false =>
      have eW : W u v = true := by simpa [eH] using h
      obtain ⟨hB, _, hf⟩ := hW u v eW
      have hf2 : φ (fc v u) = F := (S.ft.left u v hB eH) ▸ hf
      have ht := hTW u v hB eH
      rw [eW] at ht
      simp only [hf, hf2, if_true]
      have : T (fc v u) = !T (fc u v) := by
        simp only [dl] at ht
        cases e1 : T (fc u v) <;> cases e2 : T (fc v u) <;> simp [e1, e2] at ht ⊢
      rw [this]
      cases e : (T (fc u v) ^^ c) with
      | true =>
        have e' : ((!T (fc u v)) ^^ c) = false := by
          cases h1 : T (fc u v) <;> cases h2 : c <;> simp [h1, h2] at e ⊢
        rw [e']; simp only [if_true]; simp
        exact ⟨by rw [o1]; simp [eW], n12⟩
      | false =>
        have e' : ((!T (fc u v)) ^^ c) = true := by
          cases h1 : T (fc u v) <;> cases h2 : c <;> simp [h1, h2] at e ⊢
        rw [e']; simp
        exact ⟨by rw [o2]; simp [eW], fun e => n12 e.symm⟩
  · intro u v hB h
    have eH : H u v = false := by cases e : H u v <;> simp [e] at h ⊢
    have eW : W u v = false := by cases e : W u v <;> simp [eH, e] at h ⊢
    have l := S.ft.left u v hB eH
    have ht := hTW u v hB eH
    rw [eW] at ht
    have te : T (fc u v) = T (fc v u) := by
      simp only [dl] at ht
      cases e1 : T (fc u v) <;> cases e2 : T (fc v u) <;> simp [e1, e2] at ht ⊢
    simp only [l, te]
end
end Wb
set_option maxHeartbeats 1000000
namespace Wb
open Classical
/-- the piece of a tie that is left -/
inductive SameP (B H : E2) (u v : Nat) : Nat → Nat → Prop where
  | refl : SameP B H u v u v
  | turn {a b : Nat} : SameP B H u v a b → SameP B H u v b a
  | next {a b c : Nat} : SameP B H u v a b → (∀ w, H b w = false) → B b c = true → SameP B H u v b c
section
variable {α ρ : Type} {n : Nat} {B H : E2} {fc : Nat → Nat → α} {R : ρ → Prop} {on : ρ → E2} {φ : α → ρ}
theorem SameP.trans {u v a b c d : Nat} (h : SameP B H u v a b) (g : SameP B H a b c d) : SameP B H u v c d := by
  induction g with
  | refl => exact h
  | turn _ ih => exact ih.turn
  | next _ hu e ih => exact ih.next hu e
theorem SameP.is (hs : Sym B) (hsH : Sym H) {u v a b : Nat} (h : SameP B H u v a b) (h1 : B u v = true) (h2 : H u v = false) : B a b = true ∧ H a b = false := by
  induction h with
  | refl => exact ⟨h1, h2⟩
  | turn _ ih => exact ⟨by rw [hs]; exact ih.1, by rw [hsH]; exact ih.2⟩
  | next _ hu e ih => exact ⟨e, hu _⟩
theorem SameP.symm (hs : Sym B) (hsH : Sym H) {u v a b : Nat} (h : SameP B H u v a b) (h1 : B u v = true) (h2 : H u v = false) : SameP B H a b u v := by
  induction h with
  | refl => exact .refl
  | turn _ ih => exact SameP.trans (SameP.refl.turn) ih
  | @next a b c g hu e ih =>
    have h := g.is hs hsH h1 h2
    exact SameP.trans (SameP.turn (SameP.next (SameP.turn .refl) hu (by rw [hs]; exact h.1))) ih
def vx (e : E2) (c : Nat) : Prop := ∃ v, e c v = true
/-- a piece touches two drawn corners -/
theorem two_contacts (hs : Sym B) (hsH : Sym H) (g : Gr n B) (tc : TC B) (hsub : Sub H B) (con : ∀ u v a b, B u a = true → B v b = true → Conn B u v) (hne : ∃ u v, H u v = true) {u v : Nat} (h1 : B u v = true) (h2 : H u v = false) :
    ∃ p d q e p' q', p ≠ q ∧ SameP B H u v p d ∧ SameP B H u v q e ∧ H p p' = true ∧ H q q' = true := by
  obtain ⟨x0, y0, hxy⟩ := hne
  -- one contact
  have one : ∃ p d p', SameP B H u v p d ∧ H p p' = true := by
    have key : ∀ w, Conn B u w → (∃ p d p', SameP B H u v p d ∧ H p p' = true) ∨ ((∀ z, H w z = false) ∧ ∃ d, SameP B H u v w d) := fun w hw => by
      induction hw with
      | refl =>
        by_cases h : ∃ p', H u p' = true
        · obtain ⟨p', h⟩ := h; exact .inl ⟨u, v, p', .refl, h⟩
        · exact .inr ⟨fun z => (by cases e : H u z with
            | false => rfl
            | true => exact absurd ⟨z, e⟩ h), v, .refl⟩
      | @step b c _ e ih =>
        rcases ih with ih | ⟨ih, d, hd⟩
        · exact .inl ih
        · have hs' : SameP B H u v c b := (SameP.next hd.turn ih e).turn
          by_cases h : ∃ p', H c p' = true
          · obtain ⟨p', h⟩ := h; exact .inl ⟨c, b, p', hs', h⟩
          · exact .inr ⟨fun z => (by cases e : H c z with
              | false => rfl
              | true => exact absurd ⟨z, e⟩ h), b, hs'⟩
    rcases key x0 (con u x0 v y0 h1 (hsub _ _ hxy)) with h | ⟨h, _⟩
    · exact h
    · rw [h y0] at hxy; cases hxy
  obtain ⟨p, d, p', hp, hp'⟩ := one
  have hd := hp.is hs hsH h1 h2
  -- walk from d without p to p'
  have key : ∀ w, Conn (Av B p) d w → (∃ q e q', p ≠ q ∧ SameP B H u v q e ∧ H q q' = true) ∨ ((∀ z, H w z = false) ∧ ∃ d, SameP B H u v w d) := fun w hw => by
    induction hw with
    | refl =>
      by_cases h : ∃ z, H d z = true
      · obtain ⟨z, h⟩ := h; exact .inl ⟨d, p, z, g.ne hd.1, hp.turn, h⟩
      · exact .inr ⟨fun z => (by cases e : H d z with
          | false => rfl
          | true => exact absurd ⟨z, e⟩ h), p, hp.turn⟩
    | @step b c _ e ih =>
      rcases ih with ih | ⟨ih, d, hd⟩
      · exact .inl ih
      · obtain ⟨e, _, e3⟩ := Av_iff.mp e
        have hs' : SameP B H u v c b := (SameP.next hd.turn ih e).turn
        by_cases h : ∃ p', H c p' = true
        · obtain ⟨p', h⟩ := h; exact .inl ⟨c, b, p', Ne.symm e3, hs', h⟩
        · exact .inr ⟨fun z => (by cases e : H c z with
            | false => rfl
            | true => exact absurd ⟨z, e⟩ h), b, hs'⟩
  rcases key p' (tc p d p' hd.1 (hsub _ _ hp')) with ⟨q, e, q', h, h', h''⟩ | ⟨h, _⟩
  · exact ⟨p, d, q, e, p', q', h, hp, h', hp', h''⟩
  · rw [hsH, h p] at hp'; cases hp'
variable (S : Stage n B H R on fc φ)
include S
theorem Stage.same {u v a b : Nat} (h : SameP B H u v a b) (h1 : B u v = true) (h2 : H u v = false) : φ (fc a b) = φ (fc u v) := by
  induction h with
  | refl => rfl
  | @turn a b g ih =>
    have h := g.is S.g.sym S.symH h1 h2
    rw [← ih]; exact (S.ft.left a b h.1 h.2).symm
  | @next a b c g hu e ih =>
    have h := g.is S.g.sym S.symH h1 h2
    rw [← ih, S.ft.left a b h.1 h.2]
    exact S.und hu e (S.g.symm h.1)
theorem Stage.contact {u v c d q : Nat} (h : SameP B H u v c d) (h1 : B u v = true) (h2 : H u v = false) (hq : H c q = true) : vx (on (φ (fc u v))) c := by
  have h' := h.is S.g.sym S.symH h1 h2
  rw [← S.same h h1 h2]
  exact S.touch h'.1 h'.2 hq
/-- at a ring's corner where no tie changes a potential it is one, inside -/
theorem Stage.atp {F : ρ} (hF : R F) (T : α → Bool) {p : Nat} (hp : vx (on F) p) (h0 : ∀ v, B p v = true → H p v = false → φ (fc p v) = F → T (fc p v) = T (fc v p)) :
    ∃ τ, ∀ v, B p v = true → (φ (fc p v) = F → T (fc p v) = τ) ∧ (φ (fc v p) = F → T (fc v p) = τ) := by
  obtain ⟨a, ha⟩ := hp
  obtain ⟨b, hab, hb, hall⟩ := (S.rg.cyc F hF).deg p a ha
  let inn : Nat → Bool := fun v => if φ (fc p v) = F then T (fc p v) else T (fc v p)
  have hev := S.p.even (fun f => T f && decide (φ f = F)) p
  have e : ∀ v, (B p v && dl fc (fun f => T f && decide (φ f = F)) p v) = (on F p v && inn v) := fun v => by
    cases ho : on F p v with
    | true =>
      have hH := S.onH hF ho
      simp only [dl, inn, S.sub _ _ hH, Bool.true_and]
      rcases S.side hF ho with ⟨h1, h2⟩ | ⟨h1, h2⟩ <;> simp [h1, h2]
    | false =>
      cases eB : B p v with
      | false => rfl
      | true =>
        cases eH : H p v with
        | true =>
          have o := S.off eH ho
          simp [dl, o.1, o.2]
        | false =>
          have l := S.ft.left p v eB eH
          by_cases hf : φ (fc p v) = F
          · have hf2 : φ (fc v p) = F := l ▸ hf
            simp [dl, hf, hf2, h0 v eB eH hf]
          · have hf2 : ¬ φ (fc v p) = F := l ▸ hf
            simp [dl, hf, hf2]
  rw [show (fun v => B p v && dl fc (fun f => T f && decide (φ f = F)) p v) = fun v => (on F p v && inn v) from funext e,
    par_two (Ne.symm hab) (S.g.bnd2 (S.sub _ _ (S.onH hF ha))) (S.g.bnd2 (S.sub _ _ (S.onH hF hb)))] at hev
  rotate_left
  · intro i _ h1 h2
    cases ho : on F p i with
    | false => rfl
    | true => rcases hall i ho with h | h
              · exact absurd h h1
              · exact absurd h h2
  have hinn : inn a = inn b := by
    rw [ha, hb] at hev
    cases e1 : inn a <;> cases e2 : inn b <;> simp [e1, e2] at hev ⊢
  let Y : α → Bool := fun f => decide (φ f = F ∧ T f ≠ inn a)
  have hside : ∀ v, on F p v = true → Y (fc p v) = false ∧ Y (fc v p) = false := fun v ho => by
    have hv : inn v = inn a := by
      rcases hall v ho with rfl | rfl
      · rfl
      · exact hinn.symm
    rcases S.side hF ho with ⟨h1, h2⟩ | ⟨h1, h2⟩
    · have : T (fc p v) = inn a := by rw [← hv]; simp [inn, h1]
      simp [Y, h1, h2, this]
    · have : T (fc v p) = inn a := by rw [← hv]; simp [inn, h1]
      simp [Y, h1, h2, this]
  have closed : ∀ v, B p v = true → Y (fc p v) = Y (fc v p) := fun v eB => by
    cases ho : on F p v with
    | true => rw [(hside v ho).1, (hside v ho).2]
    | false =>
      cases eH : H p v with
      | true =>
        have o := S.off eH ho
        simp [Y, o.1, o.2]
      | false =>
        have l := S.ft.left p v eB eH
        by_cases hf : φ (fc p v) = F
        · have hf2 : φ (fc v p) = F := l ▸ hf
          simp [Y, hf, hf2, h0 v eB eH hf]
        · have hf2 : ¬ φ (fc v p) = F := l ▸ hf
          simp [Y, hf, hf2]
  refine ⟨inn a, fun v eB => ?_⟩
  have k1 : Y (fc p v) = false := by
    rw [all_at S.g S.tc S.p Y closed eB (S.sub _ _ (S.onH hF ha))]; exact (hside a ha).1
  have k2 : Y (fc v p) = false := by rw [← closed v eB]; exact k1
  simp [Y] at k1 k2
  exact ⟨k1, k2⟩
end
end Wb
set_option maxHeartbeats 1000000
namespace Wb
open Classical
section
variable {α ρ : Type} {n : Nat} {B H : E2} {fc : Nat → Nat → α} {R : ρ → Prop} {on : ρ → E2} {φ : α → ρ}
/-- each piece may go into a further ring -/
def Free (B H : E2) (R : ρ → Prop) (on : ρ → E2) (fc : Nat → Nat → α) (φ : α → ρ) : Prop :=
  ∀ u v, B u v = true → H u v = false → ∃ G, R G ∧ G ≠ φ (fc u v) ∧ ∀ c d h, SameP B H u v c d → H c h = true → vx (on G) c
/-- ties of F's and F''s pieces that may go into both -/
structure Dd (B H : E2) (on : ρ → E2) (fc : Nat → Nat → α) (φ : α → ρ) (F F' : ρ) (u v : Nat) : Prop where
  b : B u v = true
  l : H u v = false
  f : φ (fc u v) = F ∨ φ (fc u v) = F'
  c : ∀ c d h, SameP B H u v c d → H c h = true → vx (on F) c ∧ vx (on F') c
/-- a lot of faces of F that holds all of both rings' corners and all of these pieces -/
structure Reg (B H : E2) (on : ρ → E2) (fc : Nat → Nat → α) (φ : α → ρ) (F F' : ρ) (K : Nat → Nat → Prop) (Ω : α → Prop) : Prop where
  kl : ∀ u v, K u v → B u v = true ∧ H u v = false
  kp : ∀ u v c d, K u v → SameP B H u v c d → K c d
  kd : ∀ u v, Dd B H on fc φ F F' u v → K u v
  r0 : ∀ f, Ω f → φ f = F
  r1 : ∀ u v, K u v → (Ω (fc u v) ↔ Ω (fc v u))
  r2 : ∀ T : α → Bool, (∀ u v, K u v → Ω (fc u v) → T (fc u v) = T (fc v u)) → ∀ u v a b, B u v = true → B a b = true → Ω (fc u v) → Ω (fc a b) → T (fc u v) = T (fc a b)
  r3 : ∀ x, vx (on F) x → vx (on F') x → ∃ a, B x a = true ∧ (Ω (fc x a) ∨ Ω (fc a x))
  r4 : ∀ u v, Dd B H on fc φ F F' u v → φ (fc u v) = F → Ω (fc u v)
/-- faces joined over ties of K' within Ω -/
inductive Cl (fc : Nat → Nat → α) (K' : Nat → Nat → Prop) (Ω : α → Prop) (h : α) : α → Prop where
  | refl : Cl fc K' Ω h h
  | step {u v : Nat} : Cl fc K' Ω h (fc u v) → K' u v → Ω (fc u v) → Cl fc K' Ω h (fc v u)
variable (S : Stage n B H R on fc φ)
include S
theorem Stage.symL (u v : Nat) (h : H u v = false) : H v u = false := by rw [S.symH]; exact h
theorem Stage.dd_same {F F' : ρ} {u v a b : Nat} (h : Dd B H on fc φ F F' u v) (g : SameP B H u v a b) : Dd B H on fc φ F F' a b := by
  have h' := g.is S.g.sym S.symH h.b h.l
  refine ⟨h'.1, h'.2, ?_, fun c d q g' hq => h.c c d q (g.trans g') hq⟩
  rw [S.same g h.b h.l]; exact h.f
/-- a lot of faces without border at a corner, one side in, one out: no -/
theorem Stage.clash (Z : α → Prop) {y : Nat} (hZ : ∀ v, B y v = true → (Z (fc y v) ↔ Z (fc v y))) {a b : Nat} (ha : B y a = true) (hb : B y b = true) (h1 : Z (fc y a) ∨ Z (fc a y)) : Z (fc y b) ∧ Z (fc b y) := by
  have h := all_at S.g S.tc S.p (fun f => decide (Z f)) (y := y) (fun v hv => by simp [hZ v hv]) ha hb
  have h1 : Z (fc y a) := h1.elim id (hZ a ha).mpr
  have : Z (fc y b) := by simp [h1] at h; exact h
  exact ⟨this, (hZ b hb).mp this⟩
theorem Stage.reg_piece {F F' : ρ} {K : Nat → Nat → Prop} {Ω : α → Prop} (G : Reg B H on fc φ F F' K Ω) {u v a b : Nat} (hk : K u v) (h : SameP B H u v a b) : Ω (fc a b) ↔ Ω (fc u v) := by
  induction h with
  | refl => exact Iff.rfl
  | @turn a b g ih => exact (G.r1 a b (G.kp _ _ _ _ hk g)).symm.trans ih
  | @next a b c g hu e ih =>
    have hab := G.kp _ _ _ _ hk g
    have hB := G.kl a b hab
    have cl : ∀ w, B b w = true → (Ω (fc b w) ↔ Ω (fc w b)) := fun w hw => G.r1 b w (G.kp _ _ _ _ hk (g.next hu hw))
    constructor
    · intro h
      exact ih.mp (S.clash Ω cl e (S.g.symm hB.1) (.inl h)).2
    · intro h
      exact (S.clash Ω cl (S.g.symm hB.1) e (.inr (ih.mpr h))).1
/-- a Bool function of faces that no tie of a piece changes is one over the piece -/
theorem Stage.piece_const (T : α → Bool) {u v a b : Nat} (h1 : B u v = true) (h2 : H u v = false) (hT : ∀ c d, SameP B H u v c d → T (fc c d) = T (fc d c)) (h : SameP B H u v a b) : T (fc a b) = T (fc u v) := by
  induction h with
  | refl => rfl
  | @turn a b g ih => rw [← hT a b g]; exact ih
  | @next a b c g hu e ih =>
    have hB := g.is S.g.sym S.symH h1 h2
    rw [← ih, hT a b g]
    exact all_at S.g S.tc S.p T (fun w hw => hT b w (g.next hu hw)) e (S.g.symm hB.1)
theorem gr_on {F : ρ} (hF : R F) : Gr n (on F) := (S.rg.cyc F hF).gr
/-- what a piece's flow leaves at drawn corners of a ring goes along the ring -/
theorem Stage.along {F : ρ} (hF : R F) {w : E2} (hw : Sym w) (hwB : Sub w B) (hv : ∀ u, dv n w u = true → vx (on F) u) : ∃ y, Sym y ∧ Sub y (on F) ∧ ∀ u, dv n y u = dv n w u := by
  have tot : par (dv n w) n = false := par_hands hw (fun u => by
    cases e : w u u with
    | false => rfl
    | true => have := hwB u u e; rw [S.g.irr] at this; cases this) n
  by_cases h : ∃ p, vx (on F) p
  · obtain ⟨p, a, ha⟩ := h
    obtain ⟨y, h1, h2, h3⟩ := pair_flow (gr_on S hF) (b := p) (dv n w) (fun v _ hv' => by
      obtain ⟨b, hb⟩ := hv v hv'
      exact (S.rg.cyc F hF).con p v a b ha hb) tot
    refine ⟨y, h1, h2, fun u => ?_⟩
    by_cases hu : u < n
    · exact h3 u hu
    · have z : ∀ x : E2, Sub x B → dv n x u = false := fun x hx => par_zero fun i _ => by
        cases e : x u i with
        | false => rfl
        | true => exact absurd (S.g.bnd1 (hx u i e)) hu
      rw [z y (fun a b e => S.sub _ _ (S.onH hF (h2 a b e))), z w hwB]
  · refine ⟨fun _ _ => false, fun _ _ => rfl, fun _ _ e => (by cases e), fun u => ?_⟩
    rw [zero_dv]
    cases e : dv n w u with
    | false => rfl
    | true => exact absurd ⟨u, hv u e⟩ h
end
end Wb
set_option maxHeartbeats 2000000
namespace Wb
open Classical
section
variable {α ρ : Type} {n : Nat} {B H : E2} {fc : Nat → Nat → α} {R : ρ → Prop} {on : ρ → E2} {φ : α → ρ}
theorem chord {p v h q c d : Nat} (hp : H p h = true) (hv : H v q = true) (g : SameP B H p v c d) : (c = p ∧ d = v) ∨ (c = v ∧ d = p) := by
  induction g with
  | refl => exact .inl ⟨rfl, rfl⟩
  | turn _ ih => exact ih.elim (fun h => .inr ⟨h.2, h.1⟩) (fun h => .inl ⟨h.2, h.1⟩)
  | @next a b c _ hu _ ih =>
    rcases ih with ⟨_, rfl⟩ | ⟨_, rfl⟩
    · rw [hu] at hv; cases hv
    · rw [hu] at hp; cases hp
theorem xor_eq {a b c : Bool} (h : c = (a ^^ b)) : (c = false → a = b) ∧ (a = b → c = false) := by
  cases a <;> cases b <;> cases c <;> simp at h ⊢
variable (S : Stage n B H R on fc φ)
include S
theorem Stage.reg_step {F F' : ρ} (hF : R F) (hF' : R F') (hFF : F ≠ F') (hne : ∃ u v, H u v = true) (hfree : Free B H R on fc φ) {K : Nat → Nat → Prop} {Ω : α → Prop}
    (G : Reg B H on fc φ F F' K Ω) {a b : Nat} (hab : K a b) (hf : φ (fc a b) = F) (hnd : ¬ Dd B H on fc φ F F' a b) :
    ∃ Ω', Reg B H on fc φ F F' (fun u v => K u v ∧ ¬ SameP B H a b u v) Ω' := by
  obtain ⟨hB, hl⟩ := G.kl a b hab
  have hsB := S.g.sym
  have hsH := S.symH
  have kl' : ∀ u v, (K u v ∧ ¬ SameP B H a b u v) → B u v = true ∧ H u v = false := fun u v h => G.kl u v h.1
  have kp' : ∀ u v c d, (K u v ∧ ¬ SameP B H a b u v) → SameP B H u v c d → (K c d ∧ ¬ SameP B H a b c d) := fun u v c d h g => by
    have h' := G.kl u v h.1
    exact ⟨G.kp _ _ _ _ h.1 g, fun g' => h.2 (g'.trans (g.symm hsB hsH h'.1 h'.2))⟩
  have kd' : ∀ u v, Dd B H on fc φ F F' u v → (K u v ∧ ¬ SameP B H a b u v) := fun u v h => ⟨G.kd u v h, fun g => hnd (S.dd_same h (g.symm hsB hsH hB hl))⟩
  by_cases hΩ : Ω (fc a b)
  rotate_left
  · refine ⟨Ω, kl', kp', kd', G.r0, fun u v h => G.r1 u v h.1, fun T hT u v c d h1 h2 h3 h4 => G.r2 T (fun u v hk ho => ?_) u v c d h1 h2 h3 h4, G.r3, G.r4⟩
    by_cases g : SameP B H a b u v
    · exact absurd ((S.reg_piece G hab g).mp ho) hΩ
    · exact hT u v ⟨hk, g⟩ ho
  obtain ⟨E, hE, hEne, hEc⟩ := hfree a b hB hl
  have hEF : E ≠ F := by rw [← hf]; exact hEne
  have hEF' : E ≠ F' := fun e => hnd ⟨hB, hl, .inl hf, fun c d q g hq => ⟨hf ▸ S.contact g hB hl hq, e ▸ hEc c d q g hq⟩⟩
  let Q : Nat → Nat → Prop := fun u v => SameP B H a b u v
  let K' : Nat → Nat → Prop := fun u v => K u v ∧ ¬ SameP B H a b u v
  have Qis : ∀ u v, Q u v → B u v = true ∧ H u v = false := fun u v g => SameP.is hsB hsH g hB hl
  have Qin : ∀ u v, Q u v → Ω (fc u v) := fun u v g => (S.reg_piece G hab g).mpr hΩ
  let T0 : α → α → Bool := fun h f => decide (Cl fc K' Ω h f)
  have T0K : ∀ h u v, K' u v → Ω (fc u v) → T0 h (fc u v) = T0 h (fc v u) := fun h u v hk ho => by
    have hk2 : K' v u := kp' u v v u hk (SameP.turn .refl)
    have ho2 : Ω (fc v u) := (G.r1 u v hk.1).mp ho
    have : Cl fc K' Ω h (fc u v) ↔ Cl fc K' Ω h (fc v u) := ⟨fun c => c.step hk ho, fun c => c.step hk2 ho2⟩
    simp only [T0, this]
  let x : α → E2 := fun h u v => decide (Q u v) && dl fc (T0 h) u v
  have xs : ∀ h, Sym (x h) := fun h u v => by
    have : Q u v ↔ Q v u := ⟨SameP.turn, SameP.turn⟩
    simp only [x, this, dl_sym fc (T0 h) u v]
  have xQ : ∀ h u v, x h u v = true → Q u v := fun h u v e => by
    simp only [x, Bool.and_eq_true, decide_eq_true_eq] at e; exact e.1
  have xB : ∀ h, Sub (x h) B := fun h u v e => (Qis u v (xQ h u v e)).1
  -- where a flow of Q's does not close, there Q touches
  have some_of : ∀ (w : E2) u, dv n w u = true → ∃ v, w u v = true := fun w u e => Classical.byContradiction fun hno => by
    have : dv n w u = false := par_zero fun i _ => by
      cases e : w u i with
      | false => rfl
      | true => exact absurd ⟨i, e⟩ hno
    rw [this] at e; cases e
  have xund : ∀ h u, (∀ w, H u w = false) → dv n (x h) u = false := fun h u hu => by
    by_cases hq : ∃ d, Q u d
    · obtain ⟨d, hd⟩ := hq
      have : ∀ i, x h u i = (B u i && dl fc (T0 h) u i) := fun i => by
        cases eB : B u i with
        | false =>
          cases e : x h u i with
          | false => rfl
          | true => rw [xB h u i e] at eB; cases eB
        | true =>
          have : Q u i := SameP.next hd.turn hu eB
          simp only [x, this, decide_true]
      unfold dv
      rw [show x h u = fun i => (B u i && dl fc (T0 h) u i) from funext this]
      exact S.p.even (T0 h) u
    · exact par_zero fun i _ => by
        cases e : x h u i with
        | false => rfl
        | true => exact absurd ⟨i, xQ h u i e⟩ hq
  have drawn_of : ∀ u, ¬ (∀ w, H u w = false) → ∃ q, H u q = true := fun u hn => Classical.byContradiction fun hno => hn fun w => by
    cases e : H u w with
    | false => rfl
    | true => exact absurd ⟨w, e⟩ hno
  have xtouch : ∀ h u, dv n (x h) u = true → ∃ d q, Q u d ∧ H u q = true := fun h u e => by
    obtain ⟨d, hd⟩ := some_of _ u e
    obtain ⟨q, hq⟩ := drawn_of u fun hu => by rw [xund h u hu] at e; cases e
    exact ⟨d, q, xQ h u d hd, hq⟩
  -- the potentials
  have hpot : ∀ h, ∃ T : α → Bool, ∀ u v, B u v = true → on E u v = false → x h u v = dl fc T u v := fun h => by
    obtain ⟨y, y1, y2, y3⟩ := S.along hE (xs h) (xB h) fun u e => by
      obtain ⟨d, q, h1, h2⟩ := xtouch h u e
      exact hEc u d q h1 h2
    obtain ⟨T, hT⟩ := S.p.pot (xr (x h) y) ⟨(xs h).xr y1, Sub.xr (xB h) fun u v e => S.sub _ _ (S.onH hE (y2 u v e)), fun u => by rw [dv_xr, y3]; simp⟩
    refine ⟨T, fun u v e1 e2 => ?_⟩
    rw [← hT u v e1]
    have : y u v = false := by
      cases e : y u v with
      | false => rfl
      | true => rw [y2 u v e] at e2; cases e2
    simp [xr, this]
  obtain ⟨T, hT⟩ := Classical.skolem.mp hpot
  have offE : ∀ u v, H u v = false → on E u v = false := fun u v e => by
    cases e' : on E u v with
    | false => rfl
    | true => rw [S.onH hE e'] at e; cases e
  have hTn : ∀ h u v, B u v = true → on E u v = false → ¬ Q u v → T h (fc u v) = T h (fc v u) := fun h u v e1 e2 e3 => by
    have := hT h u v e1 e2
    have z : x h u v = false := by
      cases e : x h u v with
      | false => rfl
      | true => exact absurd (xQ h u v e) e3
    rw [z] at this
    exact (xor_eq this).1 rfl
  have hTK : ∀ h u v, K' u v → T h (fc u v) = T h (fc v u) := fun h u v hk => by
    have h' := kl' u v hk
    exact hTn h u v h'.1 (offE u v h'.2) hk.2
  have hcp : ∀ h, ∃ c, ∀ u v, on F' u v = true → φ (fc u v) = F' → T h (fc u v) = c := fun h => by
    obtain ⟨c, hc⟩ := S.ring hF' (T h) (fun _ _ => false) (fun _ _ => false) (fun _ _ => rfl) (fun u v h1 h2 h3 => by
      have : ¬ Q u v := fun g => hFF (by rw [← h3, S.same g hB hl, hf])
      exact ((xor_eq (rfl : dl fc (T h) u v = (T h (fc u v) ^^ T h (fc v u)))).2 (hTn h u v h1 (offE u v h2) this)).symm) (fun _ _ e => by cases e) (fun _ _ => rfl) (fun _ _ e => by cases e) (fun _ => rfl)
    exact ⟨c, fun u v h1 h2 => by rw [hc u v h1 h2]; simp⟩
  obtain ⟨c, hc⟩ := Classical.skolem.mp hcp
  have hcst : ∀ h u v, B u v = true → Ω (fc u v) → (T h (fc u v) ^^ T0 h (fc u v)) = (T h (fc a b) ^^ T0 h (fc a b)) := fun h u v e1 e2 =>
    G.r2 (fun f => T h f ^^ T0 h f) (fun u v hk ho => by
      have h' := G.kl u v hk
      by_cases g : Q u v
      · have := hT h u v h'.1 (offE u v h'.2)
        simp only [x, g, decide_true, Bool.true_and, dl] at this
        cases e1 : T h (fc u v) <;> cases e2 : T h (fc v u) <;> cases e3 : T0 h (fc u v) <;> cases e4 : T0 h (fc v u) <;> simp [e1, e2, e3, e4] at this ⊢
      · have k' : K' u v := ⟨hk, g⟩
        simp only [hTK h u v k', T0K h u v k' ho]) u v a b e1 hB e2 hΩ
  let Ω' : α → Prop := fun f => Ω f ∧ ∀ h, T h f = c h
  have r1' : ∀ u v, K' u v → (Ω' (fc u v) ↔ Ω' (fc v u)) := fun u v hk => by
    have := G.r1 u v hk.1
    simp only [Ω', this, hTK _ u v hk]
  have r2' : ∀ T1 : α → Bool, (∀ u v, K' u v → Ω' (fc u v) → T1 (fc u v) = T1 (fc v u)) → ∀ u v s t, B u v = true → B s t = true → Ω' (fc u v) → Ω' (fc s t) → T1 (fc u v) = T1 (fc s t) := fun T1 h1 u v s t e1 e2 o1 o2 => by
    have k1 := hcst (fc u v) u v e1 o1.1
    have k2 := hcst (fc u v) s t e2 o2.1
    have z1 : T0 (fc u v) (fc u v) = true := by simp only [T0, decide_eq_true_eq]; exact .refl
    rw [o1.2, z1] at k1
    rw [o2.2] at k2
    have z2 : T0 (fc u v) (fc s t) = true := by
      rw [← k1] at k2
      cases e : T0 (fc u v) (fc s t) with
      | true => rfl
      | false => rw [e] at k2; cases ec : c (fc u v) <;> simp [ec] at k2
    have cl : Cl fc K' Ω (fc u v) (fc s t) := of_decide_eq_true z2
    have key : ∀ g, Cl fc K' Ω (fc u v) g → Ω' g ∧ T1 g = T1 (fc u v) := fun g hg => by
      induction hg with
      | refl => exact ⟨o1, rfl⟩
      | @step p q _ hk ho ih => exact ⟨(r1' p q hk).mp ih.1, by rw [← h1 p q hk ih.1]; exact ih.2⟩
    exact (key _ cl).2.symm
  have r3' : ∀ y, vx (on F) y → vx (on F') y → ∃ w, B y w = true ∧ (Ω' (fc y w) ∨ Ω' (fc w y)) := fun y hy hy' => by
    refine Classical.byContradiction fun hno => ?_
    have hno : ∀ w, B y w = true → ¬ Ω' (fc y w) ∧ ¬ Ω' (fc w y) := fun w hw => ⟨fun h => hno ⟨w, hw, .inl h⟩, fun h => hno ⟨w, hw, .inr h⟩⟩
    let Y1 : α → Prop := fun f => (∀ h, T h f = c h) ∧ φ f ≠ E
    have border : ∀ v, B y v = true → on E y v = false → (Y1 (fc y v) ↔ Y1 (fc v y)) := fun v eB eo => by
      cases eH : H y v with
      | true =>
        have o := S.off eH eo
        have : ¬ Q y v := fun g => by rw [(Qis y v g).2] at eH; cases eH
        have e : ∀ h, T h (fc y v) = T h (fc v y) := fun h => hTn h y v eB eo this
        simp only [Y1, e, o.1, o.2]
        simp [o.1, o.2]
      | false =>
        have l := S.ft.left y v eB eH
        by_cases g : Q y v
        · exact ⟨fun h => absurd ⟨Qin y v g, h.1⟩ (hno v eB).1, fun h => absurd ⟨Qin v y g.turn, h.1⟩ (hno v eB).2⟩
        · have e : ∀ h, T h (fc y v) = T h (fc v y) := fun h => hTn h y v eB eo g
          simp only [Y1, e, l]
    obtain ⟨v1, hv1⟩ := hy'
    have hB1 := S.sub _ _ (S.onH hF' hv1)
    have hY1 : Y1 (fc y v1) ∨ Y1 (fc v1 y) := by
      rcases S.side hF' hv1 with ⟨h1, _⟩ | ⟨_, h1⟩
      · exact .inl ⟨fun h => hc h y v1 hv1 h1, fun e => hEF' (e.symm.trans h1)⟩
      · exact .inr ⟨fun h => hc h v1 y ((S.rg.cyc F' hF').gr.symm hv1) h1, fun e => hEF' (e.symm.trans h1)⟩
    obtain ⟨w3, hB3, hΩ3⟩ := G.r3 y hy ⟨v1, hv1⟩
    have fin : ∀ f, Ω f → Y1 f → Ω' f := fun f h1 h2 => ⟨h1, h2.1⟩
    by_cases hall : ∀ v, B y v = true → (Y1 (fc y v) ↔ Y1 (fc v y))
    · have k := S.clash Y1 hall hB1 hB3 hY1
      rcases hΩ3 with h | h
      · exact (hno w3 hB3).1 (fin _ h k.1)
      · exact (hno w3 hB3).2 (fin _ h k.2)
    · have hall : ∃ v0, B y v0 = true ∧ ¬ (Y1 (fc y v0) ↔ Y1 (fc v0 y)) := Classical.byContradiction fun hn => hall fun v hv => Classical.byContradiction fun h => hn ⟨v, hv, h⟩
      obtain ⟨v0, hv0, hn0⟩ := hall
      have ho0 : on E y v0 = true := by
        cases e : on E y v0 with
        | true => rfl
        | false => exact absurd (border v0 hv0 e) hn0
      obtain ⟨v2, h20, hv2, hdeg⟩ := (S.rg.cyc E hE).deg y v0 ho0
      have hB2 := S.sub _ _ (S.onH hE hv2)
      obtain ⟨b1, hb1⟩ : ∃ b1 : α → Bool, ∀ f, b1 f = true ↔ Y1 f := ⟨fun f => decide (Y1 f), fun f => decide_eq_true_iff⟩
      have hev := S.p.even b1 y
      have d : ∀ f g, (b1 f ^^ b1 g) = true ↔ ¬ (Y1 f ↔ Y1 g) := fun f g => by
        rw [← hb1, ← hb1]
        cases b1 f <;> cases b1 g <;> simp
      rw [par_two (Ne.symm h20) (S.g.bnd2 hv0) (S.g.bnd2 hB2)] at hev
      rotate_left
      · intro i _ h1 h2
        cases eB : B y i with
        | false => rfl
        | true =>
          have : on E y i = false := by
            cases e : on E y i with
            | false => rfl
            | true => rcases hdeg i e with h | h
                      · exact absurd h h1
                      · exact absurd h h2
          show (true && (b1 (fc y i) ^^ b1 (fc i y))) = false
          cases e : (b1 (fc y i) ^^ b1 (fc i y)) with
          | false => rfl
          | true => exact absurd (border i eB this) ((d _ _).mp e)
      have hn2 : ¬ (Y1 (fc y v2) ↔ Y1 (fc v2 y)) := by
        rw [← d]
        have e0 := (d _ _).mpr hn0
        rw [hv0, hB2] at hev
        simp only [dl, Bool.true_and] at hev
        rw [e0] at hev
        cases e : (b1 (fc y v2) ^^ b1 (fc v2 y)) with
        | true => rfl
        | false => rw [e] at hev; cases hev
      let Y2 : α → Prop := fun f => Y1 f ∨ φ f = E
      have closed : ∀ v, B y v = true → (Y2 (fc y v) ↔ Y2 (fc v y)) := fun v eB => by
        cases eo : on E y v with
        | false =>
          have bd := border v eB eo
          cases eH : H y v with
          | true =>
            have o := S.off eH eo
            simp only [Y2, bd, o.1, o.2]
          | false =>
            have l := S.ft.left y v eB eH
            simp only [Y2, bd, l]
        | true =>
          have hn : ¬ (Y1 (fc y v) ↔ Y1 (fc v y)) := by
            rcases hdeg v eo with rfl | rfl
            · exact hn0
            · exact hn2
          rcases S.side hE eo with ⟨h1, h2⟩ | ⟨h1, h2⟩
          · have n1 : ¬ Y1 (fc y v) := fun h => h.2 h1
            have n2 : Y1 (fc v y) := Classical.byContradiction fun h => hn ⟨fun h' => absurd h' n1, fun h' => absurd h' h⟩
            exact ⟨fun _ => .inl n2, fun _ => .inr h1⟩
          · have n1 : ¬ Y1 (fc v y) := fun h => h.2 h2
            have n2 : Y1 (fc y v) := Classical.byContradiction fun h => hn ⟨fun h' => absurd h' h, fun h' => absurd h' n1⟩
            exact ⟨fun _ => .inr h2, fun _ => .inl n2⟩
      have k := S.clash Y2 closed hB1 hB3 (hY1.elim (fun h => .inl (.inl h)) (fun h => .inr (.inl h)))
      have fin2 : ∀ f, Ω f → Y2 f → Ω' f := fun f h1 h2 => h2.elim (fin f h1) fun e => absurd (e.symm.trans (G.r0 f h1)) hEF
      rcases hΩ3 with h | h
      · exact (hno w3 hB3).1 (fin2 _ h k.1)
      · exact (hno w3 hB3).2 (fin2 _ h k.2)
  refine ⟨Ω', kl', kp', kd', fun f h => G.r0 f h.1, r1', r2', r3', fun u v hd hfu => ?_⟩
  have hΩu := G.r4 u v hd hfu
  refine ⟨hΩu, fun h => ?_⟩
  -- D's pieces are not hidden
  obtain ⟨p1, d1, p2, d2, q1, q2, p12, g1, g2, hq1, hq2⟩ := two_contacts hsB hsH S.g S.tc S.sub S.con hne hd.b hd.l
  have X1 := hd.c p1 d1 q1 g1 hq1
  have X2 := hd.c p2 d2 q2 g2 hq2
  obtain ⟨z, dz, qz, gz, hqz, hzF'⟩ : ∃ z dz qz, Q z dz ∧ H z qz = true ∧ ¬ vx (on F') z := Classical.byContradiction fun hn => hnd ⟨hB, hl, .inl hf, fun c d q g hq => ⟨hf ▸ S.contact g hB hl hq, Classical.byContradiction fun h' => hn ⟨c, d, q, g, hq, h'⟩⟩⟩
  have z1 : z ≠ p1 := fun e => hzF' (e ▸ X1.2)
  have z2 : z ≠ p2 := fun e => hzF' (e ▸ X2.2)
  have hzB := Qis z dz gz
  have hzQ : ∀ u v, Q u v → SameP B H z dz u v := fun u v g => (gz.symm hsB hsH hB hl).trans g
  let A : E2 := fun u v => decide (Q u v) && (decide (u ≠ p1) && decide (u ≠ p2) && (decide (v ≠ p1) && decide (v ≠ p2)))
  have A_iff : ∀ u v, A u v = true ↔ Q u v ∧ u ≠ p1 ∧ u ≠ p2 ∧ v ≠ p1 ∧ v ≠ p2 := fun u v => by simp [A, and_assoc]
  have As : Sym A := fun u v => by
    have e : A u v = true ↔ A v u = true := by
      rw [A_iff, A_iff]
      exact ⟨fun h => ⟨h.1.turn, h.2.2.2.1, h.2.2.2.2, h.2.1, h.2.2.1⟩, fun h => ⟨h.1.turn, h.2.2.2.1, h.2.2.2.2, h.2.1, h.2.2.1⟩⟩
    cases e1 : A u v <;> cases e2 : A v u <;> simp [e1, e2] at e ⊢
  have gA : Gr n A := S.g.sub As fun u v e => (Qis u v ((A_iff u v).mp e).1).1
  have undne : ∀ u w q, (∀ w, H u w = false) → H w q = true → u ≠ w := fun u w q h1 h2 e => by rw [← e, h1] at h2; cases h2
  have conn : ∀ u v, SameP B H z dz u v → ((∀ w, H u w = false) → Conn A z u) ∧ ((∀ w, H v w = false) → Conn A z v) := fun u v g => by
    induction g with
    | refl => exact ⟨fun hu => (by rw [hu] at hqz; cases hqz), fun hu => .one ((A_iff _ _).mpr ⟨gz, z1, z2, undne _ _ _ hu hq1, undne _ _ _ hu hq2⟩)⟩
    | turn _ ih => exact ⟨ih.2, ih.1⟩
    | @next s t r g' hu e ih =>
      refine ⟨ih.2, fun hr => (ih.2 hu).step ((A_iff _ _).mpr ⟨gz.trans (g'.next hu e), undne _ _ _ hu hq1, undne _ _ _ hu hq2, undne _ _ _ hr hq1, undne _ _ _ hr hq2⟩)⟩
  have nochord : ∀ s t r r', Q s t → H s r = true → H t r' = true → z = s ∨ z = t := fun s t r r' g h1 h2 => by
    have h' := Qis s t g
    rcases chord h1 h2 ((g.symm hsB hsH hB hl).trans gz) with ⟨h, _⟩ | ⟨h, _⟩
    · exact .inl h
    · exact .inr h
  let cc : Nat → Bool := fun v => x h p1 v ^^ (decide (v = z) && par (x h p1) n)
  have hcc : ∀ v, v < n → cc v = true → Conn A z v := fun v _ e => by
    by_cases hv : v = z
    · rw [hv]; exact .refl
    · have : x h p1 v = true := by simpa [cc, hv] using e
      have g := xQ h p1 v this
      by_cases hu : ∀ w, H v w = false
      · exact (conn v p1 (hzQ v p1 g.turn)).1 hu
      · obtain ⟨r, hr⟩ := drawn_of v hu
        rcases nochord p1 v q1 r g hq1 hr with h' | h'
        · exact absurd h' z1
        · exact absurd h'.symm hv
  have hce : par cc n = false := by
    show par (fun v => x h p1 v ^^ (decide (v = z) && par (x h p1) n)) n = false
    have hz : par (fun v => decide (v = z) && par (x h p1) n) n = par (x h p1) n := by
      rw [par_one (f := fun v => decide (v = z) && par (x h p1) n) (a := z) (S.g.bnd1 hzB.1) (fun i _ hi => by simp [hi])]
      simp
    rw [par_xor, hz]
    simp
  obtain ⟨q, hqs, hqA, hqd⟩ := pair_flow gA (b := z) cc hcc hce
  let ep : E2 := fun u v => x h u v && (decide (u = p1) || decide (v = p1))
  have eps : Sym ep := fun u v => by simp only [ep, xs h u v, Bool.or_comm]
  let w1 : E2 := xr ep q
  let w2 : E2 := xr (x h) w1
  have w1s : Sym w1 := eps.xr hqs
  have w2s : Sym w2 := (xs h).xr w1s
  have w1Q : ∀ u v, w1 u v = true → Q u v := fun u v e => by
    cases e1 : ep u v with
    | true => exact xQ h u v (by simp only [ep, Bool.and_eq_true] at e1; exact e1.1)
    | false => exact ((A_iff u v).mp (hqA u v (by simpa [w1, xr, e1] using e))).1
  have w2Q : ∀ u v, w2 u v = true → Q u v := fun u v e => by
    cases e1 : x h u v with
    | true => exact xQ h u v e1
    | false => exact w1Q u v (by simpa [w2, xr, e1] using e)
  have q1z : ∀ v, q p1 v = false := fun v => by
    cases e : q p1 v with
    | false => rfl
    | true => exact absurd rfl ((A_iff _ _).mp (hqA _ _ e)).2.1
  have q2z : ∀ v, q p2 v = false := fun v => by
    cases e : q p2 v with
    | false => rfl
    | true => exact absurd rfl ((A_iff _ _).mp (hqA _ _ e)).2.2.1
  have w1p2 : ∀ v, w1 p2 v = false := fun v => by
    show (ep p2 v ^^ q p2 v) = false
    rw [q2z]
    cases e : ep p2 v with
    | false => rfl
    | true =>
      simp only [ep, Bool.and_eq_true, Bool.or_eq_true, decide_eq_true_eq] at e
      have hv : v = p1 := e.2.elim (fun h => absurd h.symm p12) id
      subst hv
      rcases nochord p2 v q2 q1 (xQ h _ _ e.1) hq2 hq1 with h' | h'
      · exact absurd h' z2
      · exact absurd h' z1
  have w2p1 : ∀ v, w2 p1 v = false := fun v => by
    show (x h p1 v ^^ (ep p1 v ^^ q p1 v)) = false
    rw [q1z]; simp [ep]
  have w1und : ∀ u, (∀ w, H u w = false) → u < n → dv n w1 u = false := fun u hu hun => by
    have up1 := undne _ _ _ hu hq1
    have uz := undne _ _ _ hu hqz
    show dv n (xr ep q) u = false
    rw [dv_xr, hqd u hun]
    have : dv n ep u = x h u p1 := by
      unfold dv
      rw [par_one (a := p1) (S.g.bnd1 (S.sub _ _ hq1)) (fun i _ hi => by simp [ep, hi, up1])]
      simp [ep]
    rw [this]
    show (x h u p1 ^^ (x h p1 u ^^ (decide (u = z) && par (x h p1) n))) = false
    rw [xs h u p1]; simp [uz]
  have touchF : ∀ u d, Q u d → ¬ (∀ w, H u w = false) → vx (on F) u := fun u d g hu => by
    obtain ⟨r, hr⟩ := drawn_of u hu
    exact hf ▸ S.contact g hB hl hr
  have w1F : ∀ u, dv n w1 u = true → vx (on F) u := fun u e => by
    obtain ⟨v, hv⟩ := some_of _ u e
    have g := w1Q u v hv
    exact touchF u v g fun hu => by rw [w1und u hu (S.g.bnd1 (Qis u v g).1)] at e; cases e
  have w2F : ∀ u, dv n w2 u = true → vx (on F) u := fun u e => by
    obtain ⟨v, hv⟩ := some_of _ u e
    have g := w2Q u v hv
    exact touchF u v g fun hu => by
      have e' : dv n (xr (x h) w1) u = true := e
      rw [dv_xr, xund h u hu, w1und u hu (S.g.bnd1 (Qis u v g).1)] at e'; cases e'
  have pot12 : ∀ w : E2, Sym w → (∀ u v, w u v = true → Q u v) → (∀ u, dv n w u = true → vx (on F) u) → ∃ T1 : α → Bool, ∀ u v, B u v = true → H u v = false → w u v = dl fc T1 u v := fun w hs hq hv => by
    obtain ⟨y, y1, y2, y3⟩ := S.along hF hs (fun u v e => (Qis u v (hq u v e)).1) hv
    obtain ⟨T1, hT1⟩ := S.p.pot (xr w y) ⟨hs.xr y1, Sub.xr (fun u v e => (Qis u v (hq u v e)).1) fun u v e => S.sub _ _ (S.onH hF (y2 u v e)), fun u => by rw [dv_xr, y3]; simp⟩
    refine ⟨T1, fun u v e1 e2 => ?_⟩
    rw [← hT1 u v e1]
    have : y u v = false := by
      cases e : y u v with
      | false => rfl
      | true => rw [S.onH hF (y2 u v e)] at e2; cases e2
    simp [xr, this]
  obtain ⟨T1, hT1⟩ := pot12 w1 w1s w1Q w1F
  obtain ⟨T2, hT2⟩ := pot12 w2 w2s w2Q w2F
  have eqof : ∀ (w : E2) (T1 : α → Bool) u v, w u v = dl fc T1 u v → w u v = false → T1 (fc u v) = T1 (fc v u) := fun w T1 u v h1 h2 => (xor_eq h1).1 h2
  have nQ : ∀ (w : E2), (∀ u v, w u v = true → Q u v) → ∀ u v, ¬ Q u v → w u v = false := fun w hw u v hn => by
    cases e : w u v with
    | false => rfl
    | true => exact absurd (hw u v e) hn
  -- over Ω
  have cst : ∀ s t, B s t = true → Ω (fc s t) → ((T1 (fc s t) ^^ T2 (fc s t)) ^^ T0 h (fc s t)) = ((T1 (fc a b) ^^ T2 (fc a b)) ^^ T0 h (fc a b)) := fun s t e1 e2 =>
    G.r2 (fun f => (T1 f ^^ T2 f) ^^ T0 h f) (fun u v hk ho => by
      have h' := G.kl u v hk
      have k1 := hT1 u v h'.1 h'.2
      have k2 := hT2 u v h'.1 h'.2
      by_cases g : Q u v
      · have k3 : x h u v = dl fc (T0 h) u v := by simp only [x, g, decide_true, Bool.true_and]
        have k4 : w2 u v = (x h u v ^^ w1 u v) := rfl
        simp only [dl] at k1 k2 k3
        cases e1 : T1 (fc u v) <;> cases e2 : T1 (fc v u) <;> cases e3 : T2 (fc u v) <;> cases e4 : T2 (fc v u) <;> cases e5 : T0 h (fc u v) <;> cases e6 : T0 h (fc v u) <;> simp [e1, e2, e3, e4, e5, e6] at k1 k2 k3 ⊢ <;> simp [k1, k2, k3] at k4
      · have k' : K' u v := ⟨hk, g⟩
        simp only [eqof w1 T1 u v k1 (nQ w1 w1Q u v g), eqof w2 T2 u v k2 (nQ w2 w2Q u v g), T0K h u v k' ho]) s t a b e1 hB e2 hΩ
  -- over the piece of (u, v)
  have pieceN : ∀ c d, SameP B H u v c d → ¬ Q c d := fun c d g g' => hnd (S.dd_same hd (g.trans (SameP.symm hsB hsH g' hB hl)))
  have pT : ∀ (w : E2) (Tn : α → Bool), (∀ u v, w u v = true → Q u v) → (∀ u v, B u v = true → H u v = false → w u v = dl fc Tn u v) → ∀ c d, SameP B H u v c d → Tn (fc c d) = Tn (fc u v) := fun w Tn hw hTn c d g =>
    S.piece_const Tn hd.b hd.l (fun c d g => by
      have h' := g.is hsB hsH hd.b hd.l
      exact eqof w Tn c d (hTn c d h'.1 h'.2) (nQ w hw c d (pieceN c d g))) g
  obtain ⟨τ2, ht2⟩ := S.atp hF T1 X2.1 fun v e1 e2 _ => eqof w1 T1 p2 v (hT1 p2 v e1 e2) (w1p2 v)
  obtain ⟨τ1, ht1⟩ := S.atp hF T2 X1.1 fun v e1 e2 _ => eqof w2 T2 p1 v (hT2 p1 v e1 e2) (w2p1 v)
  obtain ⟨a1, hBa1, hs1⟩ := r3' p1 X1.1 X1.2
  obtain ⟨a2, hBa2, hs2⟩ := r3' p2 X2.1 X2.2
  have hg1 := g1.is hsB hsH hd.b hd.l
  have hg2 := g2.is hsB hsH hd.b hd.l
  have e2 : T1 (fc p2 d2) = τ2 := (ht2 d2 hg2.1).1 (by rw [S.same g2 hd.b hd.l]; exact hfu)
  have e1 : T2 (fc p1 d1) = τ1 := (ht1 d1 hg1.1).1 (by rw [S.same g1 hd.b hd.l]; exact hfu)
  obtain ⟨s1, t1, hB1, ho1, hτ1⟩ : ∃ s t, B s t = true ∧ Ω' (fc s t) ∧ T2 (fc s t) = τ1 := by
    rcases hs1 with h' | h'
    · exact ⟨p1, a1, hBa1, h', (ht1 a1 hBa1).1 (G.r0 _ h'.1)⟩
    · exact ⟨a1, p1, S.g.symm hBa1, h', (ht1 a1 hBa1).2 (G.r0 _ h'.1)⟩
  obtain ⟨s2, t2, hB2, ho2, hτ2⟩ : ∃ s t, B s t = true ∧ Ω' (fc s t) ∧ T1 (fc s t) = τ2 := by
    rcases hs2 with h' | h'
    · exact ⟨p2, a2, hBa2, h', (ht2 a2 hBa2).1 (G.r0 _ h'.1)⟩
    · exact ⟨a2, p2, S.g.symm hBa2, h', (ht2 a2 hBa2).2 (G.r0 _ h'.1)⟩
  have e12 : T1 (fc s1 t1) = T1 (fc s2 t2) := r2' T1 (fun u v hk _ => by
    have h' := kl' u v hk
    exact eqof w1 T1 u v (hT1 u v h'.1 h'.2) (nQ w1 w1Q u v hk.2)) s1 t1 s2 t2 hB1 hB2 ho1 ho2
  have f1 : T1 (fc u v) = T1 (fc s1 t1) := by rw [e12, hτ2, ← e2]; exact (pT w1 T1 w1Q hT1 p2 d2 g2).symm
  have f2 : T2 (fc u v) = T2 (fc s1 t1) := by rw [hτ1, ← e1]; exact (pT w2 T2 w2Q hT2 p1 d1 g1).symm
  have k := (cst u v hd.b hΩu).trans (cst s1 t1 hB1 ho1.1).symm
  rw [f1, f2] at k
  have k0 : T0 h (fc u v) = T0 h (fc s1 t1) := by
    cases e1 : T0 h (fc u v) <;> cases e2 : T0 h (fc s1 t1) <;> cases e3 : (T1 (fc s1 t1) ^^ T2 (fc s1 t1)) <;> simp [e1, e2, e3] at k ⊢
  have k1 := (hcst h u v hd.b hΩu).trans (hcst h s1 t1 hB1 ho1.1).symm
  rw [k0, ho1.2 h] at k1
  cases e1 : T h (fc u v) <;> cases e2 : T0 h (fc s1 t1) <;> cases e3 : c h <;> simp [e1, e2, e3] at k1 ⊢
end
end Wb
set_option maxHeartbeats 2000000
namespace Wb
open Classical
section
variable {α ρ : Type} {n : Nat} {B H : E2} {fc : Nat → Nat → α} {R : ρ → Prop} {on : ρ → E2} {φ : α → ρ}
theorem Reg.congr {F F' : ρ} {K K2 : Nat → Nat → Prop} {Ω : α → Prop} (G : Reg B H on fc φ F F' K Ω) (h : ∀ u v, K u v ↔ K2 u v) : Reg B H on fc φ F F' K2 Ω := by
  have : K = K2 := funext fun u => funext fun v => propext (h u v)
  rw [← this]; exact G
theorem Dd.swap {F F' : ρ} {u v : Nat} (h : Dd B H on fc φ F F' u v) : Dd B H on fc φ F' F u v := ⟨h.b, h.l, h.f.symm, fun c d q g hq => (h.c c d q g hq).symm⟩
/-- ties joined over faces outside O -/
inductive Pt (B : E2) (D : Nat → Nat → Prop) (fc : Nat → Nat → α) (O : α → Prop) (u v : Nat) : Nat → Nat → Prop where
  | refl : Pt B D fc O u v u v
  | turn {a b : Nat} : Pt B D fc O u v a b → Pt B D fc O u v b a
  | over {a b c d : Nat} : Pt B D fc O u v a b → B c d = true → ¬ D c d → fc a b = fc c d → ¬ O (fc a b) → Pt B D fc O u v c d
variable (S : Stage n B H R on fc φ)
include S
theorem Stage.region {F F' : ρ} (hF : R F) (hF' : R F') (hFF : F ≠ F') (hneF : ∃ u v, on F u v = true) (hfree : Free B H R on fc φ) :
    ∃ Ω, Reg B H on fc φ F F' (Dd B H on fc φ F F') Ω := by
  have hsB := S.g.sym
  have hsH := S.symH
  have hne : ∃ u v, H u v = true := by obtain ⟨u, v, h⟩ := hneF; exact ⟨u, v, S.onH hF h⟩
  let K0 : Nat → Nat → Prop := fun u v => Dd B H on fc φ F F' u v ∨ (B u v = true ∧ H u v = false ∧ φ (fc u v) = F)
  let bad : Nat × Nat → Prop := fun p => B p.1 p.2 = true ∧ H p.1 p.2 = false ∧ φ (fc p.1 p.2) = F ∧ ¬ Dd B H on fc φ F F' p.1 p.2
  let KL : List (Nat × Nat) → Nat → Nat → Prop := fun L u v => K0 u v ∧ ∀ p ∈ L, bad p → ¬ SameP B H p.1 p.2 u v
  have key : ∀ L, ∃ Ω, Reg B H on fc φ F F' (KL L) Ω := fun L => by
    induction L with
    | nil =>
      refine ⟨fun f => φ f = F, ⟨?_, ?_, ?_, fun f h => h, ?_, ?_, ?_, fun u v _ h => h⟩⟩
      · rintro u v ⟨h | h, _⟩
        · exact ⟨h.b, h.l⟩
        · exact ⟨h.1, h.2.1⟩
      · rintro u v c d ⟨h | h, _⟩ g
        · exact ⟨.inl (S.dd_same h g), fun p hp => by cases hp⟩
        · have h' := g.is hsB hsH h.1 h.2.1
          exact ⟨.inr ⟨h'.1, h'.2, (S.same g h.1 h.2.1).trans h.2.2⟩, fun p hp => by cases hp⟩
      · exact fun u v h => ⟨.inl h, fun p hp => by cases hp⟩
      · rintro u v ⟨h | h, _⟩
        · rw [S.ft.left u v h.b h.l]
        · rw [S.ft.left u v h.1 h.2.1]
      · intro T hT u v a b h1 h2 h3 h4
        obtain ⟨c, hc⟩ := S.inner hF hneF T fun u v e1 e2 e3 => hT u v ⟨.inr ⟨e1, e2, e3⟩, fun p hp => by cases hp⟩ e3
        rw [hc u v h1 h3, hc a b h2 h4]
      · rintro x ⟨v, hv⟩ _
        refine ⟨v, S.sub _ _ (S.onH hF hv), ?_⟩
        exact (S.side hF hv).elim (fun h => .inl h.1) fun h => .inr h.2
    | cons p L ih =>
      obtain ⟨Ω, G⟩ := ih
      by_cases hb : bad p
      · by_cases hk : KL L p.1 p.2
        · obtain ⟨Ω', G'⟩ := S.reg_step hF hF' hFF hne hfree G hk hb.2.2.1 hb.2.2.2
          refine ⟨Ω', G'.congr fun u v => ⟨fun h => ⟨h.1.1, fun q hq hbq => ?_⟩, fun h => ⟨⟨h.1, fun q hq => h.2 q (.tail _ hq)⟩, h.2 p (.head _) hb⟩⟩⟩
          cases hq with
          | head => exact h.2
          | tail _ hq => exact h.1.2 q hq hbq
        · refine ⟨Ω, G.congr fun u v => ⟨fun h => ⟨h.1, fun q hq hbq => ?_⟩, fun h => ⟨h.1, fun q hq => h.2 q (.tail _ hq)⟩⟩⟩
          cases hq with
          | tail _ hq => exact h.2 q hq hbq
          | head =>
            intro g
            refine hk ⟨.inr ⟨hb.1, hb.2.1, hb.2.2.1⟩, fun r hr hbr g' => h.2 r hr hbr (g'.trans g)⟩
      · refine ⟨Ω, G.congr fun u v => ⟨fun h => ⟨h.1, fun q hq hbq => ?_⟩, fun h => ⟨h.1, fun q hq => h.2 q (.tail _ hq)⟩⟩⟩
        cases hq with
        | tail _ hq => exact h.2 q hq hbq
        | head => exact absurd hbq hb
  obtain ⟨Ω, G⟩ := key ((List.range n).flatMap fun u => (List.range n).map fun v => (u, v))
  refine ⟨Ω, G.congr fun u v => ⟨fun h => ?_, fun h => G.kd u v h⟩⟩
  refine h.1.elim id fun h' => Classical.byContradiction fun hn => ?_
  refine h.2 (u, v) ?_ ⟨h'.1, h'.2.1, h'.2.2, hn⟩ .refl
  have hb := S.g.bnd u v h'.1
  simp only [List.mem_flatMap, List.mem_map, List.mem_range]
  exact ⟨u, hb.1, v, hb.2, rfl⟩
/-- the rim of such a lot of faces joins all corners of both rings -/
theorem Stage.rim {F F' : ρ} (hF : R F) {K : Nat → Nat → Prop} {Ω : α → Prop} (G : Reg B H on fc φ F F' K Ω) {x x' : Nat} (h1 : vx (on F) x) (h1' : vx (on F') x) (h2 : vx (on F) x') (h2' : vx (on F') x') :
    Conn (fun u v => B u v && decide (¬ K u v ∧ (Ω (fc u v) ∨ Ω (fc v u)))) x x' := by
  let bd : E2 := fun u v => B u v && decide (¬ K u v ∧ (Ω (fc u v) ∨ Ω (fc v u)))
  have bd_iff : ∀ u v, bd u v = true ↔ B u v = true ∧ ¬ K u v ∧ (Ω (fc u v) ∨ Ω (fc v u)) := fun u v => by simp only [bd, Bool.and_eq_true, decide_eq_true_eq]
  have Ks : ∀ u v, K u v → K v u := fun u v h => G.kp u v v u h (SameP.turn .refl)
  have bds : ∀ u v, bd u v = true → bd v u = true := fun u v h => by
    rw [bd_iff] at h ⊢
    exact ⟨S.g.symm h.1, fun k => h.2.1 (Ks _ _ k), h.2.2.symm⟩
  obtain ⟨O, hO⟩ : ∃ O : α → Bool, ∀ f, O f = true ↔ Ω f := ⟨fun f => decide (Ω f), fun f => decide_eq_true_iff⟩
  let U : Nat → Prop := Conn bd x
  let d1 : E2 := fun u v => B u v && dl fc O u v
  have d1bd : ∀ u v, d1 u v = true → bd u v = true := fun u v e => by
    simp only [d1, Bool.and_eq_true] at e
    rw [bd_iff]
    have hne : ¬ (Ω (fc u v) ↔ Ω (fc v u)) := fun h => by
      rw [← hO, ← hO] at h
      have e2 := e.2
      simp only [dl] at e2
      cases e3 : O (fc u v) <;> cases e4 : O (fc v u) <;> simp [e3, e4] at h e2
    refine ⟨e.1, fun k => hne (G.r1 u v k), ?_⟩
    by_cases h : Ω (fc u v)
    · exact .inl h
    · exact .inr (Classical.byContradiction fun h' => hne ⟨fun a => absurd a h, fun a => absurd a h'⟩)
  have d1s : Sym d1 := fun u v => by simp only [d1, S.g.sym u v, dl_sym fc O u v]
  let yU : E2 := fun u v => decide (U u) && d1 u v
  have yUs : Sym yU := fun u v => by
    simp only [yU, ← d1s u v]
    cases e : d1 u v with
    | false => simp
    | true =>
      have : U u ↔ U v := ⟨fun h => h.step (d1bd u v e), fun h => h.step (bds u v (d1bd u v e))⟩
      simp [this]
  obtain ⟨T, hT⟩ := S.p.pot yU ⟨yUs, fun u v e => by simp only [yU, d1, Bool.and_eq_true] at e; exact e.2.1, fun u => by
    show par (fun v => decide (U u) && d1 u v) n = false
    rw [par_and]
    have : par (d1 u) n = false := S.p.even O u
    rw [show par (fun v => d1 u v) n = par (d1 u) n from rfl, this]; simp⟩
  have yval : ∀ u v, B u v = true → ((Ω (fc u v) ↔ Ω (fc v u)) → T (fc u v) = T (fc v u)) ∧ (¬ (Ω (fc u v) ↔ Ω (fc v u)) → (U u → T (fc u v) ≠ T (fc v u)) ∧ (¬ U u → T (fc u v) = T (fc v u))) := fun u v eB => by
    have h := hT u v eB
    have dO : (Ω (fc u v) ↔ Ω (fc v u)) ↔ dl fc O u v = false := by
      rw [← hO, ← hO]; simp only [dl]
      cases O (fc u v) <;> cases O (fc v u) <;> simp
    simp only [yU, d1, eB, Bool.true_and] at h
    constructor
    · intro e
      rw [dO.mp e] at h
      exact (xor_eq h).1 (by simp)
    · intro e
      have e' : dl fc O u v = true := by
        cases e2 : dl fc O u v with
        | true => rfl
        | false => exact absurd (dO.mpr e2) e
      rw [e'] at h
      constructor
      · intro hu heq
        have := (xor_eq h).2 heq
        simp [hu] at this
      · intro hu
        exact (xor_eq h).1 (by simp [hu])
  -- T is one over Ω
  obtain ⟨w0, hw0, hs0⟩ := G.r3 x h1 h1'
  obtain ⟨s0, t0, hB0, hΩ0⟩ : ∃ s t, B s t = true ∧ Ω (fc s t) := hs0.elim (fun h => ⟨x, w0, hw0, h⟩) fun h => ⟨w0, x, S.g.symm hw0, h⟩
  have hτ : ∀ u v, B u v = true → Ω (fc u v) → T (fc u v) = T (fc s0 t0) := fun u v e1 e2 => G.r2 T (fun u v hk _ => (yval u v (G.kl u v hk).1).1 (G.r1 u v hk)) u v s0 t0 e1 hB0 e2 hΩ0
  let A : α → Prop := fun f => ¬ Ω f ∧ T f ≠ T (fc s0 t0)
  let Z : α → Prop := fun f => A f ∨ Ω f
  have notb : ∀ a b c : Bool, a ≠ b → c = b → a ≠ c := fun a b c h e => by rw [e]; exact h
  have clU : ∀ w, U w → ∀ v, B w v = true → (Z (fc w v) ↔ Z (fc v w)) := fun w hw v eB => by
    have y := yval w v eB
    have eB' := S.g.symm eB
    by_cases a1 : Ω (fc w v) <;> by_cases a2 : Ω (fc v w)
    · exact ⟨fun _ => .inr a2, fun _ => .inr a1⟩
    · have hn : ¬ (Ω (fc w v) ↔ Ω (fc v w)) := fun h => a2 (h.mp a1)
      have := (y.2 hn).1 hw
      rw [hτ w v eB a1] at this
      exact ⟨fun _ => .inl ⟨a2, fun e => this e.symm⟩, fun _ => .inr a1⟩
    · have hn : ¬ (Ω (fc w v) ↔ Ω (fc v w)) := fun h => a1 (h.mpr a2)
      have := (y.2 hn).1 hw
      rw [hτ v w eB' a2] at this
      exact ⟨fun _ => .inr a2, fun _ => .inl ⟨a1, this⟩⟩
    · have he : (Ω (fc w v) ↔ Ω (fc v w)) := ⟨fun h => absurd h a1, fun h => absurd h a2⟩
      have := y.1 he
      simp only [Z, A, a1, a2, this]
  have clN : ∀ w, ¬ U w → ∀ v, B w v = true → (A (fc w v) ↔ A (fc v w)) := fun w hw v eB => by
    have y := yval w v eB
    have eB' := S.g.symm eB
    by_cases a1 : Ω (fc w v) <;> by_cases a2 : Ω (fc v w)
    · exact ⟨fun h => absurd a1 h.1, fun h => absurd a2 h.1⟩
    · have hn : ¬ (Ω (fc w v) ↔ Ω (fc v w)) := fun h => a2 (h.mp a1)
      have := (y.2 hn).2 hw
      rw [hτ w v eB a1] at this
      exact ⟨fun h => absurd a1 h.1, fun h => absurd this.symm h.2⟩
    · have hn : ¬ (Ω (fc w v) ↔ Ω (fc v w)) := fun h => a1 (h.mpr a2)
      have := (y.2 hn).2 hw
      rw [hτ v w eB' a2] at this
      exact ⟨fun h => absurd this h.2, fun h => absurd a2 h.1⟩
    · have he : (Ω (fc w v) ↔ Ω (fc v w)) := ⟨fun h => absurd h a1, fun h => absurd h a2⟩
      have := y.1 he
      simp only [A, a1, a2, this]
  let Pp : Nat → Prop := fun w => (U w ∧ ∀ v, B w v = true → Z (fc w v) ∧ Z (fc v w)) ∨ (¬ U w ∧ ∀ v, B w v = true → A (fc w v) ∧ A (fc v w))
  have mk : ∀ w v, B w v = true → (U w → Z (fc w v) ∨ Z (fc v w)) → (¬ U w → A (fc w v) ∨ A (fc v w)) → Pp w := fun w v eB e1 e2 => by
    by_cases hu : U w
    · exact .inl ⟨hu, fun v' hv' => S.clash Z (clU w hu) eB hv' (e1 hu)⟩
    · exact .inr ⟨hu, fun v' hv' => S.clash A (clN w hu) eB hv' (e2 hu)⟩
  have start : Pp x := mk x w0 hw0 (fun _ => hs0.elim (fun h => .inl (.inr h)) fun h => .inr (.inr h)) fun h => absurd .refl h
  obtain ⟨xa, hxa⟩ := h1
  obtain ⟨xb, hxb⟩ := h2
  have walk : ∀ w, Conn (on F) x w → Pp w := fun w hw => by
    induction hw with
    | refl => exact start
    | @step p q _ e ih =>
      have eH := S.onH hF e
      have eB := S.sub _ _ eH
      have eB' := S.g.symm eB
      have nK : ¬ K p q := fun k => by rw [(G.kl p q k).2] at eH; cases eH
      by_cases hA : A (fc p q) ∨ A (fc q p)
      · exact mk q p eB' (fun _ => hA.elim (fun h => .inr (.inl h)) fun h => .inl (.inl h)) fun _ => hA.symm
      · rcases ih with ⟨hu, hz⟩ | ⟨_, ha⟩
        · have z := hz q eB
          have o : Ω (fc p q) := z.1.elim (fun h => absurd (.inl h) hA) id
          have hq : U q := hu.step ((bd_iff p q).mpr ⟨eB, nK, .inl o⟩)
          exact mk q p eB' (fun _ => .inr z.1) fun h => absurd hq h
        · exact absurd (.inl (ha q eB).1) hA
  rcases walk x' ((S.rg.cyc F hF).con x x' xa xb hxa hxb) with h | ⟨_, ha⟩
  · exact h.1
  · obtain ⟨w, hw, hs⟩ := G.r3 x' ⟨xb, hxb⟩ h2'
    have := ha w hw
    exact hs.elim (fun h => absurd h this.1.1) fun h => absurd h this.2.1
end
end Wb
set_option maxHeartbeats 2000000
namespace Wb
open Classical
section
variable {α ρ : Type} {n : Nat} {B H : E2} {fc : Nat → Nat → α} {R : ρ → Prop} {on : ρ → E2} {φ : α → ρ}
theorem Pt.is {D : Nat → Nat → Prop} {O : α → Prop} (hs : Sym B) (Ds : ∀ u v, D u v → D v u) {u v a b : Nat} (h : Pt B D fc O u v a b) (h1 : B u v = true) (h2 : ¬ D u v) : B a b = true ∧ ¬ D a b := by
  induction h with
  | refl => exact ⟨h1, h2⟩
  | turn _ ih => exact ⟨by rw [hs]; exact ih.1, fun d => ih.2 (Ds _ _ d)⟩
  | over _ e d _ _ _ => exact ⟨e, d⟩
theorem Pt.trans {D : Nat → Nat → Prop} {O : α → Prop} {u v a b c d : Nat} (h : Pt B D fc O u v a b) (g : Pt B D fc O a b c d) : Pt B D fc O u v c d := by
  induction g with
  | refl => exact h
  | turn _ ih => exact ih.turn
  | over _ e d f o ih => exact ih.over e d f o
theorem Pt.symm {D : Nat → Nat → Prop} {O : α → Prop} (hs : Sym B) (Ds : ∀ u v, D u v → D v u) {u v a b : Nat} (h : Pt B D fc O u v a b) (h1 : B u v = true) (h2 : ¬ D u v) : Pt B D fc O a b u v := by
  induction h with
  | refl => exact .refl
  | turn g ih => exact Pt.trans (Pt.turn .refl) ih
  | @over a b c d g e hd f o ih =>
    have h := g.is hs Ds h1 h2
    exact Pt.trans (Pt.over .refl h.1 h.2 f.symm (f ▸ o)) ih
variable (S : Stage n B H R on fc φ)
include S
/-- a part of what is not redrawn touches one face of such a lot at most -/
theorem Stage.unique {F F' : ρ} (hF : R F) (hF' : R F') (hFF : F ≠ F') {D : Nat → Nat → Prop} (hD : ∀ u v, D u v ↔ Dd B H on fc φ F F' u v) {Ω Ω2 : α → Prop}
    (G : Reg B H on fc φ F F' D Ω) (G2 : Reg B H on fc φ F' F D Ω2) {u v a b : Nat} (h1 : B u v = true) (h2 : ¬ D u v) (hp : Pt B D fc (fun f => Ω f ∨ Ω2 f) u v a b) (hΩ : Ω (fc u v)) (hΩ2 : Ω (fc a b)) : fc u v = fc a b := by
  refine Classical.byContradiction fun hne => ?_
  have hsB := S.g.sym
  have hsH := S.symH
  have Ds : ∀ u v, D u v → D v u := fun u v h => G.kp u v v u h (SameP.turn .refl)
  have disj : ∀ f, Ω f → ¬ Ω2 f := fun f e e' => hFF ((G.r0 f e).symm.trans (G2.r0 f e'))
  let T0 : α → Bool := fun f => decide (f = fc u v)
  let x : E2 := fun s t => decide (D s t) && dl fc T0 s t
  have xs : Sym x := fun s t => by
    have : D s t ↔ D t s := ⟨Ds s t, Ds t s⟩
    simp only [x, this, dl_sym fc T0 s t]
  have xD : ∀ s t, x s t = true → D s t := fun s t e => by
    simp only [x, Bool.and_eq_true, decide_eq_true_eq] at e; exact e.1
  have xB : Sub x B := fun s t e => (G.kl s t (xD s t e)).1
  have xX : ∀ s, dv n x s = true → vx (on F) s ∧ vx (on F') s := fun s e => by
    obtain ⟨t, ht⟩ : ∃ t, x s t = true := Classical.byContradiction fun hno => by
      have : dv n x s = false := par_zero fun i _ => by
        cases e : x s i with
        | false => rfl
        | true => exact absurd ⟨i, e⟩ hno
      rw [this] at e; cases e
    have hd := xD s t ht
    by_cases hu : ∀ w, H s w = false
    · exfalso
      have : ∀ i, x s i = (B s i && dl fc T0 s i) := fun i => by
        cases eB : B s i with
        | false =>
          cases e : x s i with
          | false => rfl
          | true => rw [xB s i e] at eB; cases eB
        | true =>
          have : D s i := G.kp s t s i hd (SameP.next (SameP.turn .refl) hu eB)
          simp only [x, this, decide_true]
      have z : dv n x s = false := by
        unfold dv
        rw [show x s = fun i => (B s i && dl fc T0 s i) from funext this]
        exact S.p.even T0 s
      rw [z] at e; cases e
    · obtain ⟨q, hq⟩ : ∃ q, H s q = true := Classical.byContradiction fun hno => hu fun w => by
        cases e : H s w with
        | false => rfl
        | true => exact absurd ⟨w, e⟩ hno
      exact ((hD s t).mp hd).c s t q .refl hq
  let bd : E2 := fun u v => B u v && decide (¬ D u v ∧ (Ω2 (fc u v) ∨ Ω2 (fc v u)))
  have bd_iff : ∀ u v, bd u v = true ↔ B u v = true ∧ ¬ D u v ∧ (Ω2 (fc u v) ∨ Ω2 (fc v u)) := fun u v => by simp only [bd, Bool.and_eq_true, decide_eq_true_eq]
  have bds : Sym bd := fun s t => by
    have e : bd s t = true ↔ bd t s = true := by
      rw [bd_iff, bd_iff]
      exact ⟨fun h => ⟨S.g.symm h.1, fun k => h.2.1 (Ds _ _ k), h.2.2.symm⟩, fun h => ⟨S.g.symm h.1, fun k => h.2.1 (Ds _ _ k), h.2.2.symm⟩⟩
    cases e1 : bd s t <;> cases e2 : bd t s <;> simp [e1, e2] at e ⊢
  have gbd : Gr n bd := S.g.sub bds fun u v e => ((bd_iff u v).mp e).1
  obtain ⟨y, y1, y2, y3⟩ : ∃ y, Sym y ∧ Sub y bd ∧ ∀ s, s < n → dv n y s = dv n x s := by
    by_cases hz : ∃ p, dv n x p = true
    · obtain ⟨p, hp⟩ := hz
      have hX := xX p hp
      exact pair_flow gbd (b := p) (dv n x) (fun t _ ht => S.rim hF' G2 hX.2 hX.1 (xX t ht).2 (xX t ht).1) (par_hands xs (fun u => by
        cases e : x u u with
        | false => rfl
        | true => have := xB u u e; rw [S.g.irr] at this; cases this) n)
    · exact ⟨fun _ _ => false, fun _ _ => rfl, fun _ _ e => (by cases e), fun s _ => by
        rw [zero_dv]
        cases e : dv n x s with
        | false => rfl
        | true => exact absurd ⟨s, e⟩ hz⟩
  have y3 : ∀ s, dv n y s = dv n x s := fun s => by
    by_cases hs : s < n
    · exact y3 s hs
    · have z : ∀ x : E2, Sub x B → dv n x s = false := fun x hx => par_zero fun i _ => by
        cases e : x s i with
        | false => rfl
        | true => exact absurd (S.g.bnd1 (hx s i e)) hs
      rw [z y fun a b e => ((bd_iff a b).mp (y2 a b e)).1, z x xB]
  obtain ⟨T, hT⟩ := S.p.pot (xr x y) ⟨xs.xr y1, Sub.xr xB fun a b e => ((bd_iff a b).mp (y2 a b e)).1, fun s => by rw [dv_xr, y3]; simp⟩
  have hTn : ∀ s t, B s t = true → ¬ D s t → bd s t = false → T (fc s t) = T (fc t s) := fun s t e1 e2 e3 => by
    have h := hT s t e1
    have z1 : x s t = false := by
      cases e : x s t with
      | false => rfl
      | true => exact absurd (xD s t e) e2
    have z2 : y s t = false := by
      cases e : y s t with
      | false => rfl
      | true => rw [y2 s t e] at e3; cases e3
    exact (xor_eq h).1 (by simp [xr, z1, z2])
  have hTD : ∀ s t, D s t → (T (fc s t) ^^ T0 (fc s t)) = (T (fc t s) ^^ T0 (fc t s)) := fun s t d => by
    have h := hT s t (G.kl s t d).1
    have z2 : y s t = false := by
      cases e : y s t with
      | false => rfl
      | true => exact absurd d ((bd_iff s t).mp (y2 s t e)).2.1
    have z1 : x s t = dl fc T0 s t := by simp only [x, d, decide_true, Bool.true_and]
    simp only [xr, z2, z1, dl] at h
    cases e1 : T (fc s t) <;> cases e2 : T (fc t s) <;> cases e3 : T0 (fc s t) <;> cases e4 : T0 (fc t s) <;> simp [e1, e2, e3, e4] at h ⊢
  have hab := hp.is hsB Ds h1 h2
  have k := G.r2 (fun f => T f ^^ T0 f) (fun s t d _ => hTD s t d) u v a b h1 hab.1 hΩ hΩ2
  have t1 : T0 (fc u v) = true := by simp [T0]
  have t2 : T0 (fc a b) = false := by simp only [T0, decide_eq_false_iff_not]; exact fun e => hne e.symm
  rw [t1, t2] at k
  -- along the part
  have two : ∀ s t, B s t = true → ¬ D s t → ¬ Ω2 (fc s t) → ¬ Ω2 (fc t s) → T (fc s t) = T (fc t s) := fun s t e1 e2 e3 e4 => hTn s t e1 e2 (by
    cases e : bd s t with
    | false => rfl
    | true => exact absurd ((bd_iff s t).mp e).2.2 (fun h => h.elim e3 e4))
  have along : ∀ s t, Pt B D fc (fun f => Ω f ∨ Ω2 f) u v s t → (¬ Ω2 (fc s t) → T (fc s t) = T (fc u v)) ∧ (¬ Ω2 (fc t s) → T (fc t s) = T (fc u v)) := fun s t g => by
    induction g with
    | refl => exact ⟨fun _ => rfl, fun h => (two u v h1 h2 (disj _ hΩ) h).symm⟩
    | turn _ ih => exact ⟨ih.2, ih.1⟩
    | @over s t p q g e d f o ih =>
      have o2 : ¬ Ω2 (fc s t) := fun h => o (.inr h)
      have e1 : T (fc p q) = T (fc u v) := by rw [← f]; exact ih.1 o2
      exact ⟨fun _ => e1, fun h => by rw [← two p q e d (f ▸ o2) h]; exact e1⟩
  rw [(along a b hp).1 (disj _ hΩ2)] at k
  cases e : T (fc u v) <;> simp [e] at k
/-- pieces of two rings redrawn, each in the other one -/
theorem Stage.flip {F F' : ρ} (hF : R F) (hF' : R F') (hFF : F ≠ F') (hfree : Free B H R on fc φ) {u v : Nat} (h1 : B u v = true) (h2 : H u v = false) (hf : φ (fc u v) = F') (hc : ∀ c d h, SameP B H u v c d → H c h = true → vx (on F) c) (hne : ∃ u v, H u v = true) :
    ∃ (fc' : Nat → Nat → α) (φ' : α → ρ), Stage n B H R on fc' φ' ∧ φ' (fc' u v) = F := by
  have hsB := S.g.sym
  have hsH := S.symH
  obtain ⟨p, d, _, _, q, _, _, g, _, hq, _⟩ := two_contacts hsB hsH S.g S.tc S.sub S.con hne h1 h2
  have hX : vx (on F) p ∧ vx (on F') p := ⟨hc p d q g hq, hf ▸ S.contact g h1 h2 hq⟩
  have nF : ∃ u v, on F u v = true := by obtain ⟨w, hw⟩ := hX.1; exact ⟨p, w, hw⟩
  have nF' : ∃ u v, on F' u v = true := by obtain ⟨w, hw⟩ := hX.2; exact ⟨p, w, hw⟩
  let D : Nat → Nat → Prop := Dd B H on fc φ F F'
  obtain ⟨Ω, G⟩ := S.region hF hF' hFF nF hfree
  obtain ⟨Ω2, G2'⟩ := S.region hF' hF (Ne.symm hFF) nF' hfree
  have G2 : Reg B H on fc φ F' F D Ω2 := G2'.congr fun u v => ⟨Dd.swap, Dd.swap⟩
  have Ds : ∀ u v, D u v → D v u := fun u v h => G.kp u v v u h (SameP.turn .refl)
  have disj : ∀ f, Ω f → ¬ Ω2 f := fun f e e' => hFF ((G.r0 f e).symm.trans (G2.r0 f e'))
  let O : α → Prop := fun f => Ω f ∨ Ω2 f
  obtain ⟨α0, hα0⟩ : ∃ f, Ω f := by obtain ⟨w, _, h⟩ := G.r3 p hX.1 hX.2; exact h.elim (fun h => ⟨_, h⟩) fun h => ⟨_, h⟩
  obtain ⟨β0, hβ0⟩ : ∃ f, Ω2 f := by obtain ⟨w, _, h⟩ := G2.r3 p hX.2 hX.1; exact h.elim (fun h => ⟨_, h⟩) fun h => ⟨_, h⟩
  let PA : (α → Prop) → Nat → Nat → α → Prop := fun W u v f => W f ∧ ∃ a b, Pt B D fc O u v a b ∧ fc a b = f
  let ch : (α → Prop) → α → Nat → Nat → α := fun W f0 u v => if h : ∃ f, PA W u v f then Classical.choose h else f0
  have chW : ∀ (W : α → Prop) (f0 : α) (u v : Nat), W f0 → W (ch W f0 u v) := fun W f0 u v h0 => by
    simp only [ch]
    split
    · next h => exact (Classical.choose_spec h).1
    · exact h0
  have chE : ∀ (W : α → Prop) (f0 : α) (u v a b : Nat), Pt B D fc O u v a b → Pt B D fc O a b u v → ch W f0 u v = ch W f0 a b := fun W f0 u v a b g g' => by
    have : PA W u v = PA W a b := funext fun f => propext ⟨fun h => ⟨h.1, h.2.elim fun s h => h.elim fun t h => ⟨s, t, g'.trans h.1, h.2⟩⟩, fun h => ⟨h.1, h.2.elim fun s h => h.elim fun t h => ⟨s, t, g.trans h.1, h.2⟩⟩⟩
    simp only [ch, this]
  have uniq2 : ∀ {u v a b : Nat}, B u v = true → ¬ D u v → Pt B D fc O u v a b → Ω2 (fc u v) → Ω2 (fc a b) → fc u v = fc a b := fun h1 h2 hp e1 e2 =>
    S.unique hF' hF (Ne.symm hFF) (D := D) (fun u v => ⟨Dd.swap, Dd.swap⟩) G2 G h1 h2 (by
      have : (fun f => Ω2 f ∨ Ω f) = O := funext fun f => propext Or.comm
      rw [this]; exact hp) e1 e2
  have uniq1 : ∀ {u v a b : Nat}, B u v = true → ¬ D u v → Pt B D fc O u v a b → Ω (fc u v) → Ω (fc a b) → fc u v = fc a b := fun h1 h2 hp e1 e2 =>
    S.unique hF hF' hFF (D := D) (fun u v => Iff.rfl) G G2 h1 h2 hp e1 e2
  let al := ch Ω α0
  let be := ch Ω2 β0
  have al_in : ∀ u v, Ω (al u v) := fun u v => chW Ω α0 u v hα0
  have be_in : ∀ u v, Ω2 (be u v) := fun u v => chW Ω2 β0 u v hβ0
  have al_s : ∀ u v, B u v = true → ¬ D u v → Ω (fc u v) → al u v = fc u v := fun u v e1 e2 e3 => by
    have h : ∃ f, PA Ω u v f := ⟨fc u v, e3, u, v, .refl, rfl⟩
    have : al u v = Classical.choose h := by simp only [al, ch, dif_pos h]
    rw [this]
    obtain ⟨k1, a, b, k2, k3⟩ := Classical.choose_spec h
    rw [← k3]
    exact (uniq1 e1 e2 k2 e3 (by rw [k3]; exact k1)).symm
  have be_s : ∀ u v, B u v = true → ¬ D u v → Ω2 (fc u v) → be u v = fc u v := fun u v e1 e2 e3 => by
    have h : ∃ f, PA Ω2 u v f := ⟨fc u v, e3, u, v, .refl, rfl⟩
    have : be u v = Classical.choose h := by simp only [be, ch, dif_pos h]
    rw [this]
    obtain ⟨k1, a, b, k2, k3⟩ := Classical.choose_spec h
    rw [← k3]
    exact (uniq2 e1 e2 k2 e3 (by rw [k3]; exact k1)).symm
  have ab_turn : ∀ u v, al u v = al v u ∧ be u v = be v u := fun u v => ⟨chE _ _ _ _ _ _ (Pt.turn .refl) (Pt.turn .refl), chE _ _ _ _ _ _ (Pt.turn .refl) (Pt.turn .refl)⟩
  have ab_over : ∀ u v a b, B u v = true → ¬ D u v → B a b = true → ¬ D a b → fc u v = fc a b → ¬ O (fc u v) → al u v = al a b ∧ be u v = be a b := fun u v a b e1 e2 e3 e4 e5 e6 => by
    have g : Pt B D fc O u v a b := Pt.over .refl e3 e4 e5 e6
    have g' : Pt B D fc O a b u v := Pt.over .refl e1 e2 e5.symm (e5 ▸ e6)
    exact ⟨chE _ _ _ _ _ _ g g', chE _ _ _ _ _ _ g g'⟩
  let fc' : Nat → Nat → α := fun u v => if D u v then fc u v else if Ω (fc u v) then be u v else if Ω2 (fc u v) then al u v else fc u v
  let φ' : α → ρ := fun f => if Ω f then F' else if Ω2 f then F else φ f
  -- faces of D's ties
  have DO : ∀ u v, D u v → (Ω (fc u v) ∧ Ω (fc v u)) ∨ (Ω2 (fc u v) ∧ Ω2 (fc v u)) := fun u v d => by
    rcases d.f with e | e
    · have := G.r4 u v d e
      exact .inl ⟨this, (G.r1 u v d).mp this⟩
    · have := G2.r4 u v d.swap e
      exact .inr ⟨this, (G2.r1 u v d).mp this⟩
  let tr : (α → Bool) → α → Bool := fun T f => if O f then T f else if h : ∃ p : Nat × Nat, B p.1 p.2 = true ∧ ¬ D p.1 p.2 ∧ fc p.1 p.2 = f then (T f ^^ (T (al (Classical.choose h).1 (Classical.choose h).2) ^^ T (be (Classical.choose h).1 (Classical.choose h).2))) else T f
  have tr_in : ∀ (T : α → Bool) (f : α), O f → tr T f = T f := fun T f h => by simp only [tr, if_pos h]
  have tr_out : ∀ (T : α → Bool) (u v : Nat), B u v = true → ¬ D u v → ¬ O (fc u v) → tr T (fc u v) = (T (fc u v) ^^ (T (al u v) ^^ T (be u v))) := fun T u v e1 e2 e3 => by
    have h : ∃ p : Nat × Nat, B p.1 p.2 = true ∧ ¬ D p.1 p.2 ∧ fc p.1 p.2 = fc u v := ⟨(u, v), e1, e2, rfl⟩
    simp only [tr, if_neg e3, dif_pos h]
    obtain ⟨k1, k2, k3⟩ := Classical.choose_spec h
    have := ab_over _ _ u v k1 k2 e1 e2 k3 (by rw [k3]; exact e3)
    rw [this.1, this.2]
  have one : ∀ (T : α → Bool) (u v : Nat), B u v = true → ¬ D u v → T (fc' u v) = (tr T (fc u v) ^^ (T (al u v) ^^ T (be u v))) := fun T u v e1 e2 => by
    simp only [fc', if_neg e2]
    by_cases o1 : Ω (fc u v)
    · rw [if_pos o1, tr_in T _ (.inl o1), al_s u v e1 e2 o1]; cases T (fc u v) <;> cases T (be u v) <;> rfl
    · rw [if_neg o1]
      by_cases o2 : Ω2 (fc u v)
      · rw [if_pos o2, tr_in T _ (.inr o2), be_s u v e1 e2 o2]; cases T (fc u v) <;> cases T (al u v) <;> rfl
      · rw [if_neg o2, tr_out T u v e1 e2 fun h => h.elim o1 o2]
        cases T (fc u v) <;> cases T (al u v) <;> cases T (be u v) <;> rfl
  have same : ∀ (T : α → Bool) (u v : Nat), B u v = true → dl fc' T u v = dl fc (tr T) u v := fun T u v eB => by
    simp only [dl]
    by_cases d : D u v
    · have d' := Ds _ _ d
      have f1 : fc' u v = fc u v := by simp only [fc', if_pos d]
      have f2 : fc' v u = fc v u := by simp only [fc', if_pos d']
      rw [f1, f2]
      rcases DO u v d with h | h
      · rw [tr_in T _ (.inl h.1), tr_in T _ (.inl h.2)]
      · rw [tr_in T _ (.inr h.1), tr_in T _ (.inr h.2)]
    · rw [one T u v eB d, one T v u (S.g.symm eB) (fun k => d (Ds _ _ k)), ← (ab_turn u v).1, ← (ab_turn u v).2]
      cases tr T (fc u v) <;> cases tr T (fc v u) <;> cases T (al u v) <;> cases T (be u v) <;> rfl
  have twice : ∀ (T : α → Bool) (u v : Nat), B u v = true → tr (tr T) (fc u v) = T (fc u v) := fun T u v eB => by
    by_cases o : O (fc u v)
    · rw [tr_in _ _ o, tr_in _ _ o]
    · have d : ¬ D u v := fun d => o ((DO u v d).elim (fun h => .inl h.1) fun h => .inr h.1)
      rw [tr_out _ u v eB d o, tr_out T u v eB d o, tr_in T _ (.inl (al_in u v)), tr_in T _ (.inr (be_in u v))]
      cases T (fc u v) <;> cases T (al u v) <;> cases T (be u v) <;> rfl
  have P' : Plane n B fc' := {
    even := fun T w => by
      have : (fun t => B w t && dl fc' T w t) = fun t => B w t && dl fc (tr T) w t := funext fun t => by
        cases e : B w t with
        | false => rfl
        | true => rw [same T w t e]
      rw [this]; exact S.p.even (tr T) w
    pot := fun x hx => by
      obtain ⟨T, hT⟩ := S.p.pot x hx
      refine ⟨tr T, fun s t e => ?_⟩
      rw [same (tr T) s t e, hT s t e]
      simp only [dl]
      rw [twice T s t e, twice T t s (S.g.symm e)] }
  have phi : ∀ s t, B s t = true → ¬ D s t → φ' (fc' s t) = φ (fc s t) := fun s t e d => by
    simp only [fc', if_neg d]
    by_cases o1 : Ω (fc s t)
    · rw [if_pos o1]
      have b := be_in s t
      have nb : ¬ Ω (be s t) := fun h => disj _ h b
      simp only [φ', if_neg nb, if_pos b]
      exact (G.r0 _ o1).symm
    · rw [if_neg o1]
      by_cases o2 : Ω2 (fc s t)
      · rw [if_pos o2]
        simp only [φ', if_pos (al_in s t)]
        exact (G2.r0 _ o2).symm
      · rw [if_neg o2]
        simp only [φ', if_neg o1, if_neg o2]
  have phiD : ∀ s t, D s t → (Ω (fc s t) → φ' (fc' s t) = F') ∧ (Ω2 (fc s t) → φ' (fc' s t) = F) := fun s t d => by
    have f1 : fc' s t = fc s t := by simp only [fc', if_pos d]
    rw [f1]
    exact ⟨fun h => by simp only [φ', if_pos h], fun h => by
      have : ¬ Ω (fc s t) := fun h' => disj _ h' h
      simp only [φ', if_neg this, if_pos h]⟩
  have dT : D u v := ⟨h1, h2, .inr hf, fun c d h g hq => ⟨hc c d h g hq, hf ▸ S.contact g h1 h2 hq⟩⟩
  refine ⟨fc', φ', ⟨S.g, S.tc, S.con, P', S.rg, S.sub, ⟨fun s t e => ?_, fun s t e => ?_, fun s t e e' => ?_⟩⟩, (phiD u v dT).2 (G2.r4 u v dT.swap hf)⟩
  · by_cases d : D s t
    · rcases DO s t d with h | h
      · rw [(phiD s t d).1 h.1]; exact hF'
      · rw [(phiD s t d).2 h.1]; exact hF
    · rw [phi s t e d]; exact S.ft.mem s t e
  · have d : ¬ D s t := fun d => by rw [d.l] at e; cases e
    have d' : ¬ D t s := fun k => d (Ds _ _ k)
    have eB := S.sub _ _ e
    rw [phi s t eB d, phi t s (S.g.symm eB) d']
    exact S.ft.drawn s t e
  · by_cases d : D s t
    · have d' := Ds _ _ d
      rcases DO s t d with h | h
      · rw [(phiD s t d).1 h.1, (phiD t s d').1 h.2]
      · rw [(phiD s t d).2 h.1, (phiD t s d').2 h.2]
    · have d' : ¬ D t s := fun k => d (Ds _ _ k)
      rw [phi s t e d, phi t s (S.g.symm e) d']
      exact S.ft.left s t e e'
end
end Wb
set_option maxHeartbeats 2000000
namespace Wb
open Classical
section
variable {α : Type} {n : Nat} {B : E2} {fc : Nat → Nat → α}
/-- a tie taken out -/
theorem Plane.cut1 (G : Gr n B) (P : Plane n B fc) {a b : Nat} (hab : B a b = true) : Plane n (fun u v => B u v && !edge a b u v) (fun u v => if fc u v = fc b a then fc a b else fc u v) := by
  let mg : α → α := fun f => if f = fc b a then fc a b else f
  show Plane n (fun u v => B u v && !edge a b u v) (fun u v => mg (fc u v))
  refine ⟨fun T u => ?_, fun x hx => ?_⟩
  · have e : (fun v => (B u v && !edge a b u v) && dl (fun u v => mg (fc u v)) T u v) = fun v => B u v && dl fc (fun f => T (mg f)) u v := funext fun v => by
      cases eB : B u v with
      | false => rfl
      | true =>
        cases ee : edge a b u v with
        | false => simp [dl]
        | true =>
          have hm : mg (fc b a) = fc a b := by simp [mg]
          have hm2 : mg (fc a b) = fc a b := by simp only [mg]; split <;> rfl
          rcases edge_iff.mp ee with ⟨rfl, rfl⟩ | ⟨rfl, rfl⟩ <;> simp [dl, hm, hm2]
    rw [e]; exact P.even _ u
  · obtain ⟨T, hT⟩ := P.pot x ⟨hx.sym, fun u v e => by have := hx.sub u v e; simp only [Bool.and_eq_true] at this; exact this.1, hx.even⟩
    have z : x a b = false := by
      cases e : x a b with
      | false => rfl
      | true =>
        have := hx.sub a b e
        have he : edge a b a b = true := edge_iff.mpr (.inl ⟨rfl, rfl⟩)
        simp [he] at this
    have ht := hT a b hab
    rw [z] at ht
    have tt : T (fc a b) = T (fc b a) := by
      simp only [dl] at ht
      cases e1 : T (fc a b) <;> cases e2 : T (fc b a) <;> simp [e1, e2] at ht ⊢
    have tm : ∀ f, T (mg f) = T f := fun f => by
      simp only [mg]; split
      · next h => rw [h]; exact tt
      · rfl
    refine ⟨T, fun u v e => ?_⟩
    simp only [Bool.and_eq_true] at e
    rw [hT u v e.1]; simp only [dl, tm]
theorem Plane.cut (G : Gr n B) (P : Plane n B fc) {a b : Nat} (hab : B a b = true) : ∃ fc' : Nat → Nat → α, Plane n (fun u v => B u v && !edge a b u v) fc' := ⟨_, P.cut1 G hab⟩
theorem Plane.restrict (G : Gr n B) (P : Plane n B fc) {A : E2} (hA : Sym A) (hs : Sub A B) : ∃ fc' : Nat → Nat → α, Plane n A fc' := by
  have key : ∀ L : List (Nat × Nat), ∃ (C : E2) (fc' : Nat → Nat → α), Gr n C ∧ Plane n C fc' ∧ Sub A C ∧ Sub C B ∧ ∀ p ∈ L, C p.1 p.2 = true → A p.1 p.2 = true := fun L => by
    induction L with
    | nil => exact ⟨B, fc, G, P, hs, fun _ _ e => e, fun p hp => by cases hp⟩
    | cons p L ih =>
      obtain ⟨C, fc', h1, h2, h3, h4, h5⟩ := ih
      by_cases hp : C p.1 p.2 = true ∧ A p.1 p.2 = false
      · obtain ⟨fc2, hfc2⟩ := h2.cut h1 hp.1
        refine ⟨fun u v => C u v && !edge p.1 p.2 u v, fc2, h1.sub (fun u v => by rw [h1.sym u v, edge_sym p.1 p.2 u v]) (fun u v e => by simp only [Bool.and_eq_true] at e; exact e.1), hfc2, fun u v e => ?_, fun u v e => ?_, fun q hq e => ?_⟩
        · have : edge p.1 p.2 u v = false := by
            cases e' : edge p.1 p.2 u v with
            | false => rfl
            | true =>
              rcases edge_iff.mp e' with ⟨rfl, rfl⟩ | ⟨rfl, rfl⟩
              · rw [hp.2] at e; cases e
              · rw [hA, hp.2] at e; cases e
          simp [h3 u v e, this]
        · simp only [Bool.and_eq_true] at e; exact h4 u v e.1
        · simp only [Bool.and_eq_true] at e
          cases hq with
          | head =>
            have he : edge p.1 p.2 p.1 p.2 = true := edge_iff.mpr (.inl ⟨rfl, rfl⟩)
            rw [he] at e; simp at e
          | tail _ hq => exact h5 q hq e.1
      · refine ⟨C, fc', h1, h2, h3, h4, fun q hq e => ?_⟩
        cases hq with
        | head =>
          cases e' : A p.1 p.2 with
          | true => rfl
          | false => exact absurd ⟨e, e'⟩ hp
        | tail _ hq => exact h5 q hq e
  obtain ⟨C, fc', h1, h2, h3, h4, h5⟩ := key ((List.range n).flatMap fun u => (List.range n).map fun v => (u, v))
  have : C = A := funext fun u => funext fun v => by
    cases e : C u v with
    | true =>
      have hb := h1.bnd u v e
      have := h5 (u, v) (by simp only [List.mem_flatMap, List.mem_map, List.mem_range]; exact ⟨u, hb.1, v, hb.2, rfl⟩) e
      exact this.symm
    | false =>
      cases e' : A u v with
      | false => rfl
      | true => rw [h3 u v e'] at e; cases e
  rw [← this]; exact ⟨fc', h2⟩
/-- five corners all tied have no such faces -/
theorem five_face (G : Gr n B) (P : Plane n B fc) {v p q r s : Nat} (hv : [v, p, q, r, s].Nodup) (hB : ∀ u w, B u w = true ↔ u ≠ w ∧ u ∈ [v, p, q, r, s] ∧ w ∈ [v, p, q, r, s]) :
    ∃ f, (f = fc v p ∨ f = fc p v) ∧ (f = fc v q ∨ f = fc q v) ∧ (f ≠ fc v r ∧ f ≠ fc r v) ∧ (f ≠ fc v s ∧ f ≠ fc s v) := by
  simp only [List.nodup_cons, List.mem_cons, List.not_mem_nil, not_or, or_false, List.nodup_nil, and_true, not_false_eq_true] at hv
  obtain ⟨⟨vp, vq, vr, vs⟩, ⟨pq, pr, ps⟩, ⟨qr, qs⟩, rs⟩ := hv
  have tc : TC B := fun y a b ha hb => by
    by_cases e : a = b
    · rw [e]; exact .refl
    · have h1 := (hB y a).mp ha
      have h2 := (hB y b).mp hb
      exact .one (Av_iff.mpr ⟨(hB a b).mpr ⟨e, h1.2.2, h2.2.2⟩, Ne.symm h1.1, Ne.symm h2.1⟩)
  have Bvp : B v p = true := (hB v p).mpr ⟨vp, by simp, by simp⟩
  have Bvq : B v q = true := (hB v q).mpr ⟨vq, by simp, by simp⟩
  have Bvr : B v r = true := (hB v r).mpr ⟨vr, by simp, by simp⟩
  have Bvs : B v s = true := (hB v s).mpr ⟨vs, by simp, by simp⟩
  have Bpq : B p q = true := (hB p q).mpr ⟨pq, by simp, by simp⟩
  have Brs : B r s = true := (hB r s).mpr ⟨rs, by simp, by simp⟩
  let x : E2 := xr (edge v p) (xr (edge p q) (edge q v))
  obtain ⟨T, hT⟩ := P.pot x ⟨(edge_sym v p).xr ((edge_sym p q).xr (edge_sym q v)), Sub.xr (edge_sub G.sym Bvp) (Sub.xr (edge_sub G.sym Bpq) (edge_sub G.sym (G.symm Bvq))), fun u => by
    rw [dv_xr, dv_xr, edge_dv vp (G.bnd1 Bvp) (G.bnd2 Bvp), edge_dv pq (G.bnd1 Bpq) (G.bnd2 Bpq), edge_dv (Ne.symm vq) (G.bnd2 Bvq) (G.bnd1 Bvq)]
    cases decide (u = v) <;> cases decide (u = p) <;> cases decide (u = q) <;> rfl⟩
  have off : ∀ t, t ≠ v → t ≠ p → t ≠ q → ∀ w, B t w = true → T (fc t w) = T (fc w t) := fun t h1 h2 h3 w hw => by
    have := hT t w hw
    have z : x t w = false := by simp [x, xr, edge, h1, h2, h3]
    rw [z] at this
    simp only [dl] at this
    cases e1 : T (fc t w) <;> cases e2 : T (fc w t) <;> simp [e1, e2] at this ⊢
  have offr := off r (Ne.symm vr) (Ne.symm pr) (Ne.symm qr)
  have offs := off s (Ne.symm vs) (Ne.symm ps) (Ne.symm qs)
  have r1 : T (fc r v) = T (fc r s) := all_at G tc P T offr (G.symm Bvr) Brs
  have s1 : T (fc s v) = T (fc s r) := all_at G tc P T offs (G.symm Bvs) (G.symm Brs)
  have r2 := offr v (G.symm Bvr)
  have s2 := offs v (G.symm Bvs)
  have rs2 := offr s Brs
  have tr : T (fc v r) = T (fc r v) := r2.symm
  have ts1 : T (fc s v) = T (fc r v) := by rw [s1, ← rs2, r1]
  have ts2 : T (fc v s) = T (fc r v) := by rw [← s2, ts1]
  have hp := hT v p Bvp
  have xp : x v p = true := by simp [x, xr, edge, vp, Ne.symm vp, pq, vq]
  rw [xp] at hp
  simp only [dl] at hp
  -- the face of the tie v, p with the other worth
  obtain ⟨f, hf, hfT, hff⟩ : ∃ f, (f = fc v p ∨ f = fc p v) ∧ T f ≠ T (fc r v) ∧ (decide (fc v p = f) ^^ decide (fc p v = f)) = true := by
    have hne : fc v p ≠ fc p v := fun e => by rw [e] at hp; simp at hp
    by_cases h : T (fc v p) = T (fc r v)
    · refine ⟨fc p v, .inr rfl, fun e => ?_, by simp [hne]⟩
      rw [h, e] at hp; simp at hp
    · exact ⟨fc v p, .inl rfl, h, by simp [Ne.symm hne]⟩
  have nr : fc v r ≠ f ∧ fc r v ≠ f := ⟨fun e => hfT (by rw [← e, tr]), fun e => hfT (by rw [← e])⟩
  have ns : fc v s ≠ f ∧ fc s v ≠ f := ⟨fun e => hfT (by rw [← e, ts2]), fun e => hfT (by rw [← e, ts1])⟩
  refine ⟨f, hf, ?_, ⟨Ne.symm nr.1, Ne.symm nr.2⟩, ⟨Ne.symm ns.1, Ne.symm ns.2⟩⟩
  have ev := P.even (fun g => decide (g = f)) v
  rw [par_two pq (G.bnd2 Bvp) (G.bnd2 Bvq)] at ev
  · rw [Bvp, Bvq] at ev
    simp only [dl, Bool.true_and] at ev
    rw [hff] at ev
    refine Classical.byContradiction fun hno => ?_
    have h1 : fc v q ≠ f := fun e => hno (.inl e.symm)
    have h2 : fc q v ≠ f := fun e => hno (.inr e.symm)
    simp [h1, h2] at ev
  · intro i _ h1 h2
    cases eB : B v i with
    | false => rfl
    | true =>
      have := (hB v i).mp eB
      simp only [List.mem_cons, List.not_mem_nil, or_false] at this
      rcases this.2.2 with rfl | rfl | rfl | rfl | rfl
      · exact absurd rfl this.1
      · exact absurd rfl h1
      · exact absurd rfl h2
      · simp [dl, nr.1, nr.2]
      · simp [dl, ns.1, ns.2]
theorem no_five (G : Gr n B) (P : Plane n B fc) {v a b c d : Nat} (hv : [v, a, b, c, d].Nodup) (hB : ∀ u w, u ≠ w → u ∈ [v, a, b, c, d] → w ∈ [v, a, b, c, d] → B u w = true) : False := by
  let K : E2 := fun u w => decide (u ≠ w ∧ u ∈ [v, a, b, c, d] ∧ w ∈ [v, a, b, c, d])
  have Ks : Sym K := fun u w => by
    have : (u ≠ w ∧ u ∈ [v, a, b, c, d] ∧ w ∈ [v, a, b, c, d]) ↔ (w ≠ u ∧ w ∈ [v, a, b, c, d] ∧ u ∈ [v, a, b, c, d]) := ⟨fun h => ⟨Ne.symm h.1, h.2.2, h.2.1⟩, fun h => ⟨Ne.symm h.1, h.2.2, h.2.1⟩⟩
    simp only [K, this]
  have KB : Sub K B := fun u w e => by
    simp only [K, decide_eq_true_eq] at e
    exact hB u w e.1 e.2.1 e.2.2
  have GK := G.sub Ks KB
  obtain ⟨fc', P'⟩ := P.restrict G Ks KB
  have iff : ∀ u w, K u w = true ↔ u ≠ w ∧ u ∈ [v, a, b, c, d] ∧ w ∈ [v, a, b, c, d] := fun u w => by simp only [K, decide_eq_true_eq]
  have perm : ∀ {l : List Nat}, l.Perm [v, a, b, c, d] → l.Nodup ∧ ∀ u w, K u w = true ↔ u ≠ w ∧ u ∈ l ∧ w ∈ l := fun {l} hl => ⟨hl.nodup_iff.mpr hv, fun u w => by rw [iff, hl.mem_iff, hl.mem_iff]⟩
  have p1 := perm (List.Perm.refl [v, a, b, c, d])
  have p2 := perm (show [v, a, c, b, d].Perm [v, a, b, c, d] from ((List.Perm.swap b c [d]).cons a).cons v)
  have p3 := perm (show [v, a, d, b, c].Perm [v, a, b, c, d] from by
    refine ((List.Perm.trans (List.Perm.swap b d [c]) ((List.Perm.swap c d []).cons b)).cons a).cons v)
  obtain ⟨f1, x1, y1, z1, w1⟩ := five_face GK P' p1.1 p1.2
  obtain ⟨f2, x2, y2, z2, w2⟩ := five_face GK P' p2.1 p2.2
  obtain ⟨f3, x3, y3, z3, w3⟩ := five_face GK P' p3.1 p3.2
  have d12 : f1 ≠ f2 := fun e => y2.elim (fun h => z1.1 (e.trans h)) fun h => z1.2 (e.trans h)
  have d13 : f1 ≠ f3 := fun e => y3.elim (fun h => w1.1 (e.trans h)) fun h => w1.2 (e.trans h)
  have d23 : f2 ≠ f3 := fun e => y3.elim (fun h => w2.1 (e.trans h)) fun h => w2.2 (e.trans h)
  rcases x1 with h1 | h1 <;> rcases x2 with h2 | h2 <;> rcases x3 with h3 | h3
  · exact d12 (h1.trans h2.symm)
  · exact d12 (h1.trans h2.symm)
  · exact d13 (h1.trans h3.symm)
  · exact d23 (h2.trans h3.symm)
  · exact d23 (h2.trans h3.symm)
  · exact d13 (h1.trans h3.symm)
  · exact d12 (h1.trans h2.symm)
  · exact d12 (h1.trans h2.symm)
/-- a way put into a face -/
theorem Plane.add (P : Plane n B fc) {F F1 F2 : α} (h12 : F1 ≠ F2) {W y : E2} {fc' : Nat → Nat → α} (hWs : Sym W) (hys : Sym y) (hWB : ∀ u v, W u v = true → B u v = false)
    (a0 : ∀ u v, B u v = true → fc u v ≠ F → fc u v ≠ F1 ∧ fc u v ≠ F2) (a1 : ∀ u v, B u v = true → fc u v ≠ F → fc' u v = fc u v)
    (a2 : ∀ u v, B u v = true → fc u v = F → fc' u v = if y u v = true then F1 else F2)
    (a3 : ∀ u v, W u v = true → (fc' u v = F1 ∧ fc' v u = F2) ∨ (fc' u v = F2 ∧ fc' v u = F1))
    (a4 : ∀ u v, B u v = true → ¬ (fc u v = F ∧ fc v u = F)) (hBs : Sym B)
    (hy : ∀ u v, y u v = true → B u v = true ∧ (fc u v = F ∨ fc v u = F)) (hd : ∀ u, dv n y u = dv n W u)
    (hW : ∀ x, Flow n (fun u v => B u v || W u v) x → ∃ c, ∀ u v, W u v = true → x u v = c) : Plane n (fun u v => B u v || W u v) fc' := by
  refine ⟨fun T' u => ?_, fun x hx => ?_⟩
  · let T : α → Bool := fun f => if f = F then T' F2 else T' f
    have e : ∀ v, ((B u v || W u v) && dl fc' T' u v) = ((B u v && dl fc T u v) ^^ ((T' F1 ^^ T' F2) && (y u v ^^ W u v))) := fun v => by
      cases eB : B u v with
      | true =>
        have eB' : B v u = true := by rw [hBs]; exact eB
        have eW : W u v = false := by
          cases e : W u v with
          | false => rfl
          | true => rw [hWB u v e] at eB; cases eB
        simp only [eW, dl, Bool.true_and, Bool.or_false, Bool.xor_false]
        by_cases hf : fc u v = F
        · have hf2 : fc v u ≠ F := fun e => a4 u v eB ⟨hf, e⟩
          rw [a2 u v eB hf, a1 v u eB' hf2]
          simp only [T, hf, if_true, if_neg hf2]
          cases ey : y u v <;> simp <;> cases T' F1 <;> cases T' F2 <;> cases T' (fc v u) <;> rfl
        · by_cases hf2 : fc v u = F
          · rw [a1 u v eB hf, a2 v u eB' hf2, ← hys u v]
            simp only [T, hf2, if_true, if_neg hf]
            cases ey : y u v <;> simp <;> cases T' F1 <;> cases T' F2 <;> cases T' (fc u v) <;> rfl
          · rw [a1 u v eB hf, a1 v u eB' hf2]
            have : y u v = false := by
              cases e : y u v with
              | false => rfl
              | true => exact absurd (hy u v e).2 (fun h => h.elim hf hf2)
            simp [T, hf, hf2, this]
      | false =>
        have ey : y u v = false := by
          cases e : y u v with
          | false => rfl
          | true => rw [(hy u v e).1] at eB; cases eB
        cases eW : W u v with
        | false => simp [ey]
        | true =>
          simp only [dl, ey]
          rcases a3 u v eW with h | h <;> simp [h.1, h.2, Bool.xor_comm]
    rw [show (fun v => (B u v || W u v) && dl fc' T' u v) = fun v => ((B u v && dl fc T u v) ^^ ((T' F1 ^^ T' F2) && (y u v ^^ W u v))) from funext e, par_xor, par_and, P.even T u]
    have : par (fun v => y u v ^^ W u v) n = false := by
      rw [par_xor]
      have := hd u
      unfold dv at this
      rw [show par (fun v => y u v) n = par (y u) n from rfl, show par (fun v => W u v) n = par (W u) n from rfl, this]; simp
    rw [this]; simp
  · obtain ⟨c, hc⟩ := hW x hx
    let x' : E2 := fun u v => x u v ^^ (c && (y u v ^^ W u v))
    have yW : ∀ u v, W u v = true → y u v = false := fun u v e => by
      cases e' : y u v with
      | false => rfl
      | true => have := (hy u v e').1; rw [hWB u v e] at this; cases this
    obtain ⟨T, hT⟩ := P.pot x' ⟨fun u v => by simp only [x', hx.sym u v, hys u v, hWs u v], fun u v e => by
      cases eB : B u v with
      | true => rfl
      | false =>
        have ey : y u v = false := by
          cases e : y u v with
          | false => rfl
          | true => rw [(hy u v e).1] at eB; cases eB
        simp only [x', ey, Bool.false_xor] at e
        cases eW : W u v with
        | true => rw [hc u v eW, eW] at e; cases c <;> simp at e
        | false =>
          rw [eW] at e
          have : x u v = true := by simpa using e
          have := hx.sub u v this
          simp [eB, eW] at this, fun u => by
      show par (fun v => x u v ^^ (c && (y u v ^^ W u v))) n = false
      rw [par_xor, par_and, par_xor]
      have h1 : par (fun v => x u v) n = false := hx.even u
      have := hd u
      unfold dv at this
      rw [h1, show par (fun v => y u v) n = par (y u) n from rfl, show par (fun v => W u v) n = par (W u) n from rfl, this]; simp⟩
    let T' : α → Bool := fun f => if f = F1 then (T F ^^ c) else if f = F2 then T F else T f
    have t1 : T' F1 = (T F ^^ c) := by simp [T']
    have t2 : T' F2 = T F := by simp [T', Ne.symm h12]
    have t3 : ∀ u v, B u v = true → fc u v ≠ F → T' (fc u v) = T (fc u v) := fun u v e h => by
      have := a0 u v e h
      simp [T', this.1, this.2]
    refine ⟨T', fun u v e => ?_⟩
    cases eB : B u v with
    | true =>
      have eB' : B v u = true := by rw [hBs]; exact eB
      have eW : W u v = false := by
        cases e : W u v with
        | false => rfl
        | true => rw [hWB u v e] at eB; cases eB
      have h := hT u v eB
      simp only [x', eW, Bool.xor_false, dl] at h
      simp only [dl]
      by_cases hf : fc u v = F
      · have hf2 : fc v u ≠ F := fun e => a4 u v eB ⟨hf, e⟩
        rw [a2 u v eB hf, a1 v u eB' hf2, t3 v u eB' hf2]
        rw [hf] at h
        cases ey : y u v
        · rw [ey] at h; simp [t2]; simpa using h
        · rw [ey] at h; simp [t1]
          cases e1 : x u v <;> cases e2 : c <;> cases e3 : T F <;> cases e4 : T (fc v u) <;> simp [e1, e2, e3, e4] at h ⊢
      · by_cases hf2 : fc v u = F
        · rw [a1 u v eB hf, a2 v u eB' hf2, ← hys u v, t3 u v eB hf]
          rw [hf2] at h
          cases ey : y u v
          · rw [ey] at h; simp [t2]; simpa using h
          · rw [ey] at h; simp [t1]
            cases e1 : x u v <;> cases e2 : c <;> cases e3 : T F <;> cases e4 : T (fc u v) <;> simp [e1, e2, e3, e4] at h ⊢
        · rw [a1 u v eB hf, a1 v u eB' hf2, t3 u v eB hf, t3 v u eB' hf2]
          have : y u v = false := by
            cases e : y u v with
            | false => rfl
            | true => exact absurd (hy u v e).2 (fun h => h.elim hf hf2)
          rw [this] at h; simpa using h
    | false =>
      have eW : W u v = true := by simpa [eB] using e
      rw [hc u v eW]
      simp only [dl]
      rcases a3 u v eW with h | h <;> rw [h.1, h.2, t1, t2] <;> cases T F <;> cases c <;> rfl
theorem par_re {k : Nat} {g : Nat → Nat} (hg : ∀ j, j < k → g j < n) (hi : ∀ i j, i < k → j < k → g i = g j → i = j) (f : Nat → Bool) (hf : ∀ v, v < n → f v = true → ∃ j, j < k ∧ g j = v) : par f n = par (fun j => f (g j)) k := by
  have e : par f n = par (fun v => par (fun j => decide (g j = v) && f (g j)) k) n := par_congr fun v hv => by
    by_cases h : ∃ j, j < k ∧ g j = v
    · obtain ⟨j, hj, rfl⟩ := h
      rw [par_one (f := fun j' => decide (g j' = g j) && f (g j')) hj]
      · simp
      · intro i h1 h2
        have : g i ≠ g j := fun e => h2 (hi i j h1 hj e)
        simp [this]
    · have z : f v = false := by
        cases e : f v with
        | false => rfl
        | true => exact absurd (hf v hv e) h
      rw [z, par_zero]
      intro i hi
      have : g i ≠ v := fun e => h ⟨i, hi, e⟩
      simp [this]
  rw [e, par_swap]
  refine par_congr fun j hj => ?_
  rw [par_one (f := fun v => decide (g j = v) && f (g j)) (hg j hj)]
  · simp
  · intro i _ h; simp [Ne.symm h]
/-- the same ties by other names -/
theorem Plane.rename (G : Gr n B) (P : Plane n B fc) {k : Nat} {g : Nat → Nat} (hg : ∀ j, j < k → g j < n) (hi : ∀ i j, i < k → j < k → g i = g j → i = j) {A : E2} (GA : Gr k A)
    (hA : ∀ i j, i < k → j < k → A i j = B (g i) (g j)) (hB : ∀ u v, B u v = true → ∃ j, j < k ∧ g j = u) : Plane k A (fun i j => fc (g i) (g j)) := by
  refine ⟨fun T i => ?_, fun x hx => ?_⟩
  · by_cases hik : i < k
    · have h := P.even T (g i)
      rw [par_re hg hi _ (fun v _ e => by simp only [Bool.and_eq_true] at e; exact hB v (g i) (G.symm e.1))] at h
      rw [← h]
      exact par_congr fun j hj => by rw [hA i j hik hj]; rfl
    · exact par_zero fun j _ => by
        cases e : A i j with
        | false => rfl
        | true => exact absurd (GA.bnd1 e) hik
  · let z : E2 := fun u v => decide (∃ i j, i < k ∧ j < k ∧ g i = u ∧ g j = v ∧ x i j = true)
    have zg : ∀ i j, i < k → j < k → z (g i) (g j) = x i j := fun i j h1 h2 => by
      cases e : x i j with
      | true => simp only [z, decide_eq_true_eq]; exact ⟨i, j, h1, h2, rfl, rfl, e⟩
      | false =>
        simp only [z, decide_eq_false_iff_not]
        rintro ⟨i', j', a1, a2, a3, a4, a5⟩
        rw [hi _ _ a1 h1 a3, hi _ _ a2 h2 a4, e] at a5; cases a5
    have zs : Sym z := fun u v => by
      have : (∃ i j, i < k ∧ j < k ∧ g i = u ∧ g j = v ∧ x i j = true) ↔ (∃ i j, i < k ∧ j < k ∧ g i = v ∧ g j = u ∧ x i j = true) :=
        ⟨fun ⟨i, j, a1, a2, a3, a4, a5⟩ => ⟨j, i, a2, a1, a4, a3, by rw [hx.sym]; exact a5⟩, fun ⟨i, j, a1, a2, a3, a4, a5⟩ => ⟨j, i, a2, a1, a4, a3, by rw [hx.sym]; exact a5⟩⟩
      simp only [z, this]
    obtain ⟨T, hT⟩ := P.pot z ⟨zs, fun u v e => by
      simp only [z, decide_eq_true_eq] at e
      obtain ⟨i, j, a1, a2, rfl, rfl, a5⟩ := e
      rw [← hA i j a1 a2]; exact hx.sub i j a5, fun u => by
      by_cases h : ∃ i, i < k ∧ g i = u
      · obtain ⟨i, hik, rfl⟩ := h
        unfold dv
        rw [par_re hg hi _ (fun v _ e => by
          simp only [z, decide_eq_true_eq] at e
          obtain ⟨_, j, _, a2, _, a4, _⟩ := e
          exact ⟨j, a2, a4⟩)]
        have := hx.even i
        unfold dv at this
        rw [← this]
        exact par_congr fun j hj => zg i j hik hj
      · exact par_zero fun v _ => by
          simp only [z, decide_eq_false_iff_not]
          rintro ⟨i, _, a1, _, a3, _⟩
          exact h ⟨i, a1, a3⟩⟩
    refine ⟨T, fun i j e => ?_⟩
    have hb := GA.bnd i j e
    rw [← zg i j hb.1 hb.2, hT _ _ (by rw [← hA i j hb.1 hb.2]; exact e)]
    rfl
end
end Wb
set_option maxHeartbeats 2000000
namespace Wb
open Classical
/-! rings as lists -/
/-- steps of a way -/
def pd : List Nat → Nat → Nat → Bool
  | a :: b :: l, u, v => (decide (u = a) && decide (v = b)) || pd (b :: l) u v
  | _, _, _ => false
/-- steps of a ring -/
def dart : List Nat → Nat → Nat → Bool
  | [], _, _ => false
  | a :: l, u, v => pd (a :: l ++ [a]) u v
def spE (l : List Nat) : E2 := fun u v => pd l u v || pd l v u
def onE (r : List Nat) : E2 := fun u v => dart r u v || dart r v u
theorem spE_sym (l : List Nat) : Sym (spE l) := fun u v => Bool.or_comm _ _
theorem onE_sym (l : List Nat) : Sym (onE l) := fun u v => Bool.or_comm _ _
theorem pd_two (a b : Nat) (l : List Nat) (u v : Nat) : pd (a :: b :: l) u v = true ↔ (u = a ∧ v = b) ∨ pd (b :: l) u v = true := by
  simp [pd]
theorem pd_mem : ∀ {l : List Nat} {u v : Nat}, pd l u v = true → u ∈ l ∧ v ∈ l
  | [], _, _, h => by cases h
  | [_], _, _, h => by cases h
  | a :: b :: l, u, v, h => by
    rcases (pd_two a b l u v).mp h with ⟨rfl, rfl⟩ | h
    · exact ⟨by simp, by simp⟩
    · have := pd_mem h
      exact ⟨.tail _ this.1, .tail _ this.2⟩
theorem pd_app : ∀ (l1 : List Nat) (m : Nat) (l2 : List Nat) (u v : Nat), pd (l1 ++ m :: l2) u v = (pd (l1 ++ [m]) u v || pd (m :: l2) u v)
  | [], m, l2, u, v => by simp [pd]
  | [a], m, l2, u, v => by simp [pd]
  | a :: b :: l, m, l2, u, v => by
    have ih := pd_app (b :: l) m l2 u v
    simp only [List.cons_append] at ih ⊢
    show ((decide (u = a) && decide (v = b)) || pd (b :: (l ++ m :: l2)) u v) = (((decide (u = a) && decide (v = b)) || pd (b :: (l ++ [m])) u v) || pd (m :: l2) u v)
    rw [ih, Bool.or_assoc]
theorem pd_rev : ∀ (l : List Nat) (u v : Nat), pd l.reverse u v = pd l v u
  | [], _, _ => rfl
  | [_], _, _ => rfl
  | a :: b :: l, u, v => by
    have ih := pd_rev (b :: l) u v
    have e : (a :: b :: l).reverse = l.reverse ++ b :: [a] := by simp
    have e2 : (b :: l).reverse = l.reverse ++ [b] := by simp
    rw [e, pd_app, ← e2, ih]
    show (pd (b :: l) v u || ((decide (u = b) && decide (v = a)) || false)) = ((decide (v = a) && decide (u = b)) || pd (b :: l) v u)
    rw [Bool.or_false, Bool.or_comm, Bool.and_comm]
theorem dart_app : ∀ (l1 l2 : List Nat) (u v : Nat), dart (l1 ++ l2) u v = dart (l2 ++ l1) u v
  | [], l2, u, v => by simp
  | a :: l1, [], u, v => by simp
  | a :: l1, b :: l2, u, v => by
    show pd (a :: l1 ++ b :: l2 ++ [a]) u v = pd (b :: l2 ++ a :: l1 ++ [b]) u v
    have e1 : a :: l1 ++ b :: l2 ++ [a] = (a :: l1) ++ b :: (l2 ++ [a]) := by simp
    have e2 : b :: l2 ++ a :: l1 ++ [b] = (b :: l2) ++ a :: (l1 ++ [b]) := by simp
    rw [e1, e2, pd_app (a :: l1) b, pd_app (b :: l2) a]
    exact Bool.or_comm _ _
theorem dart_mem {r : List Nat} {u v : Nat} (h : dart r u v = true) : u ∈ r ∧ v ∈ r := by
  cases r with
  | nil => cases h
  | cons a l =>
    have := pd_mem h
    simp at this ⊢
    exact ⟨this.1.elim .inl (fun h => h.elim .inr .inl), this.2.elim .inl (fun h => h.elim .inr .inl)⟩
/-- steps from a corner that is not among those ahead -/
theorem pd_from : ∀ {l : List Nat} {u z v : Nat}, u ∉ l → pd (l ++ [z]) u v = false
  | [], _, _, _, _ => rfl
  | [a], u, z, v, h => by simp at h; simp [pd, h]
  | a :: b :: l, u, z, v, h => by
    have ih := pd_from (l := b :: l) (u := u) (z := z) (v := v) (fun h' => h (.tail _ h'))
    simp at h
    simp only [List.cons_append] at ih ⊢
    simp [pd, h.1]; exact ih
theorem pd_to {l : List Nat} {z u v : Nat} (h : v ∉ l) : pd (z :: l) u v = false := by
  have := pd_rev (l.reverse ++ [z]) u v
  simp at this
  rw [this]; exact pd_from (by simpa using h)
theorem dart_first {u b : Nat} {l : List Nat} (h : (u :: b :: l).Nodup) (v : Nat) : dart (u :: b :: l) u v = true ↔ v = b := by
  show pd (u :: b :: l ++ [u]) u v = true ↔ _
  simp only [List.cons_append]
  rw [pd_two]
  have hu : u ∉ b :: l := (List.nodup_cons.mp h).1
  have : pd (b :: (l ++ [u])) u v = false := pd_from (l := b :: l) hu
  rw [this]; simp
theorem dart_last {u b : Nat} {l : List Nat} (h : (u :: (l ++ [b])).Nodup) (v : Nat) : dart (u :: (l ++ [b])) v u = true ↔ v = b := by
  have e : dart (u :: (l ++ [b])) v u = pd (u :: (l ++ b :: [u])) v u := by show pd (u :: (l ++ [b]) ++ [u]) v u = _; simp
  rw [e]
  have e2 : u :: (l ++ b :: [u]) = (u :: l) ++ b :: [u] := by simp
  rw [e2, pd_app]
  have hu : u ∉ l ++ [b] := (List.nodup_cons.mp h).1
  have : pd ((u :: l) ++ [b]) v u = false := pd_to (z := u) (l := l ++ [b]) hu
  rw [this]; simp [pd]
theorem spE_conn {A : E2} : ∀ {l : List Nat} {a : Nat}, (∀ u v, pd (a :: l) u v = true → A u v = true) → ∀ x, x ∈ a :: l → Conn A a x
  | [], a, _, x, hx => by simp at hx; rw [hx]; exact .refl
  | b :: l, a, h, x, hx => by
    have ih := spE_conn (A := A) (l := l) (a := b) (fun u v e => h u v ((pd_two a b l u v).mpr (.inr e)))
    cases hx with
    | head => exact .refl
    | tail _ hx => exact (Conn.one (h a b ((pd_two a b l a b).mpr (.inl ⟨rfl, rfl⟩)))).trans (ih x hx)
/-- a ring turned to begin with one of its corners -/
theorem turn_to {r : List Nat} {u : Nat} (hn : r.Nodup) (h3 : 3 ≤ r.length) (hu : u ∈ r) : ∃ b m c, (u :: b :: (m ++ [c])).Nodup ∧ (∀ x y, dart r x y = dart (u :: b :: (m ++ [c])) x y) ∧ (∀ x, x ∈ r ↔ x ∈ u :: b :: (m ++ [c])) := by
  obtain ⟨l1, l2, rfl⟩ := List.append_of_mem hu
  have hp : (l1 ++ u :: l2).Perm (u :: (l2 ++ l1)) := by
    refine (List.perm_append_comm).trans ?_
    simp
  have hl : 2 ≤ (l2 ++ l1).length := by simp at h3 ⊢; omega
  obtain ⟨b, t, e⟩ : ∃ b t, l2 ++ l1 = b :: t := by
    cases e : l2 ++ l1 with
    | nil => rw [e] at hl; simp at hl
    | cons b t => exact ⟨b, t, rfl⟩
  have ht : t ≠ [] := fun h => by rw [e, h] at hl; simp at hl
  obtain ⟨m, c, e2⟩ : ∃ m c, t = m ++ [c] := ⟨t.dropLast, t.getLast ht, (List.dropLast_concat_getLast ht).symm⟩
  rw [e2] at e
  refine ⟨b, m, c, ?_, fun x y => ?_, fun x => ?_⟩
  · rw [← e]; exact hp.nodup_iff.mp hn
  · rw [dart_app, ← e]; simp
  · rw [hp.mem_iff, e]
theorem onE_cyc {n : Nat} {r : List Nat} (hn : r.Nodup) (h3 : 3 ≤ r.length) (hlt : ∀ x ∈ r, x < n) : Cyc n (onE r) := by
  have hirr : ∀ u, onE r u u = false := fun u => by
    cases e : onE r u u with
    | false => rfl
    | true =>
      have hd : dart r u u = true := by simpa [onE] using e
      obtain ⟨b, m, c, h1, h2, h4⟩ := turn_to hn h3 (dart_mem hd).1
      rw [h2] at hd
      have := (dart_first h1 u).mp hd
      simp [this] at h1
  have hnb : ∀ u, u ∈ r → ∃ b c, b ≠ c ∧ ∀ v, onE r u v = true ↔ v = b ∨ v = c := fun u hu => by
    obtain ⟨b, m, c, h1, h2, h4⟩ := turn_to hn h3 hu
    refine ⟨b, c, ?_, fun v => ?_⟩
    · have := (List.nodup_cons.mp h1).2
      simp at this
      exact this.1.2
    · have a1 := dart_first h1 v
      have a2 := dart_last (u := u) (l := b :: m) (b := c) (by simpa using h1) v
      simp only [onE, Bool.or_eq_true, h2]
      rw [a1]
      simp only [List.cons_append] at a2
      rw [a2]
  have mem : ∀ u v, onE r u v = true → u ∈ r ∧ v ∈ r := fun u v e => by
    simp only [onE, Bool.or_eq_true] at e
    exact e.elim (fun h => dart_mem h) fun h => (dart_mem h).symm
  refine ⟨⟨onE_sym r, hirr, fun u v e => ⟨hlt u (mem u v e).1, hlt v (mem u v e).2⟩⟩, fun u a e => ?_, fun u v a b e1 e2 => ?_⟩
  · obtain ⟨b, c, hbc, h⟩ := hnb u (mem u a e).1
    rcases (h a).mp e with rfl | rfl
    · exact ⟨c, Ne.symm hbc, (h c).mpr (.inr rfl), fun v hv => (h v).mp hv⟩
    · exact ⟨b, hbc, (h b).mpr (.inl rfl), fun v hv => ((h v).mp hv).symm⟩
  · obtain ⟨p, m, c, h1, h2, h4⟩ := turn_to hn h3 (mem u a e1).1
    have hv := (h4 v).mp (mem v b e2).1
    refine spE_conn (l := p :: (m ++ [c])) (fun x y hxy => ?_) v hv
    simp only [onE, Bool.or_eq_true, h2]
    refine .inl ?_
    show pd (u :: p :: (m ++ [c]) ++ [u]) x y = true
    have e : u :: p :: (m ++ [c]) ++ [u] = (u :: p :: m) ++ c :: [u] := by simp
    rw [e, pd_app]
    have e' : (u :: p :: m) ++ [c] = u :: p :: (m ++ [c]) := by simp
    rw [e', hxy]; rfl
/-- what a way leaves: its ends -/
theorem spE_dv {n : Nat} : ∀ {l : List Nat} {a : Nat}, (a :: l).Nodup → (∀ x ∈ a :: l, x < n) → ∀ u, dv n (spE (a :: l)) u = (decide (u = a) ^^ decide (u = (a :: l).getLast (List.cons_ne_nil _ _)))
  | [], a, _, _, u => by
    have : spE [a] = fun _ _ => false := by funext u v; simp [spE, pd]
    rw [this, zero_dv]; show false = (decide (u = a) ^^ decide (u = a)); simp
  | b :: l, a, hn, hlt, u => by
    have hn' := List.nodup_cons.mp hn
    have ih := spE_dv (l := l) (a := b) hn'.2 (fun x hx => hlt x (.tail _ hx)) u
    have ab : a ≠ b := fun e => hn'.1 (by rw [e]; simp)
    have e : spE (a :: b :: l) = xr (edge a b) (spE (b :: l)) := by
      funext u v
      have k1 : u = a → pd (b :: l) u v = false ∧ pd (b :: l) v u = false := fun h => by
        have z : ∀ x y, (x = a ∨ y = a) → pd (b :: l) x y = false := fun x y h => by
          cases e : pd (b :: l) x y with
          | false => rfl
          | true => have := pd_mem e; rcases h with rfl | rfl
                    · exact absurd this.1 hn'.1
                    · exact absurd this.2 hn'.1
        exact ⟨z u v (.inl h), z v u (.inr h)⟩
      have k2 : v = a → pd (b :: l) u v = false ∧ pd (b :: l) v u = false := fun h => by
        have z : ∀ x y, (x = a ∨ y = a) → pd (b :: l) x y = false := fun x y h => by
          cases e : pd (b :: l) x y with
          | false => rfl
          | true => have := pd_mem e; rcases h with rfl | rfl
                    · exact absurd this.1 hn'.1
                    · exact absurd this.2 hn'.1
        exact ⟨z u v (.inr h), z v u (.inl h)⟩
      simp only [spE, xr, edge]
      show (((decide (u = a) && decide (v = b)) || pd (b :: l) u v) || ((decide (v = a) && decide (u = b)) || pd (b :: l) v u)) = _
      by_cases h1 : u = a
      · have := k1 h1
        rw [this.1, this.2]
        by_cases h2 : v = b <;> by_cases h3 : v = a <;> by_cases h4 : u = b <;> simp [h1, h2, h3, h4, ab]
      · by_cases h3 : v = a
        · have := k2 h3
          rw [this.1, this.2]
          by_cases h4 : u = b <;> simp [h1, h3, h4, ab]
        · simp [h1, h3]
    rw [e, dv_xr, edge_dv ab (hlt a (by simp)) (hlt b (by simp)), ih, List.getLast_cons (List.cons_ne_nil b l)]
    cases decide (u = a) <;> cases decide (u = b) <;> cases decide (u = (b :: l).getLast (List.cons_ne_nil _ _)) <;> rfl
/-- a flow is one along a way through corners that have no other ties -/
theorem way_const {n : Nat} {x : E2} (hs : Sym x) (hev : ∀ u, dv n x u = false) : ∀ {l : List Nat} {a b : Nat}, (a :: b :: l).Nodup → (∀ c ∈ a :: b :: l, c < n) → (∀ c ∈ (b :: l).dropLast, ∀ v, x c v = true → pd (a :: b :: l) c v = true ∨ pd (a :: b :: l) v c = true) → ∀ u v, pd (a :: b :: l) u v = true → x u v = x a b
  | [], a, b, _, _, _, u, v, h => by simp [pd] at h; rw [h.1, h.2]
  | c :: l, a, b, hn, hlt, hx, u, v, h => by
    have hn' := List.nodup_cons.mp hn
    have ab : a ≠ b := fun e => hn'.1 (by rw [e]; simp)
    have ac : a ≠ c := fun e => hn'.1 (by rw [e]; simp)
    have hb := (List.nodup_cons.mp hn'.2).1
    have z : ∀ x y, (x = a ∨ y = a) → pd (b :: c :: l) x y = false := fun x y h => by
      cases e : pd (b :: c :: l) x y with
      | false => rfl
      | true => have := pd_mem e; rcases h with rfl | rfl
                · exact absurd this.1 hn'.1
                · exact absurd this.2 hn'.1
    have bc : x b c = x a b := by
      have hb0 := hev b
      unfold dv at hb0
      rw [par_two ac (hlt a (by simp)) (hlt c (by simp))] at hb0
      · rw [hs a b]
        cases e1 : x b a <;> cases e2 : x b c <;> simp [e1, e2] at hb0 ⊢
      · intro i _ h1 h2
        cases e : x b i with
        | false => rfl
        | true =>
          exfalso
          rcases hx b (by simp [List.dropLast]) i e with h' | h'
          · rcases (pd_two _ _ _ _ _).mp h' with ⟨e1, _⟩ | h'
            · exact ab e1.symm
            · rcases (pd_two _ _ _ _ _).mp h' with ⟨_, e2⟩ | h'
              · exact h2 e2
              · exact hb (pd_mem h').1
          · rcases (pd_two _ _ _ _ _).mp h' with ⟨e1, _⟩ | h'
            · exact h1 e1
            · rcases (pd_two _ _ _ _ _).mp h' with ⟨_, e2⟩ | h'
              · exact hb (by rw [e2]; simp)
              · exact hb (pd_mem h').2
    rcases (pd_two _ _ _ _ _).mp h with ⟨rfl, rfl⟩ | h
    · rfl
    · rw [← bc]
      refine way_const hs hev hn'.2 (fun d hd => hlt d (.tail _ hd)) (fun d hd v' hv' => ?_) u v h
      have hda : d ≠ a := fun e => hn'.1 (by
        have := List.dropLast_subset _ hd
        rw [e] at this; exact .tail _ this)
      have := hx d (by
        simp only [List.dropLast] at hd ⊢
        exact .tail _ hd) v' hv'
      have hva : v' ≠ a := fun e => by
        subst e
        rcases this with h' | h'
        · rcases (pd_two _ _ _ _ _).mp h' with ⟨e1, _⟩ | h'
          · exact hda e1
          · rw [z _ _ (.inr rfl)] at h'; cases h'
        · rcases (pd_two _ _ _ _ _).mp h' with ⟨_, e2⟩ | h'
          · have := List.dropLast_subset _ hd
            rw [e2] at this; exact hb this
          · rw [z _ _ (.inl rfl)] at h'; cases h'
      rcases this with h' | h'
      · rcases (pd_two _ _ _ _ _).mp h' with ⟨e1, _⟩ | h'
        · exact absurd e1 hda
        · exact .inl h'
      · rcases (pd_two _ _ _ _ _).mp h' with ⟨e1, _⟩ | h'
        · exact absurd e1 hva
        · exact .inr h'
end Wb
set_option maxHeartbeats 2000000
namespace Wb
open Classical
theorem dart_anti {r : List Nat} (hn : r.Nodup) (h3 : 3 ≤ r.length) {u v : Nat} (h1 : dart r u v = true) (h2 : dart r v u = true) : False := by
  obtain ⟨b, m, c, k1, k2, _⟩ := turn_to hn h3 (dart_mem h1).1
  rw [k2] at h1 h2
  have e1 := (dart_first k1 v).mp h1
  have a2 := dart_last (u := u) (l := b :: m) (b := c) (by simpa using k1) v
  simp only [List.cons_append] at a2
  have e2 := a2.mp h2
  have := (List.nodup_cons.mp k1).2
  simp at this
  exact this.1.2 (e1.symm.trans e2)
theorem dart_rev {r : List Nat} (u v : Nat) : dart r.reverse u v = dart r v u := by
  cases r with
  | nil => rfl
  | cons a l =>
    have e : (a :: l).reverse = l.reverse ++ [a] := by simp
    rw [e, dart_app]
    show pd (a :: l.reverse ++ [a]) u v = pd (a :: l ++ [a]) v u
    rw [← pd_rev (a :: l ++ [a])]
    simp
theorem dart_next {r : List Nat} (hn : r.Nodup) (h3 : 3 ≤ r.length) {u : Nat} (hu : u ∈ r) : ∃ b c, b ≠ c ∧ (∀ v, dart r u v = true ↔ v = b) ∧ (∀ v, dart r v u = true ↔ v = c) := by
  obtain ⟨b, m, c, k1, k2, _⟩ := turn_to hn h3 hu
  have a2 := fun v => dart_last (u := u) (l := b :: m) (b := c) (by simpa using k1) v
  simp only [List.cons_append] at a2
  refine ⟨b, c, ?_, fun v => by rw [k2]; exact dart_first k1 v, fun v => by rw [k2]; exact a2 v⟩
  have := (List.nodup_cons.mp k1).2
  simp at this
  exact this.1.2
theorem pd_src {a z : Nat} {l : List Nat} {u v : Nat} (h : pd (a :: (l ++ [z])) u v = true) : u ∈ a :: l ∧ v ∈ l ++ [z] := by
  refine ⟨Classical.byContradiction fun hn => ?_, Classical.byContradiction fun hn => ?_⟩
  · have := pd_from (l := a :: l) (z := z) (v := v) hn
    simp only [List.cons_append] at this
    rw [this] at h; cases h
  · rw [pd_to hn] at h; cases h
theorem pd_anti : ∀ {l : List Nat}, l.Nodup → ∀ {u v : Nat}, pd l u v = true → pd l v u = true → False
  | [], _, _, _, h, _ => by cases h
  | [_], _, _, _, h, _ => by cases h
  | a :: b :: l, hn, u, v, h1, h2 => by
    have hn' := List.nodup_cons.mp hn
    rcases (pd_two _ _ _ _ _).mp h1 with ⟨rfl, rfl⟩ | h1
    · rcases (pd_two _ _ _ _ _).mp h2 with ⟨e, _⟩ | h2
      · exact hn'.1 (by rw [e]; simp)
      · exact hn'.1 (pd_mem h2).2
    · rcases (pd_two _ _ _ _ _).mp h2 with ⟨e, _⟩ | h2
      · exact hn'.1 (by rw [← e]; exact (pd_mem h1).2)
      · exact pd_anti hn'.2 h1 h2
noncomputable def ringOf (rings : List (List Nat)) (u v : Nat) : List Nat := (rings.find? fun r => dart r u v).getD []
/-- what a list of rings is while a block is drawn -/
structure DInv (n : Nat) (H : E2) (rings : List (List Nat)) : Prop where
  nd : ∀ r, r ∈ rings → r.Nodup ∧ 3 ≤ r.length ∧ ∀ x ∈ r, x < n
  nodup : rings.Nodup
  uniq : ∀ r s u v, r ∈ rings → s ∈ rings → dart r u v = true → dart s u v = true → r = s
  iff : ∀ u v, H u v = true ↔ ∃ r, r ∈ rings ∧ dart r u v = true
  sym : Sym H
  plane : Plane n H (ringOf rings)
theorem ringOf_of {rings : List (List Nat)} (uniq : ∀ r s u v, r ∈ rings → s ∈ rings → dart r u v = true → dart s u v = true → r = s) {r : List Nat} {u v : Nat} (hr : r ∈ rings) (h : dart r u v = true) : ringOf rings u v = r := by
  unfold ringOf
  cases e : rings.find? fun r => dart r u v with
  | none => have := List.find?_eq_none.mp e r hr; simp [h] at this
  | some s =>
    have h1 := List.mem_of_find?_eq_some e
    have h2 := List.find?_some e
    exact uniq s r u v h1 hr h2 h
theorem DInv.toRings {n : Nat} {H : E2} {rings : List (List Nat)} (D : DInv n H rings) : Rings n H (fun r => r ∈ rings) onE where
  cyc r hr := onE_cyc (D.nd r hr).1 (D.nd r hr).2.1 (D.nd r hr).2.2
  iff u v := by
    constructor
    · intro h
      obtain ⟨r, hr, hd⟩ := (D.iff u v).mp h
      exact ⟨r, hr, by simp [onE, hd]⟩
    · rintro ⟨r, hr, hd⟩
      simp only [onE, Bool.or_eq_true] at hd
      rcases hd with hd | hd
      · exact (D.iff u v).mpr ⟨r, hr, hd⟩
      · rw [D.sym]; exact (D.iff v u).mpr ⟨r, hr, hd⟩
  two r s t u v hr hs ht a b c := by
    simp only [onE, Bool.or_eq_true] at a b c
    have U := D.uniq
    rcases a with a | a <;> rcases b with b | b <;> rcases c with c | c
    · exact .inl (U r s u v hr hs a b)
    · exact .inl (U r s u v hr hs a b)
    · exact .inr (.inl (U r t u v hr ht a c))
    · exact .inr (.inr (U s t v u hs ht b c))
    · exact .inr (.inr (U s t u v hs ht b c))
    · exact .inr (.inl (U r t v u hr ht a c))
    · exact .inl (U r s v u hr hs a b)
    · exact .inl (U r s v u hr hs a b)
/-- a ring parted by a way -/
structure Parted (G way F1 F2 : List Nat) (w0 wm : Nat) (I P Q : List Nat) : Prop where
  g : G = w0 :: (P ++ wm :: Q)
  w : way = w0 :: (I ++ [wm])
  f1 : F1 = w0 :: (I ++ wm :: Q)
  f2 : F2 = w0 :: (P ++ wm :: I.reverse)
  nG : G.Nodup
  nW : way.Nodup
  dis : ∀ c ∈ I, c ∉ G
section
variable {G way F1 F2 : List Nat} {w0 wm : Nat} {I P Q : List Nat} (h : Parted G way F1 F2 w0 wm I P Q)
include h
theorem Parted.dG (u v : Nat) : dart G u v = (pd (w0 :: (P ++ [wm])) u v || pd (wm :: (Q ++ [w0])) u v) := by
  rw [h.g]
  show pd (w0 :: (P ++ wm :: Q) ++ [w0]) u v = _
  have e : w0 :: (P ++ wm :: Q) ++ [w0] = (w0 :: P) ++ wm :: (Q ++ [w0]) := by simp
  rw [e, pd_app]; simp
theorem Parted.d1 (u v : Nat) : dart F1 u v = (pd way u v || pd (wm :: (Q ++ [w0])) u v) := by
  rw [h.f1, h.w]
  show pd (w0 :: (I ++ wm :: Q) ++ [w0]) u v = _
  have e : w0 :: (I ++ wm :: Q) ++ [w0] = (w0 :: I) ++ wm :: (Q ++ [w0]) := by simp
  rw [e, pd_app]; simp
theorem Parted.d2 (u v : Nat) : dart F2 u v = (pd (w0 :: (P ++ [wm])) u v || pd way v u) := by
  rw [h.f2, h.w]
  show pd (w0 :: (P ++ wm :: I.reverse) ++ [w0]) u v = _
  have e : w0 :: (P ++ wm :: I.reverse) ++ [w0] = (w0 :: P) ++ wm :: (I.reverse ++ [w0]) := by simp
  rw [e, pd_app, ← pd_rev (w0 :: (I ++ [wm]))]; simp
theorem Parted.n1 : F1.Nodup := by
  have a := h.nG; have b := h.nW
  rw [h.g] at a; rw [h.w] at b; rw [h.f1]
  have c := h.dis; rw [h.g] at c
  simp only [List.nodup_cons, List.mem_append, List.mem_cons, not_or, List.nodup_append, List.not_mem_nil, or_false, List.mem_singleton] at a b c ⊢
  refine ⟨⟨b.1.1, a.1.2.1, a.1.2.2⟩, b.2.1, a.2.2.1, fun x hx y hy e => ?_⟩
  subst e
  exact hy.elim (fun e => (c x hx).2.2.1 e) fun hy => (c x hx).2.2.2 hy
theorem Parted.n2 : F2.Nodup := by
  have a := h.nG; have b := h.nW
  rw [h.g] at a; rw [h.w] at b; rw [h.f2]
  have c := h.dis; rw [h.g] at c
  simp only [List.nodup_cons, List.mem_append, List.mem_cons, not_or, List.nodup_append, List.not_mem_nil, or_false, List.mem_singleton, List.mem_reverse] at a b c ⊢
  refine ⟨⟨a.1.1, a.1.2.1, b.1.1⟩, a.2.1, ⟨fun hw => (c wm hw).2.2.1 rfl, (List.reverse_perm I).nodup_iff.mpr b.2.1⟩, fun x hx y hy e => ?_⟩
  subst e
  exact hy.elim (fun e => a.2.2.2 x hx x (.inl e) rfl) fun hy => (c x hy).2.1 hx
theorem Parted.mem1 (x : Nat) (hx : x ∈ F1) : x ∈ way ∨ x ∈ G := by
  rw [h.f1] at hx; rw [h.w, h.g]; simp at hx ⊢
  rcases hx with h | h | h | h <;> simp [h]
theorem Parted.mem2 (x : Nat) (hx : x ∈ F2) : x ∈ way ∨ x ∈ G := by
  rw [h.f2] at hx; rw [h.w, h.g]; simp at hx ⊢
  rcases hx with h | h | h | h <;> simp [h]
/-- both arcs share no tie -/
theorem Parted.arcs (h3 : 3 ≤ G.length) {u v : Nat} (a : pd (w0 :: (P ++ [wm])) u v = true) : spE (wm :: (Q ++ [w0])) u v = false := by
  have dG := fun u v => h.dG u v
  have d1 : dart G u v = true := by rw [dG, a]; rfl
  cases e : spE (wm :: (Q ++ [w0])) u v with
  | false => rfl
  | true =>
    exfalso
    simp only [spE, Bool.or_eq_true] at e
    rcases e with e | e
    · have s1 := (pd_src a).1
      have s2 := (pd_src e).1
      have n := h.nG
      rw [h.g] at n
      simp only [List.nodup_cons, List.mem_append, List.mem_cons, not_or, List.nodup_append] at n
      simp only [List.mem_cons] at s1 s2
      rcases s1 with rfl | s1 <;> rcases s2 with s2 | s2
      · exact n.1.2.1 s2
      · exact n.1.2.2 s2
      · exact n.2.2.2 u s1 u (.inl s2) rfl
      · exact n.2.2.2 u s1 u (.inr s2) rfl
    · exact dart_anti h.nG h3 d1 (by rw [dG, e]; simp)
theorem Parted.on1 (h3 : 3 ≤ G.length) (u v : Nat) : onE F1 u v = ((onE G u v && spE (wm :: (Q ++ [w0])) u v) || spE way u v) := by
  simp only [onE, h.d1, h.dG, spE]
  cases pd way u v <;> cases pd way v u <;> cases pd (wm :: (Q ++ [w0])) u v <;> cases pd (wm :: (Q ++ [w0])) v u <;> cases pd (w0 :: (P ++ [wm])) u v <;> cases pd (w0 :: (P ++ [wm])) v u <;> rfl
theorem Parted.on2 (h3 : 3 ≤ G.length) (u v : Nat) : onE F2 u v = ((onE G u v && !spE (wm :: (Q ++ [w0])) u v) || spE way u v) := by
  have a1 := h.arcs h3 (u := u) (v := v)
  have a2 := h.arcs h3 (u := v) (v := u)
  simp only [onE, h.d2, h.dG, spE] at a1 a2 ⊢
  cases e1 : pd way u v <;> cases e2 : pd way v u <;> cases e3 : pd (wm :: (Q ++ [w0])) u v <;> cases e4 : pd (wm :: (Q ++ [w0])) v u <;> cases e5 : pd (w0 :: (P ++ [wm])) u v <;> cases e6 : pd (w0 :: (P ++ [wm])) v u <;> simp [e3, e4, e5, e6] at a1 a2 ⊢
theorem Parted.dvs {n : Nat} (hlt : ∀ x, x ∈ way ∨ x ∈ G → x < n) (u : Nat) : dv n (spE (wm :: (Q ++ [w0]))) u = dv n (spE way) u := by
  have n1 : (wm :: (Q ++ [w0])).Nodup := by
    have a := h.nG
    rw [h.g] at a
    have sl : (w0 :: wm :: Q).Sublist (w0 :: (P ++ wm :: Q)) := (List.sublist_append_right P (wm :: Q)).cons₂ w0
    have k := a.sublist sl
    have p : ((wm :: Q) ++ [w0]).Perm ([w0] ++ (wm :: Q)) := List.perm_append_comm
    exact p.nodup_iff.mpr k
  have hw := h.nW
  have lt1 : ∀ x ∈ wm :: (Q ++ [w0]), x < n := fun x hx => hlt x (.inr (by rw [h.g]; simp at hx ⊢; rcases hx with h | h | h <;> simp [h]))
  have lt2 : ∀ x ∈ w0 :: (I ++ [wm]), x < n := fun x hx => hlt x (.inl (by rw [h.w]; exact hx))
  rw [h.w] at hw ⊢
  rw [spE_dv n1 lt1, spE_dv hw lt2]
  have e1 : (wm :: (Q ++ [w0])).getLast (List.cons_ne_nil _ _) = w0 := by rw [List.getLast_cons (by simp)]; simp
  have e2 : (w0 :: (I ++ [wm])).getLast (List.cons_ne_nil _ _) = wm := by rw [List.getLast_cons (by simp)]; simp
  rw [e1, e2, Bool.xor_comm]
end
theorem DInv.split {n : Nat} {H : E2} {l1 l2 : List (List Nat)} {F G way F1 F2 : List Nat} {w0 wm : Nat} {I P Q : List Nat} (D : DInv n H (l1 ++ F :: l2)) (h : Parted G way F1 F2 w0 wm I P Q)
    (hF : ∀ u v, dart F u v = dart G u v) (hlen : F.length = G.length) (hmem : ∀ x, x ∈ F ↔ x ∈ G) (hlt : ∀ x ∈ way, x < n)
    (hnew : ∀ u v, spE way u v = true → H u v = false) (hI : ∀ c ∈ I, ∀ v, H c v = false) :
    DInv n (fun u v => H u v || spE way u v) (l1 ++ l2 ++ [F1, F2]) ∧ F1 ≠ F2 ∧ F1 ∉ l1 ++ F :: l2 ∧ F2 ∉ l1 ++ F :: l2 := by
  have hFr : F ∈ l1 ++ F :: l2 := by simp
  have h3 : 3 ≤ G.length := by rw [← hlen]; exact (D.nd F hFr).2.1
  have hltG : ∀ x ∈ G, x < n := fun x hx => (D.nd F hFr).2.2 x ((hmem x).mpr hx)
  have hltA : ∀ x, x ∈ way ∨ x ∈ G → x < n := fun x hx => hx.elim (hlt x) (hltG x)
  have GH : ∀ u v, dart G u v = true → H u v = true := fun u v e => (D.iff u v).mpr ⟨F, hFr, by rw [hF]; exact e⟩
  have wayf : ∀ u v, pd way u v = true → H u v = false := fun u v e => hnew u v (by simp [spE, e])
  have wayb : ∀ u v, pd way u v = true → H v u = false := fun u v e => hnew v u (by simp [spE, e])
  have arc1H : ∀ u v, pd (wm :: (Q ++ [w0])) u v = true → dart G u v = true := fun u v e => by rw [h.dG, e]; simp
  have arc2H : ∀ u v, pd (w0 :: (P ++ [wm])) u v = true → dart G u v = true := fun u v e => by rw [h.dG, e]; rfl
  -- first steps
  have hw01 : ∃ s, pd way w0 s = true := by
    rw [h.w]
    cases I with
    | nil => exact ⟨wm, by simp [pd]⟩
    | cons a I => exact ⟨a, by simp [pd]⟩
  obtain ⟨s0, hs0⟩ := hw01
  have len1 : 3 ≤ F1.length := by
    rw [h.f1]
    cases hI' : I with
    | cons a I => simp; omega
    | nil =>
      cases hQ : Q with
      | cons b Q => simp
      | nil =>
        exfalso
        have e1 : pd way w0 wm = true := by rw [h.w, hI']; simp [pd]
        have e2 : pd (wm :: (Q ++ [w0])) wm w0 = true := by rw [hQ]; simp [pd]
        have := GH _ _ (arc1H _ _ e2)
        rw [wayb _ _ e1] at this; cases this
  have len2 : 3 ≤ F2.length := by
    rw [h.f2]
    cases hI' : I with
    | cons a I => simp; omega
    | nil =>
      cases hP : P with
      | cons b P => simp
      | nil =>
        exfalso
        have e1 : pd way w0 wm = true := by rw [h.w, hI']; simp [pd]
        have e2 : pd (w0 :: (P ++ [wm])) w0 wm = true := by rw [hP]; simp [pd]
        have := GH _ _ (arc2H _ _ e2)
        rw [wayf _ _ e1] at this; cases this
  have n1 := h.n1
  have n2 := h.n2
  have F1o : F1 ∉ l1 ++ F :: l2 := fun hm => by
    have := (D.iff w0 s0).mpr ⟨F1, hm, by rw [h.d1, hs0]; rfl⟩
    rw [wayf _ _ hs0] at this; cases this
  have F2o : F2 ∉ l1 ++ F :: l2 := fun hm => by
    have := (D.iff s0 w0).mpr ⟨F2, hm, by rw [h.d2, hs0]; simp⟩
    rw [wayb _ _ hs0] at this; cases this
  have F12 : F1 ≠ F2 := fun e => by
    have a : dart F1 w0 s0 = true := by rw [h.d1, hs0]; rfl
    have b : dart F1 s0 w0 = true := by rw [e, h.d2, hs0]; simp
    exact dart_anti n1 len1 a b
  have nF : F ∉ l1 ++ l2 := by
    have := D.nodup
    have hp : (l1 ++ F :: l2).Perm (F :: (l1 ++ l2)) := List.perm_middle
    exact (List.nodup_cons.mp (hp.nodup_iff.mp this)).1
  have old : ∀ r, r ∈ l1 ++ l2 → r ∈ l1 ++ F :: l2 ∧ r ≠ F := fun r hr => ⟨by simp at hr ⊢; exact hr.elim .inl fun h => .inr (.inr h), fun e => nF (e ▸ hr)⟩
  have mem_new : ∀ r, r ∈ l1 ++ l2 ++ [F1, F2] ↔ (r ∈ l1 ++ l2 ∨ r = F1 ∨ r = F2) := fun r => by simp only [List.mem_append, List.mem_cons, List.not_mem_nil, or_false]
  have oldH : ∀ r u v, r ∈ l1 ++ l2 → dart r u v = true → H u v = true := fun r u v hr e => (D.iff u v).mpr ⟨r, (old r hr).1, e⟩
  have c1 : ∀ r u v, r ∈ l1 ++ l2 → dart r u v = true → dart F1 u v = true → False := fun r u v hr e1 e2 => by
    rw [h.d1, Bool.or_eq_true] at e2
    rcases e2 with e2 | e2
    · have := oldH r u v hr e1; rw [wayf _ _ e2] at this; cases this
    · exact (old r hr).2 (D.uniq r F u v (old r hr).1 hFr e1 (by rw [hF]; exact arc1H _ _ e2))
  have c2 : ∀ r u v, r ∈ l1 ++ l2 → dart r u v = true → dart F2 u v = true → False := fun r u v hr e1 e2 => by
    rw [h.d2, Bool.or_eq_true] at e2
    rcases e2 with e2 | e2
    · exact (old r hr).2 (D.uniq r F u v (old r hr).1 hFr e1 (by rw [hF]; exact arc2H _ _ e2))
    · have := oldH r u v hr e1; rw [wayb _ _ e2] at this; cases this
  have c12 : ∀ u v, dart F1 u v = true → dart F2 u v = true → False := fun u v e1 e2 => by
    rw [h.d1, Bool.or_eq_true] at e1
    rw [h.d2, Bool.or_eq_true] at e2
    rcases e1 with e1 | e1 <;> rcases e2 with e2 | e2
    · have := GH _ _ (arc2H _ _ e2); rw [wayf _ _ e1] at this; cases this
    · exact pd_anti h.nW e1 e2
    · have := h.arcs h3 e2; simp [spE, e1] at this
    · have := GH _ _ (arc1H _ _ e1); rw [wayb _ _ e2] at this; cases this
  have uniq : ∀ r s u v, r ∈ l1 ++ l2 ++ [F1, F2] → s ∈ l1 ++ l2 ++ [F1, F2] → dart r u v = true → dart s u v = true → r = s := fun r s u v hr hs e1 e2 => by
    rcases (mem_new r).mp hr with hr | er | er <;> rcases (mem_new s).mp hs with hs | es | es
    · exact D.uniq r s u v (old r hr).1 (old s hs).1 e1 e2
    · exact absurd (c1 r u v hr e1 (es ▸ e2)) id
    · exact absurd (c2 r u v hr e1 (es ▸ e2)) id
    · exact absurd (c1 s u v hs e2 (er ▸ e1)) id
    · rw [er, es]
    · exact absurd (c12 u v (er ▸ e1) (es ▸ e2)) id
    · exact absurd (c2 s u v hs e2 (er ▸ e1)) id
    · exact absurd (c12 u v (es ▸ e2) (er ▸ e1)) id
    · rw [er, es]
  have Hs := D.sym
  have iff' : ∀ u v, (H u v || spE way u v) = true ↔ ∃ r, r ∈ l1 ++ l2 ++ [F1, F2] ∧ dart r u v = true := fun u v => by
    constructor
    · intro e
      rw [Bool.or_eq_true] at e
      rcases e with e | e
      · obtain ⟨r, hr, hd⟩ := (D.iff u v).mp e
        by_cases hrF : r = F
        · subst hrF
          rw [hF, h.dG, Bool.or_eq_true] at hd
          rcases hd with hd | hd
          · exact ⟨F2, by simp, by rw [h.d2, hd]; rfl⟩
          · exact ⟨F1, by simp, by rw [h.d1, hd]; simp⟩
        · exact ⟨r, (mem_new r).mpr (.inl (by
            simp at hr ⊢
            rcases hr with h | h | h
            · exact .inl h
            · exact absurd h hrF
            · exact .inr h)), hd⟩
      · simp only [spE, Bool.or_eq_true] at e
        rcases e with e | e
        · exact ⟨F1, by simp, by rw [h.d1, e]; rfl⟩
        · exact ⟨F2, by simp, by rw [h.d2, e]; simp⟩
    · rintro ⟨r, hr, hd⟩
      rw [Bool.or_eq_true]
      rcases (mem_new r).mp hr with hr | rfl | rfl
      · exact .inl (oldH r u v hr hd)
      · rw [h.d1, Bool.or_eq_true] at hd
        rcases hd with e | e
        · exact .inr (by simp [spE, e])
        · exact .inl (GH _ _ (arc1H _ _ e))
      · rw [h.d2, Bool.or_eq_true] at hd
        rcases hd with e | e
        · exact .inl (GH _ _ (arc2H _ _ e))
        · exact .inr (by simp [spE, e])
  have ro : ∀ {r u v}, r ∈ l1 ++ F :: l2 → dart r u v = true → ringOf (l1 ++ F :: l2) u v = r := fun hr e => ringOf_of D.uniq hr e
  have rn : ∀ {r u v}, r ∈ l1 ++ l2 ++ [F1, F2] → dart r u v = true → ringOf (l1 ++ l2 ++ [F1, F2]) u v = r := fun hr e => ringOf_of uniq hr e
  have f1n : F1 ∈ l1 ++ l2 ++ [F1, F2] := by simp
  have f2n : F2 ∈ l1 ++ l2 ++ [F1, F2] := by simp
  refine ⟨⟨fun r hr => ?_, ?_, uniq, iff', fun u v => by show (H u v || spE way u v) = (H v u || spE way v u); rw [Hs u v, spE_sym way u v], ?_⟩, F12, F1o, F2o⟩
  · rcases (mem_new r).mp hr with hr | rfl | rfl
    · exact D.nd r (old r hr).1
    · exact ⟨n1, len1, fun x hx => hltA x (h.mem1 x hx)⟩
    · exact ⟨n2, len2, fun x hx => hltA x (h.mem2 x hx)⟩
  · have hp : (l1 ++ F :: l2).Perm (F :: (l1 ++ l2)) := List.perm_middle
    have k := (List.nodup_cons.mp (hp.nodup_iff.mp D.nodup)).2
    rw [List.nodup_append]
    refine ⟨k, by simp [F12], fun a ha b hb e => ?_⟩
    subst e
    simp at hb
    rcases hb with rfl | rfl
    · exact F1o (old _ ha).1
    · exact F2o (old _ ha).1
  · refine Plane.add D.plane F12 (W := spE way) (y := spE (wm :: (Q ++ [w0]))) (spE_sym _) (spE_sym _) hnew (F := F) (fun u v e hne => ?_) (fun u v e hne => ?_) (fun u v e hf => ?_) (fun u v e => ?_) (fun u v e => ?_) Hs (fun u v e => ?_) (fun u => h.dvs hltA u) (fun x hx => ?_)
    · obtain ⟨r, hr, hd⟩ := (D.iff u v).mp e
      rw [ro hr hd]
      exact ⟨fun e => F1o (e ▸ hr), fun e => F2o (e ▸ hr)⟩
    · obtain ⟨r, hr, hd⟩ := (D.iff u v).mp e
      rw [ro hr hd] at hne ⊢
      exact rn ((mem_new r).mpr (.inl (by
        simp at hr ⊢
        rcases hr with h | h | h
        · exact .inl h
        · exact absurd h hne
        · exact .inr h))) hd
    · obtain ⟨r, hr, hd⟩ := (D.iff u v).mp e
      rw [ro hr hd] at hf
      subst hf
      rw [hF, h.dG, Bool.or_eq_true] at hd
      rcases hd with hd | hd
      · rw [h.arcs h3 hd, if_neg (by decide)]
        exact rn f2n (by rw [h.d2, hd]; rfl)
      · have : spE (wm :: (Q ++ [w0])) u v = true := by simp [spE, hd]
        rw [this, if_pos rfl]
        exact rn f1n (by rw [h.d1, hd]; simp)
    · simp only [spE, Bool.or_eq_true] at e
      rcases e with e | e
      · exact .inl ⟨rn f1n (by rw [h.d1, e]; rfl), rn f2n (by rw [h.d2, e]; simp)⟩
      · exact .inr ⟨rn f2n (by rw [h.d2, e]; simp), rn f1n (by rw [h.d1, e]; rfl)⟩
    · rintro ⟨e1, e2⟩
      obtain ⟨r, hr, hd⟩ := (D.iff u v).mp e
      obtain ⟨r', hr', hd'⟩ := (D.iff v u).mp (by rw [Hs]; exact e)
      rw [ro hr hd] at e1
      rw [ro hr' hd'] at e2
      subst e1; subst e2
      exact dart_anti (D.nd _ hr).1 (D.nd _ hr).2.1 hd hd'
    · simp only [spE, Bool.or_eq_true] at e
      rcases e with e | e
      · have := arc1H _ _ e
        exact ⟨GH _ _ this, .inl (ro hFr (by rw [hF]; exact this))⟩
      · have := arc1H _ _ e
        exact ⟨by rw [Hs]; exact GH _ _ this, .inr (ro hFr (by rw [hF]; exact this))⟩
    · obtain ⟨b, t, hbt⟩ : ∃ b t, I ++ [wm] = b :: t := by
        cases I with
        | nil => exact ⟨wm, [], rfl⟩
        | cons a I => exact ⟨a, I ++ [wm], rfl⟩
      have ew : way = w0 :: b :: t := by rw [h.w, hbt]
      have nw := h.nW
      rw [ew] at nw
      have dl : (b :: t).dropLast = I := by rw [← hbt]; simp
      have key := way_const hx.sym hx.even nw (fun c hc => hlt c (by rw [ew]; exact hc)) (fun c hc v hv => by
        rw [dl] at hc
        have := hx.sub c v hv
        rw [hI c hc v, Bool.false_or, ew] at this
        simpa [spE] using this)
      refine ⟨x w0 b, fun u v e => ?_⟩
      simp only [spE, ew, Bool.or_eq_true] at e
      rcases e with e | e
      · exact key u v e
      · rw [hx.sym]; exact key v u e
/-- what is drawn, with a drawing of the whole beside it -/
theorem Stage.draw {α : Type} {n : Nat} {B H : E2} {fc : Nat → Nat → α} {φ : α → List Nat} {l1 l2 : List (List Nat)} {F G way F1 F2 : List Nat} {w0 wm : Nat} {I P Q : List Nat}
    (S : Stage n B H (fun r => r ∈ l1 ++ F :: l2) onE fc φ) (D : DInv n H (l1 ++ F :: l2)) (h : Parted G way F1 F2 w0 wm I P Q)
    (hF : ∀ u v, dart F u v = dart G u v) (hlen : F.length = G.length) (hmem : ∀ x, x ∈ F ↔ x ∈ G) (hlt : ∀ x ∈ way, x < n)
    (hnew : ∀ u v, spE way u v = true → B u v = true ∧ H u v = false) (hI : ∀ c ∈ I, ∀ v, H c v = false) {w1 : Nat} (hw1 : pd way w0 w1 = true)
    (hway : ∀ u v, pd way u v = true → SameP B H w0 w1 u v)
    (hsel : φ (fc w0 w1) = F ∨ (Free B H (fun r => r ∈ l1 ++ F :: l2) onE fc φ ∧ ∀ c d q, SameP B H w0 w1 c d → H c q = true → c ∈ F)) :
    ∃ (fc' : Nat → Nat → α) (φ' : α → List Nat), Stage n B (fun u v => H u v || spE way u v) (fun r => r ∈ l1 ++ l2 ++ [F1, F2]) onE fc' φ' := by
  have hFr : F ∈ l1 ++ F :: l2 := by simp
  have hB1 := hnew w0 w1 (by simp [spE, hw1])
  obtain ⟨fc2, φ2, S2, hf2⟩ : ∃ (fc' : Nat → Nat → α) (φ' : α → List Nat), Stage n B H (fun r => r ∈ l1 ++ F :: l2) onE fc' φ' ∧ φ' (fc' w0 w1) = F := by
    by_cases hs : φ (fc w0 w1) = F
    · exact ⟨fc, φ, S, hs⟩
    · rcases hsel with h' | ⟨hfree, hc⟩
      · exact absurd h' hs
      · have hd := (D.nd F hFr)
        have hvx : ∀ c, c ∈ F → vx (onE F) c := fun c hc => by
          obtain ⟨b, _, _, h1, _⟩ := dart_next hd.1 hd.2.1 hc
          exact ⟨b, by simp [onE, (h1 b).mpr rfl]⟩
        refine S.flip hFr (S.ft.mem w0 w1 hB1.1) (Ne.symm hs) hfree hB1.1 hB1.2 rfl (fun c d q g hq => hvx c (hc c d q g hq)) ?_
        have : F ≠ [] := fun e => by rw [e] at hd; simp at hd
        obtain ⟨c, hc⟩ := List.exists_mem_of_ne_nil F this
        obtain ⟨b, _, _, h1, _⟩ := dart_next hd.1 hd.2.1 hc
        exact ⟨c, b, (D.iff c b).mpr ⟨F, hFr, (h1 b).mpr rfl⟩⟩
  have h3 : 3 ≤ G.length := by rw [← hlen]; exact (D.nd F hFr).2.1
  obtain ⟨D', F12, F1o, F2o⟩ := D.split h hF hlen hmem hlt (fun u v e => (hnew u v e).2) hI
  have onFG : ∀ u v, onE F u v = onE G u v := fun u v => by simp only [onE, hF]
  have phiW : ∀ u v, pd way u v = true → φ2 (fc2 u v) = F ∧ φ2 (fc2 v u) = F := fun u v e => by
    have g := hway u v e
    have e1 := S2.same g hB1.1 hB1.2
    have e2 := S2.same g.turn hB1.1 hB1.2
    exact ⟨e1.trans hf2, e2.trans hf2⟩
  obtain ⟨φ', hφ'⟩ := S2.put (F := F) (F1 := F1) (F2 := F2) hFr F1o F2o F12 (W := spE way) (y := spE (wm :: (Q ++ [w0]))) (spE_sym _)
    (fun u v e => ⟨(hnew u v e).1, (hnew u v e).2, by
      simp only [spE, Bool.or_eq_true] at e
      exact e.elim (fun e => (phiW u v e).1) fun e => (phiW v u e).2⟩)
    (spE_sym _) (fun u v e => by
      rw [onFG]
      simp only [onE, h.dG]
      simp only [spE, Bool.or_eq_true] at e
      rcases e with e | e <;> simp [e]) (fun u => h.dvs (fun x hx => hx.elim (hlt x) fun hx => (D.nd F hFr).2.2 x ((hmem x).mpr hx)) u)
    (fun u v => by rw [onFG]; exact h.on1 h3 u v) (fun u v => by rw [onFG]; exact h.on2 h3 u v)
  have nF : F ∉ l1 ++ l2 := by
    have := D.nodup
    have hp : (l1 ++ F :: l2).Perm (F :: (l1 ++ l2)) := List.perm_middle
    exact (List.nodup_cons.mp (hp.nodup_iff.mp this)).1
  have eR : (fun r => (r ∈ l1 ++ F :: l2 ∧ r ≠ F) ∨ r = F1 ∨ r = F2) = fun r => r ∈ l1 ++ l2 ++ [F1, F2] := funext fun r => propext (by
    simp only [List.mem_append, List.mem_cons, List.not_mem_nil, or_false]
    constructor
    · rintro (⟨h | h | h, hn⟩ | h)
      · exact .inl (.inl h)
      · exact absurd h hn
      · exact .inl (.inr h)
      · exact .inr h
    · rintro ((h | h) | h)
      · exact .inl ⟨.inl h, fun e => nF (by rw [← e]; simp [h])⟩
      · exact .inl ⟨.inr (.inr h), fun e => nF (by rw [← e]; simp [h])⟩
      · exact .inr h)
  rw [eR] at hφ'
  exact ⟨fc2, φ', ⟨S2.g, S2.tc, S2.con, S2.p, D'.toRings, fun u v e => by
    rw [Bool.or_eq_true] at e
    exact e.elim (S2.sub u v) fun e => (hnew u v e).1, hφ'⟩⟩
end Wb
set_option maxHeartbeats 2000000
namespace Wb
open Classical
/-- the first ring, both ways round -/
theorem DInv.first {n : Nat} {r : List Nat} (hn : r.Nodup) (h3 : 3 ≤ r.length) (hlt : ∀ x ∈ r, x < n) : DInv n (onE r) [r, r.reverse] := by
  have C := onE_cyc (n := n) hn h3 hlt
  have hne : r ≠ r.reverse := fun e => by
    obtain ⟨a, l, rfl⟩ : ∃ a l, r = a :: l := by
      cases r with
      | nil => simp at h3
      | cons a l => exact ⟨a, l, rfl⟩
    obtain ⟨b, _, _, h1, _⟩ := dart_next hn h3 (u := a) (by simp)
    have hb := (h1 b).mpr rfl
    have : dart (a :: l) b a = true := by rw [e, dart_rev]; exact hb
    exact dart_anti hn h3 hb this
  have uniq : ∀ s t u v, s ∈ [r, r.reverse] → t ∈ [r, r.reverse] → dart s u v = true → dart t u v = true → s = t := fun s t u v hs ht e1 e2 => by
    simp at hs ht
    rcases hs with rfl | rfl <;> rcases ht with rfl | rfl
    · rfl
    · rw [dart_rev] at e2; exact absurd (dart_anti hn h3 e1 e2) id
    · rw [dart_rev] at e1; exact absurd (dart_anti hn h3 e1 e2) id
    · rfl
  have r1 : ∀ u v, dart r u v = true → ringOf [r, r.reverse] u v = r := fun u v e => ringOf_of uniq (by simp) e
  have r2 : ∀ u v, dart r v u = true → ringOf [r, r.reverse] u v = r.reverse := fun u v e => ringOf_of uniq (by simp) (by rw [dart_rev]; exact e)
  have dl2 : ∀ (T : List Nat → Bool) u v, onE r u v = true → dl (ringOf [r, r.reverse]) T u v = (T r ^^ T r.reverse) := fun T u v e => by
    simp only [onE, Bool.or_eq_true] at e
    simp only [dl]
    rcases e with e | e
    · rw [r1 u v e, r2 v u e]
    · rw [r2 u v e, r1 v u e, Bool.xor_comm]
  refine ⟨fun s hs => ?_, ?_, uniq, fun u v => ?_, onE_sym r, ⟨fun T u => ?_, fun x hx => ?_⟩⟩
  · simp at hs
    rcases hs with rfl | rfl
    · exact ⟨hn, h3, hlt⟩
    · exact ⟨(List.reverse_perm r).nodup_iff.mpr hn, by simpa using h3, fun x hx => hlt x (by simpa using hx)⟩
  · simp [hne]
  · simp only [onE, Bool.or_eq_true, List.mem_cons, List.not_mem_nil, or_false]
    constructor
    · rintro (e | e)
      · exact ⟨r, .inl rfl, e⟩
      · exact ⟨r.reverse, .inr rfl, by rw [dart_rev]; exact e⟩
    · rintro ⟨s, rfl | rfl, e⟩
      · exact .inl e
      · rw [dart_rev] at e; exact .inr e
  · have e : (fun v => onE r u v && dl (ringOf [r, r.reverse]) T u v) = fun v => (T r ^^ T r.reverse) && onE r u v := funext fun v => by
      cases e : onE r u v with
      | false => simp
      | true => rw [dl2 T u v e]; simp
    rw [e, par_and]
    have : par (fun v => onE r u v) n = false := by
      by_cases h : ∃ a, onE r u a = true
      · obtain ⟨a, ha⟩ := h
        obtain ⟨b, hab, hb, hall⟩ := C.deg u a ha
        rw [par_two (Ne.symm hab) (C.gr.bnd2 ha) (C.gr.bnd2 hb)]
        · rw [ha, hb]; rfl
        · intro i _ h1 h2
          cases e : onE r u i with
          | false => rfl
          | true => exact absurd (hall i e) (fun h => h.elim h1 h2)
      · exact par_zero fun i _ => by
          cases e : onE r u i with
          | false => rfl
          | true => exact absurd ⟨i, e⟩ h
    rw [this]; simp
  · by_cases h : ∃ u v, onE r u v = true
    · obtain ⟨u0, v0, h0⟩ := h
      refine ⟨fun f => if f = r then x u0 v0 else false, fun u v e => ?_⟩
      rw [dl2 _ u v e, C.const hx.sym hx.sub hx.even e h0]
      simp [Ne.symm hne]
    · exact ⟨fun _ => false, fun u v e => absurd ⟨u, v, e⟩ h⟩
theorem Stage.first {α : Type} {n : Nat} {B : E2} {fc : Nat → Nat → α} (g : Gr n B) (tc : TC B) (con : ∀ u v a b, B u a = true → B v b = true → Conn B u v) (p : Plane n B fc)
    {r : List Nat} (hn : r.Nodup) (h3 : 3 ≤ r.length) (hlt : ∀ x ∈ r, x < n) (hB : ∀ u v, onE r u v = true → B u v = true) :
    ∃ φ : α → List Nat, Stage n B (onE r) (fun s => s ∈ [r, r.reverse]) onE fc φ := by
  have D := DInv.first hn h3 hlt
  have C := onE_cyc (n := n) hn h3 hlt
  have rev : ∀ u v, onE r.reverse u v = onE r u v := fun u v => by simp only [onE, dart_rev, Bool.or_comm]
  have hne : r ≠ r.reverse := by have := D.nodup; simp at this; exact this
  obtain ⟨T, hT⟩ := p.pot (onE r) ⟨onE_sym r, hB, fun u => by
    have := D.plane.even (fun f => decide (f = r)) u
    unfold dv
    rw [← this]
    refine par_congr fun v _ => ?_
    cases e : onE r u v with
    | false => rfl
    | true =>
      have e' := e
      simp only [onE, Bool.or_eq_true] at e'
      have uq := D.uniq
      simp only [Bool.true_and, dl]
      rcases e' with h | h
      · rw [ringOf_of uq (by simp) h, ringOf_of uq (r := r.reverse) (by simp) (by rw [dart_rev]; exact h)]; simp [Ne.symm hne]
      · rw [ringOf_of uq (r := r.reverse) (u := u) (v := v) (by simp) (by rw [dart_rev]; exact h), ringOf_of uq (by simp) h]; simp [Ne.symm hne]⟩
  refine ⟨fun f => if T f = true then r else r.reverse, ⟨g, tc, con, p, D.toRings, hB, ⟨fun u v _ => ?_, fun u v e => ?_, fun u v e e' => ?_⟩⟩⟩
  · show (if T (fc u v) = true then r else r.reverse) ∈ [r, r.reverse]
    split <;> simp
  · have h := hT u v (hB u v e)
    rw [e] at h
    simp only [dl] at h
    show onE (if T (fc u v) = true then r else r.reverse) u v = true ∧ (if T (fc u v) = true then r else r.reverse) ≠ (if T (fc v u) = true then r else r.reverse)
    cases e1 : T (fc u v) <;> cases e2 : T (fc v u) <;> simp [e1, e2] at h ⊢
    · exact ⟨by rw [rev]; exact e, Ne.symm hne⟩
    · exact ⟨e, hne⟩
  · have h := hT u v e
    rw [e'] at h
    have : T (fc u v) = T (fc v u) := (xor_eq h).1 rfl
    show (if T (fc u v) = true then r else r.reverse) = (if T (fc v u) = true then r else r.reverse)
    rw [this]
end Wb
set_option maxHeartbeats 4000000
namespace Wb
open Classical
/-! the law's own drawn web: rings of three -/
abbrev Tri := Nat × Nat × Nat
def td (t : Tri) (u v : Nat) : Bool := (decide (u = t.1) && decide (v = t.2.1)) || ((decide (u = t.2.1) && decide (v = t.2.2)) || (decide (u = t.2.2) && decide (v = t.1)))
theorem td_iff {a b c u v : Nat} : td (a, b, c) u v = true ↔ (u = a ∧ v = b) ∨ (u = b ∧ v = c) ∨ (u = c ∧ v = a) := by simp [td]
/-- how many i below n have f -/
def cnt (f : Nat → Bool) : Nat → Nat
  | 0 => 0
  | n + 1 => cnt f n + (if f n = true then 1 else 0)
def tot (n : Nat) (B : E2) : Nat → Nat
  | 0 => 0
  | k + 1 => tot n B k + cnt (B k) n
noncomputable def triOf (L : List Tri) (u v : Nat) : Tri := (L.find? fun t => td t u v).getD (0, 0, 0)
structure MInv (n : Nat) (B : E2) (L : List Tri) : Prop where
  nd : ∀ a b c, (a, b, c) ∈ L → a ≠ b ∧ b ≠ c ∧ c ≠ a
  lt : ∀ a b c, (a, b, c) ∈ L → a < n ∧ b < n ∧ c < n
  nodup : L.Nodup
  uniq : ∀ s t u v, s ∈ L → t ∈ L → td s u v = true → td t u v = true → s = t
  iff : ∀ u v, B u v = true ↔ ∃ t, t ∈ L ∧ td t u v = true
  sym : Sym B
  plane : Plane n B (triOf L)
theorem MInv.gr {n : Nat} {B : E2} {L : List Tri} (M : MInv n B L) : Gr n B where
  sym := M.sym
  irr u := by
    cases e : B u u with
    | false => rfl
    | true =>
      obtain ⟨⟨a, b, c⟩, ht, hd⟩ := (M.iff u u).mp e
      have := M.nd a b c ht
      rcases td_iff.mp hd with ⟨h1, h2⟩ | ⟨h1, h2⟩ | ⟨h1, h2⟩
      · exact absurd (h1.symm.trans h2) this.1
      · exact absurd (h1.symm.trans h2) this.2.1
      · exact absurd (h1.symm.trans h2) this.2.2
  bnd u v e := by
    obtain ⟨⟨a, b, c⟩, ht, hd⟩ := (M.iff u v).mp e
    have := M.lt a b c ht
    rcases td_iff.mp hd with ⟨h1, h2⟩ | ⟨h1, h2⟩ | ⟨h1, h2⟩ <;> rw [h1, h2]
    · exact ⟨this.1, this.2.1⟩
    · exact ⟨this.2.1, this.2.2⟩
    · exact ⟨this.2.2, this.1⟩
theorem triOf_of {L : List Tri} (uniq : ∀ s t u v, s ∈ L → t ∈ L → td s u v = true → td t u v = true → s = t) {r : Tri} {u v : Nat} (hr : r ∈ L) (h : td r u v = true) : triOf L u v = r := by
  unfold triOf
  cases e : L.find? fun r => td r u v with
  | none => have := List.find?_eq_none.mp e r hr; simp [h] at this
  | some s =>
    have h2 := List.find?_some e
    exact uniq s r u v (List.mem_of_find?_eq_some e) hr h2 h
/-- an own corner more, without ties -/
theorem Plane.wider {α : Type} {n : Nat} {B : E2} {fc : Nat → Nat → α} (G : Gr n B) (P : Plane n B fc) : Plane (n + 1) B fc := by
  have z : ∀ u, B u n = false := fun u => by
    cases e : B u n with
    | false => rfl
    | true => exact absurd (G.bnd2 e) (by omega)
  refine ⟨fun T u => ?_, fun x hx => P.pot x ⟨hx.sym, hx.sub, fun u => ?_⟩⟩
  · show (par (fun v => B u v && dl fc T u v) n ^^ (B u n && dl fc T u n)) = false
    rw [P.even T u, z]; rfl
  · have := hx.even u
    have h : (par (x u) n ^^ x u n) = false := this
    have zx : x u n = false := by
      cases e : x u n with
      | false => rfl
      | true => have := hx.sub u n e; rw [z] at this; cases this
    rw [zx] at h; simpa [dv] using h
theorem MInv.grow {n : Nat} {B : E2} {l1 l2 : List Tri} {a b c : Nat} (M : MInv n B (l1 ++ (a, b, c) :: l2)) :
    MInv (n + 1) (fun u v => B u v || (edge a n u v || (edge b n u v || edge c n u v))) (l1 ++ l2 ++ [(a, b, n), (b, c, n), (c, a, n)]) := by
  have ht : (a, b, c) ∈ l1 ++ (a, b, c) :: l2 := by simp
  obtain ⟨ab, bc, ca⟩ := M.nd a b c ht
  obtain ⟨la, lb, lc⟩ := M.lt a b c ht
  have an : a ≠ n := by omega
  have bn : b ≠ n := by omega
  have cn : c ≠ n := by omega
  have G := M.gr
  have hp : (l1 ++ (a, b, c) :: l2).Perm ((a, b, c) :: (l1 ++ l2)) := List.perm_middle
  have hnd := List.nodup_cons.mp (hp.nodup_iff.mp M.nodup)
  have old : ∀ t, t ∈ l1 ++ l2 → t ∈ l1 ++ (a, b, c) :: l2 ∧ t ≠ (a, b, c) := fun t h => ⟨hp.mem_iff.mpr (.tail _ h), fun e => hnd.1 (e ▸ h)⟩
  have old' : ∀ t, t ∈ l1 ++ (a, b, c) :: l2 → t ≠ (a, b, c) → t ∈ l1 ++ l2 := fun t h hne => by
    have := hp.mem_iff.mp h
    cases this with
    | head => exact absurd rfl hne
    | tail _ h => exact h
  have Bn1 : ∀ u, B u n = false := fun u => by
    cases e : B u n with
    | false => rfl
    | true => exact absurd (G.bnd2 e) (by omega)
  have Bn : ∀ u, B u n = false ∧ B n u = false := fun u => ⟨Bn1 u, by rw [M.sym]; exact Bn1 u⟩
  let L' := l1 ++ l2 ++ [(a, b, n), (b, c, n), (c, a, n)]
  have mem : ∀ t, t ∈ L' ↔ t ∈ l1 ++ l2 ∨ t = (a, b, n) ∨ t = (b, c, n) ∨ t = (c, a, n) := fun t => by
    simp only [L', List.mem_append, List.mem_cons, List.not_mem_nil, or_false]
  have tdn1 : ∀ t, t ∈ l1 ++ (a, b, c) :: l2 → ∀ u, td t u n = false := fun t h u => by
    cases e : td t u n with
    | false => rfl
    | true => have := (M.iff u n).mpr ⟨t, h, e⟩; rw [(Bn u).1] at this; cases this
  have tdn2 : ∀ t, t ∈ l1 ++ (a, b, c) :: l2 → ∀ u, td t n u = false := fun t h u => by
    cases e : td t n u with
    | false => rfl
    | true => have := (M.iff n u).mpr ⟨t, h, e⟩; rw [(Bn u).2] at this; cases this
  have tdn : ∀ t, t ∈ l1 ++ (a, b, c) :: l2 → ∀ u, td t u n = false ∧ td t n u = false := fun t h u => ⟨tdn1 t h u, tdn2 t h u⟩
  have Tab : ∀ t, t ∈ l1 ++ l2 → td t a b = false := fun t h => by
    cases e : td t a b with
    | false => rfl
    | true => exact absurd (M.uniq t (a, b, c) a b (old t h).1 ht e (td_iff.mpr (.inl ⟨rfl, rfl⟩))) (old t h).2
  have Tbc : ∀ t, t ∈ l1 ++ l2 → td t b c = false := fun t h => by
    cases e : td t b c with
    | false => rfl
    | true => exact absurd (M.uniq t (a, b, c) b c (old t h).1 ht e (td_iff.mpr (.inr (.inl ⟨rfl, rfl⟩)))) (old t h).2
  have Tca : ∀ t, t ∈ l1 ++ l2 → td t c a = false := fun t h => by
    cases e : td t c a with
    | false => rfl
    | true => exact absurd (M.uniq t (a, b, c) c a (old t h).1 ht e (td_iff.mpr (.inr (.inr ⟨rfl, rfl⟩)))) (old t h).2
  -- a step of one of the new rings and of an old one
  have cl : ∀ s t u v, s ∈ l1 ++ l2 → t = (a, b, n) ∨ t = (b, c, n) ∨ t = (c, a, n) → td s u v = true → td t u v = true → False := fun s t u v hs ht' e1 e2 => by
    have k := tdn s (old s hs).1
    rcases ht' with rfl | rfl | rfl <;> rcases td_iff.mp e2 with ⟨rfl, rfl⟩ | ⟨rfl, rfl⟩ | ⟨rfl, rfl⟩
    · rw [Tab s hs] at e1; cases e1
    · rw [(k _).1] at e1; cases e1
    · rw [(k _).2] at e1; cases e1
    · rw [Tbc s hs] at e1; cases e1
    · rw [(k _).1] at e1; cases e1
    · rw [(k _).2] at e1; cases e1
    · rw [Tca s hs] at e1; cases e1
    · rw [(k _).1] at e1; cases e1
    · rw [(k _).2] at e1; cases e1
  have nw : ∀ s t u v, (s = (a, b, n) ∨ s = (b, c, n) ∨ s = (c, a, n)) → (t = (a, b, n) ∨ t = (b, c, n) ∨ t = (c, a, n)) → td s u v = true → td t u v = true → s = t := fun s t u v hs ht' e1 e2 => by
    rcases hs with rfl | rfl | rfl <;> rcases ht' with rfl | rfl | rfl <;> first | rfl | skip
    all_goals (rw [td_iff] at e1 e2; exfalso; omega)
  have uniq : ∀ s t u v, s ∈ L' → t ∈ L' → td s u v = true → td t u v = true → s = t := fun s t u v hs ht' e1 e2 => by
    rcases (mem s).mp hs with hs | hs <;> rcases (mem t).mp ht' with ht' | ht'
    · exact M.uniq s t u v (old s hs).1 (old t ht').1 e1 e2
    · exact absurd (cl s t u v hs ht' e1 e2) id
    · exact absurd (cl t s u v ht' hs e2 e1) id
    · exact nw s t u v hs ht' e1 e2
  have m1 : (a, b, n) ∈ L' := (mem _).mpr (.inr (.inl rfl))
  have m2 : (b, c, n) ∈ L' := (mem _).mpr (.inr (.inr (.inl rfl)))
  have m3 : (c, a, n) ∈ L' := (mem _).mpr (.inr (.inr (.inr rfl)))
  have iff' : ∀ u v, (B u v || (edge a n u v || (edge b n u v || edge c n u v))) = true ↔ ∃ t, t ∈ L' ∧ td t u v = true := fun u v => by
    simp only [Bool.or_eq_true, edge_iff]
    constructor
    · rintro (h | (⟨rfl, rfl⟩ | ⟨rfl, rfl⟩) | (⟨rfl, rfl⟩ | ⟨rfl, rfl⟩) | ⟨rfl, rfl⟩ | ⟨rfl, rfl⟩)
      · obtain ⟨t, h1, h2⟩ := (M.iff u v).mp h
        by_cases e : t = (a, b, c)
        · subst e
          rcases td_iff.mp h2 with ⟨rfl, rfl⟩ | ⟨rfl, rfl⟩ | ⟨rfl, rfl⟩
          · exact ⟨_, m1, td_iff.mpr (.inl ⟨rfl, rfl⟩)⟩
          · exact ⟨_, m2, td_iff.mpr (.inl ⟨rfl, rfl⟩)⟩
          · exact ⟨_, m3, td_iff.mpr (.inl ⟨rfl, rfl⟩)⟩
        · exact ⟨t, (mem t).mpr (.inl (old' t h1 e)), h2⟩
      · exact ⟨_, m3, td_iff.mpr (.inr (.inl ⟨rfl, rfl⟩))⟩
      · exact ⟨_, m1, td_iff.mpr (.inr (.inr ⟨rfl, rfl⟩))⟩
      · exact ⟨_, m1, td_iff.mpr (.inr (.inl ⟨rfl, rfl⟩))⟩
      · exact ⟨_, m2, td_iff.mpr (.inr (.inr ⟨rfl, rfl⟩))⟩
      · exact ⟨_, m2, td_iff.mpr (.inr (.inl ⟨rfl, rfl⟩))⟩
      · exact ⟨_, m3, td_iff.mpr (.inr (.inr ⟨rfl, rfl⟩))⟩
    · rintro ⟨t, h1, h2⟩
      have tb : ∀ u v, td (a, b, c) u v = true → B u v = true := fun u v e => (M.iff u v).mpr ⟨_, ht, e⟩
      rcases (mem t).mp h1 with h1 | rfl | rfl | rfl
      · exact .inl ((M.iff u v).mpr ⟨t, (old t h1).1, h2⟩)
      all_goals (rcases td_iff.mp h2 with ⟨rfl, rfl⟩ | ⟨rfl, rfl⟩ | ⟨rfl, rfl⟩)
      · exact .inl (tb _ _ (td_iff.mpr (.inl ⟨rfl, rfl⟩)))
      · exact .inr (.inr (.inl (.inl ⟨rfl, rfl⟩)))
      · exact .inr (.inl (.inr ⟨rfl, rfl⟩))
      · exact .inl (tb _ _ (td_iff.mpr (.inr (.inl ⟨rfl, rfl⟩))))
      · exact .inr (.inr (.inr (.inl ⟨rfl, rfl⟩)))
      · exact .inr (.inr (.inl (.inr ⟨rfl, rfl⟩)))
      · exact .inl (tb _ _ (td_iff.mpr (.inr (.inr ⟨rfl, rfl⟩))))
      · exact .inr (.inl (.inl ⟨rfl, rfl⟩))
      · exact .inr (.inr (.inr (.inr ⟨rfl, rfl⟩)))
  have sym' : Sym (fun u v => B u v || (edge a n u v || (edge b n u v || edge c n u v))) := fun u v => by
    show (B u v || (edge a n u v || (edge b n u v || edge c n u v))) = (B v u || (edge a n v u || (edge b n v u || edge c n v u)))
    rw [M.sym u v, edge_sym a n u v, edge_sym b n u v, edge_sym c n u v]
  have ro : ∀ {r : Tri} {u v}, r ∈ l1 ++ (a, b, c) :: l2 → td r u v = true → triOf (l1 ++ (a, b, c) :: l2) u v = r := fun hr e => triOf_of M.uniq hr e
  have rn : ∀ {r : Tri} {u v}, r ∈ L' → td r u v = true → triOf L' u v = r := fun hr e => triOf_of uniq hr e
  -- first the way a, n, b
  let W1 : E2 := fun u v => edge a n u v || edge b n u v
  let X : Tri := (b, c, n)
  let f1 : Nat → Nat → Tri := fun u v =>
    if (u = a ∧ v = b) ∨ (u = b ∧ v = n) ∨ (u = n ∧ v = a) then (a, b, n)
    else if (u = b ∧ v = c) ∨ (u = c ∧ v = a) ∨ (u = a ∧ v = n) ∨ (u = n ∧ v = b) then X else triOf (l1 ++ (a, b, c) :: l2) u v
  have W1s : Sym W1 := fun u v => by simp only [W1]; rw [edge_sym a n u v, edge_sym b n u v]
  have fO : ∀ u v, B u v = true → triOf (l1 ++ (a, b, c) :: l2) u v = (a, b, c) → td (a, b, c) u v = true := fun u v e h => by
    obtain ⟨t, h1, h2⟩ := (M.iff u v).mp e
    rw [ro h1 h2] at h; rw [← h]; exact h2
  have fN : ∀ u v, B u v = true → triOf (l1 ++ (a, b, c) :: l2) u v ≠ (a, b, c) → td (a, b, c) u v = false := fun u v e h => by
    cases e' : td (a, b, c) u v with
    | false => rfl
    | true => exact absurd (ro ht e') h
  have nX : ∀ t, t ∈ l1 ++ (a, b, c) :: l2 → ∀ u w, t ≠ (u, w, n) := fun t h u w e => by
    subst e
    have := M.lt _ _ _ h
    omega
  have inO : ∀ u v, B u v = true → triOf (l1 ++ (a, b, c) :: l2) u v ∈ l1 ++ (a, b, c) :: l2 := fun u v e => by
    obtain ⟨t, h1, h2⟩ := (M.iff u v).mp e
    rw [ro h1 h2]; exact h1
  have lt : ∀ u v, B u v = true → u ≠ n ∧ v ≠ n := fun u v e => by
    have := G.bnd u v e
    exact ⟨by omega, by omega⟩
  have P1 : Plane (n + 1) (fun u v => B u v || W1 u v) f1 := by
    refine Plane.add (M.plane.wider G) (F := (a, b, c)) (F1 := (a, b, n)) (F2 := X) (W := W1) (y := edge a b) ?_ W1s (edge_sym a b) (fun u v e => ?_) (fun u v e h => ?_) (fun u v e h => ?_) (fun u v e h => ?_) (fun u v e => ?_) (fun u v e => ?_) M.sym (fun u v e => ?_) (fun u => ?_) (fun x hx => ?_)
    · intro e; simp only [X, Prod.mk.injEq] at e; exact ab e.1
    · simp only [W1, Bool.or_eq_true, edge_iff] at e
      rcases e with (⟨rfl, rfl⟩ | ⟨rfl, rfl⟩) | (⟨rfl, rfl⟩ | ⟨rfl, rfl⟩)
      · exact (Bn _).1
      · exact (Bn _).2
      · exact (Bn _).1
      · exact (Bn _).2
    · exact ⟨nX _ (inO u v e) _ _, nX _ (inO u v e) _ _⟩
    · have k := fN u v e h
      have l := lt u v e
      have k' : ¬ ((u = a ∧ v = b) ∨ (u = b ∧ v = c) ∨ (u = c ∧ v = a)) := fun h' => by rw [td_iff.mpr h'] at k; cases k
      have n1 : ¬ ((u = a ∧ v = b) ∨ (u = b ∧ v = n) ∨ (u = n ∧ v = a)) := by omega
      have n2 : ¬ ((u = b ∧ v = c) ∨ (u = c ∧ v = a) ∨ (u = a ∧ v = n) ∨ (u = n ∧ v = b)) := by omega
      simp only [f1, if_neg n1, if_neg n2]
    · rcases td_iff.mp (fO u v e h) with ⟨rfl, rfl⟩ | ⟨rfl, rfl⟩ | ⟨rfl, rfl⟩
      · have : edge u v u v = true := edge_iff.mpr (.inl ⟨rfl, rfl⟩)
        rw [if_pos this]; simp [f1]
      · have : ¬ edge a u u v = true := by rw [edge_iff]; omega
        have n1 : ¬ ((u = a ∧ v = u) ∨ (u = u ∧ v = n) ∨ (u = n ∧ v = a)) := by omega
        rw [if_neg this]; simp only [f1, if_neg n1]; simp
      · have : ¬ edge v b u v = true := by rw [edge_iff]; omega
        have n1 : ¬ ((u = v ∧ v = b) ∨ (u = b ∧ v = n) ∨ (u = n ∧ v = v)) := by omega
        rw [if_neg this]; simp only [f1, if_neg n1]; simp
    · simp only [W1, Bool.or_eq_true, edge_iff] at e
      rcases e with (⟨rfl, rfl⟩ | ⟨rfl, rfl⟩) | (⟨rfl, rfl⟩ | ⟨rfl, rfl⟩)
      · right
        have n1 : ¬ ((u = u ∧ v = b) ∨ (u = b ∧ v = v) ∨ (u = v ∧ v = u)) := by omega
        exact ⟨by simp only [f1, if_neg n1]; simp, by simp [f1]⟩
      · left
        have n1 : ¬ ((v = v ∧ u = b) ∨ (v = b ∧ u = u) ∨ (v = u ∧ u = v)) := by omega
        exact ⟨by simp [f1], by simp only [f1, if_neg n1]; simp⟩
      · left
        have n1 : ¬ ((v = a ∧ u = u) ∨ (v = u ∧ u = v) ∨ (v = v ∧ u = a)) := by omega
        exact ⟨by simp [f1], by simp only [f1, if_neg n1]; simp⟩
      · right
        have n1 : ¬ ((u = a ∧ v = v) ∨ (u = v ∧ v = u) ∨ (u = u ∧ v = a)) := by omega
        exact ⟨by simp only [f1, if_neg n1]; simp, by simp [f1]⟩
    · rintro ⟨h1, h2⟩
      have k1 := td_iff.mp (fO u v e h1)
      have k2 := td_iff.mp (fO v u (by rw [M.sym]; exact e) h2)
      omega
    · rcases edge_iff.mp e with ⟨rfl, rfl⟩ | ⟨rfl, rfl⟩
      · exact ⟨(M.iff _ _).mpr ⟨_, ht, td_iff.mpr (.inl ⟨rfl, rfl⟩)⟩, .inl (ro ht (td_iff.mpr (.inl ⟨rfl, rfl⟩)))⟩
      · refine ⟨by rw [M.sym]; exact (M.iff _ _).mpr ⟨_, ht, td_iff.mpr (.inl ⟨rfl, rfl⟩)⟩, .inr (ro ht (td_iff.mpr (.inl ⟨rfl, rfl⟩)))⟩
    · have e : W1 = xr (edge a n) (edge b n) := by
        funext u v
        simp only [W1, xr]
        cases e1 : edge a n u v with
        | false => simp
        | true =>
          cases e2 : edge b n u v with
          | false => rfl
          | true => have := edge_iff.mp e1; have := edge_iff.mp e2; omega
      rw [e, dv_xr, edge_dv ab (by omega) (by omega), edge_dv an (by omega) (by omega), edge_dv bn (by omega) (by omega)]
      cases decide (u = a) <;> cases decide (u = b) <;> cases decide (u = n) <;> rfl
    · have h := hx.even n
      unfold dv at h
      rw [par_two ab (by omega) (by omega)] at h
      · have hab : x n a = x n b := by cases e1 : x n a <;> cases e2 : x n b <;> simp [e1, e2] at h ⊢
        refine ⟨x n a, fun u v e => ?_⟩
        simp only [W1, Bool.or_eq_true, edge_iff] at e
        rcases e with (⟨rfl, rfl⟩ | ⟨rfl, rfl⟩) | (⟨rfl, rfl⟩ | ⟨rfl, rfl⟩)
        · rw [hx.sym]
        · rfl
        · rw [hx.sym, hab]
        · exact hab.symm
      · intro i _ h1 h2
        cases e : x n i with
        | false => rfl
        | true =>
          have := hx.sub n i e
          rw [(Bn i).2, Bool.false_or] at this
          simp only [Bool.or_eq_true, W1, edge_iff] at this
          omega
  -- then the tie c, n
  have P2 : Plane (n + 1) (fun u v => (B u v || W1 u v) || edge c n u v) (triOf L') := by
    have Bs1 : Sym (fun u v => B u v || W1 u v) := fun u v => by show (B u v || W1 u v) = (B v u || W1 v u); rw [M.sym u v, W1s u v]
    have fX : ∀ u v, (B u v || W1 u v) = true → (f1 u v = X ↔ ((u = b ∧ v = c) ∨ (u = c ∧ v = a) ∨ (u = a ∧ v = n) ∨ (u = n ∧ v = b))) := fun u v e => by
      by_cases n1 : ((u = a ∧ v = b) ∨ (u = b ∧ v = n) ∨ (u = n ∧ v = a))
      · have : f1 u v = (a, b, n) := by simp only [f1, if_pos n1]
        rw [this]
        constructor
        · intro h; simp only [X, Prod.mk.injEq] at h; exact absurd h.1 ab
        · intro h; omega
      · by_cases n2 : ((u = b ∧ v = c) ∨ (u = c ∧ v = a) ∨ (u = a ∧ v = n) ∨ (u = n ∧ v = b))
        · exact ⟨fun _ => n2, fun _ => by simp only [f1, if_neg n1, if_pos n2]⟩
        · simp only [f1, if_neg n1, if_neg n2, n2, iff_false]
          rw [Bool.or_eq_true] at e
          rcases e with e | e
          · exact nX _ (inO u v e) _ _
          · simp only [W1, Bool.or_eq_true, edge_iff] at e
            omega
    have bcd : td (a, b, c) b c = true := td_iff.mpr (.inr (.inl ⟨rfl, rfl⟩))
    have cad : td (a, b, c) c a = true := td_iff.mpr (.inr (.inr ⟨rfl, rfl⟩))
    have Bbc : B b c = true := (M.iff b c).mpr ⟨_, ht, bcd⟩
    have Bca : B c a = true := (M.iff c a).mpr ⟨_, ht, cad⟩
    have Wbn : W1 b n = true := by simp [W1, edge]
    have Wan : W1 a n = true := by simp [W1, edge]
    have fnot : ∀ u v, (B u v || W1 u v) = true → f1 u v ≠ X → f1 u v = triOf L' u v ∧ f1 u v ∈ L' ∧ (f1 u v = (a, b, n) ∨ f1 u v ∈ l1 ++ l2) := fun u v e h => by
      have n2 : ¬ ((u = b ∧ v = c) ∨ (u = c ∧ v = a) ∨ (u = a ∧ v = n) ∨ (u = n ∧ v = b)) := fun h' => h ((fX u v e).mpr h')
      by_cases n1 : ((u = a ∧ v = b) ∨ (u = b ∧ v = n) ∨ (u = n ∧ v = a))
      · have hf : f1 u v = (a, b, n) := by simp only [f1, if_pos n1]
        rw [hf]
        exact ⟨(rn m1 (td_iff.mpr n1)).symm, m1, .inl rfl⟩
      · have hf : f1 u v = triOf (l1 ++ (a, b, c) :: l2) u v := by simp only [f1, if_neg n1, if_neg n2]
        rw [Bool.or_eq_true] at e
        have e : B u v = true := e.elim id (fun e => by
          simp only [W1, Bool.or_eq_true, edge_iff] at e
          exfalso; omega)
        obtain ⟨t, h1, h2⟩ := (M.iff u v).mp e
        have hto := ro h1 h2
        have hne : t ≠ (a, b, c) := fun e' => by
          subst e'
          have := td_iff.mp h2
          omega
        have hin := old' t h1 hne
        rw [hf, hto]
        exact ⟨(rn ((mem t).mpr (.inl hin)) h2).symm, (mem t).mpr (.inl hin), .inr hin⟩
    let y : E2 := fun u v => edge b c u v || edge b n u v
    have ys : Sym y := fun u v => by simp only [y]; rw [edge_sym b c u v, edge_sym b n u v]
    refine Plane.add P1 (F := X) (F1 := (b, c, n)) (F2 := (c, a, n)) (W := edge c n) (y := y) ?_ (edge_sym c n) ys (fun u v e => ?_) (fun u v e h => ?_) (fun u v e h => ?_) (fun u v e h => ?_) (fun u v e => ?_) (fun u v e => ?_) Bs1 (fun u v e => ?_) (fun u => ?_) (fun x hx => ?_)
    · intro e; simp only [Prod.mk.injEq] at e; exact bc e.1
    · have e := edge_iff.mp e
      have hb : B u v = false := by
        rcases e with ⟨rfl, rfl⟩ | ⟨rfl, rfl⟩
        · exact (Bn _).1
        · exact (Bn _).2
      have hw : W1 u v = false := by
        cases e' : W1 u v with
        | false => rfl
        | true =>
          simp only [W1, Bool.or_eq_true, edge_iff] at e'
          omega
      show (B u v || W1 u v) = false
      rw [hb, hw]; rfl
    · refine ⟨h, fun e' => ?_⟩
      rcases (fnot u v e h).2.2 with h' | h'
      · rw [h'] at e'; simp only [Prod.mk.injEq] at e'; exact ca e'.1.symm
      · exact nX _ (old _ h').1 _ _ e'
    · exact (fnot u v e h).1.symm
    · have k := (fX u v e).mp h
      rcases k with ⟨rfl, rfl⟩ | ⟨rfl, rfl⟩ | ⟨rfl, rfl⟩ | ⟨rfl, rfl⟩
      · have : y u v = true := by simp [y, edge]
        rw [if_pos this]; exact rn m2 (td_iff.mpr (.inl ⟨rfl, rfl⟩))
      · have : ¬ y u v = true := by simp only [y, Bool.or_eq_true, edge_iff]; omega
        rw [if_neg this]; exact rn m3 (td_iff.mpr (.inl ⟨rfl, rfl⟩))
      · have : ¬ y u v = true := by simp only [y, Bool.or_eq_true, edge_iff]; omega
        rw [if_neg this]; exact rn m3 (td_iff.mpr (.inr (.inl ⟨rfl, rfl⟩)))
      · have : y u v = true := by simp [y, edge]
        rw [if_pos this]; exact rn m2 (td_iff.mpr (.inr (.inr ⟨rfl, rfl⟩)))
    · rcases edge_iff.mp e with ⟨rfl, rfl⟩ | ⟨rfl, rfl⟩
      · exact .inl ⟨rn m2 (td_iff.mpr (.inr (.inl ⟨rfl, rfl⟩))), rn m3 (td_iff.mpr (.inr (.inr ⟨rfl, rfl⟩)))⟩
      · exact .inr ⟨rn m3 (td_iff.mpr (.inr (.inr ⟨rfl, rfl⟩))), rn m2 (td_iff.mpr (.inr (.inl ⟨rfl, rfl⟩)))⟩
    · rintro ⟨h1, h2⟩
      have k1 := (fX u v e).mp h1
      have e' : (B v u || W1 v u) = true := by have := Bs1 v u; simp only at this; rw [this]; exact e
      have k2 := (fX v u e').mp h2
      omega
    · simp only [y, Bool.or_eq_true, edge_iff] at e
      rcases e with (⟨rfl, rfl⟩ | ⟨rfl, rfl⟩) | (⟨rfl, rfl⟩ | ⟨rfl, rfl⟩)
      · have e1 : (B u v || W1 u v) = true := by rw [Bbc]; rfl
        exact ⟨e1, .inl ((fX _ _ e1).mpr (.inl ⟨rfl, rfl⟩))⟩
      · have e1 : (B u v || W1 u v) = true := by rw [M.sym, Bbc]; rfl
        have e2 : (B v u || W1 v u) = true := by rw [Bbc]; rfl
        exact ⟨e1, .inr ((fX _ _ e2).mpr (.inl ⟨rfl, rfl⟩))⟩
      · have e1 : (B u v || W1 u v) = true := by rw [Wbn]; simp
        have e2 : (B v u || W1 v u) = true := by rw [W1s, Wbn]; simp
        exact ⟨e1, .inr ((fX _ _ e2).mpr (.inr (.inr (.inr ⟨rfl, rfl⟩))))⟩
      · have e1 : (B u v || W1 u v) = true := by rw [W1s, Wbn]; simp
        exact ⟨e1, .inl ((fX _ _ e1).mpr (.inr (.inr (.inr ⟨rfl, rfl⟩))))⟩
    · have e : y = xr (edge b c) (edge b n) := by
        funext u v
        simp only [y, xr]
        cases e1 : edge b c u v with
        | false => simp
        | true =>
          cases e2 : edge b n u v with
          | false => rfl
          | true => have := edge_iff.mp e1; have := edge_iff.mp e2; omega
      rw [e, dv_xr, edge_dv bc (by omega) (by omega), edge_dv bn (by omega) (by omega), edge_dv cn (by omega) (by omega)]
      cases decide (u = b) <;> cases decide (u = c) <;> cases decide (u = n) <;> rfl
    · refine ⟨x c n, fun u v e => ?_⟩
      rcases edge_iff.mp e with ⟨rfl, rfl⟩ | ⟨rfl, rfl⟩
      · rfl
      · rw [hx.sym]
  refine ⟨fun p q r h => ?_, fun p q r h => ?_, ?_, uniq, iff', sym', ?_⟩
  · rcases (mem _).mp h with h | h | h | h
    · exact M.nd p q r (old _ h).1
    all_goals (simp only [Prod.mk.injEq] at h; omega)
  · rcases (mem _).mp h with h | h | h | h
    · have := M.lt p q r (old _ h).1; omega
    all_goals (simp only [Prod.mk.injEq] at h; omega)
  · show (l1 ++ l2 ++ [(a, b, n), (b, c, n), (c, a, n)]).Nodup
    rw [List.nodup_append]
    refine ⟨hnd.2, by simp; omega, fun x hx y hy e => ?_⟩
    subst e
    simp only [List.mem_cons, List.not_mem_nil, or_false] at hy
    rcases hy with h | h | h <;> exact nX _ (old x hx).1 _ _ h
  · have : (fun u v => B u v || (edge a n u v || (edge b n u v || edge c n u v))) = fun u v => (B u v || W1 u v) || edge c n u v := by
      funext u v
      simp only [W1]
      cases B u v <;> cases edge a n u v <;> cases edge b n u v <;> rfl
    rw [this]; exact P2
end Wb
set_option maxHeartbeats 4000000
namespace Wb
open Classical
/-! counts -/
theorem cnt_congr {f g : Nat → Bool} : ∀ {n : Nat}, (∀ i, i < n → f i = g i) → cnt f n = cnt g n
  | 0, _ => rfl
  | n + 1, h => by
    show cnt f n + _ = cnt g n + _
    rw [cnt_congr (n := n) fun i hi => h i (by omega), h n (by omega)]
theorem cnt_le {f g : Nat → Bool} : ∀ {n : Nat}, (∀ i, i < n → f i = true → g i = true) → cnt f n ≤ cnt g n
  | 0, _ => Nat.le_refl 0
  | n + 1, h => by
    show cnt f n + _ ≤ cnt g n + _
    have ih := cnt_le (f := f) (g := g) (n := n) fun i hi => h i (by omega)
    have hn := h n (by omega)
    cases e : f n with
    | false => simp; omega
    | true => rw [hn e]; simp; omega
theorem cnt_add {f g : Nat → Bool} {q : Nat} : ∀ {n : Nat}, q < n → f q = false → g q = true → (∀ i, i < n → i ≠ q → f i = g i) → cnt g n = cnt f n + 1
  | n + 1, hq, h1, h2, h => by
    show cnt g n + _ = cnt f n + _ + 1
    by_cases e : q = n
    · subst e
      rw [h1, h2, cnt_congr (f := f) (g := g) fun i hi => h i (by omega) (by omega)]; simp
    · rw [cnt_add (f := f) (g := g) (n := n) (by omega) h1 h2 fun i hi => h i (by omega), h n (by omega) (by omega)]; omega
theorem cnt_ge : ∀ {n : Nat} {f : Nat → Bool} {l : List Nat}, l.Nodup → (∀ x ∈ l, x < n ∧ f x = true) → l.length ≤ cnt f n
  | 0, f, [], _, _ => Nat.le_refl 0
  | 0, f, x :: l, _, h => by have := (h x (by simp)).1; omega
  | n + 1, f, l, hn, h => by
    show l.length ≤ cnt f n + _
    by_cases hm : n ∈ l
    · have ih := cnt_ge (n := n) (f := f) (l := l.erase n) (hn.erase n) (fun x hx => by
        have hx' := (hn.mem_erase_iff).mp hx
        have := h x hx'.2
        exact ⟨by omega, this.2⟩)
      rw [List.length_erase_of_mem hm] at ih
      rw [(h n hm).2]; simp
      have : 0 < l.length := List.length_pos_of_mem hm
      omega
    · have ih := cnt_ge (n := n) (f := f) (l := l) hn (fun x hx => by
        have := h x hx
        have : x ≠ n := fun e => hm (e ▸ hx)
        exact ⟨by omega, (h x hx).2⟩)
      omega
theorem cnt_some {f : Nat → Bool} : ∀ {n : Nat}, ∃ l : List Nat, l.Nodup ∧ l.length = cnt f n ∧ ∀ x, x ∈ l ↔ x < n ∧ f x = true
  | 0 => ⟨[], by simp, rfl, fun x => by simp⟩
  | n + 1 => by
    obtain ⟨l, h1, h2, h3⟩ := cnt_some (f := f) (n := n)
    show ∃ l : List Nat, l.Nodup ∧ l.length = cnt f n + _ ∧ _
    cases e : f n with
    | false => exact ⟨l, h1, by simpa using h2, fun x => by
        rw [h3]
        constructor
        · rintro ⟨a, b⟩; exact ⟨by omega, b⟩
        · rintro ⟨a, b⟩
          have : x ≠ n := fun e' => by rw [e', e] at b; cases b
          exact ⟨by omega, b⟩⟩
    | true => exact ⟨n :: l, List.nodup_cons.mpr ⟨fun h => by have := (h3 n).mp h; omega, h1⟩, by simpa using h2, fun x => by
        rw [List.mem_cons, h3]
        constructor
        · rintro (rfl | ⟨a, b⟩)
          · exact ⟨by omega, e⟩
          · exact ⟨by omega, b⟩
        · rintro ⟨a, b⟩
          by_cases h : x = n
          · exact .inl h
          · exact .inr ⟨by omega, b⟩⟩
theorem tot_congr {n : Nat} {B C : E2} : ∀ {k : Nat}, (∀ u, u < k → cnt (B u) n = cnt (C u) n) → tot n B k = tot n C k
  | 0, _ => rfl
  | k + 1, h => by
    show tot n B k + _ = tot n C k + _
    rw [tot_congr (k := k) fun u hu => h u (by omega), h k (by omega)]
theorem tot_one {n : Nat} {B C : E2} {p : Nat} : ∀ {k : Nat}, p < k → cnt (C p) n = cnt (B p) n + 1 → (∀ u, u < k → u ≠ p → cnt (B u) n = cnt (C u) n) → tot n C k = tot n B k + 1
  | k + 1, hp, h1, h => by
    show tot n C k + _ = tot n B k + _ + 1
    by_cases e : p = k
    · subst e
      rw [h1, tot_congr (B := B) (C := C) fun u hu => h u (by omega) (by omega)]; omega
    · rw [tot_one (B := B) (C := C) (k := k) (by omega) h1 fun u hu => h u (by omega), h k (by omega) (by omega)]; omega
theorem edge_row {B : E2} {p q : Nat} (hpq : p ≠ q) {n : Nat} (hq : q < n) (hb : B p q = false) : cnt (fun v => B p v || edge p q p v) n = cnt (B p) n + 1 :=
  cnt_add (f := B p) hq hb (by simp [edge]) fun i _ hi => by simp [edge, hi, hpq]
theorem tot_edge {n : Nat} {B : E2} (hs : Sym B) {p q : Nat} (hpq : p ≠ q) (hp : p < n) (hq : q < n) (hb : B p q = false) : tot n (fun u v => B u v || edge p q u v) n = tot n B n + 2 := by
  let C1 : E2 := fun u v => if u = p then (B u v || edge p q u v) else B u v
  have h1 : tot n C1 n = tot n B n + 1 := tot_one (p := p) hp (by
    show cnt (C1 p) n = _
    have : C1 p = fun v => B p v || edge p q p v := by funext v; simp [C1]
    rw [this]; exact edge_row hpq hq hb) fun u _ hu => by
      show cnt (B u) n = cnt (C1 u) n
      have : C1 u = B u := by funext v; simp [C1, hu]
      rw [this]
  have h2 : tot n (fun u v => B u v || edge p q u v) n = tot n C1 n + 1 := tot_one (p := q) hq (by
    show cnt (fun v => B q v || edge p q q v) n = cnt (C1 q) n + 1
    have e1 : C1 q = B q := by funext v; simp [C1, Ne.symm hpq]
    have e2 : (fun v => B q v || edge p q q v) = fun v => B q v || edge q p q v := by
      funext v; simp [edge, hpq, Ne.symm hpq]
    rw [e1, e2]; exact edge_row (Ne.symm hpq) hp (by rw [hs]; exact hb)) fun u _ hu => by
      show cnt (C1 u) n = cnt (fun v => B u v || edge p q u v) n
      by_cases h : u = p
      · have : C1 u = fun v => B u v || edge p q u v := by funext v; simp [C1, h]
        rw [this]
      · have : C1 u = fun v => B u v || edge p q u v := by funext v; simp [C1, h, edge, hu]
        rw [this]
  omega
theorem cnt_wider {f : Nat → Bool} {n : Nat} (h : f n = false) : cnt f (n + 1) = cnt f n := by show cnt f n + _ = _; rw [h]; simp
theorem cnt_zero {f : Nat → Bool} : ∀ {n : Nat}, (∀ i, i < n → f i = false) → cnt f n = 0
  | 0, _ => rfl
  | n + 1, h => by show cnt f n + _ = 0; rw [cnt_zero (n := n) fun i hi => h i (by omega), h n (by omega)]; rfl
theorem tot_wider {n : Nat} {B : E2} (G : Gr n B) : tot (n + 1) B (n + 1) = tot n B n := by
  have z : ∀ u, B u n = false := fun u => by
    cases e : B u n with
    | false => rfl
    | true => exact absurd (G.bnd2 e) (by omega)
  have z' : ∀ u, B n u = false := fun u => by rw [G.sym]; exact z u
  have key : ∀ k, tot (n + 1) B k = tot n B k := fun k => by
    induction k with
    | zero => rfl
    | succ k ih => show tot (n + 1) B k + cnt (B k) (n + 1) = tot n B k + cnt (B k) n; rw [ih, cnt_wider (z k)]
  show tot (n + 1) B n + cnt (B n) (n + 1) = _
  rw [key, cnt_zero fun i _ => z' i]; rfl
/-- how many ties the law's rings have -/
structure MC (n : Nat) (B : E2) : Prop where
  t : tot n B n + 12 = 6 * n
  d2 : ∀ u, u < n → 2 ≤ cnt (B u) n
  d3 : 4 ≤ n → ∀ u, u < n → 3 ≤ cnt (B u) n
theorem MC.grow {n : Nat} {B : E2} (G : Gr n B) (C : MC n B) (hn : 3 ≤ n) {a b c : Nat} (ab : a ≠ b) (bc : b ≠ c) (ca : c ≠ a) (la : a < n) (lb : b < n) (lc : c < n) :
    MC (n + 1) (fun u v => B u v || (edge a n u v || (edge b n u v || edge c n u v))) := by
  have z : ∀ u, B u n = false := fun u => by
    cases e : B u n with
    | false => rfl
    | true => exact absurd (G.bnd2 e) (by omega)
  have z' : ∀ u, B n u = false := fun u => by rw [G.sym]; exact z u
  have an : a ≠ n := by omega
  have bn : b ≠ n := by omega
  have cn : c ≠ n := by omega
  have e1 := tot_edge (n := n + 1) G.sym an (by omega) (by omega) (z a)
  have s1 : Sym (fun u v => B u v || edge a n u v) := fun u v => by show (_ || _) = (_ || _); rw [G.sym u v, edge_sym a n u v]
  have e2 := tot_edge (n := n + 1) s1 bn (by omega) (by omega) (by simp [z b, edge, bn, Ne.symm ab])
  have s2 : Sym (fun u v => (B u v || edge a n u v) || edge b n u v) := fun u v => by show ((_ || _) || _) = ((_ || _) || _); rw [G.sym u v, edge_sym a n u v, edge_sym b n u v]
  have e3 := tot_edge (n := n + 1) s2 cn (by omega) (by omega) (by simp [z c, edge, cn, bc, ca, Ne.symm bc, Ne.symm ca])
  have ee : (fun u v => ((B u v || edge a n u v) || edge b n u v) || edge c n u v) = fun u v => B u v || (edge a n u v || (edge b n u v || edge c n u v)) := by
    funext u v; cases B u v <;> cases edge a n u v <;> cases edge b n u v <;> rfl
  rw [ee] at e3
  have hw := tot_wider G
  have ht := C.t
  have more : ∀ u, u < n → cnt (B u) n ≤ cnt (fun v => B u v || (edge a n u v || (edge b n u v || edge c n u v))) (n + 1) := fun u hu => by
    rw [← cnt_wider (z u)]
    exact cnt_le fun i _ h => by simp [h]
  have last : 3 ≤ cnt (fun v => B n v || (edge a n n v || (edge b n n v || edge c n n v))) (n + 1) := by
    have := cnt_ge (n := n + 1) (f := fun v => B n v || (edge a n n v || (edge b n n v || edge c n n v))) (l := [a, b, c]) (by simp; omega) (by
      intro x hx
      simp at hx
      rcases hx with rfl | rfl | rfl
      · exact ⟨by omega, by simp [edge]⟩
      · exact ⟨by omega, by simp [edge]⟩
      · exact ⟨by omega, by simp [edge]⟩)
    simpa using this
  have d3 : ∀ u, u < n + 1 → 3 ≤ cnt (fun v => B u v || (edge a n u v || (edge b n u v || edge c n u v))) (n + 1) := fun u hu => by
    by_cases e : u = n
    · rw [e]; exact last
    · by_cases h4 : 4 ≤ n
      · exact Nat.le_trans (C.d3 h4 u (by omega)) (more u (by omega))
      · have hu' : u = a ∨ u = b ∨ u = c := by omega
        have hun : cnt (fun v => B u v || (edge a n u v || (edge b n u v || edge c n u v))) (n + 1) = cnt (fun v => B u v || (edge a n u v || (edge b n u v || edge c n u v))) n + 1 := by
          have : (B u n || (edge a n u n || (edge b n u n || edge c n u n))) = true := by rcases hu' with rfl | rfl | rfl <;> simp [edge]
          show cnt _ n + (if (B u n || (edge a n u n || (edge b n u n || edge c n u n))) = true then 1 else 0) = _
          rw [this]; simp
        have h2 := C.d2 u (by omega)
        have : cnt (B u) n ≤ cnt (fun v => B u v || (edge a n u v || (edge b n u v || edge c n u v))) n := cnt_le fun i _ h => by simp [h]
        omega
  exact ⟨by omega, fun u hu => Nat.le_trans (by omega) (d3 u hu), fun _ => d3⟩
theorem four_ge {n : Nat} {f : Nat → Bool} (h3 : 3 ≤ cnt f n) {p q r : Nat} (hno : (∀ x, x < n → f x = true → x = p ∨ x = q ∨ x = r) → False) (hp : p < n ∧ f p = true) (hq : q < n ∧ f q = true) (hr : r < n ∧ f r = true) (pq : p ≠ q) (qr : q ≠ r) (rp : r ≠ p) : 4 ≤ cnt f n := by
  obtain ⟨x, hx⟩ : ∃ x, x < n ∧ f x = true ∧ x ≠ p ∧ x ≠ q ∧ x ≠ r := Classical.byContradiction fun hn => hno fun x h1 h2 => Classical.byContradiction fun h => hn ⟨x, h1, h2, fun e => h (.inl e), fun e => h (.inr (.inl e)), fun e => h (.inr (.inr e))⟩
  have := cnt_ge (n := n) (f := f) (l := [x, p, q, r]) (by simp; omega) (by
    intro y hy
    simp at hy
    rcases hy with rfl | rfl | rfl | rfl
    · exact ⟨hx.1, hx.2.1⟩
    · exact hp
    · exact hq
    · exact hr)
  simpa using this

/-- the tie of two rings of three exchanged for the tie of the further corners -/
theorem MInv.swap {n : Nat} {B : E2} {L : List Tri} {a b c d : Nat} (M : MInv n B L) (C : MC n B) (hn : 4 ≤ n) (ht : (a, b, c) ∈ L) {s : Tri} (hs : s ∈ L) (hsd : ∀ u v, td s u v = td (b, a, d) u v) (hda : d ≠ a) (hdb : d ≠ b) (hdc : d ≠ c) (hcd : B c d = false) (ld : d < n) :
    ∃ B', MInv n B' (L.filter (fun r => decide (r ≠ (a, b, c) ∧ r ≠ s)) ++ [(a, d, c), (d, b, c)]) ∧ MC n B' := by
  obtain ⟨ab, bc, ca⟩ := M.nd a b c ht
  obtain ⟨la, lb, lc⟩ := M.lt a b c ht
  have G := M.gr
  have tst : s ≠ (a, b, c) := fun e => by
    have h := hsd b a
    rw [e] at h
    have : td (a, b, c) b a = true := by rw [h]; exact td_iff.mpr (.inl ⟨rfl, rfl⟩)
    have := td_iff.mp this; omega
  have sab : td s b a = true := by rw [hsd]; exact td_iff.mpr (.inl ⟨rfl, rfl⟩)
  have sad : td s a d = true := by rw [hsd]; exact td_iff.mpr (.inr (.inl ⟨rfl, rfl⟩))
  have sdb : td s d b = true := by rw [hsd]; exact td_iff.mpr (.inr (.inr ⟨rfl, rfl⟩))
  have tab : td (a, b, c) a b = true := td_iff.mpr (.inl ⟨rfl, rfl⟩)
  have tbc : td (a, b, c) b c = true := td_iff.mpr (.inr (.inl ⟨rfl, rfl⟩))
  have tca : td (a, b, c) c a = true := td_iff.mpr (.inr (.inr ⟨rfl, rfl⟩))
  have on : ∀ {t : Tri} {u v : Nat}, t ∈ L → td t u v = true → B u v = true := fun h e => (M.iff _ _).mpr ⟨_, h, e⟩
  have hdc' : B d c = false := by rw [M.sym]; exact hcd
  have sdt : ∀ u v, td s u v = true ↔ (u = b ∧ v = a) ∨ (u = a ∧ v = d) ∨ (u = d ∧ v = b) := fun u v => by rw [hsd]; exact td_iff
  let L' : List Tri := L.filter (fun r => decide (r ≠ (a, b, c) ∧ r ≠ s)) ++ [(a, d, c), (d, b, c)]
  have mem : ∀ t, t ∈ L' ↔ (t ∈ L ∧ t ≠ (a, b, c) ∧ t ≠ s) ∨ t = (a, d, c) ∨ t = (d, b, c) := fun t => by
    simp only [L', List.mem_append, List.mem_filter, decide_eq_true_eq, List.mem_cons, List.not_mem_nil, or_false]
  have noT : ∀ t, t ∈ L → td t c d = false ∧ td t d c = false := fun t h => by
    constructor
    · cases e : td t c d with
      | false => rfl
      | true => rw [on h e] at hcd; cases hcd
    · cases e : td t d c with
      | false => rfl
      | true => rw [on h e] at hdc'; cases hdc'
  have f1n : (a, d, c) ∉ L := fun h => by
    have := (noT _ h).2
    rw [td_iff.mpr (.inr (.inl ⟨rfl, rfl⟩))] at this; cases this
  have f2n : (d, b, c) ∉ L := fun h => by
    have := (noT _ h).1
    rw [td_iff.mpr (.inr (.inr ⟨rfl, rfl⟩))] at this; cases this
  have f12 : (a, d, c) ≠ (d, b, c) := fun e => by simp only [Prod.mk.injEq] at e; exact hda e.1.symm
  -- steps of old rings that stay
  have stay : ∀ t u v, t ∈ L → t ≠ (a, b, c) → t ≠ s → td t u v = true → ¬ ((u = a ∧ v = b) ∨ (u = b ∧ v = c) ∨ (u = c ∧ v = a)) ∧ ¬ ((u = b ∧ v = a) ∨ (u = a ∧ v = d) ∨ (u = d ∧ v = b)) ∧ ¬ (u = c ∧ v = d) ∧ ¬ (u = d ∧ v = c) := fun t u v h1 h2 h3 e => by
    refine ⟨fun h => h2 (M.uniq _ _ u v h1 ht e (td_iff.mpr h)), fun h => h3 (M.uniq _ _ u v h1 hs e ((sdt u v).mpr h)), ?_, ?_⟩
    · rintro ⟨rfl, rfl⟩; rw [(noT t h1).1] at e; cases e
    · rintro ⟨rfl, rfl⟩; rw [(noT t h1).2] at e; cases e
  have uniq : ∀ p q u v, p ∈ L' → q ∈ L' → td p u v = true → td q u v = true → p = q := fun p q u v hp hq e1 e2 => by
    rcases (mem p).mp hp with hp | hp | hp <;> rcases (mem q).mp hq with hq | hq | hq
    · exact M.uniq p q u v hp.1 hq.1 e1 e2
    · subst hq
      have k := stay p u v hp.1 hp.2.1 hp.2.2 e1
      have := td_iff.mp e2
      exfalso; omega
    · subst hq
      have k := stay p u v hp.1 hp.2.1 hp.2.2 e1
      have := td_iff.mp e2
      exfalso; omega
    · subst hp
      have k := stay q u v hq.1 hq.2.1 hq.2.2 e2
      have := td_iff.mp e1
      exfalso; omega
    · rw [hp, hq]
    · subst hp; subst hq
      have := td_iff.mp e1; have := td_iff.mp e2
      exfalso; omega
    · subst hp
      have k := stay q u v hq.1 hq.2.1 hq.2.2 e2
      have := td_iff.mp e1
      exfalso; omega
    · subst hp; subst hq
      have := td_iff.mp e1; have := td_iff.mp e2
      exfalso; omega
    · rw [hp, hq]
  have m1 : (a, d, c) ∈ L' := (mem _).mpr (.inr (.inl rfl))
  have m2 : (d, b, c) ∈ L' := (mem _).mpr (.inr (.inr rfl))
  have Bab : B a b = true := on ht tab
  have Bad : B a d = true := on hs sad
  have Bdb : B d b = true := on hs sdb
  have Bbc : B b c = true := on ht tbc
  have Bca : B c a = true := on ht tca
  let A : E2 := fun u v => B u v && !edge a b u v
  have As : Sym A := fun u v => by simp only [A]; rw [M.sym u v, edge_sym a b u v]
  have A_iff : ∀ u v, A u v = true ↔ B u v = true ∧ ¬ ((u = a ∧ v = b) ∨ (u = b ∧ v = a)) := fun u v => by
    simp only [A, Bool.and_eq_true, Bool.not_eq_true', ← Bool.not_eq_true, edge_iff]
  let B' : E2 := fun u v => A u v || edge c d u v
  have B's : Sym B' := fun u v => by simp only [B']; rw [As u v, edge_sym c d u v]
  have iff' : ∀ u v, B' u v = true ↔ ∃ t, t ∈ L' ∧ td t u v = true := fun u v => by
    simp only [B', Bool.or_eq_true, A_iff, edge_iff]
    constructor
    · rintro (⟨h, hne⟩ | h)
      · obtain ⟨t, h1, h2⟩ := (M.iff u v).mp h
        by_cases e1 : t = (a, b, c)
        · subst e1
          rcases td_iff.mp h2 with h | ⟨rfl, rfl⟩ | ⟨rfl, rfl⟩
          · exact absurd (.inl h) hne
          · exact ⟨_, m2, td_iff.mpr (.inr (.inl ⟨rfl, rfl⟩))⟩
          · exact ⟨_, m1, td_iff.mpr (.inr (.inr ⟨rfl, rfl⟩))⟩
        · by_cases e2 : t = s
          · subst e2
            rcases (sdt u v).mp h2 with h | ⟨rfl, rfl⟩ | ⟨rfl, rfl⟩
            · exact absurd (.inr h) hne
            · exact ⟨_, m1, td_iff.mpr (.inl ⟨rfl, rfl⟩)⟩
            · exact ⟨_, m2, td_iff.mpr (.inl ⟨rfl, rfl⟩)⟩
          · exact ⟨t, (mem t).mpr (.inl ⟨h1, e1, e2⟩), h2⟩
      · rcases h with ⟨rfl, rfl⟩ | ⟨rfl, rfl⟩
        · exact ⟨_, m2, td_iff.mpr (.inr (.inr ⟨rfl, rfl⟩))⟩
        · exact ⟨_, m1, td_iff.mpr (.inr (.inl ⟨rfl, rfl⟩))⟩
    · rintro ⟨t, h1, h2⟩
      rcases (mem t).mp h1 with h1 | rfl | rfl
      · have k := stay t u v h1.1 h1.2.1 h1.2.2 h2
        exact .inl ⟨on h1.1 h2, by omega⟩
      · rcases td_iff.mp h2 with ⟨rfl, rfl⟩ | ⟨rfl, rfl⟩ | ⟨rfl, rfl⟩
        · exact .inl ⟨Bad, by omega⟩
        · exact .inr (.inr ⟨rfl, rfl⟩)
        · exact .inl ⟨Bca, by omega⟩
      · rcases td_iff.mp h2 with ⟨rfl, rfl⟩ | ⟨rfl, rfl⟩ | ⟨rfl, rfl⟩
        · exact .inl ⟨Bdb, by omega⟩
        · exact .inl ⟨Bbc, by omega⟩
        · exact .inr (.inl ⟨rfl, rfl⟩)
  have ro : ∀ {r : Tri} {u v}, r ∈ L → td r u v = true → triOf L u v = r := fun hr e => triOf_of M.uniq hr e
  have rn : ∀ {r : Tri} {u v}, r ∈ L' → td r u v = true → triOf L' u v = r := fun hr e => triOf_of uniq hr e
  have P1 := M.plane.cut1 G Bab
  rw [ro hs sab, ro ht tab] at P1
  let f1 : Nat → Nat → Tri := fun u v => @ite Tri (triOf L u v = s) (propDecidable _) (a, b, c) (triOf L u v)
  have P1 : Plane n A f1 := P1
  have fF : ∀ u v, A u v = true → (f1 u v = (a, b, c) ↔ ((u = b ∧ v = c) ∨ (u = c ∧ v = a) ∨ (u = a ∧ v = d) ∨ (u = d ∧ v = b))) := fun u v e => by
    have e := (A_iff u v).mp e
    obtain ⟨t, h1, h2⟩ := (M.iff u v).mp e.1
    have hto := ro h1 h2
    simp only [f1, hto]
    by_cases e1 : t = s
    · subst e1
      have := (sdt u v).mp h2
      simp only [if_true, true_iff]; omega
    · rw [if_neg e1]
      by_cases e2 : t = (a, b, c)
      · subst e2
        have := td_iff.mp h2
        simp only [true_iff]; omega
      · have k := stay t u v h1 e2 e1 h2
        simp only [e2, false_iff]; omega
  have fN : ∀ u v, A u v = true → f1 u v ≠ (a, b, c) → triOf L' u v = f1 u v ∧ f1 u v ∈ L := fun u v e h => by
    have e' := (A_iff u v).mp e
    obtain ⟨t, h1, h2⟩ := (M.iff u v).mp e'.1
    have hto := ro h1 h2
    have e1 : t ≠ s := fun e1 => h (by simp only [f1, hto, if_pos e1])
    have hf : f1 u v = t := by simp only [f1, hto, if_neg e1]
    rw [hf] at h ⊢
    exact ⟨rn ((mem t).mpr (.inl ⟨h1, h, e1⟩)) h2, h1⟩
  have cd : c ≠ d := Ne.symm hdc
  let y : E2 := fun u v => edge c a u v || edge a d u v
  have P2 : Plane n B' (triOf L') := by
    refine Plane.add P1 (F := (a, b, c)) (F1 := (a, d, c)) (F2 := (d, b, c)) (W := edge c d) (y := y) f12 (edge_sym c d) (fun u v => by simp only [y]; rw [edge_sym c a u v, edge_sym a d u v]) (fun u v e => ?_) (fun u v e h => ?_) (fun u v e h => (fN u v e h).1) (fun u v e h => ?_) (fun u v e => ?_) (fun u v e => ?_) As (fun u v e => ?_) (fun u => ?_) (fun x hx => ?_)
    · have : B u v = false := by
        rcases edge_iff.mp e with ⟨rfl, rfl⟩ | ⟨rfl, rfl⟩
        · exact hcd
        · exact hdc'
      simp [A, this]
    · have := (fN u v e h).2
      exact ⟨fun e' => f1n (e' ▸ this), fun e' => f2n (e' ▸ this)⟩
    · have k := (fF u v e).mp h
      rcases k with ⟨rfl, rfl⟩ | ⟨rfl, rfl⟩ | ⟨rfl, rfl⟩ | ⟨rfl, rfl⟩
      · have : ¬ y u v = true := by simp only [y, Bool.or_eq_true, edge_iff]; omega
        rw [if_neg this]; exact rn m2 (td_iff.mpr (.inr (.inl ⟨rfl, rfl⟩)))
      · have : y u v = true := by simp [y, edge]
        rw [if_pos this]; exact rn m1 (td_iff.mpr (.inr (.inr ⟨rfl, rfl⟩)))
      · have : y u v = true := by simp [y, edge]
        rw [if_pos this]; exact rn m1 (td_iff.mpr (.inl ⟨rfl, rfl⟩))
      · have : ¬ y u v = true := by simp only [y, Bool.or_eq_true, edge_iff]; omega
        rw [if_neg this]; exact rn m2 (td_iff.mpr (.inl ⟨rfl, rfl⟩))
    · rcases edge_iff.mp e with ⟨rfl, rfl⟩ | ⟨rfl, rfl⟩
      · exact .inr ⟨rn m2 (td_iff.mpr (.inr (.inr ⟨rfl, rfl⟩))), rn m1 (td_iff.mpr (.inr (.inl ⟨rfl, rfl⟩)))⟩
      · exact .inl ⟨rn m1 (td_iff.mpr (.inr (.inl ⟨rfl, rfl⟩))), rn m2 (td_iff.mpr (.inr (.inr ⟨rfl, rfl⟩)))⟩
    · rintro ⟨h1, h2⟩
      have k1 := (fF u v e).mp h1
      have k2 := (fF v u (by rw [As]; exact e)).mp h2
      omega
    · simp only [y, Bool.or_eq_true, edge_iff] at e
      have Aca : A c a = true := (A_iff _ _).mpr ⟨Bca, by omega⟩
      have Aad : A a d = true := (A_iff _ _).mpr ⟨Bad, by omega⟩
      rcases e with (⟨rfl, rfl⟩ | ⟨rfl, rfl⟩) | (⟨rfl, rfl⟩ | ⟨rfl, rfl⟩)
      · exact ⟨Aca, .inl ((fF _ _ Aca).mpr (.inr (.inl ⟨rfl, rfl⟩)))⟩
      · exact ⟨by rw [As]; exact Aca, .inr ((fF _ _ Aca).mpr (.inr (.inl ⟨rfl, rfl⟩)))⟩
      · exact ⟨Aad, .inl ((fF _ _ Aad).mpr (.inr (.inr (.inl ⟨rfl, rfl⟩))))⟩
      · exact ⟨by rw [As]; exact Aad, .inr ((fF _ _ Aad).mpr (.inr (.inr (.inl ⟨rfl, rfl⟩))))⟩
    · have e : y = xr (edge c a) (edge a d) := by
        funext u v
        simp only [y, xr]
        cases e1 : edge c a u v with
        | false => simp
        | true =>
          cases e2 : edge a d u v with
          | false => rfl
          | true => have := edge_iff.mp e1; have := edge_iff.mp e2; omega
      rw [e, dv_xr, edge_dv ca lc la, edge_dv (Ne.symm hda) la ld, edge_dv cd lc ld]
      cases decide (u = a) <;> cases decide (u = c) <;> cases decide (u = d) <;> rfl
    · refine ⟨x c d, fun u v e => ?_⟩
      rcases edge_iff.mp e with ⟨rfl, rfl⟩ | ⟨rfl, rfl⟩
      · rfl
      · rw [hx.sym]
  -- counts
  have eB : (fun u v => A u v || edge a b u v) = B := by
    funext u v
    simp only [A]
    cases e1 : B u v with
    | true => cases edge a b u v <;> rfl
    | false =>
      cases e2 : edge a b u v with
      | false => rfl
      | true =>
        rcases edge_iff.mp e2 with ⟨rfl, rfl⟩ | ⟨rfl, rfl⟩
        · rw [Bab] at e1; cases e1
        · rw [M.sym, Bab] at e1; cases e1
  have t1 := tot_edge (n := n) As ab la lb (by simp [A, edge])
  rw [eB] at t1
  have t2 := tot_edge (n := n) As cd lc ld (by simp [A, hcd])
  have C3 := C.d3 hn
  have ring_of : ∀ {u v}, B u v = true → ∃ x, ∃ r, r ∈ L ∧ td r u v = true ∧ td r v x = true ∧ td r x u = true := fun {u v} e => by
    obtain ⟨⟨p, q, r⟩, h1, h2⟩ := (M.iff u v).mp e
    rcases td_iff.mp h2 with ⟨rfl, rfl⟩ | ⟨rfl, rfl⟩ | ⟨rfl, rfl⟩
    · exact ⟨r, _, h1, h2, td_iff.mpr (.inr (.inl ⟨rfl, rfl⟩)), td_iff.mpr (.inr (.inr ⟨rfl, rfl⟩))⟩
    · exact ⟨p, _, h1, h2, td_iff.mpr (.inr (.inr ⟨rfl, rfl⟩)), td_iff.mpr (.inl ⟨rfl, rfl⟩)⟩
    · exact ⟨q, _, h1, h2, td_iff.mpr (.inl ⟨rfl, rfl⟩), td_iff.mpr (.inr (.inl ⟨rfl, rfl⟩))⟩
  have four_a : 4 ≤ cnt (B a) n := four_ge (p := b) (q := c) (r := d) (C3 a la) (fun h => by
    obtain ⟨x, r, hr, r1, r2, r3⟩ := ring_of (show B a c = true by rw [M.sym]; exact Bca)
    have hx := h x (G.bnd1 (on hr r3)) (by rw [M.sym]; exact on hr r3)
    rcases hx with rfl | rfl | rfl
    · have := M.uniq r s x a hr hs r3 sab
      subst this
      have := (sdt a c).mp r1; omega
    · exact G.ne (on hr r2) rfl
    · rw [(noT r hr).1] at r2; cases r2) ⟨lb, Bab⟩ ⟨lc, by rw [M.sym]; exact Bca⟩ ⟨ld, Bad⟩ bc cd hdb
  have four_b : 4 ≤ cnt (B b) n := four_ge (p := a) (q := c) (r := d) (C3 b lb) (fun h => by
    obtain ⟨x, r, hr, r1, r2, r3⟩ := ring_of (show B b d = true by rw [M.sym]; exact Bdb)
    have hx := h x (G.bnd1 (on hr r3)) (by rw [M.sym]; exact on hr r3)
    rcases hx with rfl | rfl | rfl
    · have := M.uniq r (x, b, c) x b hr ht r3 tab
      subst this
      have := td_iff.mp r1; omega
    · rw [(noT r hr).2] at r2; cases r2
    · exact G.ne (on hr r2) rfl) ⟨la, by rw [M.sym]; exact Bab⟩ ⟨lc, Bbc⟩ ⟨ld, by rw [M.sym]; exact Bdb⟩ (Ne.symm ca) cd hda
  have dA : ∀ u, u < n → 3 ≤ cnt (A u) n := fun u hu => by
    by_cases e1 : u = a
    · subst e1
      have h := cnt_add (f := A u) (g := B u) (q := b) (n := n) lb (by simp [A, edge]) Bab fun i _ hi => by simp [A, edge, hi, ab]
      omega
    · by_cases e2 : u = b
      · subst e2
        have h := cnt_add (f := A u) (g := B u) (q := a) (n := n) la (by simp [A, edge]) (by rw [M.sym]; exact Bab) fun i _ hi => by simp [A, edge, hi, Ne.symm ab]
        omega
      · have : A u = B u := by funext v; simp [A, edge, e1, e2]
        rw [this]; exact C3 u hu
  have dB : ∀ u, u < n → 3 ≤ cnt (B' u) n := fun u hu => Nat.le_trans (dA u hu) (cnt_le fun i _ h => by simp [B', h])
  have tt := C.t
  refine ⟨B', ⟨fun p q r h => ?_, fun p q r h => ?_, ?_, uniq, iff', B's, P2⟩, ⟨?_, fun u hu => Nat.le_trans (by omega) (dB u hu), fun _ => dB⟩⟩
  · rcases (mem _).mp h with h | h | h
    · exact M.nd p q r h.1
    all_goals (simp only [Prod.mk.injEq] at h; omega)
  · rcases (mem _).mp h with h | h | h
    · exact M.lt p q r h.1
    all_goals (simp only [Prod.mk.injEq] at h; omega)
  · show (L.filter (fun r => decide (r ≠ (a, b, c) ∧ r ≠ s)) ++ [(a, d, c), (d, b, c)]).Nodup
    rw [List.nodup_append]
    refine ⟨M.nodup.filter _, by simp; intro h; exact absurd h.symm hda, fun x hx y hy e => ?_⟩
    subst e
    have hx := (List.mem_filter.mp hx).1
    simp only [List.mem_cons, List.not_mem_nil, or_false] at hy
    rcases hy with h | h
    · exact f1n (h ▸ hx)
    · exact f2n (h ▸ hx)
  · have e : tot n B' n = tot n (fun u v => A u v || edge c d u v) n := rfl
    omega
end Wb
set_option maxHeartbeats 4000000
namespace Wb
open Classical
/-- three corners -/
def B3 : E2 := fun u v => decide (u < 3) && (decide (v < 3) && decide (u ≠ v))
theorem MInv.three : MInv 3 B3 [(0, 1, 2), (0, 2, 1)] ∧ MC 3 B3 := by
  have mem : ∀ t : Tri, t ∈ [(0, 1, 2), (0, 2, 1)] ↔ t = (0, 1, 2) ∨ t = (0, 2, 1) := fun t => by simp
  have uniq : ∀ (s t : Tri) u v, s ∈ [((0 : Nat), (1 : Nat), (2 : Nat)), (0, 2, 1)] → t ∈ [((0 : Nat), (1 : Nat), (2 : Nat)), (0, 2, 1)] → td s u v = true → td t u v = true → s = t := fun s t u v hs ht e1 e2 => by
    rcases (mem s).mp hs with rfl | rfl <;> rcases (mem t).mp ht with rfl | rfl <;> first | rfl | (exfalso; have := td_iff.mp e1; have := td_iff.mp e2; omega)
  have B3_iff : ∀ u v, B3 u v = true ↔ u < 3 ∧ v < 3 ∧ u ≠ v := fun u v => by simp [B3]
  have iff' : ∀ u v, B3 u v = true ↔ ∃ t : Tri, t ∈ [((0 : Nat), (1 : Nat), (2 : Nat)), (0, 2, 1)] ∧ td t u v = true := fun u v => by
    rw [B3_iff]
    constructor
    · intro h
      by_cases e : td (0, 1, 2) u v = true
      · exact ⟨_, (mem _).mpr (.inl rfl), e⟩
      · refine ⟨_, (mem _).mpr (.inr rfl), td_iff.mpr ?_⟩
        rw [td_iff] at e; omega
    · rintro ⟨t, h1, h2⟩
      rcases (mem t).mp h1 with rfl | rfl <;> (have := td_iff.mp h2; omega)
  have r1 : ∀ {u v}, td (0, 1, 2) u v = true → triOf [(0, 1, 2), (0, 2, 1)] u v = (0, 1, 2) := fun e => triOf_of uniq ((mem _).mpr (.inl rfl)) e
  have r2 : ∀ {u v}, td (0, 2, 1) u v = true → triOf [(0, 1, 2), (0, 2, 1)] u v = (0, 2, 1) := fun e => triOf_of uniq ((mem _).mpr (.inr rfl)) e
  have dlv : ∀ (T : Tri → Bool) u v, B3 u v = true → dl (triOf [(0, 1, 2), (0, 2, 1)]) T u v = (T (0, 1, 2) ^^ T (0, 2, 1)) := fun T u v e => by
    have e := (B3_iff u v).mp e
    simp only [dl]
    by_cases h : td (0, 1, 2) u v = true
    · have h' := td_iff.mp h
      rw [r1 h, r2 (td_iff.mpr (by omega))]
    · have h2 : td (0, 2, 1) u v = true := by rw [td_iff] at h ⊢; omega
      have h' := td_iff.mp h2
      rw [r2 h2, r1 (td_iff.mpr (by omega)), Bool.xor_comm]
  refine ⟨⟨fun a b c h => ?_, fun a b c h => ?_, by simp, uniq, iff', fun u v => ?_, ⟨fun T u => ?_, fun x hx => ?_⟩⟩, ⟨by decide, fun u hu => ?_, fun h => by omega⟩⟩
  · rcases (mem _).mp h with h | h <;> (simp only [Prod.mk.injEq] at h; omega)
  · rcases (mem _).mp h with h | h <;> (simp only [Prod.mk.injEq] at h; omega)
  · cases e1 : B3 u v <;> cases e2 : B3 v u <;> first | rfl | (exfalso; first | (rw [← Bool.not_eq_true, B3_iff] at e1; rw [B3_iff] at e2; omega) | (rw [← Bool.not_eq_true, B3_iff] at e2; rw [B3_iff] at e1; omega))
  · have e : (fun v => B3 u v && dl (triOf [(0, 1, 2), (0, 2, 1)]) T u v) = fun v => (T (0, 1, 2) ^^ T (0, 2, 1)) && B3 u v := funext fun v => by
      cases e : B3 u v with
      | false => simp
      | true => rw [dlv T u v e]; simp
    rw [e, par_and]
    have : par (fun v => B3 u v) 3 = false := by
      by_cases h : u < 3
      · have : u = 0 ∨ u = 1 ∨ u = 2 := by omega
        rcases this with rfl | rfl | rfl <;> decide
      · exact par_zero fun v _ => by simp [B3, h]
    rw [this]; simp
  · have hc : ∀ u v, B3 u v = true → x u v = x 0 1 := by
      have h0 := hx.even 0
      have h1 := hx.even 1
      have irr : ∀ u, x u u = false := fun u => by
        cases e : x u u with
        | false => rfl
        | true => have := (B3_iff u u).mp (hx.sub u u e); omega
      have h0 : ((false ^^ x 0 0) ^^ x 0 1 ^^ x 0 2) = false := h0
      have h1 : ((false ^^ x 1 0) ^^ x 1 1 ^^ x 1 2) = false := h1
      rw [irr] at h0 h1
      have s10 := hx.sym 1 0
      have s20 := hx.sym 2 0
      have s21 := hx.sym 2 1
      rw [s10] at h1
      have a02 : x 0 2 = x 0 1 := by cases e1 : x 0 1 <;> cases e2 : x 0 2 <;> simp [e1, e2] at h0 ⊢
      have a12 : x 1 2 = x 0 1 := by cases e1 : x 0 1 <;> cases e2 : x 1 2 <;> simp [e1, e2] at h1 ⊢
      intro u v e
      have e := (B3_iff u v).mp e
      have hu : u = 0 ∨ u = 1 ∨ u = 2 := by omega
      have hv : v = 0 ∨ v = 1 ∨ v = 2 := by omega
      rcases hu with rfl | rfl | rfl <;> rcases hv with rfl | rfl | rfl <;> first | rfl | (exfalso; omega) | assumption | (rw [s20]; assumption) | (rw [s21]; assumption)
    refine ⟨fun f => decide (f = (0, 1, 2)) && x 0 1, fun u v e => ?_⟩
    rw [dlv _ u v e, hc u v e]; simp
  · have : u = 0 ∨ u = 1 ∨ u = 2 := by omega
    rcases this with rfl | rfl | rfl <;> decide
/-! blocks -/
/-- classes of ties: two at a corner are of one class if their other ends are joined without it; nothing else -/
structure Cls {β : Type} (A : E2) (cls : Nat → Nat → β) : Prop where
  sym : ∀ u v, cls u v = cls v u
  one : ∀ c o p, A c o = true → A c p = true → Conn (Av A c) o p → cls c o = cls c p
  least : ∀ T : Nat → Nat → Bool, (∀ u v, T u v = T v u) → (∀ c o p, A c o = true → A c p = true → Conn (Av A c) o p → T c o = T c p) → ∀ u v a b, A u v = true → A a b = true → cls u v = cls a b → T u v = T a b
theorem Conn.path {A : E2} {a b : Nat} (h : Conn A a b) : ∃ l, (a :: l).Nodup ∧ (a :: l).getLast (List.cons_ne_nil _ _) = b ∧ ∀ u v, pd (a :: l) u v = true → A u v = true := by
  induction h with
  | refl => exact ⟨[], by simp, rfl, fun u v h => by simp [pd] at h⟩
  | @step b c _ e ih =>
    obtain ⟨l, h1, h2, h3⟩ := ih
    by_cases hc : c ∈ a :: l
    · obtain ⟨p, q, hpq⟩ := List.append_of_mem hc
      cases p with
      | nil =>
        simp at hpq
        obtain ⟨rfl, rfl⟩ := hpq
        exact ⟨[], by simp, rfl, fun u v h => by simp [pd] at h⟩
      | cons p0 p =>
        simp at hpq
        obtain ⟨rfl, rfl⟩ := hpq
        refine ⟨p ++ [c], ?_, by rw [List.getLast_cons (by simp)]; simp, fun u v h => h3 u v ?_⟩
        · have sl : (a :: (p ++ [c])).Sublist (a :: (p ++ c :: q)) := by
            refine List.Sublist.cons₂ a ?_
            exact List.Sublist.append_left (by simp) p
          exact h1.sublist sl
        · have e : a :: (p ++ c :: q) = (a :: p) ++ c :: q := by simp
          rw [e, pd_app]
          have e2 : (a :: p) ++ [c] = a :: (p ++ [c]) := by simp
          rw [e2, h]; rfl
    · refine ⟨l ++ [c], ?_, by rw [List.getLast_cons (by simp)]; simp, fun u v h => ?_⟩
      · have : ((a :: l) ++ [c]).Nodup := by
          rw [List.nodup_append]
          exact ⟨h1, by simp, fun x hx y hy e => by simp at hy; rw [e, hy] at hx; exact hc hx⟩
        exact this
      · have hl : a :: l = (a :: l).dropLast ++ [b] := by
          rw [← h2]; exact (List.dropLast_concat_getLast _).symm
        have e2 : a :: (l ++ [c]) = (a :: l).dropLast ++ b :: [c] := by
          have : a :: (l ++ [c]) = (a :: l) ++ [c] := rfl
          rw [this, hl]; simp
        rw [e2, pd_app, ← hl, Bool.or_eq_true] at h
        rcases h with h | h
        · exact h3 u v h
        · simp [pd] at h
          rw [h.1, h.2]; exact e
section
variable {β : Type} {n : Nat} {A : E2} {cls : Nat → Nat → β}
/-- the ties of one class -/
noncomputable def blk (A : E2) (cls : Nat → Nat → β) (k : β) : E2 := fun u v => A u v && decide (cls u v = k)
theorem blk_iff {k : β} {u v : Nat} : blk A cls k u v = true ↔ A u v = true ∧ cls u v = k := by simp [blk]
theorem Cls.gr (G : Gr n A) (C : Cls A cls) (k : β) : Gr n (blk A cls k) := G.sub (fun u v => by simp only [blk]; rw [G.sym u v, C.sym u v]) fun u v e => (blk_iff.mp e).1
theorem Cls.tc (G : Gr n A) (C : Cls A cls) (k : β) : TC (blk A cls k) := fun y a b ha hb => by
  have ha' := blk_iff.mp ha
  have hb' := blk_iff.mp hb
  by_cases hab : a = b
  · rw [hab]; exact .refl
  let Ka : Nat → Prop := fun w => Conn (Av A y) a w
  have nKy : ∀ w, Ka w → w ≠ y := fun w h => by
    cases h with
    | refl => exact Ne.symm (G.ne ha'.1)
    | step _ e => exact (Av_iff.mp e).2.2
  have hK : Ka b := by
    have := C.least (fun u v => decide (Ka u ∨ Ka v)) (fun u v => by simp only [Or.comm]) (fun c o p ho hp hc => by
      by_cases hcy : c = y
      · subst hcy
        have h1 : ¬ Ka c := fun h => nKy c h rfl
        have : Ka o ↔ Ka p := ⟨fun h => h.trans hc, fun h => h.trans (hc.symm (gr_av G c).sym)⟩
        simp only [h1, this]
      · by_cases hk : Ka c
        · simp only [hk, true_or]
        · have no : ∀ o, A c o = true → ¬ Ka o := fun o ho h => hk (h.step (Av_iff.mpr ⟨G.symm ho, nKy o h, hcy⟩))
          simp only [hk, no o ho, no p hp]) y a y b ha'.1 hb'.1 (ha'.2.trans hb'.2.symm)
    have h1 : ¬ Ka y := fun h => nKy y h rfl
    have h2 : Ka a := .refl
    simp [h1, h2] at this
    exact this
  obtain ⟨l, h1, h2, h3⟩ := hK.path
  have hy : y ∉ a :: l := fun h => by
    cases l with
    | nil =>
      simp at h
      exact G.ne ha'.1 h
    | cons c l =>
      rcases List.mem_cons.mp h with e | h
      · exact G.ne ha'.1 e
      · have : ∃ u, pd (a :: c :: l) u y = true := by
          clear h1 h2 h3 hK
          induction l generalizing a c with
          | nil => simp at h; exact ⟨a, by simp [pd, h]⟩
          | cons d l ih =>
            rcases List.mem_cons.mp h with e | h
            · exact ⟨a, by simp [pd, e]⟩
            · by_cases hc : y = c
              · exact ⟨a, by simp [pd, hc]⟩
              · have : ∀ (a' c' : Nat) (l' : List Nat), y ∈ c' :: l' → ∃ u, pd (a' :: c' :: l') u y = true := fun a' c' l' => by
                  induction l' generalizing a' c' with
                  | nil => intro h; simp at h; exact ⟨a', by simp [pd, h]⟩
                  | cons d' l' ih' =>
                    intro h
                    rcases List.mem_cons.mp h with e | h
                    · exact ⟨a', by simp [pd, e]⟩
                    · obtain ⟨u, hu⟩ := ih' c' d' h
                      exact ⟨u, (pd_two _ _ _ _ _).mpr (.inr hu)⟩
                exact this a c (d :: l) (.tail _ h)
        obtain ⟨u, hu⟩ := this
        exact (Av_iff.mp (h3 u y hu)).2.2 rfl
  have hl : l ≠ [] := fun e => by subst e; exact hab h2
  obtain ⟨m, hm⟩ : ∃ m, l = m ++ [b] := by
    rw [List.getLast_cons hl] at h2
    exact ⟨l.dropLast, by rw [← h2]; exact (List.dropLast_concat_getLast hl).symm⟩
  subst hm
  -- the ring y, a, .., b
  let r : List Nat := y :: a :: (m ++ [b])
  have hn : r.Nodup := List.nodup_cons.mpr ⟨hy, h1⟩
  have h3r : 3 ≤ r.length := by simp [r]
  have dA : ∀ u v, dart r u v = true → A u v = true := fun u v e => by
    have e' : pd (y :: a :: (m ++ [b]) ++ [y]) u v = true := e
    have e2 : y :: a :: (m ++ [b]) ++ [y] = (y :: a :: m) ++ b :: [y] := by simp
    rw [e2, pd_app, Bool.or_eq_true] at e'
    rcases e' with e' | e'
    · have e3 : (y :: a :: m) ++ [b] = y :: a :: (m ++ [b]) := by simp
      rw [e3] at e'
      rcases (pd_two _ _ _ _ _).mp e' with ⟨rfl, rfl⟩ | e'
      · exact ha'.1
      · exact (Av_iff.mp (h3 u v e')).1
    · simp [pd] at e'
      rw [e'.1, e'.2]; exact G.symm hb'.1
  have oA : ∀ u v, onE r u v = true → A u v = true := fun u v e => by
    simp only [onE, Bool.or_eq_true] at e
    exact e.elim (dA u v) fun e => G.symm (dA v u e)
  have lt : ∀ x ∈ r, x < n := fun x hx => by
    obtain ⟨b', _, _, k, _⟩ := dart_next hn h3r hx
    exact G.bnd1 (dA x b' ((k b').mpr rfl))
  have Cr := onE_cyc (n := n) hn h3r lt
  have two : ∀ c, c ∈ r → ∀ o p, onE r c o = true → onE r c p = true → cls c o = cls c p := fun c hc o p ho hp => by
    obtain ⟨b1, m1, d1, k1, k2, k4⟩ := turn_to hn h3r hc
    have a1 := fun v => dart_first k1 v
    have a2 := fun v => dart_last (u := c) (l := b1 :: m1) (b := d1) (by simpa using k1) v
    simp only [List.cons_append] at a2
    have nb : ∀ v, onE r c v = true → v = b1 ∨ v = d1 := fun v e => by
      simp only [onE, Bool.or_eq_true, k2] at e
      exact e.elim (fun e => .inl ((a1 v).mp e)) fun e => .inr ((a2 v).mp e)
    have hcb : A c b1 = true := oA c b1 (by simp only [onE, k2, (a1 b1).mpr rfl]; rfl)
    have hcd : A c d1 = true := oA c d1 (by simp only [onE, k2, (a2 d1).mpr rfl]; simp)
    have join : Conn (Av A c) b1 d1 := by
      refine spE_conn (l := m1 ++ [d1]) (fun u v e => ?_) d1 (by simp)
      have hcn := (List.nodup_cons.mp k1).1
      have hm := pd_mem e
      refine Av_iff.mpr ⟨dA u v ?_, fun e' => hcn (e' ▸ hm.1), fun e' => hcn (e' ▸ hm.2)⟩
      rw [k2]
      show pd (c :: b1 :: (m1 ++ [d1]) ++ [c]) u v = true
      have e2 : c :: b1 :: (m1 ++ [d1]) ++ [c] = (c :: b1 :: m1) ++ d1 :: [c] := by simp
      rw [e2, pd_app]
      have e3 : (c :: b1 :: m1) ++ [d1] = c :: b1 :: (m1 ++ [d1]) := by simp
      rw [e3, (pd_two _ _ _ _ _).mpr (.inr e)]; rfl
    have k := C.one c b1 d1 hcb hcd join
    rcases nb o ho with rfl | rfl <;> rcases nb p hp with rfl | rfl
    · rfl
    · exact k
    · exact k.symm
    · rfl
  -- all of the ring is of the class
  let x : E2 := fun u v => onE r u v && decide (cls u v = k)
  have mem : ∀ u v, onE r u v = true → u ∈ r := fun u v e => by
    simp only [onE, Bool.or_eq_true] at e
    exact e.elim (fun h => (dart_mem h).1) fun h => (dart_mem h).2
  have xs : Sym x := fun u v => by simp only [x]; rw [onE_sym r u v, C.sym u v]
  have xe : ∀ u, dv n x u = false := fun u => by
    unfold dv
    by_cases hu : ∃ o, onE r u o = true
    · obtain ⟨o, ho⟩ := hu
      obtain ⟨p, hpo, hp, hall⟩ := Cr.deg u o ho
      rw [par_two (Ne.symm hpo) (Cr.gr.bnd2 ho) (Cr.gr.bnd2 hp)]
      · have := two u (mem u o ho) o p ho hp
        simp only [x, ho, hp, this, Bool.true_and]; simp
      · intro i _ i1 i2
        cases e : onE r u i with
        | false => simp [x, e]
        | true => exact absurd (hall i e) (fun h => h.elim i1 i2)
    · exact par_zero fun i _ => by
        cases e : onE r u i with
        | false => simp [x, e]
        | true => exact absurd ⟨i, e⟩ hu
  have hya : onE r y a = true := by
    have : dart r y a = true := (dart_first hn a).mpr rfl
    simp only [onE, this, Bool.true_or]
  have all : ∀ u v, onE r u v = true → cls u v = k := fun u v e => by
    have := Cr.const xs (fun u v e => by simp only [x, Bool.and_eq_true] at e; exact e.1) xe e hya
    simp only [x, e, hya, ha'.2, Bool.true_and, decide_true, decide_eq_true_eq] at this
    exact this
  refine spE_conn (l := m ++ [b]) (fun u v e => ?_) b (by simp)
  have hm := pd_mem e
  have hr : onE r u v = true := by
    have : dart r u v = true := by
      show pd (y :: a :: (m ++ [b]) ++ [y]) u v = true
      have e2 : y :: a :: (m ++ [b]) ++ [y] = (y :: a :: m) ++ b :: [y] := by simp
      rw [e2, pd_app]
      have e3 : (y :: a :: m) ++ [b] = y :: a :: (m ++ [b]) := by simp
      rw [e3, (pd_two _ _ _ _ _).mpr (.inr e)]; rfl
    simp only [onE, this, Bool.true_or]
  exact Av_iff.mpr ⟨blk_iff.mpr ⟨oA u v hr, all u v hr⟩, fun e' => hy (e' ▸ hm.1), fun e' => hy (e' ▸ hm.2)⟩
theorem Cls.con (G : Gr n A) (C : Cls A cls) (k : β) : ∀ u v a b, blk A cls k u a = true → blk A cls k v b = true → Conn (blk A cls k) u v := fun u v a b ha hb => by
  have ha' := blk_iff.mp ha
  have hb' := blk_iff.mp hb
  have gs := (C.gr G k).sym
  have := C.least (fun s t => decide (blk A cls k s t = true ∧ Conn (blk A cls k) u s)) (fun s t => by
    have : (blk A cls k s t = true ∧ Conn (blk A cls k) u s) ↔ (blk A cls k t s = true ∧ Conn (blk A cls k) u t) :=
      ⟨fun h => ⟨by rw [gs]; exact h.1, h.2.step h.1⟩, fun h => ⟨by rw [gs]; exact h.1, h.2.step h.1⟩⟩
    simp only [this]) (fun c o p ho hp hc => by
    have e := C.one c o p ho hp hc
    have : blk A cls k c o = blk A cls k c p := by simp only [blk, ho, hp, e]
    simp only [this]) u a v b ha'.1 hb'.1 (ha'.2.trans hb'.2.symm)
  have h1 : Conn (blk A cls k) u u := .refl
  simp only [ha, h1, hb, decide_true, true_and, and_self] at this
  exact of_decide_eq_true this.symm
end
end Wb
namespace Wp
open PySem PySem.Spec PyProof.Rows L2
def topS (i : Nat) : Stmt := PySem.Challenge.pw_websolids_k32_whole_webs_that_can_be_dra.main.body.getD i (.Pass ⟨0, 0, 0, 0⟩)
abbrev s_is_integer : Stmt := topS 4
theorem sc_is_integer : FnScope ["value"] ["value"] (defScope s_is_integer) := ⟨rfl, rfl, rfl, by decide +kernel, rfl, by decide +kernel, by decide +kernel⟩
abbrev s_is_count : Stmt := topS 5
theorem sc_is_count : FnScope ["value"] ["value"] (defScope s_is_count) := ⟨rfl, rfl, rfl, by decide +kernel, rfl, by decide +kernel, by decide +kernel⟩
abbrev s_is_list : Stmt := topS 6
theorem sc_is_list : FnScope ["value"] ["value"] (defScope s_is_list) := ⟨rfl, rfl, rfl, by decide +kernel, rfl, by decide +kernel, by decide +kernel⟩
abbrev s_is_tie : Stmt := topS 11
theorem sc_is_tie : FnScope ["many", "value", "one"] ["many", "value"] (defScope s_is_tie) := ⟨rfl, rfl, rfl, by decide +kernel, rfl, by decide +kernel, by decide +kernel⟩
abbrev s_is_many : Stmt := topS 12
theorem sc_is_many : FnScope ["value"] ["value"] (defScope s_is_many) := ⟨rfl, rfl, rfl, by decide +kernel, rfl, by decide +kernel, by decide +kernel⟩
abbrev s_is_web_value : Stmt := topS 13
theorem sc_is_web_value : FnScope ["value", "many", "ties", "tie", "one", "other"] ["value"] (defScope s_is_web_value) := ⟨rfl, rfl, rfl, by decide +kernel, rfl, by decide +kernel, by decide +kernel⟩
abbrev s_is_corner : Stmt := topS 14
theorem sc_is_corner : FnScope ["web", "value"] ["web", "value"] (defScope s_is_corner) := ⟨rfl, rfl, rfl, by decide +kernel, rfl, by decide +kernel, by decide +kernel⟩
abbrev s_are_corners : Stmt := topS 15
theorem sc_are_corners : FnScope ["web", "value", "one"] ["web", "value"] (defScope s_are_corners) := ⟨rfl, rfl, rfl, by decide +kernel, rfl, by decide +kernel, by decide +kernel⟩
abbrev s_want_web : Stmt := topS 16
theorem sc_want_web : FnScope ["value"] ["value"] (defScope s_want_web) := ⟨rfl, rfl, rfl, by decide +kernel, rfl, by decide +kernel, by decide +kernel⟩
abbrev s_tie_of : Stmt := topS 17
theorem sc_tie_of : FnScope ["one", "other"] ["one", "other"] (defScope s_tie_of) := ⟨rfl, rfl, rfl, by decide +kernel, rfl, by decide +kernel, by decide +kernel⟩
abbrev s_web_of_ties : Stmt := topS 18
theorem sc_web_of_ties : FnScope ["many", "pairs", "found", "one", "other"] ["many", "pairs"] (defScope s_web_of_ties) := ⟨rfl, rfl, rfl, by decide +kernel, rfl, by decide +kernel, by decide +kernel⟩
abbrev s_neighbours_of : Stmt := topS 19
theorem sc_neighbours_of : FnScope ["web", "found", "one", "other", "corner", "row"] ["web"] (defScope s_neighbours_of) := ⟨rfl, rfl, rfl, by decide +kernel, rfl, by decide +kernel, by decide +kernel⟩
abbrev s_is_tied : Stmt := topS 20
theorem sc_is_tied : FnScope ["web", "one", "other"] ["web", "one", "other"] (defScope s_is_tied) := ⟨rfl, rfl, rfl, by decide +kernel, rfl, by decide +kernel, by decide +kernel⟩
abbrev s_part_from : Stmt := topS 21
theorem sc_part_from : FnScope ["near", "corner", "met", "found", "at", "late"] ["near", "corner", "met"] (defScope s_part_from) := ⟨rfl, rfl, rfl, by decide +kernel, rfl, by decide +kernel, by decide +kernel⟩
abbrev s_parts_of_web : Stmt := topS 22
theorem sc_parts_of_web : FnScope ["web", "corners", "near", "met", "found", "corner"] ["web", "corners"] (defScope s_parts_of_web) := ⟨rfl, rfl, rfl, by decide +kernel, rfl, by decide +kernel, by decide +kernel⟩
abbrev s_round_from_least : Stmt := topS 24
theorem sc_round_from_least : FnScope ["some", "at"] ["some"] (defScope s_round_from_least) := ⟨rfl, rfl, rfl, by decide +kernel, rfl, by decide +kernel, by decide +kernel⟩
abbrev s_ring_steps : Stmt := topS 25
theorem sc_ring_steps : FnScope ["ring", "at"] ["ring"] (defScope s_ring_steps) := ⟨rfl, rfl, rfl, by decide +kernel, rfl, by decide +kernel, by decide +kernel⟩
abbrev s_following_by : Stmt := topS 26
theorem sc_following_by : FnScope ["rings", "found", "ring", "at", "corner", "ahead", "behind"] ["rings"] (defScope s_following_by) := ⟨rfl, rfl, rfl, by decide +kernel, rfl, by decide +kernel, by decide +kernel⟩
abbrev s_part_numbers : Stmt := topS 28
theorem sc_part_numbers : FnScope ["near", "corner", "found", "begin", "waiting", "here", "late"] ["near", "corner"] (defScope s_part_numbers) := ⟨rfl, rfl, rfl, by decide +kernel, rfl, by decide +kernel, by decide +kernel⟩
abbrev s_heads_of : Stmt := topS 29
theorem sc_heads_of : FnScope ["marks", "tie"] ["marks", "tie"] (defScope s_heads_of) := ⟨rfl, rfl, rfl, by decide +kernel, rfl, by decide +kernel, by decide +kernel⟩
abbrev s_blocks_of : Stmt := topS 30
theorem sc_blocks_of : FnScope ["web", "marks", "near", "tie", "corner", "parts", "first", "other", "late", "one", "far", "found", "head"] ["web"] (defScope s_blocks_of) := ⟨rfl, rfl, rfl, by decide +kernel, rfl, by decide +kernel, by decide +kernel⟩
abbrev s_near_by : Stmt := topS 31
theorem sc_near_by : FnScope ["ties", "found", "one", "other"] ["ties"] (defScope s_near_by) := ⟨rfl, rfl, rfl, by decide +kernel, rfl, by decide +kernel, by decide +kernel⟩
abbrev s_way_through : Stmt := topS 32
theorem sc_way_through : FnScope ["near", "begin", "ends", "barred", "came", "waiting", "here", "late"] ["near", "begin", "ends", "barred"] (defScope s_way_through) := ⟨rfl, rfl, rfl, by decide +kernel, rfl, by decide +kernel, by decide +kernel⟩
abbrev s_way_back : Stmt := topS 33
theorem sc_way_back : FnScope ["came", "last", "found"] ["came", "last"] (defScope s_way_back) := ⟨rfl, rfl, rfl, by decide +kernel, rfl, by decide +kernel, by decide +kernel⟩
abbrev s_pieces_left : Stmt := topS 34
theorem sc_pieces_left : FnScope ["left", "stands", "near", "met", "found", "one", "other", "corner"] ["left", "stands"] (defScope s_pieces_left) := ⟨rfl, rfl, rfl, by decide +kernel, rfl, by decide +kernel, by decide +kernel⟩
abbrev s_piece_from : Stmt := topS 35
theorem sc_piece_from : FnScope ["near", "corner", "stands", "met", "waiting", "touched", "ties", "here", "late", "some"] ["near", "corner", "stands", "met"] (defScope s_piece_from) := ⟨rfl, rfl, rfl, by decide +kernel, rfl, by decide +kernel, by decide +kernel⟩
abbrev s_first_ring : Stmt := topS 36
theorem sc_first_ring : FnScope ["ties", "one", "other"] ["ties"] (defScope s_first_ring) := ⟨rfl, rfl, rfl, by decide +kernel, rfl, by decide +kernel, by decide +kernel⟩
abbrev s_rings_for : Stmt := topS 37
theorem sc_rings_for : FnScope ["rings", "touched", "at", "ring", "corner"] ["rings", "touched"] (defScope s_rings_for) := ⟨rfl, rfl, rfl, by decide +kernel, rfl, by decide +kernel, by decide +kernel⟩
abbrev s_ring_parted : Stmt := topS 38
theorem sc_ring_parted : FnScope ["ring", "way", "at", "turned", "spot"] ["ring", "way"] (defScope s_ring_parted) := ⟨rfl, rfl, rfl, by decide +kernel, rfl, by decide +kernel, by decide +kernel⟩
abbrev s_put_in : Stmt := topS 39
theorem sc_put_in : FnScope ["rings", "left", "stands", "at", "way", "corner", "gone", "rest", "one", "other", "tie"] ["rings", "left", "stands", "at", "way"] (defScope s_put_in) := ⟨rfl, rfl, rfl, by decide +kernel, rfl, by decide +kernel, by decide +kernel⟩
abbrev s_block_rings : Stmt := topS 40
theorem sc_block_rings : FnScope ["ties", "ring", "rings", "stands", "corner", "gone", "left", "choices", "number", "touched", "way", "some", "many", "one", "other", "tie"] ["ties"] (defScope s_block_rings) := ⟨rfl, rfl, rfl, by decide +kernel, rfl, by decide +kernel, by decide +kernel⟩
abbrev s_round_through : Stmt := topS 41
theorem sc_round_through : FnScope ["following", "corner", "begin", "found", "here"] ["following", "corner", "begin"] (defScope s_round_through) := ⟨rfl, rfl, rfl, by decide +kernel, rfl, by decide +kernel, by decide +kernel⟩
abbrev s_map_drawn : Stmt := topS 42
theorem sc_map_drawn : FnScope ["web", "rounds", "ties", "rings", "near", "following", "corner", "row"] ["web"] (defScope s_map_drawn) := ⟨rfl, rfl, rfl, by decide +kernel, rfl, by decide +kernel, by decide +kernel⟩
abbrev s_is_way_of : Stmt := topS 44
theorem sc_is_way_of : FnScope ["web", "value", "one", "other"] ["web", "value"] (defScope s_is_way_of) := ⟨rfl, rfl, rfl, by decide +kernel, rfl, by decide +kernel, by decide +kernel⟩
abbrev s_part_as_web : Stmt := topS 49
theorem sc_part_as_web : FnScope ["web", "part", "pairs", "one", "other"] ["web", "part"] (defScope s_part_as_web) := ⟨rfl, rfl, rfl, by decide +kernel, rfl, by decide +kernel, by decide +kernel⟩
abbrev s_is_drawable : Stmt := topS 50
theorem sc_is_drawable : FnScope ["web", "part"] ["web"] (defScope s_is_drawable) := ⟨rfl, rfl, rfl, by decide +kernel, rfl, by decide +kernel, by decide +kernel⟩
abbrev s_is_part_drawable : Stmt := topS 51
theorem sc_is_part_drawable : FnScope ["web"] ["web"] (defScope s_is_part_drawable) := ⟨rfl, rfl, rfl, by decide +kernel, rfl, by decide +kernel, by decide +kernel⟩
abbrev s_barred_of : Stmt := topS 55
theorem sc_barred_of : FnScope ["web", "near", "corner"] ["web"] (defScope s_barred_of) := ⟨rfl, rfl, rfl, by decide +kernel, rfl, by decide +kernel, by decide +kernel⟩
abbrev s_are_heads : Stmt := topS 56
theorem sc_are_heads : FnScope ["web", "word", "value", "many", "houses", "wells", "is_rising", "one", "other"] ["web", "word", "value"] (defScope s_are_heads) := ⟨rfl, rfl, rfl, by decide +kernel, rfl, by decide +kernel, by decide +kernel⟩
abbrev s_pairs_of_heads : Stmt := topS 57
theorem sc_pairs_of_heads : FnScope ["word", "heads", "found", "place", "one", "other"] ["word", "heads"] (defScope s_pairs_of_heads) := ⟨rfl, rfl, rfl, by decide +kernel, rfl, by decide +kernel, by decide +kernel⟩
abbrev s_are_ways : Stmt := topS 58
theorem sc_are_ways : FnScope ["web", "pairs", "heads", "value", "met", "one", "other", "way", "corner"] ["web", "pairs", "heads", "value"] (defScope s_are_ways) := ⟨rfl, rfl, rfl, by decide +kernel, rfl, by decide +kernel, by decide +kernel⟩
abbrev s_is_barred_value : Stmt := topS 59
theorem sc_is_barred_value : FnScope ["web", "value"] ["web", "value"] (defScope s_is_barred_value) := ⟨rfl, rfl, rfl, by decide +kernel, rfl, by decide +kernel, by decide +kernel⟩
abbrev s_is_barred : Stmt := topS 60
theorem sc_is_barred : FnScope ["web", "value"] ["web", "value"] (defScope s_is_barred) := ⟨rfl, rfl, rfl, by decide +kernel, rfl, by decide +kernel, by decide +kernel⟩
abbrev s_barred_part : Stmt := topS 61
theorem sc_barred_part : FnScope ["web"] ["web"] (defScope s_barred_part) := ⟨rfl, rfl, rfl, by decide +kernel, rfl, by decide +kernel, by decide +kernel⟩
abbrev s_can_be_drawn : Stmt := topS 62
theorem sc_can_be_drawn : FnScope ["web"] ["web"] (defScope s_can_be_drawn) := ⟨rfl, rfl, rfl, by decide +kernel, rfl, by decide +kernel, by decide +kernel⟩
abbrev s_law_pot : Stmt := topS 64
theorem sc_law_pot : FnScope ["_law_script", "_law_k", "_law_cell"] ["_law_script", "_law_k"] (defScope s_law_pot) := ⟨rfl, rfl, rfl, by decide +kernel, rfl, by decide +kernel, by decide +kernel⟩
abbrev s_law_draw : Stmt := topS 65
theorem sc_law_draw : FnScope ["_law_pot_here", "_law_size", "_law_digit"] ["_law_pot_here", "_law_size"] (defScope s_law_draw) := ⟨rfl, rfl, rfl, by decide +kernel, rfl, by decide +kernel, by decide +kernel⟩
abbrev s_law_pick : Stmt := topS 66
theorem sc_law_pick : FnScope ["_law_pot_here", "_law_some"] ["_law_pot_here", "_law_some"] (defScope s_law_pick) := ⟨rfl, rfl, rfl, by decide +kernel, rfl, by decide +kernel, by decide +kernel⟩
abbrev s_law_mixed : Stmt := topS 67
theorem sc_law_mixed : FnScope ["_law_pot_here", "_law_some", "_law_left", "_law_found"] ["_law_pot_here", "_law_some"] (defScope s_law_mixed) := ⟨rfl, rfl, rfl, by decide +kernel, rfl, by decide +kernel, by decide +kernel⟩
abbrev s_law_tie : Stmt := topS 68
theorem sc_law_tie : FnScope ["_law_one", "_law_other"] ["_law_one", "_law_other"] (defScope s_law_tie) := ⟨rfl, rfl, rfl, by decide +kernel, rfl, by decide +kernel, by decide +kernel⟩
abbrev s_law_web : Stmt := topS 69
theorem sc_law_web : FnScope ["_law_many", "_law_ties_here", "_law_found", "_law_tie_here"] ["_law_many", "_law_ties_here"] (defScope s_law_web) := ⟨rfl, rfl, rfl, by decide +kernel, rfl, by decide +kernel, by decide +kernel⟩
abbrev s_law_renamed : Stmt := topS 70
theorem sc_law_renamed : FnScope ["_law_web_here", "_law_names", "_law_one", "_law_other"] ["_law_web_here", "_law_names"] (defScope s_law_renamed) := ⟨rfl, rfl, rfl, by decide +kernel, rfl, by decide +kernel, by decide +kernel⟩
abbrev s_law_grown : Stmt := topS 71
theorem sc_law_grown : FnScope ["_law_pot_here", "_law_many", "_law_rings", "_law_corner", "_law_one", "_law_other", "_law_third"] ["_law_pot_here", "_law_many"] (defScope s_law_grown) := ⟨rfl, rfl, rfl, by decide +kernel, rfl, by decide +kernel, by decide +kernel⟩
abbrev s_law_exchanged : Stmt := topS 72
theorem sc_law_exchanged : FnScope ["_law_pot_here", "_law_rings", "_law_one", "_law_other", "_law_third", "_law_far", "_law_last", "_law_left", "_law_ring", "_law_corner"] ["_law_pot_here", "_law_rings"] (defScope s_law_exchanged) := ⟨rfl, rfl, rfl, by decide +kernel, rfl, by decide +kernel, by decide +kernel⟩
abbrev s_law_ties : Stmt := topS 73
theorem sc_law_ties : FnScope ["_law_rings", "_law_found", "_law_ring", "_law_at"] ["_law_rings"] (defScope s_law_ties) := ⟨rfl, rfl, rfl, by decide +kernel, rfl, by decide +kernel, by decide +kernel⟩
abbrev s_law_right : Stmt := topS 74
theorem sc_law_right : FnScope ["_law_pot_here", "_law_many", "_law_rings", "_law_turn", "_law_ties_here", "_law_left", "_law_beside", "_law_more", "_law_names", "_law_web_here", "_law_heads", "_law_pairs", "_law_papers", "_law_full", "_law_at", "_law_late", "_law_paper"] ["_law_pot_here"] (defScope s_law_right) := ⟨rfl, rfl, rfl, by decide +kernel, rfl, by decide +kernel, by decide +kernel⟩
abbrev s_law : Stmt := topS 75
theorem sc_law : FnScope ["_law_script"] ["_law_script"] (defScope s_law) := ⟨rfl, rfl, rfl, by decide +kernel, rfl, by decide +kernel, by decide +kernel⟩
end Wp
set_option maxHeartbeats 4000000
namespace Wp
open PySem PySem.Spec PyProof.Rows L2
open C8 (Cal pe_c)
/-- a def of the text where the top has left it -/
structure At (K : PySem.W.Frag) (mg : Str → Option Value) (x : Str) (st : Stmt) : Prop where
  ex : ∃ (f : Addr) (fd : FuncData), Fun K x x st f fd ∧ mg x = some (.ref f)
/-- what stays a built-in name -/
structure Bt (mg : Str → Option Value) : Prop where
  len : mg "len" = none
  zip : mg "zip" = none
  list : mg "list" = none
  tuple : mg "tuple" = none
  isinstance : mg "isinstance" = none
  int : mg "int" = none
  bool : mg "bool" = none
  str : mg "str" = none
  all : mg "all" = none
  any : mg "any" = none
  min : mg "min" = none
  max : mg "max" = none
  sorted : mg "sorted" = none
  range : mg "range" = none
  dict : mg "dict" = none
  set : mg "set" = none
  enumerate : mg "enumerate" = none
  abs : mg "abs" = none
  divmod : mg "divmod" = none
section
variable {P : Program} {w : World} {K : PySem.W.Frag} {mg : Str → Option Value} {base : Heap}
theorem mk {x : Str} {st : Stmt} {N ps : List Str} {k : Nat} {sp : Sp} (A : At K mg x st) (S : FnScope N ps (defScope st))
    (hb : ∀ (kV doc pm : Value) (an : Option Addr) (cdv ct : Value) (us : List Value), us.length = ps.length → bindArgs (PySem.W.fnOf x x (defArgs st) (defBody st) (defScope st) .none kV doc pm an cdv ct) ⟨us, []⟩ = pure (ps.zip us))
    (len : ∀ vs H Q E, sp vs H Q E → vs.length = ps.length)
    (hbody : ∀ (f : Addr) (cdv : Value) (A : Around) (outer : List Env) (s : Shared) (H : Hp) (vs : List V) (Q : VK) (E : XK), Room k (A.deeper (envOfC x (defScope st) s.heap.objs.size f cdv)) → sp vs H Q E →
      ∃ t, PSs (cxOf CX0 P w K mg base N x (defScope st) f cdv A outer s H E).nox (defBody st) t ∧ t { nx := fun _ H' => Q .non H', rt := Q } (start N vs) H) : Cal P w K mg base (k + 1) x sp [] := by
  obtain ⟨f, fd, F, g⟩ := A.ex
  exact ⟨f, fd, ps, [], F.ok S len (hbody f), g, F.kp, F.binds hb, .nil⟩
/-! ### basics -/
def spIsInteger : Sp := fun vs H Q _ => ∃ n : Int, vs = [.int n] ∧ Q (.bl true) H
theorem k_is_integer (A : At K mg "is_integer" s_is_integer) (B : Bt mg) : Cal P w K mg base 1 "is_integer" spIsInteger [] := by
  refine mk A sc_is_integer (fun _ _ _ _ _ _ us hl => match us, hl with | [_], _ => rfl) (fun vs H Q E h => ?_) (fun f cdv A outer s H vs Q E hr h => ?_)
  · obtain ⟨n, rfl, _⟩ := h
    rfl
  · obtain ⟨n, rfl, q⟩ := h
    refine ⟨_, pss_one (ps_ret (pe_and (pe_callB call_isi (by rfl) B.isinstance (by decide +kernel) (pa_cons (pv 0) (pa_cons (pe_bltn (v := .ty "int") (by rfl) B.int (by decide +kernel) rfl) pa_nil)))
      (pe_one (pe_not (pe_callB call_isi (by rfl) B.isinstance (by decide +kernel) (pa_cons (pv 0) (pa_cons (pe_bltn (v := .ty "bool") (by rfl) B.bool (by decide +kernel) rfl) pa_nil))))))), ?_⟩
    refine ⟨.int n, rfl, .int n, .ty "int", _, _, true, rfl, .ty "int", .base (.int n), kit_ty (by decide +kernel), true, rfl, iteT ?_⟩
    exact ⟨.int n, rfl, .int n, .ty "bool", _, _, false, rfl, .ty "bool", .base (.int n), kit_ty (by decide +kernel), false, rfl, q⟩
def spIsCount : Sp := fun vs H Q _ => ∃ n : Nat, vs = [.int n] ∧ Q (.bl true) H
theorem k_is_count (A : At K mg "is_count" s_is_count) (B : Bt mg) (C1 : Cal P w K mg base 1 "is_integer" spIsInteger []) : Cal P w K mg base 2 "is_count" spIsCount [] := by
  refine mk A sc_is_count (fun _ _ _ _ _ _ us hl => match us, hl with | [_], _ => rfl) (fun vs H Q E h => ?_) (fun f cdv A outer s H vs Q E hr h => ?_)
  · obtain ⟨n, rfl, _⟩ := h
    rfl
  · obtain ⟨n, rfl, q⟩ := h
    refine ⟨_, pss_one (ps_ret (pe_and (pe_c C1 hr (by decide) (by rfl) (pa_cons (pv 0) pa_nil)) (pe_one (pe_cmp (pc_ge (pv 0) pe_int) rfl)))), ?_⟩
    refine ⟨.int n, rfl, n, rfl, true, rfl, iteT ?_⟩
    refine ⟨.int n, rfl, n, 0, rfl, rfl, ?_⟩
    have e : decide ((0 : Int) ≤ (n : Int)) = true := decide_eq_true (by omega)
    show Q (.bl (decide ((0 : Int) ≤ (n : Int)))) H
    rw [e]
    exact q
theorem kitAny_lt : PySem.W.kitAny K (.type "tuple") [.type "list", .type "tuple"] = some true := by
  have h1 : PySem.W.kitOne K (.type "tuple") (.type "list") = some false := kit_ty (by decide +kernel)
  have h2 : PySem.W.kitOne K (.type "tuple") (.type "tuple") = some true := kit_ty (by decide +kernel)
  unfold PySem.W.kitAny
  rw [h1]
  unfold PySem.W.kitAny
  rw [h2]
def spIsList : Sp := fun vs H Q _ => ∃ (p : Addr) (xs : List V), vs = [.ref p] ∧ H p = some (.tup xs) ∧ ∀ H', Same H H' → Q (.bl true) H'
theorem same_upd {H : Hp} {p : Addr} {o : HO} (h : H p = none) : Same H (upd H p o) := fun b x e => by
  rw [upd_ne (ne_of_none e h)]
  exact e
theorem k_is_list (A : At K mg "is_list" s_is_list) (B : Bt mg) : Cal P w K mg base 1 "is_list" spIsList [] := by
  refine mk A sc_is_list (fun _ _ _ _ _ _ us hl => match us, hl with | [_], _ => rfl) (fun vs H Q E h => ?_) (fun f cdv A outer s H vs Q E hr h => ?_)
  · obtain ⟨p, xs, rfl, _⟩ := h
    rfl
  · obtain ⟨p, xs, rfl, hp, q⟩ := h
    refine ⟨_, pss_one (ps_ret (pe_callB call_isiT (by rfl) B.isinstance (by decide +kernel) (pa_cons (pv 0) (pa_cons (pe_tup (pa_cons (pe_bltn (v := .ty "list") (by rfl) B.list (by decide +kernel) rfl) (pa_cons (pe_bltn (v := .ty "tuple") (by rfl) B.tuple (by decide +kernel) rfl) pa_nil))) pa_nil)))), ?_⟩
    refine ⟨.ref p, rfl, (by show 2 ≤ sizeLine; decide), fun t ht => ?_⟩
    exact ⟨.ref p, t, _, _, _, true, rfl, upd_same, .cons (.ty "list") (.cons (.ty "tuple") .nil), .base (.tup (by rw [upd_ne (ne_of_none hp ht)]; exact hp)), kitAny_lt, q _ (same_upd ht)⟩
/-! ### ties -/
def spTieOf : Sp := fun vs H Q _ => ∃ a b : Nat, vs = [.int a, .int b] ∧ ∀ p, H p = none → Q (.ref p) (upd H p (.tup [.int (min a b : Nat), .int (max a b : Nat)]))
theorem k_tie_of (A : At K mg "tie_of" s_tie_of) (B : Bt mg) : Cal P w K mg base 1 "tie_of" spTieOf [] := by
  refine mk A sc_tie_of (fun _ _ _ _ _ _ us hl => match us, hl with | [_, _], _ => rfl) (fun vs H Q E h => ?_) (fun f cdv A outer s H vs Q E hr h => ?_)
  · obtain ⟨a, b, rfl, _⟩ := h
    rfl
  · obtain ⟨a, b, rfl, q⟩ := h
    refine ⟨_, pss_one (ps_ret (pe_tup (pa_cons (pe_callB (call_min2 rfl) (by rfl) B.min (by decide +kernel) (pa_cons (pv 0) (pa_cons (pv 1) pa_nil)))
      (pa_cons (pe_callB (call_max2 rfl) (by rfl) B.max (by decide +kernel) (pa_cons (pv 0) (pa_cons (pv 1) pa_nil))) pa_nil)))), ?_⟩
    refine ⟨.int a, rfl, .int b, rfl, a, b, rfl, .int a, rfl, .int b, rfl, a, b, rfl, (by show 2 ≤ sizeLine; decide), fun p hp => ?_⟩
    have e1 : (if (b : Int) < a then (b : Int) else a) = ((min a b : Nat) : Int) := by split <;> omega
    have e2 : (if (b : Int) > a then (b : Int) else a) = ((max a b : Nat) : Int) := by split <;> omega
    rw [e1, e2]
    exact q p hp
end
end Wp
set_option maxHeartbeats 4000000
namespace Wp
open PySem PySem.Spec PyProof.Rows L2
open C8 (Cal pe_c pe_gc)
abbrev iv (n : Nat) : V := .int (n : Int)
abbrev ivs (l : List Nat) : List V := l.map iv
/-! what stands in the heap -/
def TieV (H : Hp) (v : V) (t : Nat × Nat) : Prop := ∃ p, v = .ref p ∧ H p = some (.tup [iv t.1, iv t.2])
def Tups (H H' : Hp) : Prop := ∀ b xs, H b = some (.tup xs) → H' b = some (.tup xs)
theorem Same.tups {H H' : Hp} (h : Same H H') : Tups H H' := fun b xs e => h b _ e
theorem Tups.trans {H H1 H2 : Hp} (h : Tups H H1) (g : Tups H1 H2) : Tups H H2 := fun b xs e => g b xs (h b xs e)
theorem TieV.keep {H H' : Hp} {v : V} {t : Nat × Nat} (h : TieV H v t) (g : Tups H H') : TieV H' v t := by
  obtain ⟨p, e, hp⟩ := h
  exact ⟨p, e, g _ _ hp⟩
theorem paired_len {α β : Type} {R : α → β → Prop} : ∀ {xs : List α} {ys : List β}, Paired R xs ys → xs.length = ys.length
  | _, _, .nil => rfl
  | _, _, .cons _ h => by simp [paired_len h]
theorem paired_mono {α β : Type} {R S : α → β → Prop} (f : ∀ a b, R a b → S a b) : ∀ {xs : List α} {ys : List β}, Paired R xs ys → Paired S xs ys
  | _, _, .nil => .nil
  | _, _, .cons r h => .cons (f _ _ r) (paired_mono f h)
theorem paired_app {α β : Type} {R : α → β → Prop} : ∀ {xs xs' : List α} {ys ys' : List β}, Paired R xs ys → Paired R xs' ys' → Paired R (xs ++ xs') (ys ++ ys')
  | _, _, _, _, .nil, g => g
  | _, _, _, _, .cons r h, g => .cons r (paired_app h g)
theorem paired_snoc {α β : Type} {R : α → β → Prop} {xs : List α} {ys : List β} {a : α} {b : β} (h : Paired R xs ys) (r : R a b) : Paired R (xs ++ [a]) (ys ++ [b]) := paired_app h (.cons r .nil)
theorem paired_get {α β : Type} {R : α → β → Prop} : ∀ {xs : List α} {ys : List β} {i : Nat} {a : α}, Paired R xs ys → xs[i]? = some a → ∃ b, ys[i]? = some b ∧ R a b
  | _, _, i, _, .nil, e => by simp at e
  | _, _, 0, _, .cons r _, e => ⟨_, rfl, by simp at e; rw [← e]; exact r⟩
  | _, _, i + 1, _, .cons _ h, e => by
    obtain ⟨b, h1, h2⟩ := paired_get (i := i) h (by simpa using e)
    exact ⟨b, by simpa using h1, h2⟩
theorem paired_get' {α β : Type} {R : α → β → Prop} : ∀ {xs : List α} {ys : List β} {i : Nat} {b : β}, Paired R xs ys → ys[i]? = some b → ∃ a, xs[i]? = some a ∧ R a b
  | _, _, i, _, .nil, e => by simp at e
  | _, _, 0, _, .cons r _, e => ⟨_, rfl, by simp at e; rw [← e]; exact r⟩
  | _, _, i + 1, _, .cons _ h, e => by
    obtain ⟨b, h1, h2⟩ := paired_get' (i := i) h (by simpa using e)
    exact ⟨b, by simpa using h1, h2⟩
/-- a web's value -/
def WebV (H : Hp) (v : V) (n : Nat) (ts : List (Nat × Nat)) : Prop := ∃ p t vs, v = .ref p ∧ H p = some (.tup [.str "web", iv n, .ref t]) ∧ H t = some (.tup vs) ∧ Paired (TieV H) vs ts
theorem WebV.keep {H H' : Hp} {v : V} {n : Nat} {ts : List (Nat × Nat)} (h : WebV H v n ts) (g : Tups H H') : WebV H' v n ts := by
  obtain ⟨p, t, vs, e, h1, h2, h3⟩ := h
  exact ⟨p, t, vs, e, g _ _ h1, g _ _ h2, paired_mono (fun _ _ r => r.keep g) h3⟩
/-- a comprehension without a test -/
theorem lc0 {J : It} {n : Nat} {G : Hp → Prop} {Y : Nat → Hp → V → Hp → Prop} (w : Walk J n G Y) {g : TG} {te : TE} {vs : List Nat} {σ : L2.St} {H1 : Hp} {D : Addr} {Qd : Hp → Prop} (Pv : Nat → Hp → Prop) (h0 : Pv 0 (upd H1 D (.lst []))) (hG : ∀ i H, i ≤ n → Pv i H → G H)
    (hs : ∀ i x H H', i < n → Pv i H → Y i H x H' → g x (wipe σ vs) H' fun σ2 H2 => wipe σ2 vs = wipe σ vs ∧ te σ2 H2 fun y H4 => ∃ acc, H4 D = some (.lst acc) ∧ acc.length < sizeLine ∧ Pv (i + 1) (upd H4 D (.lst (acc ++ [y])))) (hd : ∀ H, Pv n H → Qd H) :
    ∃ W : Nat → Nat → Hp → Prop, (∃ m, W 0 m (upd H1 D (.lst []))) ∧ ∀ i m H, W i m H →
      (J.stop i H ∧ Qd H) ∨ (J.go i H ∧ ∃ Nx : Hp → Prop, (∀ H', Nx H' → ∃ m', m' < m ∧ W (i + 1) m' H') ∧ ∀ x H', J.yld i H x H' → g x (wipe σ vs) H' fun σ2 H2 => wipe σ2 vs = wipe σ vs ∧ tYes σ2 H2 fun b H3 =>
        if b = true then te σ2 H3 fun y H4 => ∃ acc, H4 D = some (.lst acc) ∧ acc.length < sizeLine ∧ Nx (upd H4 D (.lst (acc ++ [y]))) else Nx H3) :=
  lc_it w (tt := tYes) Pv h0 hG (fun i x H H' a b c => hs i x H H' a b c) hd
section
variable {P : Program} {w : World} {K : PySem.W.Frag} {mg : Str → Option Value} {base : Heap}
def spIsTie : Sp := fun vs H Q _ => ∃ (n a b : Nat) (v : V), vs = [iv n, v] ∧ TieV H v (a, b) ∧ a < b ∧ b < n ∧ ∀ H', Same H H' → Q (.bl true) H'
theorem k_is_tie (A : At K mg "is_tie" s_is_tie) (B : Bt mg) (C_is_count : Cal P w K mg base 2 "is_count" spIsCount []) : Cal P w K mg base 3 "is_tie" spIsTie [] := by
  refine mk A sc_is_tie (fun _ _ _ _ _ _ us hl => match us, hl with | [_, _], _ => rfl) (fun vs H Q E h => ?_) (fun f cdv A outer s H vs Q E hr h => ?_)
  · obtain ⟨n, a, b, v, rfl, _⟩ := h
    rfl
  · obtain ⟨n, a, b, v, rfl, ⟨p, rfl, hp⟩, hab, hbn, q⟩ := h
    refine ⟨_, (pss_cons (ps_if (PW.pt (pw_or (pt_not (pt_val (pe_callB call_isi (by rfl) B.isinstance (by decide +kernel) (pa_cons (pv 1) (pa_cons (pe_bltn (v := .ty "tuple") (by rfl) B.tuple (by decide +kernel) rfl) pa_nil))))) (pw_or (pt_cmpR op_ne (pe_callB call_len_seq (by rfl) B.len (by decide +kernel) (pa_cons (pv 1) pa_nil)) pe_int (nomark _)) (pw_or1 (pt_not (pt_val (pe_callB (cr_all rfl) (by rfl) B.all (by decide +kernel) (pa_cons (pe_lc (own := [("one", 2)]) rfl sc_is_tie.nd (pi_tup (pv 1)) (blkOk_by (N := ["many", "value", "one"]) (sc := defScope s_is_tie) (by decide +kernel)) (fun _ _ _ _ _ => (pg_name (i := 2) sc_is_tie.nd rfl (.inl rfl))) (fun _ _ _ _ _ => pts_nil) (fun _ _ _ _ _ => (pe_c C_is_count hr (by decide) (by rfl) (pa_cons (pv 2) pa_nil)))) pa_nil))))))))
      (pss_one (ps_ret pe_bl))
      pss_nil)
    (pss_one (ps_ret (pe_chain op_lt op_lt (pe_ix ix_tup (pv 1) pe_int (fun _ _ => rfl)) (pe_ix ix_tup (pv 1) pe_int (fun _ _ => rfl)) (pv 0))))), ?_⟩
    refine ⟨.ref p, rfl, .ref p, .ty "tuple", _, _, true, rfl, .ty "tuple", .base (.tup hp), kit_ty (by decide +kernel), true, rfl, iteF ?_⟩
    refine ⟨.ref p, rfl, p, _, rfl, .inr (.inl (.inl hp)), rfl, _, rfl, iteF ?_⟩
    refine ⟨.ref p, rfl, p, rfl, ⟨_, .inl (.inl hp)⟩, fun D hD => ?_⟩
    refine lc0 (walk_tup (K := K) (a := p) (xs := [iv a, iv b])) (fun i H' => Same H H' ∧ H' D = some (.lst (List.replicate i (V.bl true)))) ⟨same_upd hD, upd_same⟩ (fun i H' _ h => .inl (.inl (h.1 _ _ hp))) (fun i x H' H'' hi h hx => ?_) (fun H' h => ?_)
    · obtain ⟨rfl, hx⟩ := hx
      have hi : i < 2 := hi
      obtain ⟨m, rfl⟩ : ∃ m : Nat, x = iv m := by
        rcases i with _ | _ | i
        · exact ⟨a, by simpa using hx.symm⟩
        · exact ⟨b, by simpa using hx.symm⟩
        · omega
      refine ⟨rfl, iv m, rfl, m, rfl, _, h.2, by rw [List.length_replicate]; exact small1000 (by omega), fun b x e => ?_, ?_⟩
      · rw [upd_ne (ne_of_none e hD)]; exact h.1 _ _ e
      · rw [upd_same]; simp [List.replicate_succ']
    · refine ⟨D, [true, true], rfl, .inl (.inl h.2), true, rfl, iteF ?_⟩
      have ht : SqT K H' p [iv a, iv b] := .inl (.inl (h.1 _ _ hp))
      refine ⟨.ref p, rfl, p, _, 0, iv a, rfl, rfl, ht, atI_nat (j := 0) rfl, .ref p, rfl, p, _, 1, iv b, rfl, rfl, ht, atI_nat (j := 1) rfl, a, b, rfl, rfl, true, ?_, iteT ?_⟩
      · exact congrArg V.bl (decide_eq_true (by omega))
      · refine ⟨iv n, rfl, b, n, rfl, rfl, ?_⟩
        have e : decide ((b : Int) < (n : Int)) = true := decide_eq_true (by omega)
        show Q (.bl (decide ((b : Int) < (n : Int)))) H'
        rw [e]
        exact q H' h.1
end
end Wp
set_option maxHeartbeats 4000000
namespace Wp
open PySem PySem.Spec PyProof.Rows L2
open C8 (Cal pe_c pe_gc)
/-- the module's constants -/
structure Gc (mg : Str → Option Value) : Prop where
  mc : ∃ u, mg "MOST_CORNERS" = some u ∧ RelV (.int 20) u
  mt : ∃ u, mg "MOST_TIES" = some u ∧ RelV (.int 60) u
  web : ∃ u, mg "WEB" = some u ∧ RelV (.str "web") u
  five : ∃ u, mg "FIVE" = some u ∧ RelV (.str "five") u
  wells : ∃ u, mg "WELLS" = some u ∧ RelV (.str "wells") u
  barred : ∃ u, mg "BARRED" = some u ∧ RelV (.str "barred") u
theorem tq {K : PySem.W.Frag} {H : Hp} {p : Addr} {xs : List V} (h : H p = some (.tup xs)) : SqT K H p xs := .inl (.inl h)
theorem lq {K : PySem.W.Frag} {H : Hp} {p : Addr} {xs : List V} (h : H p = some (.lst xs)) : SqL K H p xs := .inl (.inl h)
section
variable {K : PySem.W.Frag} {a b : Addr} {xs ys : List V}
theorem walk_zipT {n : Nat} (hn : n = min xs.length ys.length) : Walk (RZ.ItzT K a b) n (fun H => SqT K H a xs ∧ SqT K H b ys) (YPair (fun i => xs[i]?) (fun i => ys[i]?)) := by
  subst hn
  refine ⟨fun i _ hi q => ?_, fun _ q => ⟨xs, ys, q.1, q.2, by omega⟩, fun i H v H' _ q y => ?_⟩
  · have h1 : i < xs.length := by omega
    have h2 : i < ys.length := by omega
    exact ⟨xs, ys, xs[i], ys[i], q.1, q.2, by simp [h1], by simp [h2]⟩
  · obtain ⟨T, x, z, h1, h2, h3, h4, h5⟩ := y
    exact ⟨T, x, z, h1, h2, h3, h4 xs q.1, h5 ys q.2⟩
end
/-- ahead in the order of ties -/
def ltT (t u : Nat × Nat) : Prop := t.1 < u.1 ∨ (t.1 = u.1 ∧ t.2 < u.2)
theorem lexLt_of {t u : Nat × Nat} (h : ltT t u) : HT.lexLt [(t.1 : Int), (t.2 : Int)] [(u.1 : Int), (u.2 : Int)] = true := by
  unfold HT.lexLt
  rcases h with h | ⟨h1, h2⟩
  · rw [if_neg (by omega)]; exact decide_eq_true (by omega)
  · rw [if_pos (by omega)]
    unfold HT.lexLt
    rw [if_neg (by omega)]; exact decide_eq_true (by omega)
/-- a web as the program takes it -/
structure WebOk (n : Nat) (ts : List (Nat × Nat)) : Prop where
  lo : 1 ≤ n
  hi : n ≤ 20
  many : ts.length ≤ 60
  lt : ∀ t ∈ ts, t.1 < t.2 ∧ t.2 < n
  srt : ts.Pairwise ltT
theorem same_list {H0 H : Hp} {D : Addr} {xs : List V} (hD : H0 D = none) (h : Same H0 H) : Same H0 (upd H D (.lst xs)) := fun b x e => by
  rw [upd_ne (ne_of_none e hD)]; exact h _ _ e
theorem seqT {K : PySem.W.Frag} {H H' : Hp} {a : Addr} {xs : List V} (e : Same H H') (h : SqT K H a xs) : SqT K H' a xs := by
  rcases h with (h | ⟨o, h⟩) | h
  · exact .inl (.inl (e _ _ h))
  · exact .inl (.inr ⟨o, e _ _ h⟩)
  · exact .inr h
theorem cut1 (xs : List V) : cutV xs (some 1) none = xs.drop 1 := by
  unfold cutV
  rw [show HT.sIx xs.length 0 (some 1) = min 1 xs.length from HT.sIx_nat xs.length 0 1, HT.sIx_none]
  cases xs with
  | nil => rfl
  | cons x r =>
    rw [show min 1 (x :: r).length = 1 by
      rw [List.length_cons]
      omega]
    show (List.take ((x :: r).length - 1) r) = r
    rw [List.length_cons, Nat.add_sub_cancel]
    exact List.take_length
theorem slice1 {K : PySem.W.Frag} {H : Hp} {p : Addr} {vs : List V} {Q : VK} (hp : H p = some (.tup vs)) (h : ∀ c H3, Same H H3 → SqT K H3 c (vs.drop 1) → Q (.ref c) H3) : rSlA K (.ref p) (some 1) none H Q := by
  refine ⟨p, vs, rfl, tq hp, fun hw => h p H (Same.refl H) ?_, fun _ c hc => h c _ (same_upd hc) (tq (by rw [upd_same, cut1]))⟩
  have e : vs = [] := by
    have := hw.1
    rw [show HT.sIx vs.length 0 (some 1) = min 1 vs.length from HT.sIx_nat vs.length 0 1] at this
    cases vs with
    | nil => rfl
    | cons x r => simp at this
  subst e
  exact tq hp
theorem pairwise_next {α : Type} {R : α → α → Prop} : ∀ {l : List α} {i : Nat} {a b : α}, l.Pairwise R → l[i]? = some a → l[i + 1]? = some b → R a b
  | [], i, _, _, _, h, _ => by simp at h
  | x :: l, 0, a, b, hp, h1, h2 => by
    simp at h1
    subst h1
    exact (List.pairwise_cons.mp hp).1 b (List.mem_of_getElem? (by simpa using h2))
  | x :: l, i + 1, a, b, hp, h1, h2 => pairwise_next (List.pairwise_cons.mp hp).2 (by simpa using h1) (by simpa using h2)
section
variable {P : Program} {w : World} {K : PySem.W.Frag} {mg : Str → Option Value} {base : Heap}
def spIsMany : Sp := fun vs H Q _ => ∃ n : Nat, vs = [iv n] ∧ 1 ≤ n ∧ n ≤ 20 ∧ Q (.bl true) H
theorem k_is_many (A : At K mg "is_many" s_is_many) (B : Bt mg) (Gv : Gc mg) (C_is_count : Cal P w K mg base 2 "is_count" spIsCount []) : Cal P w K mg base 3 "is_many" spIsMany [] := by
  refine mk A sc_is_many (fun _ _ _ _ _ _ us hl => match us, hl with | [_], _ => rfl) (fun vs H Q E h => ?_) (fun f cdv A outer s H vs Q E hr h => ?_)
  · obtain ⟨n, rfl, _⟩ := h
    rfl
  · obtain ⟨n, rfl, h1, h2, q⟩ := h
    refine ⟨_, (pss_one (ps_ret (pe_and (pe_c C_is_count hr (by decide) (by rfl) (pa_cons (pv 0) pa_nil)) (pe_one (pe_chain op_le op_le pe_int (pv 0) (pe_gc (by rfl) Gv.mc)))))), ?_⟩
    refine ⟨iv n, rfl, n, rfl, true, rfl, iteT ?_⟩
    refine ⟨iv n, rfl, 1, n, rfl, rfl, true, congrArg V.bl (decide_eq_true (by omega)), iteT ?_⟩
    refine ⟨n, 20, rfl, rfl, ?_⟩
    have e : decide ((n : Int) ≤ 20) = true := decide_eq_true (by omega)
    show Q (.bl (decide ((n : Int) ≤ 20))) H
    rw [e]; exact q
def spIsWebValue : Sp := fun vs H Q _ => ∃ (v : V) (n : Nat) (ts : List (Nat × Nat)), vs = [v] ∧ WebV H v n ts ∧ WebOk n ts ∧ ∀ H', Same H H' → Q (.bl true) H'
theorem k_is_web_value (A : At K mg "is_web_value" s_is_web_value) (B : Bt mg) (Gv : Gc mg) (C_is_many : Cal P w K mg base 3 "is_many" spIsMany []) (C_is_tie : Cal P w K mg base 3 "is_tie" spIsTie []) : Cal P w K mg base 4 "is_web_value" spIsWebValue [] := by
  refine mk A sc_is_web_value (fun _ _ _ _ _ _ us hl => match us, hl with | [_], _ => rfl) (fun vs H Q E h => ?_) (fun f cdv A outer s H vs Q E hr h => ?_)
  · obtain ⟨v, n, ts, rfl, _⟩ := h
    rfl
  · obtain ⟨v, n, ts, rfl, ⟨p, t, vs, rfl, hp, ht, hts⟩, W, q⟩ := h
    refine ⟨_, (pss_cons (ps_if (PW.pt (pw_or (pt_not (pt_val (pe_callB call_isi (by rfl) B.isinstance (by decide +kernel) (pa_cons (pv 0) (pa_cons (pe_bltn (v := .ty "tuple") (by rfl) B.tuple (by decide +kernel) rfl) pa_nil))))) (pw_or (pt_cmpR op_ne (pe_callB call_len_seq (by rfl) B.len (by decide +kernel) (pa_cons (pv 0) pa_nil)) pe_int (nomark _)) (pw_or (pt_not (pt_val (pe_callB call_isi (by rfl) B.isinstance (by decide +kernel) (pa_cons (pe_ix ix_tup (pv 0) pe_int (fun _ _ => rfl)) (pa_cons (pe_bltn (v := .ty "str") (by rfl) B.str (by decide +kernel) rfl) pa_nil))))) (pw_or1 (pt_cmpR op_ne (pe_ix ix_tup (pv 0) pe_int (fun _ _ => rfl)) (pe_gc (by rfl) Gv.web) (nomark _)))))))
      (pss_one (ps_ret pe_bl))
      pss_nil)
    (pss_cons (ps_asg (pe_tup (pa_cons (pe_ix ix_tup (pv 0) pe_int (fun _ _ => rfl)) (pa_cons (pe_ix ix_tup (pv 0) pe_int (fun _ _ => rfl)) pa_nil))) (pg_tup rfl (pgs_cons (pg_name (i := 1) sc_is_web_value.nd rfl (.inr rfl)) (pgs_cons (pg_name (i := 2) sc_is_web_value.nd rfl (.inl rfl)) pgs_nil))))
    (pss_cons (ps_if (PW.pt (pw_or (pt_not (pt_val (pe_c C_is_many hr (by decide) (by rfl) (pa_cons (pv 1) pa_nil)))) (pw_or (pt_not (pt_val (pe_callB call_isi (by rfl) B.isinstance (by decide +kernel) (pa_cons (pv 2) (pa_cons (pe_bltn (v := .ty "tuple") (by rfl) B.tuple (by decide +kernel) rfl) pa_nil))))) (pw_or1 (pt_cmpR op_gt (pe_callB call_len_seq (by rfl) B.len (by decide +kernel) (pa_cons (pv 2) pa_nil)) (pe_gc (by rfl) Gv.mt) (nomark _))))))
      (pss_one (ps_ret pe_bl))
      pss_nil)
    (pss_cons (ps_if (pt_not (pt_val (pe_callB (cr_all rfl) (by rfl) B.all (by decide +kernel) (pa_cons (pe_lc (own := [("tie", 3)]) rfl sc_is_web_value.nd (pi_tup (pv 2)) (blkOk_by (N := ["value", "many", "ties", "tie", "one", "other"]) (sc := defScope s_is_web_value) (by decide +kernel)) (fun _ _ _ _ _ => (pg_name (i := 3) sc_is_web_value.nd rfl (.inl rfl) (.inr rfl))) (fun _ _ _ _ _ => pts_nil) (fun _ _ _ _ _ => (pe_c C_is_tie hr (by decide) (by rfl) (pa_cons (pv 1) (pa_cons (pv 3) pa_nil))))) pa_nil))))
      (pss_one (ps_ret pe_bl))
      pss_nil)
    (pss_one (ps_ret (pe_callB (cr_all rfl) (by rfl) B.all (by decide +kernel) (pa_cons (pe_lc (own := [("one", 4), ("other", 5)]) (g := (gTup K 2 (gCons (gName 4) (gCons (gName 5) gNil)))) rfl sc_is_web_value.nd (RZ.pi_zipA (by rfl) B.zip (pa_cons (pv 2) (pa_cons (pe_slice sl_tupA (pv 2) (po_some pe_int) po_none) pa_nil))) (blkOk_by (N := ["value", "many", "ties", "tie", "one", "other"]) (sc := defScope s_is_web_value) (by decide +kernel)) (fun _ _ _ _ _ => (pg_tup rfl (pgs_cons (pg_name (i := 4) sc_is_web_value.nd rfl (.inl rfl) (.inr rfl)) (pgs_cons (pg_name (i := 5) sc_is_web_value.nd rfl (.inl rfl) (.inr rfl)) pgs_nil)))) (fun _ _ _ _ _ => pts_nil) (fun _ _ _ _ _ => (pe_cmpR (r := rLtT K) (op_ltT hr.units0) (pv 4) (pv 5) (nomark _)))) pa_nil)))))))), ?_⟩
    refine ⟨.ref p, rfl, .ref p, .ty "tuple", _, _, true, rfl, .ty "tuple", .base (.tup hp), kit_ty (by decide +kernel), true, rfl, iteF ?_⟩
    refine ⟨.ref p, rfl, p, _, rfl, .inr (tq hp), rfl, _, rfl, iteF ?_⟩
    refine ⟨.ref p, rfl, p, _, 0, .str "web", rfl, rfl, tq hp, atI_nat (j := 0) rfl, .str "web", .ty "str", _, _, true, rfl, .ty "str", .base (.str _), kit_ty (by decide +kernel), true, rfl, iteF ?_⟩
    refine ⟨.ref p, rfl, p, _, 0, .str "web", rfl, rfl, tq hp, atI_nat (j := 0) rfl, rfl, _, rfl, iteF ?_⟩
    refine ⟨.ref p, rfl, p, _, 1, iv n, rfl, rfl, tq hp, atI_nat (j := 1) rfl, .ref p, rfl, p, _, 2, .ref t, rfl, rfl, tq hp, atI_nat (j := 2) rfl, (by show 2 ≤ sizeLine; decide), fun u hu => ?_⟩
    refine ⟨u, [iv n, .ref t], rfl, tq upd_same, rfl, iv n, [.ref t], rfl, .ref t, [], rfl, rfl, ?_⟩
    have s1 : Same H (upd H u (.tup [iv n, .ref t])) := same_upd hu
    have ht1 := s1 _ _ ht
    refine ⟨iv n, rfl, n, rfl, W.lo, W.hi, true, rfl, iteF ?_⟩
    refine ⟨.ref t, rfl, .ref t, .ty "tuple", _, _, true, rfl, .ty "tuple", .base (.tup ht1), kit_ty (by decide +kernel), true, rfl, iteF ?_⟩
    have hl : vs.length = ts.length := paired_len hts
    have hm := W.many
    refine ⟨.ref t, rfl, t, vs, rfl, .inr (tq ht1), _, _, rfl, rfl, false, congrArg V.bl (decide_eq_false (by omega)), iteF ?_⟩
    refine ⟨.ref t, rfl, t, rfl, ⟨_, tq ht1⟩, fun D hD => ?_⟩
    refine lc0 (walk_tup (K := K) (a := t) (xs := vs)) (fun i H' => Same (upd H u (.tup [iv n, .ref t])) H' ∧ H' D = some (.lst (List.replicate i (V.bl true)))) ⟨same_upd hD, upd_same⟩ (fun i H' _ h => tq (h.1 _ _ ht1)) (fun i x H' H'' hi h hx => ?_) (fun H2 h => ?_)
    · obtain ⟨rfl, hx⟩ := hx
      obtain ⟨tt, htt, hr'⟩ := paired_get hts hx
      have hW := W.lt tt (List.mem_of_getElem? htt)
      refine ⟨rfl, iv n, rfl, x, rfl, n, tt.1, tt.2, x, rfl, hr'.keep (Same.tups (s1.trans h.1)), hW.1, hW.2, fun H3 s3 => ?_⟩
      refine ⟨_, s3 _ _ h.2, by rw [List.length_replicate]; exact small1000 (by omega), ?_, ?_⟩
      · exact same_list hD (h.1.trans s3)
      · rw [upd_same]; simp [List.replicate_succ']
    · refine ⟨D, List.replicate vs.length true, rfl, lq (by rw [List.map_replicate]; exact h.2), true, by simp, iteF ?_⟩
      have s2 : Same H H2 := s1.trans h.1
      have ht2 := s2 _ _ ht
      refine ⟨.ref t, rfl, .ref t, rfl, 1, rfl, ?_⟩
      dsimp only [tNoPart, Cx.nox]
      refine slice1 ht2 fun c H3 s3 hc => ?_
      have ht3 := s3 _ _ ht2
      refine ⟨t, c, vs, vs.drop 1, rfl, .inr ⟨tq ht3, hc, fun D2 hD2 => ?_⟩⟩
      refine lc0 (walk_zipT (K := K) (a := t) (b := c) (xs := vs) (ys := vs.drop 1) rfl) (fun i H' => Same H3 H' ∧ H' D2 = some (.lst (List.replicate i (V.bl true)))) ⟨same_upd hD2, upd_same⟩ (fun i H' _ h => ⟨tq (h.1 _ _ ht3), seqT h.1 hc⟩) (fun i x H4 H5 hi h4 hx => ?_) (fun H4 h4 => ?_)
      · obtain ⟨T, x1, y1, rfl, hT, rfl, e1, e2⟩ := hx
        have e2 : vs[i + 1]? = some y1 := by
          have e2' : (vs.drop 1)[i]? = some y1 := e2
          rw [List.getElem?_drop, Nat.add_comm] at e2'
          exact e2'
        obtain ⟨t1, g1, k1⟩ := paired_get hts e1
        obtain ⟨t2, g2, k2⟩ := paired_get hts e2
        have s5 : Same H (upd H4 T (.tup [x1, y1])) := ((s2.trans s3).trans h4.1).trans (same_upd hT)
        have lt : ltT t1 t2 := pairwise_next W.srt g1 g2
        obtain ⟨p1, rfl, hp1⟩ := k1.keep (Same.tups s5)
        obtain ⟨p2, rfl, hp2⟩ := k2.keep (Same.tups s5)
        refine ⟨T, [.ref p1, .ref p2], rfl, tq upd_same, rfl, .ref p1, [.ref p2], rfl, .ref p2, [], rfl, rfl, rfl, .ref p1, rfl, .ref p2, rfl, p1, p2, [(t1.1 : Int), (t1.2 : Int)], [(t2.1 : Int), (t2.2 : Int)], rfl, rfl, tq hp1, tq hp2, ?_⟩
        rw [lexLt_of lt]
        refine ⟨_, by rw [upd_ne (ne_of_none h4.2 hT)]; exact h4.2, by rw [List.length_replicate]; exact small1000 (by omega), ?_, ?_⟩
        · exact same_list hD2 (h4.1.trans (same_upd hT))
        · rw [upd_same]; simp [List.replicate_succ']
      · refine ⟨D2, List.replicate (min vs.length (vs.drop 1).length) true, rfl, lq (by rw [List.map_replicate]; exact h4.2), ?_⟩
        have e : (List.replicate (min vs.length (vs.drop 1).length) true).all id = true := by simp
        rw [e]
        exact q H4 ((s2.trans s3).trans h4.1)
end
end Wp
set_option maxHeartbeats 4000000
namespace Wp
open PySem PySem.Spec PyProof.Rows L2
open C8 (Cal pe_c pe_gc)
/-! dicts by what they hold -/
abbrev nK (n : Nat) : Key := .inl (n : Int)
abbrev tK (t : Nat × Nat) : List Key := [.inl (t.1 : Int), .inl (t.2 : Int)]
theorem nK_inj {a b : Nat} (h : nK a = nK b) : a = b := by
  have := Sum.inl.inj h
  omega
theorem tK_inj {a b : Nat × Nat} (h : tK a = tK b) : a = b := by
  simp only [tK, List.cons.injEq, Sum.inl.injEq, and_true] at h
  exact Prod.ext (by omega) (by omega)
structure DD {α κ : Type} [DecidableEq κ] (e : α → κ) (kvs : List (κ × V)) (ks : List α) (f : α → Option V) : Prop where
  keys : kvs.map (·.1) = ks.map e
  nd : ks.Nodup
  val : ∀ a, valV kvs (e a) = f a
  has : ∀ a, a ∈ ks ↔ (f a).isSome = true
section
variable {α κ : Type} [DecidableEq κ] [DecidableEq α] {e : α → κ} {kvs : List (κ × V)} {ks : List α} {f : α → Option V}
theorem DD.nil : DD e ([] : List (κ × V)) [] fun _ => none := ⟨rfl, by simp, fun _ => rfl, fun _ => by simp⟩
theorem DD.len (D : DD e kvs ks f) : kvs.length = ks.length := by
  have := congrArg List.length D.keys
  simpa using this
theorem keys_put (k : κ) (v : V) : (putK kvs k v).map (·.1) = if (valV kvs k).isSome = true then kvs.map (·.1) else kvs.map (·.1) ++ [k] := by
  unfold putK
  rw [valV_any]
  by_cases h : (valV kvs k).isSome = true
  · rw [if_pos h, if_pos h, List.map_map]
    refine List.map_congr_left fun p _ => ?_
    show (if p.1 = k then (p.1, v) else p).1 = p.1
    split <;> rfl
  · rw [if_neg h, if_neg h]; simp
theorem DD.put (inj : ∀ a b, e a = e b → a = b) (D : DD e kvs ks f) (a : α) (v : V) : DD e (putK kvs (e a) v) (if a ∈ ks then ks else ks ++ [a]) fun b => if b = a then some v else f b := by
  refine ⟨?_, ?_, fun b => ?_, fun b => ?_⟩
  · rw [keys_put, D.val]
    by_cases h : a ∈ ks
    · rw [if_pos h, if_pos ((D.has a).mp h), D.keys]
    · rw [if_neg h, if_neg (fun z => h ((D.has a).mpr z)), D.keys]; simp
  · by_cases h : a ∈ ks
    · rw [if_pos h]; exact D.nd
    · rw [if_neg h, List.nodup_append]
      exact ⟨D.nd, by simp, fun x hx y hy z => by simp at hy; rw [z, hy] at hx; exact h hx⟩
  · rw [valV_put]
    by_cases h : b = a
    · rw [h, if_pos rfl, if_pos rfl]
    · rw [if_neg (fun z => h (inj _ _ z)), if_neg h, D.val]
  · by_cases hb : b = a
    · subst hb
      rw [if_pos rfl]
      by_cases h : b ∈ ks
      · simp [h]
      · simp [h]
    · rw [if_neg hb, ← D.has]
      by_cases h : a ∈ ks
      · simp [h]
      · simp [h, hb]
def ins (a : α) (ks : List α) : List α := if a ∈ ks then ks else ks ++ [a]
theorem mem_ins {a b : α} {ks : List α} : b ∈ ins a ks ↔ b = a ∨ b ∈ ks := by
  unfold ins
  by_cases h : a ∈ ks
  · rw [if_pos h]
    exact ⟨.inr, fun g => g.elim (fun e => e ▸ h) id⟩
  · rw [if_neg h]; simp [or_comm]
theorem ins_len (a : α) (ks : List α) : (ins a ks).length ≤ ks.length + 1 := by
  unfold ins
  split <;> simp
/-- a dict that holds one value for all its keys -/
abbrev DS (e : α → κ) (kvs : List (κ × V)) (ks : List α) (v : V) : Prop := DD e kvs ks fun a => if a ∈ ks then some v else none
theorem DD.nil0 {v : V} : DS e ([] : List (κ × V)) [] v := ⟨rfl, by simp, fun _ => rfl, fun _ => by simp⟩
theorem DD.putS (inj : ∀ a b, e a = e b → a = b) {v : V} (D : DS e kvs ks v) (a : α) : DS e (putK kvs (e a) v) (ins a ks) v := by
  have := DD.put inj D a v
  refine ⟨this.keys, this.nd, fun b => ?_, fun b => ?_⟩
  · rw [this.val]
    by_cases h : b = a
    · rw [if_pos h, if_pos (mem_ins.mpr (.inl h))]
    · rw [if_neg h]
      by_cases g : b ∈ ks
      · rw [if_pos g, if_pos (mem_ins.mpr (.inr g))]
      · rw [if_neg g, if_neg fun z => (mem_ins.mp z).elim h g]
  · by_cases g : b ∈ ins a ks
    · simp [g]
    · simp [g]
theorem length_of {ks : List Nat} {n : Nat} (nd : ks.Nodup) (h : ∀ x ∈ ks, x < n) : ks.length ≤ n := by
  have key : ∀ (n : Nat) (l : List Nat), l.Nodup → (∀ x ∈ l, x < n) → l.length ≤ n := fun n => by
    induction n with
    | zero =>
      intro l _ h
      cases l with
      | nil => exact Nat.le_refl 0
      | cons x l => exact absurd (h x (by simp)) (by omega)
    | succ n ih =>
      intro l nd h
      have := ih (l.erase n) (nd.erase n) fun x hx => by
        have := (nd.mem_erase_iff).mp hx
        have := h x this.2
        omega
      by_cases hm : n ∈ l
      · rw [List.length_erase_of_mem hm] at this
        omega
      · rw [List.erase_of_not_mem hm] at this
        omega
  exact key n ks nd h
end
/-! sorted lists of ties -/
def kk (H : Hp) : V → Int × Int
  | .ref t => match H t with
    | some (.tup [.int i, .int j]) => (i, j)
    | _ => (0, 0)
  | _ => (0, 0)
theorem kk_tie {H : Hp} {v : V} {t : Nat × Nat} (h : TieV H v t) : kk H v = ((t.1 : Int), (t.2 : Int)) := by
  obtain ⟨p, rfl, hp⟩ := h
  simp only [kk, hp]
theorem tieV_uniq {H : Hp} {v : V} {t u : Nat × Nat} (h : TieV H v t) (g : TieV H v u) : t = u := by
  have := (kk_tie h).symm.trans (kk_tie g)
  simp only [Prod.mk.injEq] at this
  exact Prod.ext (by omega) (by omega)
theorem paired_of_mem {α β : Type} {R : α → β → Prop} : ∀ {xs : List α}, (∀ x ∈ xs, ∃ y, R x y) → ∃ ys, Paired R xs ys
  | [], _ => ⟨[], .nil⟩
  | x :: xs, h => by
    obtain ⟨y, hy⟩ := h x (by simp)
    obtain ⟨ys, hys⟩ := paired_of_mem (xs := xs) fun z hz => h z (.tail _ hz)
    exact ⟨y :: ys, .cons hy hys⟩
theorem paired_mem {α β : Type} {R : α → β → Prop} : ∀ {xs : List α} {ys : List β} {x : α}, Paired R xs ys → x ∈ xs → ∃ y ∈ ys, R x y
  | _, _, _, .cons r h, hx => by
    cases hx with
    | head => exact ⟨_, by simp, r⟩
    | tail _ hx =>
      obtain ⟨y, hy, hr⟩ := paired_mem h hx
      exact ⟨y, .tail _ hy, hr⟩
theorem paired_mem' {α β : Type} {R : α → β → Prop} : ∀ {xs : List α} {ys : List β} {y : β}, Paired R xs ys → y ∈ ys → ∃ x ∈ xs, R x y
  | _, _, _, .cons r h, hy => by
    cases hy with
    | head => exact ⟨_, by simp, r⟩
    | tail _ hy =>
      obtain ⟨x, hx, hr⟩ := paired_mem' h hy
      exact ⟨x, .tail _ hx, hr⟩
/-- what sorted gives of a list of unlike ties -/
theorem sorted_ties {H : Hp} {xs ys : List V} {ts : List (Nat × Nat)} (h : Paired (TieV H) xs ts) (nd : ts.Nodup) (hs : SrtO.Srtd (ltP (kk H)) ys) (hp : ys.Perm xs) :
    ∃ us : List (Nat × Nat), Paired (TieV H) ys us ∧ us.Perm ts ∧ us.Pairwise ltT := by
  obtain ⟨us, hus⟩ := paired_of_mem (R := TieV H) (xs := ys) fun x hx => by
    obtain ⟨t, _, ht⟩ := paired_mem h (hp.mem_iff.mp hx)
    exact ⟨t, ht⟩
  have map_of : ∀ {zs : List V} {ws : List (Nat × Nat)}, Paired (TieV H) zs ws → ws.map (fun t => ((t.1 : Int), (t.2 : Int))) = zs.map (kk H) := fun {zs ws} r => by
    induction r with
    | nil => rfl
    | cons r _ ih => rw [List.map_cons, List.map_cons, ih, kk_tie r]
  have hp2 : (us.map (fun t => ((t.1 : Int), (t.2 : Int)))).Perm (ts.map (fun t => ((t.1 : Int), (t.2 : Int)))) := by
    rw [map_of hus, map_of h]; exact hp.map _
  have inj : ∀ {l : List (Nat × Nat)}, l.map (fun p => (p.1, p.2)) = l := fun {l} => by simp
  have back : ∀ l : List (Nat × Nat), (l.map (fun t => ((t.1 : Int), (t.2 : Int)))).map (fun p => (p.1.toNat, p.2.toNat)) = l := fun l => by
    rw [List.map_map]
    conv => rhs; rw [← List.map_id l]
    exact List.map_congr_left fun t _ => by simp
  have hperm : us.Perm ts := by
    have := hp2.map (fun p => (p.1.toNat, p.2.toNat))
    rwa [back, back] at this
  have hnd := hperm.nodup_iff.mpr nd
  refine ⟨us, hus, hperm, ?_⟩
  -- pairwise
  have key : ∀ {zs : List V} {ws : List (Nat × Nat)}, Paired (TieV H) zs ws → ws.Nodup → SrtO.Srtd (ltP (kk H)) zs → ws.Pairwise ltT := fun {zs ws} r => by
    induction r with
    | nil => intro _ _; exact List.Pairwise.nil
    | @cons v t zs ws r rs ih =>
      intro hn hs
      have hn' := List.nodup_cons.mp hn
      have hs' := List.pairwise_cons.mp hs
      refine List.pairwise_cons.mpr ⟨fun u hu => ?_, ih hn'.2 hs'.2⟩
      obtain ⟨x, hx, hr⟩ := paired_mem' rs hu
      have := hs'.1 x hx
      have hle := SrtO.lexB_no.mp this
      rw [kk_tie r, kk_tie hr] at hle
      simp only at hle
      have hne : t ≠ u := fun e => hn'.1 (e ▸ hu)
      by_cases h1 : t.1 = u.1
      · have : t.2 ≠ u.2 := fun e => hne (Prod.ext h1 e)
        exact .inr ⟨h1, by omega⟩
      · exact .inl (by omega)
  exact key hus hnd hs
theorem keys_ties {H : Hp} : ∀ {kvs : List (List Key × V)} {bs : List Addr} {ks : List (Nat × Nat)}, IsKeys H kvs bs → kvs.map (·.1) = ks.map tK → Paired (TieV H) (bs.map V.ref) ks
  | [], _, [], .nil, _ => .nil
  | [], _, _ :: _, .nil, e => by simp at e
  | _ :: _, _, [], .cons _ _, e => by simp at e
  | p :: kvs, _, k :: ks, .cons r h, e => by
    simp only [List.map_cons, List.cons.injEq] at e
    refine .cons ⟨_, rfl, ?_⟩ (keys_ties h e.2)
    rw [r, e.1]
    rfl
section
variable {P : Program} {w : World} {K : PySem.W.Frag} {mg : Str → Option Value} {base : Heap}
abbrev mm (p : Nat × Nat) : Nat × Nat := (min p.1 p.2, max p.1 p.2)
def spWebOfTies : Sp := fun vs H Q _ => ∃ (n : Nat) (l : Addr) (xs : List V) (ps : List (Nat × Nat)), vs = [iv n, .ref l] ∧ H l = some (.lst xs) ∧ Paired (TieV H) xs ps ∧ ps.length ≤ 1000 ∧
  ∀ H' v ts, Same H H' → WebV H' v n ts → ts.Pairwise ltT → (∀ t, t ∈ ts ↔ ∃ p ∈ ps, t = mm p) → Q v H'
theorem k_web_of_ties (A : At K mg "web_of_ties" s_web_of_ties) (B : Bt mg) (Gv : Gc mg) (C_tie_of : Cal P w K mg base 1 "tie_of" spTieOf []) : Cal P w K mg base 2 "web_of_ties" spWebOfTies [] := by
  refine mk A sc_web_of_ties (fun _ _ _ _ _ _ us hl => match us, hl with | [_, _], _ => rfl) (fun vs H Q E h => ?_) (fun f cdv A outer s H vs Q E hr h => ?_)
  · obtain ⟨n, l, xs, ps, rfl, _⟩ := h
    rfl
  · obtain ⟨n, l, xs, ps, rfl, hl, hps, hlen, q⟩ := h
    refine ⟨_, (pss_cons (ps_set (i := 2) sc_web_of_ties.nd rfl (.inl rfl) pe_dnewT)
    (pss_cons (ps_for PassesOwn.never rfl (pi_list (pv 1)) (pg_tup rfl (pgs_cons (pg_name (i := 3) sc_web_of_ties.nd rfl (.inl rfl)) (pgs_cons (pg_name (i := 4) sc_web_of_ties.nd rfl (.inl rfl)) pgs_nil)))
      (pss_one (ps_dput (hu_of hr) (pv 2) (pe_c C_tie_of hr (by decide) (by rfl) (pa_cons (pv 3) (pa_cons (pv 4) pa_nil))) pe_bl rfl)))
    (pss_one (ps_ret (pe_tup (pa_cons (pe_gc (by rfl) Gv.web) (pa_cons (pv 0) (pa_cons (pe_callTy call_tuple_of (by rfl) B.tuple (by decide +kernel) (pa_cons (pe_callB cr_sortedPO (by rfl) B.sorted (by decide +kernel) (pa_cons (pe_callTy (call_list_dT rfl) (by rfl) B.list (by decide +kernel) (pa_cons (pv 2) pa_nil)) pa_nil)) pa_nil)) pa_nil)))))))), ?_⟩
    intro d hd
    have s1 : Same H (upd H d (.dT [])) := same_upd hd
    refine ⟨.ref l, rfl, l, rfl, ⟨_, lq (s1 _ _ hl)⟩, ?_⟩
    refine for_it (walk_list (K := K) (a := l) (xs := xs)) (fun i σ H' => (∃ a b, σ = [some (iv n), some (.ref l), some (.ref d), a, b]) ∧ Same H H' ∧ ∃ kvs ks, H' d = some (.dT kvs) ∧ DS tK kvs ks (.bl true) ∧ ks.length ≤ i ∧ ∀ t, t ∈ ks ↔ ∃ p ∈ ps.take i, t = mm p)
      ⟨⟨none, none, rfl⟩, s1, [], [], upd_same, DD.nil0, Nat.le_refl 0, fun t => by simp⟩ (fun i σ H' _ h => lq (h.2.1 _ _ hl)) (fun i x σ H' H'' hi h hx => ?_) (fun σ H' h => ?_)
    · obtain ⟨⟨a, b, rfl⟩, s2, kvs, ks, hd', D, hkl, hks⟩ := h
      obtain ⟨rfl, hx⟩ := hx
      obtain ⟨p, hp, r⟩ := paired_get hps hx
      obtain ⟨pp, rfl, hpp⟩ := r.keep (Same.tups s2)
      refine ⟨pp, _, rfl, tq hpp, rfl, iv p.1, _, rfl, iv p.2, [], rfl, rfl, .ref d, rfl, iv p.1, rfl, iv p.2, rfl, p.1, p.2, rfl, fun t ht => ?_⟩
      have hdt : t ≠ d := fun e => by rw [e, hd'] at ht; cases ht
      have hlp : i < ps.length := (List.getElem?_eq_some_iff.mp hp).1
      refine ⟨d, _, rfl, DPut.t (k := tK (mm p)) (by rw [upd_ne (Ne.symm hdt)]; exact hd') upd_same (by rw [D.len]; exact small1000 (by omega)), ?_⟩
      refine ⟨⟨_, _, rfl⟩, fun b x e => ?_, _, _, upd_same, D.putS (fun a b => tK_inj) (mm p), ?_, fun u => ?_⟩
      · by_cases hb : b = d
        · rw [hb, hd] at e; cases e
        · rw [upd_ne hb, upd_ne (ne_of_none (s2 _ _ e) ht)]; exact s2 _ _ e
      · have := ins_len (mm p) ks
        omega
      · rw [mem_ins, hks, List.take_add_one, hp]
        simp only [Option.toList, List.mem_append, List.mem_singleton]
        constructor
        · rintro (h | ⟨q, hq, h⟩)
          · exact ⟨p, .inr rfl, h⟩
          · exact ⟨q, .inl hq, h⟩
        · rintro ⟨q, hq | hq, h⟩
          · exact .inr ⟨q, hq, h⟩
          · exact .inl (hq ▸ h)
    · obtain ⟨⟨a, b, rfl⟩, s2, kvs, ks, hd', D, hkl, hks⟩ := h
      refine ⟨iv n, rfl, .ref d, rfl, d, kvs, rfl, .inl hd', fun l2 bs h2 hbs => ?_⟩
      have P1 : Paired (TieV (upd H' l2 (.lst (bs.map V.ref)))) (bs.map V.ref) ks := paired_mono (fun _ _ r => r.keep (Same.tups (same_upd h2))) (keys_ties hbs D.keys)
      refine ⟨l2, _, kk (upd H' l2 (.lst (bs.map V.ref))), rfl, lq upd_same, fun x hx => ?_, fun ys l3 hs hst h3 => ?_⟩
      · obtain ⟨u, _, ⟨t, rfl, ht⟩⟩ := paired_mem P1 hx
        refine ⟨t, rfl, ?_⟩
        rw [ht, kk_tie ⟨t, rfl, ht⟩]
      · obtain ⟨us, P2, hperm, hlt⟩ := sorted_ties P1 D.nd hs hst.perm
        have s4 := same_upd (o := .lst ys) h3
        refine ⟨l3, ys, rfl, .inl ⟨lq upd_same, fun l4 h4 => ?_⟩⟩
        have s5 := same_upd (o := .tup ys) h4
        refine ⟨by show 3 ≤ sizeLine; decide, fun l5 h5 => ?_⟩
        have s6 := same_upd (o := .tup [.str "web", iv n, .ref l4]) h5
        refine q _ _ us ?_ ⟨l5, l4, ys, rfl, upd_same, s6 _ _ upd_same, paired_mono (fun _ _ r => r.keep (Same.tups (Same.trans s4 (Same.trans s5 s6)))) P2⟩ hlt fun t => ?_
        · exact Same.trans s2 (Same.trans (same_upd h2) (Same.trans s4 (Same.trans s5 s6)))
        · rw [hperm.mem_iff, hks]
          have e : ps.take xs.length = ps := by rw [paired_len hps, List.take_length]
          rw [e]
end
end Wp
set_option maxHeartbeats 4000000
namespace Wp
open PySem PySem.Spec PyProof.Rows L2
open C8 (Cal pe_c pe_gc)
/-! lists of lists of numbers -/
theorem nodup_idx {α : Type} : ∀ {l : List α}, l.Nodup → ∀ {i j : Nat} (hi : i < l.length) (hj : j < l.length), l[i] = l[j] → i = j
  | a :: l, h, 0, 0, _, _, _ => rfl
  | a :: l, h, 0, j + 1, hi, hj, e => by
    simp at e
    exact absurd (e ▸ List.getElem_mem (by simpa using hj)) (List.nodup_cons.mp h).1
  | a :: l, h, i + 1, 0, hi, hj, e => by
    simp at e
    exact absurd (e ▸ List.getElem_mem (by simpa using hi)) (List.nodup_cons.mp h).1
  | a :: l, h, i + 1, j + 1, hi, hj, e => by
    have := nodup_idx (List.nodup_cons.mp h).2 (i := i) (j := j) (by simpa using hi) (by simpa using hj) (by simpa using e)
    omega
structure RowsA (H : Hp) (a : Addr) (as : List Addr) (R : Nat → List Nat) : Prop where
  nd : as.Nodup
  at_ : H a = some (.lst (as.map V.ref))
  row : ∀ i p, as[i]? = some p → H p = some (.lst (ivs (R i)))
theorem RowsA.ne {H : Hp} {a : Addr} {as : List Addr} {R : Nat → List Nat} (h : RowsA H a as R) {i : Nat} {p : Addr} (hp : as[i]? = some p) : p ≠ a := fun e => by
  have h1 := h.row i p hp
  rw [e, h.at_] at h1
  have h2 : as.map V.ref = ivs (R i) := by
    have := Option.some.inj h1
    exact HO.lst.inj this
  have h3 : V.ref p ∈ ivs (R i) := by
    rw [← h2]
    exact List.mem_map.mpr ⟨p, List.mem_of_getElem? hp, rfl⟩
  obtain ⟨n, _, e⟩ := List.mem_map.mp h3
  cases e
theorem RowsA.keep {H H' : Hp} {a : Addr} {as : List Addr} {R : Nat → List Nat} (h : RowsA H a as R) (g : Same H H') : RowsA H' a as R := ⟨h.nd, g _ _ h.at_, fun i p e => g _ _ (h.row i p e)⟩
theorem RowsA.push {H : Hp} {a : Addr} {as : List Addr} {R : Nat → List Nat} (h : RowsA H a as R) {i j : Nat} {p : Addr} (hp : as[i]? = some p) {l : List V} (hl : l = ivs (R i) ++ [iv j]) :
    RowsA (upd H p (.lst l)) a as (fun k => if k = i then R i ++ [j] else R k) := by
  have hne := h.ne hp
  refine ⟨h.nd, by rw [upd_ne (Ne.symm hne)]; exact h.at_, fun k q hq => ?_⟩
  by_cases e : k = i
  · subst e
    rw [hp] at hq
    cases hq
    rw [upd_same, if_pos rfl, hl]
    simp [ivs]
  · rw [if_neg e, upd_ne ?_]
    · exact h.row k q hq
    · intro z
      subst z
      obtain ⟨h1, e1⟩ := List.getElem?_eq_some_iff.mp hq
      obtain ⟨h2, e2⟩ := List.getElem?_eq_some_iff.mp hp
      exact e (nodup_idx h.nd h1 h2 (e1.trans e2.symm))
theorem RowsA.new {H : Hp} {a p : Addr} {as : List Addr} {R : Nat → List Nat} (h : RowsA H a as R) (hp : H p = none) {xs l : List V} (hx : xs = ivs (R as.length)) (hl : l = as.map V.ref ++ [.ref p]) : RowsA (upd (upd H p (.lst xs)) a (.lst l)) a (as ++ [p]) R := by
  have hpa : p ≠ a := fun e => by rw [e, h.at_] at hp; cases hp
  have hm : p ∉ as := fun m => by
    obtain ⟨i, hi⟩ := List.getElem?_of_mem m
    rw [h.row i p hi] at hp; cases hp
  refine ⟨?_, by rw [upd_same, hl]; simp, fun i q hq => ?_⟩
  · rw [List.nodup_append]
    exact ⟨h.nd, by simp, fun x hx y hy z => by simp at hy; rw [z, hy] at hx; exact hm hx⟩
  · by_cases hi : i < as.length
    · rw [List.getElem?_append_left hi] at hq
      have hqp : q ≠ p := fun e => hm (e ▸ List.mem_of_getElem? hq)
      rw [upd_ne (h.ne hq), upd_ne hqp]
      exact h.row i q hq
    · rw [List.getElem?_append_right (by omega)] at hq
      have : i - as.length = 0 := by
        have := (List.getElem?_eq_some_iff.mp hq).1
        simp at this; omega
      have e : i = as.length := by omega
      subst e
      simp at hq
      subst hq
      rw [upd_ne hpa, upd_same, hx]
def RowsV (H : Hp) (a : Addr) (n : Nat) (R : Nat → List Nat) : Prop := ∃ as, as.length = n ∧ RowsA H a as R
theorem RowsV.keep {H H' : Hp} {a : Addr} {n : Nat} {R : Nat → List Nat} (h : RowsV H a n R) (g : Same H H') : RowsV H' a n R := by
  obtain ⟨as, e, h⟩ := h
  exact ⟨as, e, h.keep g⟩
theorem RowsV.get {H : Hp} {a : Addr} {n : Nat} {R : Nat → List Nat} (h : RowsV H a n R) : ∃ xs, H a = some (.lst xs) ∧ xs.length = n ∧ ∀ i, i < n → ∃ p, xs[i]? = some (.ref p) ∧ H p = some (.lst (ivs (R i))) := by
  obtain ⟨as, e, h⟩ := h
  refine ⟨_, h.at_, by simpa using e, fun i hi => ?_⟩
  have hi' : i < as.length := by omega
  exact ⟨as[i], by simp [hi'], h.row i _ (by simp [hi'])⟩
theorem nats_of_perm {ns : List Int} {l : List Nat} (h : ns.Perm (l.map fun (k : Nat) => (k : Int))) : ∃ ms : List Nat, ns = ms.map (fun (k : Nat) => (k : Int)) ∧ ms.Perm l := by
  refine ⟨ns.map Int.toNat, ?_, ?_⟩
  · rw [List.map_map]
    conv => lhs; rw [← List.map_id ns]
    refine List.map_congr_left fun x hx => ?_
    obtain ⟨k, _, e⟩ := List.mem_map.mp (h.mem_iff.mp hx)
    rw [← e]; simp
  · have := h.map Int.toNat
    rw [List.map_map] at this
    have e : (Int.toNat ∘ fun (k : Nat) => (k : Int)) = id := funext fun k => by simp
    rw [e, List.map_id] at this
    exact this
theorem nd_snoc' {α : Type} {l : List α} {x : α} (h : l.Nodup) (hx : x ∉ l) : (l ++ [x]).Nodup := by
  rw [List.nodup_append]
  exact ⟨h, by simp, fun a ha b hb z => by simp at hb; rw [z, hb] at ha; exact hx ha⟩
theorem nodup_srt {ts : List (Nat × Nat)} (h : ts.Pairwise ltT) : ts.Nodup := h.imp fun {a b} hab e => by
  subst e
  rcases hab with h | ⟨_, h⟩ <;> omega
/-- ties as neighbourhood -/
def adj (ts : List (Nat × Nat)) (i j : Nat) : Prop := (i, j) ∈ ts ∨ (j, i) ∈ ts
section
variable {P : Program} {w : World} {K : PySem.W.Frag} {mg : Str → Option Value} {base : Heap}
def spNeighboursOf : Sp := fun vs H Q _ => ∃ (v : V) (n : Nat) (ts : List (Nat × Nat)), vs = [v] ∧ WebV H v n ts ∧ WebOk n ts ∧
  ∀ H' a R, Same H H' → RowsV H' a n R → (∀ i, (R i).length ≤ 60 ∧ (R i).Nodup) → (∀ i j, j ∈ R i ↔ adj ts i j) → Q (.ref a) H'
theorem k_neighbours_of (A : At K mg "neighbours_of" s_neighbours_of) (B : Bt mg) : Cal P w K mg base 1 "neighbours_of" spNeighboursOf [] := by
  refine mk A sc_neighbours_of (fun _ _ _ _ _ _ us hl => match us, hl with | [_], _ => rfl) (fun vs H Q E h => ?_) (fun f cdv A outer s H vs Q E hr h => ?_)
  · obtain ⟨v, n, ts, rfl, _⟩ := h
    rfl
  · obtain ⟨v, n, ts, rfl, ⟨p, tp, vs, rfl, hp, ht, hts⟩, ok, q⟩ := h
    refine ⟨_, (pss_cons (ps_setLc (i := 1) (own := [("corner", 4)]) rfl sc_neighbours_of.nd rfl rfl (sw_true rfl rfl rfl (by decide +kernel)) (pi_range1 (by rfl) B.range (pa_cons (pe_ix ix_tup (pv 0) pe_int (fun _ _ => rfl)) pa_nil)) (blkOk_by (N := ["web", "found", "one", "other", "corner", "row"]) (sc := defScope s_neighbours_of) (by decide +kernel)) (fun _ _ _ _ _ => (pg_name (i := 4) sc_neighbours_of.nd rfl (.inl rfl) (.inr rfl))) (fun _ _ _ _ _ => pts_nil) (fun _ _ _ _ _ => (pe_lst pa_nil)))
    (pss_cons (ps_for PassesOwn.never rfl (pi_tup (pe_ix ix_tup (pv 0) pe_int (fun _ _ => rfl))) (pg_tup rfl (pgs_cons (pg_name (i := 2) sc_neighbours_of.nd rfl (.inl rfl)) (pgs_cons (pg_name (i := 3) sc_neighbours_of.nd rfl (.inl rfl)) pgs_nil)))
      (pss_cons (ps_expr (pe_bm PySem.F.plainAttrs_list PySem.F.slot_list_append PySem.F.type_list_append mt_append (pe_ix ix_list (pv 1) (pv 2) (fun _ _ => rfl)) (pa_cons (pv 3) pa_nil)))
      (pss_one (ps_expr (pe_bm PySem.F.plainAttrs_list PySem.F.slot_list_append PySem.F.type_list_append mt_append (pe_ix ix_list (pv 1) (pv 3) (fun _ _ => rfl)) (pa_cons (pv 2) pa_nil))))))
    (pss_one (ps_ret (pe_lc (own := [("row", 5)]) rfl sc_neighbours_of.nd (pi_list (pv 1)) (blkOk_by (N := ["web", "found", "one", "other", "corner", "row"]) (sc := defScope s_neighbours_of) (by decide +kernel)) (fun _ _ _ _ _ => (pg_name (i := 5) sc_neighbours_of.nd rfl (.inl rfl) (.inr rfl))) (fun _ _ _ _ _ => pts_nil) (fun _ _ _ _ _ => (pe_callB (r := rSorted K) cr_sorted (by rfl) B.sorted (by decide +kernel) (pa_cons (pv 5) pa_nil)))))))), ?_⟩
    refine ⟨.ref p, rfl, p, _, 1, iv n, rfl, rfl, tq hp, atI_nat (j := 1) rfl, n, rfl, by omega, by have := ok.hi; omega, fun D hD => ?_⟩
    rw [Int.toNat_natCast]
    refine lc0 walk_range (fun i H' => Same H H' ∧ ∃ as, as.length = i ∧ (∀ p ∈ as, H p = none) ∧ RowsA H' D as fun _ => []) ?_ (fun i H' _ h => trivial) (fun i x H' H'' hi h hx => ?_) (fun H' h => ?_)
    · exact ⟨same_upd hD, [], rfl, by simp, ⟨List.nodup_nil, upd_same, by simp⟩⟩
    · obtain ⟨s1, as, hl, hf, hr⟩ := h
      obtain ⟨rfl, rfl⟩ := hx
      refine ⟨rfl, Nat.zero_le _, fun p1 hp1 => ?_⟩
      have hpD : p1 ≠ D := fun e => by rw [e, hr.at_] at hp1; cases hp1
      have hH : H p1 = none := by
        cases e : H p1 with
        | none => rfl
        | some o => rw [s1 _ _ e] at hp1; cases hp1
      refine ⟨as.map .ref, by rw [upd_ne (Ne.symm hpD)]; exact hr.at_, by rw [List.length_map, hl]; exact small1000 (by have := ok.hi; omega), ?_, as ++ [p1], by simp [hl], ?_, hr.new hp1 rfl rfl⟩
      · exact same_list hD (Same.trans s1 (same_upd hp1))
      · intro x hx
        rcases List.mem_append.mp hx with hx | hx
        · exact hf x hx
        · simp at hx; rw [hx]; exact hH
    · obtain ⟨s1, as, hl1, hf, hr⟩ := h
      refine ⟨.ref p, rfl, p, _, 2, .ref tp, rfl, rfl, tq (s1 _ _ hp), atI_nat (j := 2) rfl, tp, rfl, ⟨_, tq (s1 _ _ ht)⟩, ?_⟩
      refine for_it (walk_tup (K := K) (a := tp) (xs := vs)) (fun i σ H' => (∃ a b, σ = [some (.ref p), some (.ref D), a, b, none, none]) ∧ Same H H' ∧ ∃ R, RowsA H' D as R ∧ (∀ k, (R k).length ≤ i ∧ (R k).Nodup) ∧ ∀ k j, j ∈ R k ↔ adj (ts.take i) k j)
        ⟨⟨none, none, rfl⟩, s1, _, hr, fun _ => ⟨Nat.le_refl 0, List.nodup_nil⟩, fun k j => by simp [adj]⟩ (fun i σ H' _ h => tq (h.2.1 _ _ ht)) (fun i x σ H' H'' hi h hx => ?_) (fun σ H' h => ?_)
      · obtain ⟨⟨a, b, rfl⟩, s2, R, hR, hlen, hmem⟩ := h
        obtain ⟨rfl, hx⟩ := hx
        obtain ⟨t, ht', r⟩ := paired_get hts hx
        obtain ⟨pp, rfl, hpp⟩ := r.keep (Same.tups s2)
        have hti := ok.lt t (List.mem_of_getElem? ht')
        obtain ⟨p1, hp1⟩ : ∃ p1, as[t.1]? = some p1 := ⟨_, List.getElem?_eq_getElem (by omega)⟩
        obtain ⟨p2, hp2⟩ : ∃ p2, as[t.2]? = some p2 := ⟨_, List.getElem?_eq_getElem (by omega)⟩
        refine ⟨pp, _, rfl, tq hpp, rfl, iv t.1, _, rfl, iv t.2, [], rfl, rfl, ?_⟩
        refine ⟨.ref D, rfl, iv t.1, rfl, D, _, t.1, .ref p1, rfl, rfl, lq hR.at_, atI_nat (j := t.1) (by simp [hp1]), ?_⟩
        have hl2 := (hlen t.1).1
        have hnd := nodup_srt ok.srt
        have hno : ∀ k j, (k = t.1 ∧ j = t.2) ∨ (k = t.2 ∧ j = t.1) → j ∉ R k := fun k j hkj h => by
          have hold := (hmem k j).mp h
          have key : t ∉ ts.take i := fun hm => by
            obtain ⟨m, hm1⟩ := List.getElem?_of_mem hm
            have hmi : m < i := by have := (List.getElem?_eq_some_iff.mp hm1).1; rw [List.length_take] at this; omega
            rw [List.getElem?_take_of_lt hmi] at hm1
            obtain ⟨b1, c1⟩ := List.getElem?_eq_some_iff.mp hm1
            obtain ⟨b2, c2⟩ := List.getElem?_eq_some_iff.mp ht'
            have := nodup_idx hnd b1 b2 (c1.trans c2.symm)
            omega
          have key2 : (t.2, t.1) ∉ ts.take i := fun hm => by
            have := (ok.lt _ (List.mem_of_mem_take hm)).1
            simp at this; omega
          rcases hkj with ⟨rfl, rfl⟩ | ⟨rfl, rfl⟩
          · exact hold.elim key key2
          · exact hold.elim key2 key
        have hi' : i < 60 := by
          have := ok.many
          have := (List.getElem?_eq_some_iff.mp ht').1
          omega
        refine ⟨.inl ⟨rfl, _, lq (hR.row _ _ hp1)⟩, iv t.2, rfl, p1, _, iv t.2, rfl, rfl, hR.row _ _ hp1, by rw [List.length_map]; exact small1000 (by omega), ?_⟩
        have hR2 := hR.push hp1 (j := t.2) rfl
        have hS2 : Same H (upd H'' p1 (.lst (ivs (R t.1) ++ [iv t.2]))) := same_list (hf p1 (List.mem_of_getElem? hp1)) s2
        refine ⟨.ref D, rfl, iv t.2, rfl, D, _, t.2, .ref p2, rfl, rfl, lq hR2.at_, atI_nat (j := t.2) (by simp [hp2]), ?_⟩
        refine ⟨.inl ⟨rfl, _, lq (hR2.row _ _ hp2)⟩, iv t.1, rfl, p2, _, iv t.1, rfl, rfl, hR2.row _ _ hp2, ?_, ?_⟩
        · rw [List.length_map, if_neg (by omega)]; exact small1000 (by have := (hlen t.2).1; omega)
        · refine ⟨⟨_, _, rfl⟩, same_list (hf p2 (List.mem_of_getElem? hp2)) hS2, _, hR2.push hp2 (j := t.1) rfl, fun k => ?_, fun k j => ?_⟩
          · have h1 := hlen k
            have h2 := hlen t.1
            have h3 := hlen t.2
            by_cases e : k = t.2
            · rw [if_pos e, if_neg (by omega), List.length_append]
              exact ⟨by simp; omega, nd_snoc' h3.2 (hno t.2 t.1 (.inr ⟨rfl, rfl⟩))⟩
            · rw [if_neg e]
              by_cases e1 : k = t.1
              · rw [if_pos e1, List.length_append]
                exact ⟨by simp; omega, nd_snoc' h2.2 (hno t.1 t.2 (.inl ⟨rfl, rfl⟩))⟩
              · rw [if_neg e1]; exact ⟨by omega, h1.2⟩
          · have e0 : adj (ts.take (i + 1)) k j ↔ adj (ts.take i) k j ∨ (k = t.1 ∧ j = t.2) ∨ (k = t.2 ∧ j = t.1) := by
              unfold adj
              rw [List.take_add_one, ht']
              simp only [Option.toList, List.mem_append, List.mem_singleton]
              constructor
              · rintro ((h | h) | (h | h))
                · exact .inl (.inl h)
                · exact .inr (.inl ⟨by rw [← h], by rw [← h]⟩)
                · exact .inl (.inr h)
                · exact .inr (.inr ⟨by rw [← h], by rw [← h]⟩)
              · rintro ((h | h) | ⟨h1, h2⟩ | ⟨h1, h2⟩)
                · exact .inl (.inl h)
                · exact .inr (.inl h)
                · exact .inl (.inr (Prod.ext h1 h2))
                · exact .inr (.inr (Prod.ext h2 h1))
            rw [e0, ← hmem]
            by_cases e : k = t.2
            · rw [if_pos e, if_neg (by omega)]
              subst e
              simp only [List.mem_append, List.mem_singleton]
              constructor
              · rintro (h | h)
                · exact .inl h
                · exact .inr (.inr ⟨by trivial, h⟩)
              · rintro (h | ⟨h, _⟩ | ⟨_, h⟩)
                · exact .inl h
                · omega
                · exact .inr h
            · rw [if_neg e]
              by_cases e1 : k = t.1
              · subst e1
                rw [if_pos rfl]
                simp only [List.mem_append, List.mem_singleton]
                constructor
                · rintro (h | h)
                  · exact .inl h
                  · exact .inr (.inl ⟨by trivial, h⟩)
                · rintro (h | ⟨_, h⟩ | ⟨h, _⟩)
                  · exact .inl h
                  · exact .inr h
                  · omega
              · rw [if_neg e1]
                constructor
                · exact .inl
                · rintro (h | ⟨h, _⟩ | ⟨h, _⟩)
                  · exact h
                  · exact absurd h e1
                  · exact absurd h e
      · obtain ⟨⟨a, b, rfl⟩, s2, R, hR, hlen, hmem⟩ := h
        have el : ts.take vs.length = ts := by rw [paired_len hts, List.take_length]
        rw [el] at hmem
        have hvs := paired_len hts
        have hok := ok.many
        have hrow : ∀ i, i < as.length → ∃ p, (as.map V.ref)[i]? = some (.ref p) ∧ H' p = some (.lst (ivs (R i))) := fun i hi => ⟨as[i], by simp [hi], hR.row i _ (by simp [hi])⟩
        refine ⟨.ref D, rfl, D, rfl, ⟨_, lq hR.at_⟩, fun D2 hD2 => ?_⟩
        refine lc0 (walk_list (K := K) (a := D) (xs := as.map V.ref)) (fun i H'' => Same H' H'' ∧ ∃ as2 R2, as2.length = i ∧ (∀ k j, j ∈ R2 k ↔ j ∈ R k) ∧ (∀ k, (R2 k).length = (R k).length ∧ (R2 k).Nodup) ∧ RowsA H'' D2 as2 R2) ⟨same_upd hD2, [], R, rfl, fun _ _ => Iff.rfl, fun k => ⟨rfl, (hlen k).2⟩, List.nodup_nil, upd_same, by simp⟩ (fun i H'' _ h => lq (h.1 _ _ hR.at_)) (fun i x H'' H3 hi h hx => ?_) (fun H'' h => ?_)
        · obtain ⟨s3, as2, R2, hl2, hm2, hn2, hR2⟩ := h
          obtain ⟨rfl, hx⟩ := hx
          obtain ⟨p3, hp3, hr3⟩ := hrow i (by simpa using hi)
          rw [hp3] at hx
          cases hx
          refine ⟨rfl, .ref p3, rfl, p3, (R i).map fun (k : Nat) => (k : Int), rfl, lq ?_, ?_, fun ns l hns hsr hl => ?_⟩
          · rw [s3 _ _ hr3]; simp [ivs]
          · rw [List.length_map]; have := (hlen i).1; omega
          · obtain ⟨ms, rfl, hms⟩ := nats_of_perm hns
            have hlD : l ≠ D2 := fun e => by rw [e, hR2.at_] at hl; cases hl
            refine ⟨as2.map .ref, by rw [upd_ne (Ne.symm hlD)]; exact hR2.at_, by rw [List.length_map, hl2]; exact small1000 (by have := ok.hi; have : as.length = n := hl1; simp at hi; omega), ?_, as2 ++ [l], fun k => if k = as2.length then ms else R2 k, by simp [hl2], ?_, ?_, ?_⟩
            · exact same_list hD2 (Same.trans s3 (same_upd hl))
            · intro k j
              dsimp only
              by_cases e : k = as2.length
              · rw [if_pos e, hms.mem_iff, e, hl2]
              · rw [if_neg e]; exact hm2 k j
            · intro k
              dsimp only
              by_cases e : k = as2.length
              · rw [if_pos e]
                exact ⟨by rw [hms.length_eq, e, hl2], hms.nodup_iff.mpr (hlen i).2⟩
              · rw [if_neg e]; exact hn2 k
            · refine RowsA.new ⟨hR2.nd, hR2.at_, fun k p hk => ?_⟩ hl (by simp [ivs]) rfl
              have := (List.getElem?_eq_some_iff.mp hk).1
              rw [if_neg (by omega)]
              exact hR2.row k p hk
        · obtain ⟨s3, as2, R2, hl2, hm2, hn2, hR2⟩ := h
          refine q _ D2 R2 (Same.trans s2 s3) ⟨as2, by rw [hl2, List.length_map]; exact hl1, hR2⟩ (fun i => ?_) fun i j => ?_
          · have h1 := hn2 i
            have h2 := hlen i
            exact ⟨by omega, h1.2⟩
          · rw [hm2, hmem]
end
end Wp
set_option maxHeartbeats 4000000
namespace Wp
open PySem PySem.Spec PyProof.Rows L2
open C8 (Cal pe_c pe_gc)
/-! a tie in a list or tuple of ties -/
def rInDT (K : PySem.W.Frag) : R2 := fun x y H Q => ∃ d ds, Dp K H x d ∧ Dp K H y (.tuple ds) ∧ SeqAt.shaped d = true ∧ SeqAt.shaped (.tuple ds) = true ∧ Q (.bl (ds.any fun z => PyData.eqv z d)) H
section
variable {X : Cx}
theorem op_inDT (hu : X.A.units + 65 < cLine) : OpR X (compareOp .In) (rInDT X.K) := by
  intro pins s σ H x y v u Q I rx ry h
  obtain ⟨d, ds, hd, he, sd, se, q⟩ := h
  obtain ⟨as, r1⟩ := Dp.reads I d x v hd rx
  obtain ⟨bs, r2⟩ := Dp.reads I (.tuple ds) y u he ry
  exact SeqAt.in_tuple_reads r2 r1 (SeqAt.canLay_of_shaped se) (SeqAt.canLay_of_shaped sd) (room_in_shaped sd hu) ⟨.bl _, H, I, rfl, q⟩
end
theorem u65 {k : Nat} {A : Around} (r : Room k A) : A.units + 65 < cLine := by
  have := r.un
  omega
def tD (t : Nat × Nat) : PyData := .tuple [.int (t.1 : Int), .int (t.2 : Int)]
theorem tie_dp {K : PySem.W.Frag} {H : Hp} {v : V} {t : Nat × Nat} (h : TieV H v t) : Dp K H v (tD t) := by
  obtain ⟨p, rfl, hp⟩ := h
  exact .tup (tq hp) (.cons (.int _) (.cons (.int _) .nil))
theorem ties_dp {K : PySem.W.Frag} {H : Hp} {vs : List V} {ts : List (Nat × Nat)} (h : Paired (TieV H) vs ts) : DpAll K H vs (ts.map tD) := by
  induction h with
  | nil => exact .nil
  | cons r _ ih => exact .cons (tie_dp r) ih
theorem tie_any (ts : List (Nat × Nat)) (t : Nat × Nat) : ((ts.map tD).any fun z => PyData.eqv z (tD t)) = decide (t ∈ ts) := by
  induction ts with
  | nil => rfl
  | cons u ts ih =>
    rw [List.map_cons, List.any_cons, ih]
    have e : PyData.eqv (tD u) (tD t) = decide (t = u) := by
      have : PyData.eqv (tD u) (tD t) = (((u.1 : Int) == (t.1 : Int)) && (((u.2 : Int) == (t.2 : Int)) && true)) := rfl
      rw [this]
      by_cases h : t = u
      · rw [h]; simp
      · rw [decide_eq_false h]
        by_cases h1 : u.1 = t.1
        · have h2 : u.2 ≠ t.2 := fun h2 => h (Prod.ext h1.symm h2.symm)
          simp; omega
        · simp; omega
    rw [e]
    simp [List.mem_cons]
theorem tD_shaped (t : Nat × Nat) : SeqAt.shaped (tD t) = true := by
  rfl
theorem tDs_lay : ∀ ts : List (Nat × Nat), PyData.canLayAll0 (ts.map tD) = true
  | [] => rfl
  | t :: ts => by
    have : PyData.canLayAll0 ((t :: ts).map tD) = (PyData.canLay0 (tD t) && PyData.canLayAll0 (ts.map tD)) := rfl
    rw [this, tDs_lay ts]
    rfl
theorem tDs_dep : ∀ ts : List (Nat × Nat), PyData.depthAll (ts.map tD) ≤ 1
  | [] => Nat.zero_le _
  | t :: ts => by
    have : PyData.depthAll ((t :: ts).map tD) = max 1 (PyData.depthAll (ts.map tD)) := rfl
    rw [this]
    have := tDs_dep ts
    omega
theorem tDs_shaped (ts : List (Nat × Nat)) : SeqAt.shaped (.tuple (ts.map tD)) = true ∧ SeqAt.shaped (.list (ts.map tD)) = true := by
  have h1 := tDs_lay ts
  have h2 := tDs_dep ts
  constructor
  · have : SeqAt.shaped (.tuple (ts.map tD)) = (PyData.canLayAll0 (ts.map tD) && decide (PyData.depthAll (ts.map tD) + 1 ≤ 64)) := rfl
    rw [this, h1, decide_eq_true (by omega)]; rfl
  · have : SeqAt.shaped (.list (ts.map tD)) = (PyData.canLayAll0 (ts.map tD) && decide (PyData.depthAll (ts.map tD) + 1 ≤ 64)) := rfl
    rw [this, h1, decide_eq_true (by omega)]; rfl
theorem in_ties {K : PySem.W.Frag} {H : Hp} {v : V} {t : Nat × Nat} {p : Addr} {vs : List V} {ts : List (Nat × Nat)} {Q : VK} (h : TieV H v t) (hp : H p = some (.tup vs)) (hs : Paired (TieV H) vs ts) (q : Q (.bl (decide (t ∈ ts))) H) : rInDT K v (.ref p) H Q :=
  ⟨_, _, tie_dp h, .tup (tq hp) (ties_dp hs), tD_shaped t, (tDs_shaped ts).1, by rw [tie_any]; exact q⟩
theorem in_tiesL {K : PySem.W.Frag} {H : Hp} {v : V} {t : Nat × Nat} {p : Addr} {vs : List V} {ts : List (Nat × Nat)} {Q : VK} (h : TieV H v t) (hp : H p = some (.lst vs)) (hs : Paired (TieV H) vs ts) (q : Q (.bl (decide (t ∈ ts))) H) : rInD K v (.ref p) H Q :=
  ⟨_, _, tie_dp h, .lst (lq hp) (ties_dp hs), tD_shaped t, (tDs_shaped ts).2, by rw [tie_any]; exact q⟩
theorem notIn_tiesL {K : PySem.W.Frag} {H : Hp} {v : V} {t : Nat × Nat} {p : Addr} {vs : List V} {ts : List (Nat × Nat)} {Q : VK} (h : TieV H v t) (hp : H p = some (.lst vs)) (hs : Paired (TieV H) vs ts) (q : Q (.bl (!decide (t ∈ ts))) H) : rNotInD K v (.ref p) H Q :=
  ⟨_, _, tie_dp h, .lst (lq hp) (ties_dp hs), tD_shaped t, (tDs_shaped ts).2, by rw [tie_any]; exact q⟩
section
variable {P : Program} {w : World} {K : PySem.W.Frag} {mg : Str → Option Value} {base : Heap}
def spIsTied : Sp := fun vs H Q _ => ∃ (v : V) (n a b : Nat) (ts : List (Nat × Nat)), vs = [v, iv a, iv b] ∧ WebV H v n ts ∧ ∀ H', Same H H' → Q (.bl (decide (mm (a, b) ∈ ts))) H'
theorem k_is_tied (A : At K mg "is_tied" s_is_tied) (B : Bt mg) (C_tie_of : Cal P w K mg base 1 "tie_of" spTieOf []) : Cal P w K mg base 2 "is_tied" spIsTied [] := by
  refine mk A sc_is_tied (fun _ _ _ _ _ _ us hl => match us, hl with | [_, _, _], _ => rfl) (fun vs H Q E h => ?_) (fun f cdv A outer s H vs Q E hr h => ?_)
  · obtain ⟨v, n, a, b, ts, rfl, _⟩ := h
    rfl
  · obtain ⟨v, n, a, b, ts, rfl, ⟨p, tp, vs, rfl, hp, ht, hts⟩, q⟩ := h
    refine ⟨_, (pss_one (ps_ret (pe_cmpR (op_inDT (u65 hr)) (pe_c C_tie_of hr (by decide) (by rfl) (pa_cons (pv 1) (pa_cons (pv 2) pa_nil))) (pe_ix ix_tup (pv 0) pe_int (fun _ _ => rfl)) (by with_unfolding_all rfl)))), ?_⟩
    refine ⟨iv a, rfl, iv b, rfl, a, b, rfl, fun t h1 => ?_⟩
    have s1 := same_upd (o := .tup [.int (min a b : Nat), .int (max a b : Nat)]) h1
    refine ⟨.ref p, rfl, p, _, 2, .ref tp, rfl, rfl, tq (s1 _ _ hp), atI_nat (j := 2) rfl, ?_⟩
    exact in_ties (t := mm (a, b)) ⟨t, rfl, upd_same⟩ (s1 _ _ ht) (paired_mono (fun _ _ r => r.keep (Same.tups s1)) hts) (q _ s1)
/-! ### parts -/
end
end Wp
set_option maxHeartbeats 4000000
namespace Wp
open PySem PySem.Spec PyProof.Rows L2
open C8 (Cal pe_c pe_gc)
/-! all but what stands at d -/
def SameX (d : Addr) (H H' : Hp) : Prop := ∀ b x, b ≠ d → H b = some x → H' b = some x
theorem Same.x {d : Addr} {H H' : Hp} (h : Same H H') : SameX d H H' := fun b x _ e => h b x e
theorem SameX.trans {d : Addr} {H H1 H2 : Hp} (h : SameX d H H1) (g : SameX d H1 H2) : SameX d H H2 := fun b x n e => g b x n (h b x n e)
theorem SameX.put {d : Addr} {H H' : Hp} {o : HO} (h : SameX d H H') : SameX d H (upd H' d o) := fun b x n e => by
  rw [upd_ne n]; exact h b x n e
theorem SameX.new {d p : Addr} {H H' : Hp} {o : HO} (h : SameX d H H') (hp : H p = none) : SameX d H (upd H' p o) := fun b x n e => by
  rw [upd_ne (ne_of_none e hp)]; exact h b x n e
theorem RowsV.keepX {d : Addr} {H H' : Hp} {a : Addr} {n : Nat} {R : Nat → List Nat} {kvs : List (Key × V)} (h : RowsV H a n R) (hd : H d = some (.dK kvs)) (g : SameX d H H') : RowsV H' a n R := by
  obtain ⟨as, e, h⟩ := h
  refine ⟨as, e, h.nd, g _ _ (fun z => ?_) h.at_, fun i p hp => g _ _ (fun z => ?_) (h.row i p hp)⟩
  · have := h.at_
    rw [z, hd] at this; cases this
  · have := h.row i p hp
    rw [z, hd] at this; cases this
theorem none_back {d : Addr} {H H' : Hp} {p : Addr} {o : HO} (h : SameX d H H') (hd : H' d = some o) (hp : H' p = none) : H p = none := by
  cases e : H p with
  | none => rfl
  | some x =>
    by_cases z : p = d
    · rw [z, hd] at hp; cases hp
    · rw [h _ _ z e] at hp; cases hp
theorem none_of_same {H H' : Hp} {p : Addr} (h : Same H H') (hp : H' p = none) : H p = none := by
  cases e : H p with
  | none => rfl
  | some x => rw [h _ _ e] at hp; cases hp
theorem ivs_get {l : List Nat} {i : Nat} {x : V} (h : (ivs l)[i]? = some x) : ∃ y, l[i]? = some y ∧ x = iv y := by
  rw [List.getElem?_map] at h
  cases e : l[i]? with
  | none => rw [e] at h; cases h
  | some y => rw [e] at h; cases h; exact ⟨y, rfl, rfl⟩
theorem nd_snoc {α : Type} {l : List α} {x : α} (h : l.Nodup) (hx : x ∉ l) : (l ++ [x]).Nodup := by
  rw [List.nodup_append]
  exact ⟨h, by simp, fun a ha b hb z => by simp at hb; rw [z, hb] at ha; exact hx ha⟩
theorem isSome_if {p : Prop} [Decidable p] {v : V} : (if p then some v else none).isSome = decide p := by
  by_cases h : p
  · rw [if_pos h, decide_eq_true h]; rfl
  · rw [if_neg h, decide_eq_false h]; rfl
/-- where part_from stands -/
structure PF (H : Hp) (d l : Addr) (n c : Nat) (R : Nat → List Nat) (M : List Nat) (H' : Hp) (F : List Nat) (kvs : List (Key × V)) (M' : List Nat) : Prop where
  sm : SameX d H H'
  lst : H' l = some (.lst (ivs F))
  dct : H' d = some (.dK kvs)
  ds : DS nK kvs M' (.bl true)
  mem : ∀ x, x ∈ M' ↔ x ∈ M ∨ x ∈ F
  nd : F.Nodup
  lt : ∀ x ∈ F, x < n ∧ x ∉ M
  cin : c ∈ F
  con : ∀ S : Nat → Prop, S c → (∀ x y, S x → y ∈ R x → S y) → ∀ x ∈ F, S x
theorem PF.add {H : Hp} {d l : Addr} {n c : Nat} {R : Nat → List Nat} {M : List Nat} {H' : Hp} {F : List Nat} {kvs : List (Key × V)} {M' : List Nat} (h : PF H d l n c R M H' F kvs M') (hl : H l = none) (hld : l ≠ d) {x y : Nat} (hx : x ∈ F) (hy : y ∈ R x) (hyn : y < n) (hno : y ∉ M') :
    PF H d l n c R M (upd (upd H' d (.dK (putK kvs (nK y) (.bl true)))) l (.lst (ivs F ++ [iv y]))) (F ++ [y]) (putK kvs (nK y) (.bl true)) (ins y M') where
  sm := h.sm.put.new hl
  lst := by rw [upd_same]; simp [ivs]
  dct := by rw [upd_ne (Ne.symm hld), upd_same]
  ds := h.ds.putS (fun a b => nK_inj) y
  mem z := by
    rw [mem_ins, h.mem]
    simp only [List.mem_append, List.mem_singleton]
    constructor
    · rintro (h | h | h)
      · exact .inr (.inr h)
      · exact .inl h
      · exact .inr (.inl h)
    · rintro (h | h | h)
      · exact .inr (.inl h)
      · exact .inr (.inr h)
      · exact .inl h
  nd := nd_snoc h.nd fun z => hno ((h.mem y).mpr (.inr z))
  lt z hz := by
    rcases List.mem_append.mp hz with hz | hz
    · exact h.lt z hz
    · simp at hz; rw [hz]; exact ⟨hyn, fun g => hno ((h.mem y).mpr (.inl g))⟩
  cin := List.mem_append_left _ h.cin
  con S h0 hs z hz := by
    rcases List.mem_append.mp hz with hz | hz
    · exact h.con S h0 hs z hz
    · simp at hz; rw [hz]; exact hs x y (h.con S h0 hs x hx) hy
section
variable {P : Program} {w : World} {K : PySem.W.Frag} {mg : Str → Option Value} {base : Heap}
def spPartFrom : Sp := fun vs H Q _ => ∃ (a d : Addr) (n c : Nat) (R : Nat → List Nat) (kvs : List (Key × V)) (M : List Nat), vs = [.ref a, iv c, .ref d] ∧ RowsV H a n R ∧ n ≤ 20 ∧ (∀ i, (R i).length ≤ 60) ∧ (∀ i j, j ∈ R i → j < n) ∧ c < n ∧
  H d = some (.dK kvs) ∧ DS nK kvs M (.bl true) ∧ c ∉ M ∧ (∀ x ∈ M, x < n) ∧
  ∀ H' l F kvs' M', SameX d H H' → H' l = some (.lst (ivs F)) → H' d = some (.dK kvs') → DS nK kvs' M' (.bl true) → (∀ x, x ∈ M' ↔ x ∈ M ∨ x ∈ F) → F.Nodup → (∀ x ∈ F, x < n ∧ x ∉ M) → c ∈ F → (∀ x ∈ F, ∀ y ∈ R x, y ∈ M') →
    (∀ S : Nat → Prop, S c → (∀ x y, S x → y ∈ R x → S y) → ∀ x ∈ F, S x) → Q (.ref l) H'
theorem k_part_from (A : At K mg "part_from" s_part_from) (B : Bt mg) : Cal P w K mg base 1 "part_from" spPartFrom [] := by
  refine mk A sc_part_from (fun _ _ _ _ _ _ us hl => match us, hl with | [_, _, _], _ => rfl) (fun vs H Q E h => ?_) (fun f cdv A outer s H vs Q E hr h => ?_)
  · obtain ⟨a, d, n, c, R, kvs, M, rfl, _⟩ := h
    rfl
  · obtain ⟨a, d, n, c, R, kvs, M, rfl, hR, hn, hlen, hlt, hc, hd, D, hcM, hM, q⟩ := h
    refine ⟨_, (pss_cons (ps_par (i := 3) (j := 4) rfl sc_part_from.nd rfl rfl (by decide) rfl rfl (pa_cons (pe_lst (pa_cons (pv 1) pa_nil)) (pa_cons pe_int pa_nil)) rfl)
    (pss_cons (ps_dput (hu_of hr) (pv 2) (pv 1) pe_bl rfl)
    (pss_cons (ps_while PassesOwn.never (pt_cmpR op_lt (pv 4) (pe_callB call_len_seq (by rfl) B.len (by decide +kernel) (pa_cons (pv 3) pa_nil)) (nomark _))
      (pss_cons (ps_for PassesOwn.never rfl (pi_list (pe_ix ix_list (pv 0) (pe_ix ix_list (pv 3) (pv 4) (fun _ _ => rfl)) (fun _ _ => rfl))) (pg_name (i := 5) sc_part_from.nd rfl (.inl rfl))
        (pss_one (ps_if (pt_cmp (pc_dnotin (hu_of hr) (pv 5) (pv 2)))
          (pss_cons (ps_dput (hu_of hr) (pv 2) (pv 5) pe_bl rfl)
          (pss_one (ps_expr (pe_bm PySem.F.plainAttrs_list PySem.F.slot_list_append PySem.F.type_list_append mt_append (pv 3) (pa_cons (pv 5) pa_nil)))))
          pss_nil)))
      (pss_one (ps_set (i := 4) sc_part_from.nd rfl (.inl rfl) (pe_op op_add (pv 4) pe_int)))))
    (pss_one (ps_ret (pv 3)))))), ?_⟩
    refine ⟨iv c, rfl, by show 1 ≤ sizeLine; decide, fun l hl => ⟨_, _, rfl, ?_⟩⟩
    have hld : l ≠ d := fun e => by rw [e, hd] at hl; cases hl
    have hML := length_of D.nd hM
    refine ⟨.ref d, rfl, iv c, rfl, d, _, rfl, DPut.k (k := nK c) (by rw [upd_ne (Ne.symm hld)]; exact hd) (by rw [D.len]; exact small1000 (by omega)), ?_⟩
    have hP0 : PF H d l n c R M (upd (upd H l (.lst [iv c])) d (.dK (putK kvs (nK c) (.bl true)))) [c] (putK kvs (nK c) (.bl true)) (ins c M) := by
      refine ⟨SameX.put ((Same.x (same_upd hl))), by rw [upd_ne hld, upd_same]; rfl, upd_same, D.putS (fun a b => nK_inj) c, fun x => ?_, by simp, fun x hx => ?_, by simp, fun S h0 _ x hx => ?_⟩
      · rw [mem_ins]; simp [or_comm]
      · simp at hx; rw [hx]; exact ⟨hc, hcM⟩
      · simp at hx; rw [hx]; exact h0
    refine ⟨fun m σ H' => ∃ i F kvs' M' b, m = n - i ∧ σ = [some (.ref a), some (iv c), some (.ref d), some (.ref l), some (iv i), b] ∧ PF H d l n c R M H' F kvs' M' ∧ i ≤ F.length ∧ ∀ j x, j < i → F[j]? = some x → ∀ y ∈ R x, y ∈ M',
      ⟨n - 0, 0, _, _, _, none, rfl, rfl, hP0, Nat.zero_le _, fun j x hj => absurd hj (by omega)⟩, fun m σ H' h => ?_⟩
    obtain ⟨i, F, kvs', M', b, rfl, rfl, hP, hi, hcl⟩ := h
    refine ⟨iv i, rfl, .ref l, rfl, l, _, rfl, .inl (lq hP.lst), (i : Int), ((ivs F).length : Int), rfl, rfl, decide (i < F.length), ?_, ?_⟩
    · exact congrArg V.bl (by rw [decide_eq_decide]; simp [ivs])
    have hFn := length_of hP.nd fun x hx => (hP.lt x hx).1
    by_cases hlt2 : i < F.length
    · rw [decide_eq_true hlt2]
      refine iteT ⟨_, fun _ _ h => h, ?_⟩
      have hx : F[i]? = some F[i] := List.getElem?_eq_getElem hlt2
      generalize hxe : F[i] = x at hx
      have hxm : x ∈ F := List.mem_of_getElem? hx
      have hxn := hP.lt x hxm
      obtain ⟨xs, hxs, hxl, hrow⟩ := (hR.keepX hd hP.sm).get
      obtain ⟨p, hp, hpr⟩ := hrow x hxn.1
      have hpH : H p = some (.lst (ivs (R x))) := by
        obtain ⟨xs0, h0, _, hr0⟩ := hR.get
        obtain ⟨p0, h1, h2⟩ := hr0 x hxn.1
        have e1 := hP.sm a _ (fun z => by rw [z, hd] at h0; cases h0) h0
        rw [hxs] at e1
        have e2 : xs = xs0 := by cases e1; rfl
        rw [e2, h1] at hp
        cases hp
        exact h2
      have hpd : p ≠ d := fun e => by rw [e, hd] at hpH; cases hpH
      refine ⟨.ref a, rfl, .ref l, rfl, iv i, rfl, l, _, i, iv x, rfl, rfl, lq hP.lst, atI_nat (by simp [ivs, hx]), a, xs, x, .ref p, rfl, rfl, lq hxs, atI_nat hp, p, rfl, ⟨_, lq hpr⟩, ?_⟩
      refine for_it (walk_list (K := K) (a := p) (xs := ivs (R x))) (fun j σ H' => ∃ F kvs' M' b, σ = [some (.ref a), some (iv c), some (.ref d), some (.ref l), some (iv i), b] ∧ PF H d l n c R M H' F kvs' M' ∧ i < F.length ∧ F[i]? = some x ∧ (∀ j x, j < i → F[j]? = some x → ∀ y ∈ R x, y ∈ M') ∧ ∀ y ∈ (R x).take j, y ∈ M')
        ⟨F, _, _, b, rfl, hP, hlt2, hx, hcl, by simp⟩ (fun j σ H' _ h => ?_) (fun j v σ H' H'' hj h hv => ?_) (fun σ H' h => ?_)
      · obtain ⟨F, kvs', M', b, rfl, hP, _⟩ := h
        exact lq (hP.sm _ _ hpd hpH)
      · obtain ⟨F, kvs', M', b, rfl, hP, hi, hx, hcl, hcl2⟩ := h
        obtain ⟨rfl, hv⟩ := hv
        obtain ⟨y, hy, rfl⟩ := ivs_get hv
        have hyR : y ∈ R x := List.mem_of_getElem? hy
        have etake : ∀ z, z ∈ (R x).take (j + 1) ↔ z ∈ (R x).take j ∨ z = y := fun z => by
          rw [List.take_add_one, hy]; simp
        refine ⟨iv y, rfl, .ref d, rfl, d, _, rfl, DGet.k (k := nK y) hP.dct, ?_⟩
        rw [hP.ds.val, isSome_if]
        by_cases hm : y ∈ M'
        · rw [decide_eq_true hm]
          refine ⟨_, rfl, iteF ?_⟩
          exact ⟨F, _, _, _, rfl, hP, hi, hx, hcl, fun z hz => ((etake z).mp hz).elim (hcl2 z) fun e => e ▸ hm⟩
        · rw [decide_eq_false hm]
          refine ⟨_, rfl, iteT ?_⟩
          have hMn := length_of hP.ds.nd fun z hz => ((hP.mem z).mp hz).elim (hM z) fun g => (hP.lt z g).1
          have hFn := length_of hP.nd fun x hx => (hP.lt x hx).1
          refine ⟨.ref d, rfl, iv y, rfl, d, _, rfl, DPut.k (k := nK y) hP.dct (by rw [hP.ds.len]; exact small1000 (by omega)), ?_⟩
          refine ⟨.ref l, rfl, .inl ⟨rfl, _, lq (by rw [upd_ne hld]; exact hP.lst)⟩, iv y, rfl, l, _, iv y, rfl, rfl, by rw [upd_ne hld]; exact hP.lst, by rw [List.length_map]; exact small1000 (by omega), ?_⟩
          refine ⟨F ++ [y], _, ins y M', _, rfl, hP.add hl hld (List.mem_of_getElem? hx) hyR (hlt x y hyR) hm, by rw [List.length_append]; omega, by rw [List.getElem?_append_left hi]; exact hx, fun j x hj hx y hy => mem_ins.mpr (.inr (hcl j x hj ?_ y hy)), fun z hz => mem_ins.mpr (((etake z).mp hz).elim (fun g => .inr (hcl2 z g)) .inl)⟩
          rw [List.getElem?_append_left (by omega)] at hx
          exact hx
      · obtain ⟨F, kvs', M', b, rfl, hP, hi, hx, hcl, hcl2⟩ := h
        refine ⟨iv i, rfl, (i : Int), 1, rfl, rfl, n - (i + 1), ?_, i + 1, F, kvs', M', b, rfl, rfl, hP, hi, fun j y hj hy => ?_⟩
        · omega
        · by_cases e : j = i
          · rw [e, hx] at hy
            cases hy
            have e3 : (R x).take (ivs (R x)).length = R x := by simp [ivs]
            rw [e3] at hcl2
            exact hcl2
          · exact hcl j y (by omega) hy
    · rw [decide_eq_false hlt2]
      refine iteF ?_
      refine ⟨.ref l, rfl, q _ l F kvs' M' hP.sm hP.lst hP.dct hP.ds hP.mem hP.nd hP.lt hP.cin (fun x hx y hy => ?_) hP.con⟩
      obtain ⟨j, hj⟩ := List.getElem?_of_mem hx
      exact hcl j x (by have := (List.getElem?_eq_some_iff.mp hj).1; omega) hj y hy
end
end Wp
set_option maxHeartbeats 4000000
namespace PySem
open Sem (wp)
section
variable {prog : Program} {w : World} {A : Around} {E : Value → Shared → Prop} {s : Shared}
theorem call_min_twoH {a b : Value} {Q : Value → Shared → Prop}
    (h : wpAny (model prog w) A.in1 (pyIter (.ref s.heap.objs.size)) (fun it s₂ => ∃ I fp wr G n P St H bt, it = .ref I ∧ WalksS prog w A.in1 I fp wr G n P St ∧ St 0 s₂ ∧ (∀ b ∈ fp, b < s₂.heap.objs.size) ∧ 0 < n ∧
      (∀ b o, H.get? b = some o → b ∉ wr) ∧ (∀ b o, H.get? b = some o → s₂.heap.get? b = some o) ∧ CmpIn prog w A.in1 .Lt H P bt ∧ ∀ v s', P (argBest bt (n - 1)) v → Moved wr G s₂ s' → Q v s') E
      { s with heap := s.heap.push { cls := .type "tuple", data := .seq #[a, b] } }) :
    wpAny (model prog w) A (call (.builtin "min") [a, b]) Q E s := by
  have hname : (toString "min" ++ toString ".loop" : String) = "min.loop" := by decide
  refine call_function_tree F.kind_min F.plain_min F.entry_min (F.args_min2 _ _) ?_
  show wpAny _ A.in1 (Builtin.Builtins.bindParams "min" ["key", "default"] 0 ⟨[], []⟩ >>= _) _ _ s
  refine wpAny_bind (wpAny_of_eq (show Builtin.Builtins.bindParams "min" ["key", "default"] 0 ⟨[], []⟩ = pure [none, none] from rfl) ?_)
  show wpAny _ A.in1 (newTuple [a, b] >>= _) _ _ s
  refine wpAny_bind (wpAny_newObj_type ?_)
  refine wpAny_bind (wpAny_mono h (fun it s₂ h₂ => ?_) fun _ _ e => e)
  obtain ⟨I, fp, wr, G, n, P, St, H, bt, rfl, W, hst, hfp, hn, hw, hkeep, hcmp, hQ⟩ := h₂
  refine wpAny_bind (wpAny_newObj_type ?_)
  have hSf : s₂.heap.objs.size ∉ fp := fun hm => Nat.lt_irrefl _ (hfp _ hm)
  rw [hname]
  refine wpAny_pure ⟨plainId_quiet F.plain_min_loop _, codeAny_min_loop_firstH W H hw bt hcmp s₂.heap.objs.size hSf (fresh_in hkeep) _ hn (fun b o e => Heap.get?_push_of_some _ (hkeep b o e)) (W.frame 0 s₂ _ s₂.toks hst (Nat.le_refl _) fun b _ o e => Heap.get?_push_of_some _ e) (Heap.get?_push_size _ rfl) fun v s' hP hm => ?_⟩
  exact hQ v s' hP (Moved.drop_new (tk := s₂.toks) hm (Nat.le_refl _))
theorem call_max_twoH {a b : Value} {Q : Value → Shared → Prop}
    (h : wpAny (model prog w) A.in1 (pyIter (.ref s.heap.objs.size)) (fun it s₂ => ∃ I fp wr G n P St H bt, it = .ref I ∧ WalksS prog w A.in1 I fp wr G n P St ∧ St 0 s₂ ∧ (∀ b ∈ fp, b < s₂.heap.objs.size) ∧ 0 < n ∧
      (∀ b o, H.get? b = some o → b ∉ wr) ∧ (∀ b o, H.get? b = some o → s₂.heap.get? b = some o) ∧ CmpIn prog w A.in1 .Gt H P bt ∧ ∀ v s', P (argBest bt (n - 1)) v → Moved wr G s₂ s' → Q v s') E
      { s with heap := s.heap.push { cls := .type "tuple", data := .seq #[a, b] } }) :
    wpAny (model prog w) A (call (.builtin "max") [a, b]) Q E s := by
  have hname : (toString "max" ++ toString ".loop" : String) = "max.loop" := by decide
  refine call_function_tree F.kind_max F.plain_max F.entry_max (F.args_max2 _ _) ?_
  show wpAny _ A.in1 (Builtin.Builtins.bindParams "max" ["key", "default"] 0 ⟨[], []⟩ >>= _) _ _ s
  refine wpAny_bind (wpAny_of_eq (show Builtin.Builtins.bindParams "max" ["key", "default"] 0 ⟨[], []⟩ = pure [none, none] from rfl) ?_)
  show wpAny _ A.in1 (newTuple [a, b] >>= _) _ _ s
  refine wpAny_bind (wpAny_newObj_type ?_)
  refine wpAny_bind (wpAny_mono h (fun it s₂ h₂ => ?_) fun _ _ e => e)
  obtain ⟨I, fp, wr, G, n, P, St, H, bt, rfl, W, hst, hfp, hn, hw, hkeep, hcmp, hQ⟩ := h₂
  refine wpAny_bind (wpAny_newObj_type ?_)
  have hSf : s₂.heap.objs.size ∉ fp := fun hm => Nat.lt_irrefl _ (hfp _ hm)
  rw [hname]
  refine wpAny_pure ⟨plainId_quiet F.plain_max_loop _, codeAny_max_loop_firstH W H hw bt hcmp s₂.heap.objs.size hSf (fresh_in hkeep) _ hn (fun b o e => Heap.get?_push_of_some _ (hkeep b o e)) (W.frame 0 s₂ _ s₂.toks hst (Nat.le_refl _) fun b _ o e => Heap.get?_push_of_some _ e) (Heap.get?_push_size _ rfl) fun v s' hP hm => ?_⟩
  exact hQ v s' hP (Moved.drop_new (tk := s₂.toks) hm (Nat.le_refl _))
open W (dataLt AlikeAll reads_keeps iter_tupleW cmpIn_lt cmpIn_gt moved_old)
theorem min_two_data {a b : Value} {x y : PyData} {as bs : List Addr} {Q : Value → Shared → Prop} (hh : A.handled = none) (ra : Reads s.heap a x as) (rb : Reads s.heap b y bs) (ha : AlikeAll [x, y]) (hu : A.units + 1 + PyData.depthAll [x, y] < cLine)
    (h : ∀ h' tk, (∀ b o, s.heap.get? b = some o → h'.get? b = some o) → Q (if dataLt y x = true then b else a) { s with heap := h', toks := tk }) :
    wpAny (model prog w) A (call (.builtin "min") [a, b]) Q E s := by
  have k0 : ∀ c o, s.heap.get? c = some o → (s.heap.push { cls := .type "tuple", data := .seq #[a, b] }).get? c = some o := fun c o e => Heap.get?_push_of_some _ e
  have hr : ReadsAll (s.heap.push { cls := .type "tuple", data := .seq #[a, b] }) (#[a, b] : Array Value).toList [x, y] (as ++ (bs ++ [])) := .cons (reads_keeps k0 ra) (.cons (reads_keeps k0 rb) .nil)
  refine call_min_twoH (iter_tupleW (A := A.in1) (s := { s with heap := s.heap.push { cls := .type "tuple", data := .seq #[a, b] } }) (vs := #[a, b]) hh ⟨_, Heap.get?_push_size _ rfl, rfl, 0, rfl⟩ fun s₂ e W st hfp hw hk => ?_)
  refine ⟨_, _, _, _, _, _, _, s.heap.push { cls := .type "tuple", data := .seq #[a, b] }, _, rfl, W, st, hfp, (by show 0 < 2; decide), hw, hk, cmpIn_lt (A := A.in1) (s := { s with heap := s.heap.push { cls := .type "tuple", data := .seq #[a, b] } }) hr ha (by show A.units + 1 + _ < _; exact hu), fun v s' hP m => ?_⟩
  obtain ⟨h', tk, rfl, hk'⟩ := moved_old e rfl m
  have := h h' tk fun c o ec => hk' c o (k0 c o ec)
  have e1 : argBest (fun i j => dataLt ([x, y].getD i .none) ([x, y].getD j .none)) ((#[a, b] : Array Value).size - 1) = if dataLt y x = true then 1 else 0 := by
    show (if dataLt y x = true then 1 else 0) = _
    rfl
  rw [e1] at hP
  by_cases hd : dataLt y x = true
  · rw [if_pos hd] at hP this
    have : v = b := by simpa using hP.symm
    rw [this]; assumption
  · rw [if_neg hd] at hP this
    have : v = a := by simpa using hP.symm
    rw [this]; assumption
theorem max_two_data {a b : Value} {x y : PyData} {as bs : List Addr} {Q : Value → Shared → Prop} (hh : A.handled = none) (ra : Reads s.heap a x as) (rb : Reads s.heap b y bs) (ha : AlikeAll [x, y]) (hu : A.units + 1 + PyData.depthAll [x, y] < cLine)
    (h : ∀ h' tk, (∀ b o, s.heap.get? b = some o → h'.get? b = some o) → Q (if dataLt x y = true then b else a) { s with heap := h', toks := tk }) :
    wpAny (model prog w) A (call (.builtin "max") [a, b]) Q E s := by
  have k0 : ∀ c o, s.heap.get? c = some o → (s.heap.push { cls := .type "tuple", data := .seq #[a, b] }).get? c = some o := fun c o e => Heap.get?_push_of_some _ e
  have hr : ReadsAll (s.heap.push { cls := .type "tuple", data := .seq #[a, b] }) (#[a, b] : Array Value).toList [x, y] (as ++ (bs ++ [])) := .cons (reads_keeps k0 ra) (.cons (reads_keeps k0 rb) .nil)
  refine call_max_twoH (iter_tupleW (A := A.in1) (s := { s with heap := s.heap.push { cls := .type "tuple", data := .seq #[a, b] } }) (vs := #[a, b]) hh ⟨_, Heap.get?_push_size _ rfl, rfl, 0, rfl⟩ fun s₂ e W st hfp hw hk => ?_)
  refine ⟨_, _, _, _, _, _, _, s.heap.push { cls := .type "tuple", data := .seq #[a, b] }, _, rfl, W, st, hfp, (by show 0 < 2; decide), hw, hk, cmpIn_gt (A := A.in1) (s := { s with heap := s.heap.push { cls := .type "tuple", data := .seq #[a, b] } }) hr ha (by show A.units + 1 + _ < _; exact hu), fun v s' hP m => ?_⟩
  obtain ⟨h', tk, rfl, hk'⟩ := moved_old e rfl m
  have := h h' tk fun c o ec => hk' c o (k0 c o ec)
  have e1 : argBest (fun i j => dataLt ([x, y].getD j .none) ([x, y].getD i .none)) ((#[a, b] : Array Value).size - 1) = if dataLt x y = true then 1 else 0 := by
    show (if dataLt x y = true then 1 else 0) = _
    rfl
  rw [e1] at hP
  by_cases hd : dataLt x y = true
  · rw [if_pos hd] at hP this
    have : v = b := by simpa using hP.symm
    rw [this]; assumption
  · rw [if_neg hd] at hP this
    have : v = a := by simpa using hP.symm
    rw [this]; assumption
end
end PySem
namespace Wp
open PySem PySem.Spec PyProof.Rows L2
open PySem.W (dataLt AlikeAll AllAlike Sortable alike alikeAll dataLe EachIs)
/-- b = u < t -/
def tlt (t u : Nat × Nat) : Bool := decide (t.1 < u.1) || (decide (t.1 = u.1) && decide (t.2 < u.2))
theorem tD_alike (t u : Nat × Nat) : alike (tD t) (tD u) = true := rfl
theorem tD_lt (t u : Nat × Nat) : dataLt (tD t) (tD u) = tlt t u := by
  unfold dataLt tD tlt
  show lexLt itemOrd [.inl 1, .inl (t.1 : Int), .inl 1, .inl (t.2 : Int), .inl 0] [.inl 1, .inl (u.1 : Int), .inl 1, .inl (u.2 : Int), .inl 0] = _
  rw [lex_self (O := itemOrd)]
  by_cases h : t.1 = u.1
  · rw [show (Sum.inl (t.1 : Int) : Int ⊕ List Nat) = Sum.inl (u.1 : Int) by rw [h]]
    rw [lex_self (O := itemOrd), lex_self (O := itemOrd)]
    by_cases g : t.2 = u.2
    · rw [show (Sum.inl (t.2 : Int) : Int ⊕ List Nat) = Sum.inl (u.2 : Int) by rw [g]]
      rw [lex_self (O := itemOrd), lex_irrefl]
      simp [h, g]
    · rw [lex_diff (O := itemOrd) (fun z => g (by have := Sum.inl.inj z; omega))]
      show decide ((t.2 : Int) < (u.2 : Int)) = _
      simp [h]
  · rw [lex_diff (O := itemOrd) (fun z => h (by have := Sum.inl.inj z; omega))]
    show decide ((t.1 : Int) < (u.1 : Int)) = _
    simp [h]
section
variable {X : Cx}
def rMinT : List V → Hp → VK → Prop := fun xs H Q => ∃ v u t1 t2, xs = [v, u] ∧ TieV H v t1 ∧ TieV H u t2 ∧ Q (if tlt t2 t1 = true then u else v) H
def rMaxT : List V → Hp → VK → Prop := fun xs H Q => ∃ v u t1 t2, xs = [v, u] ∧ TieV H v t1 ∧ TieV H u t2 ∧ Q (if tlt t1 t2 = true then u else v) H
theorem call_minT (hc : X.calm = true) (hu : X.A.units + 65 < cLine) : CallR X (.builtin "min") rMinT := by
  intro pins s σ H xs us Q I r h
  obtain ⟨v, u, t1, t2, rfl, h1, h2, q⟩ := h
  obtain ⟨a, b, rfl, r1, r2⟩ := vals2 r
  obtain ⟨as, ra⟩ := Dp.reads I _ _ _ (tie_dp (K := X.K) h1) r1
  obtain ⟨bs, rb⟩ := Dp.reads I _ _ _ (tie_dp (K := X.K) h2) r2
  refine min_two_data (I.ok.hd hc) ra rb ⟨fun x hx y hy => ?_, fun x hx => ?_⟩ (by show X.A.units + 1 + 1 < _; omega) fun h' tk k => ⟨_, H, I.kept k, ?_, q⟩
  · simp at hx hy
    rcases hx with rfl | rfl <;> rcases hy with rfl | rfl <;> rfl
  · simp at hx
    rcases hx with rfl | rfl <;> exact fun z => by cases z
  · rw [tD_lt]
    by_cases e : tlt t2 t1 = true
    · rw [if_pos e, if_pos e]; exact r2
    · rw [if_neg e, if_neg e]; exact r1
theorem call_maxT (hc : X.calm = true) (hu : X.A.units + 65 < cLine) : CallR X (.builtin "max") rMaxT := by
  intro pins s σ H xs us Q I r h
  obtain ⟨v, u, t1, t2, rfl, h1, h2, q⟩ := h
  obtain ⟨a, b, rfl, r1, r2⟩ := vals2 r
  obtain ⟨as, ra⟩ := Dp.reads I _ _ _ (tie_dp (K := X.K) h1) r1
  obtain ⟨bs, rb⟩ := Dp.reads I _ _ _ (tie_dp (K := X.K) h2) r2
  refine max_two_data (I.ok.hd hc) ra rb ⟨fun x hx y hy => ?_, fun x hx => ?_⟩ (by show X.A.units + 1 + 1 < _; omega) fun h' tk k => ⟨_, H, I.kept k, ?_, q⟩
  · simp at hx hy
    rcases hx with rfl | rfl <;> rcases hy with rfl | rfl <;> rfl
  · simp at hx
    rcases hx with rfl | rfl <;> exact fun z => by cases z
  · rw [tD_lt]
    by_cases e : tlt t1 t2 = true
    · rw [if_pos e, if_pos e]; exact r2
    · rw [if_neg e, if_neg e]; exact r1
/-- sorted of data that are alike: some order of them -/
def rSortedD (K : PySem.W.Frag) : List V → Hp → VK → Prop := fun vs H Q => ∃ (a : Addr) (xs : List V) (ds : List PyData), vs = [V.ref a] ∧ SqL K H a xs ∧ DpAll K H xs ds ∧ AllAlike ds ∧ Sortable ds ∧ (∀ d ∈ ds, d.depth ≤ 60) ∧
  ∀ ys p, ys.Perm xs → H p = none → Q (.ref p) (upd H p (.lst ys))
theorem cr_sortedD (hu : X.A.units + 65 < cLine) : CallR X (.builtin "sorted") (rSortedD X.K) := by
  intro pins s σ H vs us Q I r h
  obtain ⟨a, xs, ds, rfl, hs, hd, hal, hso, hdep, q⟩ := h
  obtain ⟨its, rv, hl, hz⟩ := I.list hs
  obtain ⟨u, rfl, ru⟩ := vals1 r
  obtain rfl : u = Value.ref a := ru
  have key : ∀ {xs : List V} {ds : List PyData} {its : List Value}, DpAll X.K H xs ds → Vals xs its → ∃ bs : List (V × PyData), bs.map (·.2) = ds ∧ bs.map (·.1) = xs ∧ EachIs (fun u b => RelV b.1 u) its bs ∧ EachIs (fun u b => ∃ as, Reads s.heap u b.2 as) its bs := by
    intro xs
    induction xs with
    | nil =>
      intro ds its hd rv
      cases hd
      cases rv
      exact ⟨[], rfl, rfl, .nil, .nil⟩
    | cons x xs ih =>
      intro ds its hd rv
      cases hd with
      | cons hd hds =>
        cases rv with
        | cons rv rvs =>
          obtain ⟨bs, e1, e2, e3, e4⟩ := ih hds rvs
          exact ⟨(x, _) :: bs, by rw [List.map_cons, e1], by rw [List.map_cons, e2], .cons rv e3, .cons (Dp.reads I _ _ _ hd rv) e4⟩
  obtain ⟨bs, e1, e2, e3, e4⟩ := key hd rv
  have hlen : bs.length = xs.length := by rw [← e2, List.length_map]
  have hz2 : bs.length ≤ sizeLine := by
    rw [hlen]; exact hz
  refine PySem.W.sorted_data (enc := fun b : V × PyData => b.2) hl.isList e3 e4 (by rw [e1]; exact hal) (by rw [e1]; exact hso) hz2 (fun b hb => ?_) fun out ho eo => ?_
  · have := hdep b.2 (by rw [← e1]; exact List.mem_map.mpr ⟨b, hb, rfl⟩)
    omega
  · obtain ⟨ep, he'⟩ := PyProof.Rows.sortedAll_at s.heap its out.toArray
    have back : ∀ {out : List Value} {bs : List (V × PyData)}, EachIs (fun u b => RelV b.1 u) out bs → Vals (bs.map (·.1)) out := fun {out bs} h => by
      induction h with
      | nil => exact .nil
      | cons r _ ih => exact .cons r ih
    have hp : ((bs.mergeSort (dataLe false fun b : V × PyData => b.2)).map (·.1)).Perm xs := by
      rw [← e2]; exact (List.mergeSort_perm bs _).map _
    exact ⟨.ref _, upd H (s.heap.objs.size + 1) (.lst _), I.laid (t' := s.toks) (fun _ _ => PyProof.Rows.sortedAll_old) (Nat.le_succ _) ⟨by rw [hp.length_eq]; exact hz, out, ep, back eo, he'⟩, rfl, q _ _ hp (I.hok.fresh (Nat.le_succ _))⟩
theorem dataLt_min (x : PyData) : ∀ xs : List PyData, ∀ d ∈ x :: xs, dataLt d (PySem.W.minD x xs) = false := fun xs => by
  unfold PySem.W.minD
  induction xs generalizing x with
  | nil =>
    intro d hd
    simp at hd
    rw [hd]
    exact lex_irrefl (O := itemOrd) _
  | cons y xs ih =>
    intro d hd
    rw [List.foldl_cons]
    have key : ∀ u, (dataLt u (if dataLt y x = true then y else x) = false) → ∀ z, dataLt z (List.foldl (fun a y => if dataLt y a = true then y else a) (if dataLt y x = true then y else x) xs) = true → dataLt z u = true ∨ dataLt u (List.foldl (fun a y => if dataLt y a = true then y else a) (if dataLt y x = true then y else x) xs) = true := fun u _ z hz => lex_negTrans (O := itemOrd) _ _ _ hz
    rcases List.mem_cons.mp hd with rfl | hd
    · -- d = x
      cases e : dataLt d (List.foldl (fun a y => if dataLt y a = true then y else a) (if dataLt y d = true then y else d) xs) with
      | false => rfl
      | true =>
        have h0 := ih (if dataLt y d = true then y else d) (if dataLt y d = true then y else d) (by simp)
        by_cases h : dataLt y d = true
        · rw [if_pos h] at h0 e
          have := lex_trans (O := itemOrd) _ _ _ h e
          have h2 : dataLt y (List.foldl (fun a y => if dataLt y a = true then y else a) y xs) = true := this
          rw [h0] at h2; cases h2
        · rw [if_neg h] at h0 e
          rw [h0] at e; cases e
    · rcases List.mem_cons.mp hd with rfl | hd
      · cases e : dataLt d (List.foldl (fun a y => if dataLt y a = true then y else a) (if dataLt d x = true then d else x) xs) with
        | false => rfl
        | true =>
          have h0 := ih (if dataLt d x = true then d else x) (if dataLt d x = true then d else x) (by simp)
          by_cases h : dataLt d x = true
          · rw [if_pos h] at h0 e
            rw [h0] at e; cases e
          · rw [if_neg h] at h0 e
            rcases lex_negTrans (O := itemOrd) _ (PySem.W.keyToks x) _ e with h2 | h2
            · exact absurd h2 h
            · have h2 : dataLt x (List.foldl (fun a y => if dataLt y a = true then y else a) x xs) = true := h2
              rw [h0] at h2; cases h2
      · exact ih _ d (by simp [hd])
def rMinD (K : PySem.W.Frag) : List V → Hp → VK → Prop := fun vs H Q => ∃ (a : Addr) (xs : List V) (ds : List PyData), vs = [V.ref a] ∧ SqL K H a xs ∧ DpAll K H xs ds ∧ AlikeAll ds ∧ PyData.depthAll ds ≤ 60 ∧ xs ≠ [] ∧
  ∀ (i : Nat) (x : V) (d : PyData), xs[i]? = some x → ds[i]? = some d → (∀ d' ∈ ds, dataLt d' d = false) → Q x H
theorem dpAll_len {K : PySem.W.Frag} {H : Hp} : ∀ {xs : List V} {ds : List PyData}, DpAll K H xs ds → xs.length = ds.length
  | [], [], .nil => rfl
  | _ :: _, _ :: _, .cons _ h => by rw [List.length_cons, List.length_cons, dpAll_len h]
theorem dpAll_get {K : PySem.W.Frag} {H : Hp} : ∀ {xs : List V} {ds : List PyData} {i : Nat} {x : V} {d : PyData}, DpAll K H xs ds → xs[i]? = some x → ds[i]? = some d → Dp K H x d
  | _ :: _, _ :: _, 0, _, _, .cons h _, hx, hd => by
    simp at hx hd
    rw [← hx, ← hd]; exact h
  | _ :: _, _ :: _, i + 1, _, _, .cons _ h, hx, hd => dpAll_get (i := i) h (by simpa using hx) (by simpa using hd)
theorem call_minDD (hc : X.calm = true) (hu : X.A.units + 65 < cLine) : CallR X (.builtin "min") (rMinD X.K) := by
  intro pins s σ H vs us Q I r h
  obtain ⟨a, xs, ds, rfl, hs, hd, hal, hdep, hne, q⟩ := h
  obtain ⟨its, rv, hl, hz⟩ := I.list hs
  obtain ⟨u, rfl, ru⟩ := vals1 r
  obtain rfl : u = Value.ref a := ru
  obtain ⟨as, hr⟩ := Dp.readsAll I ds xs its hd rv
  cases ds with
  | nil =>
    cases hd
    exact absurd rfl hne
  | cons d0 ds =>
    refine PySem.W.min_list_data (I.ok.hd hc) hl.isList hr hal (by omega) fun i v h' tk bs hv hrd k => ?_
    have hv' : its[i]? = some v := by simpa using hv
    have hi : i < its.length := (List.getElem?_eq_some_iff.mp hv').1
    have hxl := rv.length
    have hdl := dpAll_len hd
    have hx : xs[i]? = some xs[i] := List.getElem?_eq_getElem (by omega)
    have hdd : (d0 :: ds)[i]? = some (d0 :: ds)[i] := List.getElem?_eq_getElem (by omega)
    generalize xs[i] = x at hx
    generalize (d0 :: ds)[i] = d at hdd
    have hrel : RelV x v := by
      have : ∀ {xs : List V} {us : List Value} {i : Nat}, Vals xs us → xs[i]? = some x → us[i]? = some v → RelV x v := fun {xs us} => by
        induction xs generalizing us with
        | nil => intro i _ h; simp at h
        | cons y xs ih =>
          intro i r h1 h2
          cases r with
          | cons r0 r =>
            cases i with
            | zero => simp at h1 h2; rw [← h1, ← h2]; exact r0
            | succ i => exact ih (i := i) r (by simpa using h1) (by simpa using h2)
      exact this rv hx hv'
    obtain ⟨as2, hr2⟩ := Dp.reads I d x v (dpAll_get hd hx hdd) hrel
    have hr3 := PySem.W.reads_keeps k hr2
    have hm : PySem.W.minD d0 ds ∈ d0 :: ds := by
      have : ∀ (x : PyData) (l : List PyData), PySem.W.minD x l ∈ x :: l := fun x l => by
        unfold PySem.W.minD
        induction l generalizing x with
        | nil => simp
        | cons y l ih =>
          rw [List.foldl_cons]
          by_cases h : dataLt y x = true
          · rw [if_pos h]
            exact List.mem_cons_of_mem _ (ih y)
          · rw [if_neg h]
            rcases List.mem_cons.mp (ih x) with h | h
            · rw [h]; simp
            · exact List.mem_cons_of_mem _ (List.mem_cons_of_mem _ h)
      exact this d0 ds
    have he : d = PySem.W.minD d0 ds := PySem.W.alike_unique d _ v _ _ (hal.1 _ (List.mem_of_getElem? hdd) _ hm) hr3 hrd
    refine ⟨x, H, I.kept k, hrel, q i x d hx hdd fun d' hd' => ?_⟩
    rw [he]
    exact dataLt_min d0 ds d' hd'
end
section
variable {X : Cx}
/-- tuple(xs), the object known: it has no dict of its own -/
theorem call_tuple_ofF : CallR X (.type "tuple") (fun xs H Q => ∃ p ys, xs = [.ref p] ∧ SqL X.K H p ys ∧ ∀ l o, H l = none → o.dict = none → Q (.ref l) (upd H l (.frz o (.tup ys)))) := by
  intro pins s σ H xs us Q I r h
  obtain ⟨p, ys, rfl, hq, q⟩ := h
  obtain ⟨u, rfl, rx⟩ := vals1 r
  cases rx
  obtain ⟨its, r', pl, hz⟩ := I.list hq
  have hlen := r'.length
  refine call_tuple_list pl.isList (fun h' kp => ?_) (by simp only [List.size_toArray] <;> omega)
  have I1 : Inv X pins σ H { s with heap := h' } := I.kept (t' := s.toks) kp
  have I2 : Inv X pins σ (upd H h'.objs.size (.frz { cls := .type "tuple", data := .seq its.toArray } (.tup ys))) { s with heap := h'.push { cls := .type "tuple", data := .seq its.toArray } } :=
    I1.laid (t' := s.toks) (fun b o e => Heap.get?_push_of_some _ e) (Nat.le_refl _) (show ObjOk X.prog X.w _ _ _ (.frz _ (.tup ys)) from ⟨Heap.get?_push_size _ rfl, hz, its, r', IsTup.new _ _⟩)
  exact ⟨.ref h'.objs.size, _, I2, rfl, q _ _ (I1.hok.fresh (Nat.le_refl _)) rfl⟩
end
end Wp
set_option maxHeartbeats 4000000
namespace Wp
open PySem PySem.Spec PyProof.Rows L2
open C8 (Cal pe_c pe_gc)
/-! parts -/
theorem Same.of_x {d : Addr} {H0 H H' : Hp} (h : Same H0 H) (hd : H0 d = none) (g : SameX d H H') : Same H0 H' := fun b x e => g b x (ne_of_none e hd) (h b x e)
/-- a part of the web -/
structure Part (n : Nat) (ts : List (Nat × Nat)) (p : List Nat) : Prop where
  nd : p.Nodup
  ne : p ≠ []
  lt : ∀ x ∈ p, x < n
  closed : ∀ x ∈ p, ∀ y, adj ts x y → y ∈ p
  con : ∃ c ∈ p, ∀ S : Nat → Prop, S c → (∀ x y, S x → adj ts x y → S y) → ∀ x ∈ p, S x
def NumsV (H : Hp) (v : V) (p : List Nat) : Prop := ∃ a, v = .ref a ∧ ∃ o : Obj, o.dict = none ∧ H a = some (.frz o (.tup (ivs p)))
theorem fq {K : PySem.W.Frag} {H : Hp} {p : Addr} {o : Obj} {xs : List V} (h : H p = some (.frz o (.tup xs))) : SqT K H p xs := .inl (.inr ⟨o, h⟩)
theorem NumsV.keep {H H' : Hp} {v : V} {p : List Nat} (h : NumsV H v p) (g : Same H H') : NumsV H' v p := by
  obtain ⟨a, e, o, ho, h⟩ := h
  exact ⟨a, e, o, ho, g _ _ h⟩
theorem ivs_dp {K : PySem.W.Frag} {H : Hp} : ∀ p : List Nat, DpAll K H (ivs p) (p.map fun (k : Nat) => .int (k : Int))
  | [] => .nil
  | k :: p => .cons (.int _) (ivs_dp p)
theorem alike_nats : ∀ p q : List Nat, PySem.W.alike (.tuple (p.map fun (k : Nat) => .int (k : Int))) (.tuple (q.map fun (k : Nat) => .int (k : Int))) = true
  | [], _ => rfl
  | _ :: _, [] => rfl
  | _ :: p, _ :: q => alike_nats p q
theorem depth_nats (p : List Nat) : (PyData.tuple (p.map fun (k : Nat) => .int (k : Int))).depth ≤ 60 := by
  have : PyData.depthAll (p.map fun (k : Nat) => .int (k : Int)) = 0 := by
    induction p with
    | nil => rfl
    | cons x p ih =>
      show max 0 (PyData.depthAll (p.map fun (k : Nat) => .int (k : Int))) = 0
      rw [ih]; rfl
  show PyData.depthAll _ + 1 ≤ 60
  rw [this]; omega
section
variable {P : Program} {w : World} {K : PySem.W.Frag} {mg : Str → Option Value} {base : Heap}
def spPartsOfWeb : Sp := fun vs H Q _ => ∃ (v : V) (e : Addr) (n : Nat) (ts : List (Nat × Nat)), vs = [v, .ref e] ∧ H e = some (.lst []) ∧ WebV H v n ts ∧ WebOk n ts ∧
  ∀ H' l vs, Same H H' → H' l = some (.lst vs) → (∀ v ∈ vs, ∃ p, NumsV H' v p ∧ Part n ts p) → (∀ x, x < n → ∃ v ∈ vs, ∃ p, NumsV H' v p ∧ x ∈ p) → Q (.ref l) H'
theorem k_parts_of_web (A : At K mg "parts_of_web" s_parts_of_web) (B : Bt mg) (C_neighbours_of : Cal P w K mg base 1 "neighbours_of" spNeighboursOf []) (C_part_from : Cal P w K mg base 1 "part_from" spPartFrom []) : Cal P w K mg base 2 "parts_of_web" spPartsOfWeb [] := by
  refine mk A sc_parts_of_web (fun _ _ _ _ _ _ us hl => match us, hl with | [_, _], _ => rfl) (fun vs H Q E h => ?_) (fun f cdv A outer s H vs Q E hr h => ?_)
  · obtain ⟨v, e, n, ts, rfl, _⟩ := h
    rfl
  · obtain ⟨v, e, n, ts, rfl, he, hw, ok, q⟩ := h
    refine ⟨_, (pss_cons (ps_par3 (i := 2) (j := 3) (l := 4) rfl sc_parts_of_web.nd rfl rfl rfl (by decide) (by decide) (by decide) rfl rfl rfl (pa_cons (pe_c C_neighbours_of hr (by decide) (by rfl) (pa_cons (pv 0) pa_nil)) (pa_cons (pe_callTy (call_dictP rfl) (by rfl) B.dict (by decide +kernel) (pa_cons (pe_lc (own := [("corner", 5)]) rfl sc_parts_of_web.nd (pi_list (pv 1)) (blkOk_by (N := ["web", "corners", "near", "met", "found", "corner"]) (sc := defScope s_parts_of_web) (by decide +kernel)) (fun _ _ _ _ _ => (pg_name (i := 5) sc_parts_of_web.nd rfl (.inl rfl) (.inr rfl))) (fun _ _ _ _ _ => pts_nil) (fun _ _ _ _ _ => (pe_tup (pa_cons (pv 5) (pa_cons pe_bl pa_nil))))) pa_nil)) (pa_cons (pe_lst pa_nil) pa_nil))) rfl)
    (pss_cons (ps_for PassesOwn.never rfl (pi_range1 (by rfl) B.range (pa_cons (pe_ix ix_tup (pv 0) pe_int (fun _ _ => rfl)) pa_nil)) (pg_name (i := 5) sc_parts_of_web.nd rfl (.inl rfl))
      (pss_one (ps_if (pt_cmp (pc_dnotin (hu_of hr) (pv 5) (pv 3)))
        (pss_one (ps_expr (pe_bm PySem.F.plainAttrs_list PySem.F.slot_list_append PySem.F.type_list_append mt_append (pv 4) (pa_cons (pe_callTy call_tuple_ofF (by rfl) B.tuple (by decide +kernel) (pa_cons (pe_callB cr_sorted (by rfl) B.sorted (by decide +kernel) (pa_cons (pe_c C_part_from hr (by decide) (by rfl) (pa_cons (pv 2) (pa_cons (pv 5) (pa_cons (pv 3) pa_nil)))) pa_nil)) pa_nil)) pa_nil))))
        pss_nil)))
    (pss_one (ps_ret (pe_callB (cr_sortedD (u65 hr)) (by rfl) B.sorted (by decide +kernel) (pa_cons (pv 4) pa_nil)))))), ?_⟩
    refine ⟨v, rfl, v, n, ts, rfl, hw, ok, fun H1 a R s1 hR hlen hmem => ?_⟩
    refine ⟨.ref e, rfl, e, rfl, ⟨_, lq (s1 _ _ he)⟩, fun D hD => ?_⟩
    refine lc0 (walk_list (K := K) (a := e) (xs := [])) (fun i H' => Same H1 H' ∧ H' D = some (.lst [])) ⟨same_upd hD, upd_same⟩ (fun i H' _ h => lq (h.1 _ _ (s1 _ _ he))) (fun i x H' H'' hi h hx => absurd hi (by simp)) (fun H2 h => ?_)
    obtain ⟨s2, hD2⟩ := h
    refine ⟨D, [], [], rfl, lq hD2, .nil, fun d hd => ?_⟩
    have s3 := same_upd (o := .dK (mergeK [] [])) hd
    refine ⟨by show 0 ≤ sizeLine; omega, fun l hl => ⟨_, _, _, rfl, ?_⟩⟩
    have s4 := same_upd (o := .lst []) hl
    have sA : Same H (upd (upd H2 d (.dK (mergeK [] []))) l (.lst [])) := Same.trans s1 (Same.trans s2 (Same.trans s3 s4))
    have hld : l ≠ d := fun z => by rw [z, upd_same] at hl; cases hl
    obtain ⟨p, tp, ws, rfl, hp, ht, hts⟩ := id hw
    have hdH : H1 d = none := none_of_same s2 hd
    have hlH : H1 l = none := none_of_same (Same.trans s2 s3) hl
    have hRn : ∀ i j, j ∈ R i → j < n := fun i j h => by
      rcases (hmem i j).mp h with h | h
      · exact (ok.lt _ h).2
      · have := ok.lt _ h
        omega
    have hn := ok.hi
    refine ⟨.ref p, rfl, p, _, 1, iv n, rfl, rfl, tq (sA _ _ hp), atI_nat (j := 1) rfl, n, rfl, by omega, by omega, ?_⟩
    refine for_it walk_range (fun i σ H' => (∃ b, σ = [some (.ref p), some (.ref e), some (.ref a), some (.ref d), some (.ref l), b]) ∧ Same H1 H' ∧ ∃ kvs M vs, H' d = some (.dK kvs) ∧ DS nK kvs M (.bl true) ∧ (∀ x ∈ M, x < n) ∧ H' l = some (.lst vs) ∧ vs.length ≤ i ∧
        (∀ v ∈ vs, ∃ p, NumsV H' v p ∧ Part n ts p) ∧ (∀ x ∈ M, ∃ v ∈ vs, ∃ p, NumsV H' v p ∧ x ∈ p) ∧ (∀ x ∈ M, ∀ y, adj ts x y → y ∈ M) ∧ ∀ x, x < i → x ∈ M)
      ⟨⟨none, rfl⟩, Same.trans s2 (Same.trans s3 s4), [], [], [], by rw [upd_ne (Ne.symm hld), upd_same]; rfl, DD.nil0, by simp, upd_same, Nat.le_refl 0, by simp, by simp, by simp, by simp⟩ (fun i σ H' _ h => trivial) (fun i x σ H' H'' hi h hx => ?_) (fun σ H' h => ?_)
    · obtain ⟨⟨b, rfl⟩, sH, kvs, M, vs, hd', DM, hM, hl', hvl, hvs, hMv, hMc, hMi⟩ := h
      obtain ⟨rfl, hx⟩ := hx
      obtain rfl : x = iv i := hx.trans (by show V.int (0 + (i : Int)) = iv i; rw [Int.zero_add])
      have hi : i < n := by omega
      have hR' := hR.keep sH
      refine ⟨iv i, rfl, .ref d, rfl, d, _, rfl, DGet.k (k := nK i) hd', ?_⟩
      rw [DM.val, isSome_if]
      by_cases hm : i ∈ M
      · rw [decide_eq_true hm]
        refine ⟨_, rfl, iteF ?_⟩
        refine ⟨⟨_, rfl⟩, sH, kvs, M, vs, hd', DM, hM, hl', by omega, hvs, hMv, hMc, fun x hx => ?_⟩
        by_cases e : x = i
        · rw [e]; exact hm
        · exact hMi x (by omega)
      · rw [decide_eq_false hm]
        refine ⟨_, rfl, iteT ?_⟩
        refine ⟨.ref l, rfl, .inl ⟨rfl, _, lq hl'⟩, ?_⟩
        refine ⟨.ref a, rfl, iv i, rfl, .ref d, rfl, a, d, n, i, R, kvs, M, rfl, hR', hn, fun i => (hlen i).1, hRn, hi, hd', DM, hm, hM, ?_⟩
        intro H3 l3 F kvs' M' sx hl3 hd3 DM' hM' hF hFlt hFc hFcl hFcon
        have hFn := length_of hF fun x hx => (hFlt x hx).1
        refine ⟨l3, F.map (fun (k : Nat) => (k : Int)), rfl, lq (by rw [hl3]; simp [ivs]), by rw [List.length_map]; omega, fun ns l4 hns hsr h4 => ?_⟩
        obtain ⟨ms, rfl, hms⟩ := nats_of_perm hns
        refine ⟨l4, _, rfl, lq upd_same, fun l5 o5 h5 ho5 => ?_⟩
        have s5 : SameX d H'' (upd (upd H3 l4 (.lst ((ms.map fun (k : Nat) => (k : Int)).map V.int))) l5 (.frz o5 (.tup ((ms.map fun (k : Nat) => (k : Int)).map V.int)))) := SameX.trans sx (Same.x (Same.trans (same_upd h4) (same_upd h5)))
        have hlv : upd (upd H3 l4 (.lst ((ms.map fun (k : Nat) => (k : Int)).map V.int))) l5 (.frz o5 (.tup ((ms.map fun (k : Nat) => (k : Int)).map V.int))) l = some (.lst vs) := s5 _ _ (fun z => by rw [z, hd'] at hl'; cases hl') hl'
        refine ⟨l, vs, .ref l5, rfl, rfl, hlv, small1000 (by omega), ?_⟩
        generalize hH5 : upd (upd H3 l4 (.lst ((ms.map fun (k : Nat) => (k : Int)).map V.int))) l5 (.frz o5 (.tup ((ms.map fun (k : Nat) => (k : Int)).map V.int))) = H5 at s5 hlv ⊢
        have h5t : H5 l5 = some (.frz o5 (.tup (ivs ms))) := by rw [← hH5, upd_same]; simp [ivs]
        have hl5l : l5 ≠ l := fun z => by rw [z, hlv] at h5t; cases h5t
        have h5d : H5 d = some (.dK kvs') := by
          rw [← hH5, upd_ne (ne_of_none (same_upd h4 _ _ hd3) h5), upd_ne (ne_of_none hd3 h4)]; exact hd3
        have hdl : d ≠ l := fun z => by rw [z, hl'] at hd'; cases hd'
        have keepN : ∀ {v : V} {p : List Nat}, NumsV H'' v p → NumsV (upd H5 l (.lst (vs ++ [.ref l5]))) v p := fun {v p} h => by
          obtain ⟨z, rfl, o, ho, hz⟩ := h
          refine ⟨z, rfl, o, ho, ?_⟩
          rw [upd_ne (fun e => by rw [e, hl'] at hz; cases hz)]
          exact s5 _ _ (fun e => by rw [e, hd'] at hz; cases hz) hz
        have hN5 : NumsV (upd H5 l (.lst (vs ++ [.ref l5]))) (.ref l5) ms := ⟨l5, rfl, o5, ho5, by rw [upd_ne hl5l]; exact h5t⟩
        have hPart : Part n ts ms := by
          refine ⟨hms.nodup_iff.mpr hF, fun e => ?_, fun x hx => (hFlt x (hms.mem_iff.mp hx)).1, fun x hx y hy => ?_, i, hms.mem_iff.mpr hFc, fun S h0 hs x hx => hFcon S h0 (fun x y h g => hs x y h ((hmem x y).mp g)) x (hms.mem_iff.mp hx)⟩
          · have := hms.mem_iff.mpr hFc
            rw [e] at this; simp at this
          · have hxF := hms.mem_iff.mp hx
            have := hFcl x hxF y ((hmem x y).mpr hy)
            rcases (hM' y).mp this with h | h
            · exact absurd (hMc y h x (Or.symm hy)) (hFlt x hxF).2
            · exact hms.mem_iff.mpr h
        have sH5 : Same H1 (upd H5 l (.lst (vs ++ [.ref l5]))) := same_list hlH (Same.of_x sH hdH s5)
        refine ⟨⟨_, rfl⟩, sH5, kvs', M', vs ++ [.ref l5], by rw [upd_ne hdl]; exact h5d, DM', fun x hx => ?_, upd_same, by rw [List.length_append]; simp; omega, fun v hv => ?_, fun x hx => ?_, fun x hx y hy => ?_, fun x hx => ?_⟩
        · rcases (hM' x).mp hx with h | h
          · exact hM x h
          · exact (hFlt x h).1
        · rcases List.mem_append.mp hv with h | h
          · obtain ⟨p, h1, h2⟩ := hvs v h
            exact ⟨p, keepN h1, h2⟩
          · simp at h
            rw [h]
            exact ⟨ms, hN5, hPart⟩
        · rcases (hM' x).mp hx with h | h
          · obtain ⟨v, hv, p, h1, h2⟩ := hMv x h
            exact ⟨v, List.mem_append_left _ hv, p, keepN h1, h2⟩
          · exact ⟨.ref l5, by simp, ms, hN5, hms.mem_iff.mpr h⟩
        · rcases (hM' x).mp hx with h | h
          · exact (hM' y).mpr (.inl (hMc x h y hy))
          · exact hFcl x h y ((hmem x y).mpr hy)
        · by_cases e : x = i
          · rw [e]; exact (hM' i).mpr (.inr hFc)
          · exact (hM' x).mpr (.inl (hMi x (by omega)))
    · obtain ⟨⟨b, rfl⟩, sH, kvs, M, vs, hd', DM, hM, hl', hvl, hvs, hMv, hMc, hMi⟩ := h
      have hD3 : ∀ vs : List V, (∀ v ∈ vs, ∃ p, NumsV H' v p ∧ Part n ts p) → ∃ ds, DpAll K H' vs ds ∧ (∀ d ∈ ds, ∃ x xs, d = .tuple ((x :: xs).map fun (k : Nat) => .int (k : Int))) := fun vs => by
        induction vs with
        | nil => intro _; exact ⟨[], .nil, by simp⟩
        | cons v vs ih =>
          intro h
          obtain ⟨ds, h1, h2⟩ := ih fun v hv => h v (.tail _ hv)
          obtain ⟨p, ⟨z, rfl, o, _, hz⟩, hp⟩ := h v (.head _)
          refine ⟨.tuple (p.map fun (k : Nat) => .int (k : Int)) :: ds, .cons (.tup (fq hz) (ivs_dp p)) h1, fun d hd => ?_⟩
          rcases List.mem_cons.mp hd with h | h
          · cases p with
            | nil => exact absurd rfl hp.ne
            | cons x xs => exact ⟨x, xs, h⟩
          · exact h2 d h
      obtain ⟨ds, hds, hdt⟩ := hD3 vs hvs
      refine ⟨.ref l, rfl, l, vs, ds, rfl, lq hl', hds, fun d hd d' hd' => ?_, .inl fun d hd => ?_, fun d hd => ?_, fun ys z hy hz => ?_⟩
      · obtain ⟨x, xs, rfl⟩ := hdt d hd
        obtain ⟨x', xs', rfl⟩ := hdt d' hd'
        exact alike_nats _ _
      · obtain ⟨x, xs, rfl⟩ := hdt d hd
        exact ⟨_, _, rfl⟩
      · obtain ⟨x, xs, rfl⟩ := hdt d hd
        exact depth_nats _
      · have s7 := same_upd (o := .lst ys) hz
        refine q _ z ys (Same.trans s1 (Same.trans sH s7)) upd_same (fun v hv => ?_) fun x hx => ?_
        · obtain ⟨p, h1, h2⟩ := hvs v (hy.mem_iff.mp hv)
          exact ⟨p, h1.keep s7, h2⟩
        · obtain ⟨v, hv, p, h1, h2⟩ := hMv x (hMi x (by omega))
          exact ⟨v, hy.mem_iff.mpr hv, p, h1.keep s7, h2⟩
end
end Wp
set_option maxHeartbeats 4000000
namespace Wp
open PySem PySem.Spec PyProof.Rows L2
open C8 (Cal pe_c pe_gc)
/-! dicts of lists of numbers -/
structure NearA (H : Hp) (d : Addr) (kvs : List (Key × V)) (ks : List Nat) (ad : Nat → Addr) (R : Nat → List Nat) : Prop where
  at_ : H d = some (.dK kvs)
  dd : DD nK kvs ks fun a => if a ∈ ks then some (.ref (ad a)) else none
  row : ∀ a ∈ ks, H (ad a) = some (.lst (ivs (R a)))
  inj : ∀ a ∈ ks, ∀ b ∈ ks, ad a = ad b → a = b
  emp : ∀ a, a ∉ ks → R a = []
theorem NearA.keep {H H' : Hp} {d : Addr} {kvs : List (Key × V)} {ks : List Nat} {ad : Nat → Addr} {R : Nat → List Nat} (h : NearA H d kvs ks ad R) (g : Same H H') : NearA H' d kvs ks ad R :=
  ⟨g _ _ h.at_, h.dd, fun a ha => g _ _ (h.row a ha), h.inj, h.emp⟩
structure NearG (H0 H : Hp) (d : Addr) (kvs : List (Key × V)) (ks : List Nat) (ad : Nat → Addr) (R : Nat → List Nat) : Prop extends NearA H d kvs ks ad R where
  sm : Same H0 H
  d0 : H0 d = none
  fresh : ∀ a ∈ ks, H0 (ad a) = none
theorem NearA.ne {H : Hp} {d : Addr} {kvs : List (Key × V)} {ks : List Nat} {ad : Nat → Addr} {R : Nat → List Nat} (h : NearA H d kvs ks ad R) {a : Nat} (ha : a ∈ ks) : ad a ≠ d := fun e => by
  have := h.row a ha
  rw [e, h.at_] at this; cases this
theorem tie_ne {H H' : Hp} {p : Addr} (h : H p = none) (g : H' p ≠ none) : H ≠ H' := fun e => g (e ▸ h)
theorem near_put {K : PySem.W.Frag} {H0 H : Hp} {d : Addr} {kvs : List (Key × V)} {ks : List Nat} {ad : Nat → Addr} {R : Nat → List Nat} (G : NearG H0 H d kvs ks ad R) {x y i j : Nat} {σ : L2.St} (h1 : σ[1]? = some (some (.ref d))) (hi : σ[i]? = some (some (iv x))) (hj : σ[j]? = some (some (iv y)))
    (hk : ks.length ≤ 1000) (hx : (R x).length ≤ 1000) {Q : Hp → Prop} (q : ∀ H' kvs' ad', NearG H0 H' d kvs' (ins x ks) ad' (fun a => if a = x then R x ++ [y] else R a) → Q H') :
    (tBM K "list" rAppend (tDSetd (tVar 1) (tVar i) (tLst tNil)) (tCons (tVar j) tNil)) σ H fun _ H' => Q H' := by
  refine ⟨.ref d, h1, d, rfl, .inl ⟨kvs, .inl G.at_⟩, iv x, hi, by show 0 ≤ sizeLine; omega, fun p hp => ?_⟩
  have hpd : p ≠ d := fun e => by rw [e, G.at_] at hp; cases hp
  have hp0 : H0 p = none := none_of_same G.sm hp
  refine ⟨kvs, nK x, by rw [upd_ne (Ne.symm hpd)]; exact G.at_, rfl, by rw [G.dd.len]; exact small1000 hk, fun v hv => ?_, fun hv => ?_⟩
  · -- there
    rw [G.dd.val] at hv
    have hm : x ∈ ks := by
      by_cases hm : x ∈ ks
      · exact hm
      · rw [if_neg hm] at hv; cases hv
    rw [if_pos hm] at hv
    cases hv
    have hr := G.row x hm
    have hne := G.ne hm
    have hpa : ∀ a ∈ ks, p ≠ ad a := fun a ha e => by rw [e, G.row a ha] at hp; cases hp
    have hr2 : upd H p (.lst []) (ad x) = some (.lst (ivs (R x))) := by rw [upd_ne (Ne.symm (hpa x hm))]; exact hr
    refine ⟨.inl ⟨rfl, _, lq hr2⟩, iv y, hj, ad x, _, iv y, rfl, rfl, hr2, by rw [List.length_map]; exact small1000 hx, ?_⟩
    have hi : ins x ks = ks := by unfold ins; rw [if_pos hm]
    refine q _ kvs ad ?_
    rw [hi]
    refine { at_ := ?_, dd := G.dd, row := fun a ha => ?_, inj := G.inj, emp := fun a ha => ?_, sm := ?_, d0 := G.d0, fresh := G.fresh }
    · rw [upd_ne (Ne.symm hne), upd_ne (Ne.symm hpd)]; exact G.at_
    · by_cases e : a = x
      · rw [e, upd_same, if_pos rfl]; simp [ivs]
      · rw [if_neg e, upd_ne (fun z => e (G.inj a ha x hm z)), upd_ne (Ne.symm (hpa a ha))]
        exact G.row a ha
    · rw [if_neg (fun (e : a = x) => ha (e ▸ hm))]; exact G.emp a ha
    · exact same_list (G.fresh x hm) (same_list hp0 G.sm)
  · have hm : x ∉ ks := fun hm => by
      rw [G.dd.val, if_pos hm] at hv; cases hv
    have hr2 : upd (upd H p (.lst [])) d (.dK (putK kvs (nK x) (.ref p))) p = some (.lst []) := by rw [upd_ne hpd, upd_same]
    refine ⟨.inl ⟨rfl, _, lq hr2⟩, iv y, hj, p, _, iv y, rfl, rfl, hr2, by show 0 < sizeLine; rw [sizeLine_eq]; omega, ?_⟩
    have hi : ins x ks = ks ++ [x] := by unfold ins; rw [if_neg hm]
    have hpa : ∀ a ∈ ks, p ≠ ad a := fun a ha e => by rw [e, G.row a ha] at hp; cases hp
    have hax : ∀ a ∈ ks, a ≠ x := fun a ha e => hm (e ▸ ha)
    refine q _ (putK kvs (nK x) (.ref p)) (fun a => if a = x then p else ad a) ?_
    have D := DD.put (fun a b => nK_inj) G.dd x (.ref p)
    rw [if_neg hm] at D
    rw [hi]
    refine { at_ := ?_, dd := ⟨D.keys, D.nd, fun b => ?_, fun b => ?_⟩, row := fun a ha => ?_, inj := fun a ha b hb e => ?_, emp := fun a ha => ?_, sm := ?_, d0 := G.d0, fresh := fun a ha => ?_ }
    · rw [upd_ne (Ne.symm hpd), upd_same]
    · rw [D.val]
      by_cases e : b = x
      · rw [if_pos e, if_pos (by simp [e]), if_pos e]
      · rw [if_neg e]
        by_cases hb : b ∈ ks
        · rw [if_pos hb, if_pos (List.mem_append_left _ hb), if_neg e]
        · rw [if_neg hb, if_neg (by simp [hb, e])]
    · by_cases hb : b ∈ ks ++ [x]
      · simp only [hb, if_true, Option.isSome_some]
      · simp only [hb, if_false, Option.isSome_none]; simp
    · by_cases e : a = x
      · rw [if_pos e, if_pos e, upd_same, G.emp x hm]; rfl
      · have hk : a ∈ ks := by
          rcases List.mem_append.mp ha with h | h
          · exact h
          · simp at h; exact absurd h e
        rw [if_neg e, if_neg e, upd_ne (Ne.symm (hpa a hk)), upd_ne (G.ne hk), upd_ne (Ne.symm (hpa a hk))]
        exact G.row a hk
    · have mem : ∀ {a}, a ∈ ks ++ [x] → a = x ∨ a ∈ ks := fun {a} h => by
        rcases List.mem_append.mp h with h | h
        · exact .inr h
        · simp at h; exact .inl h
      by_cases ea : a = x
      · by_cases eb : b = x
        · rw [ea, eb]
        · rw [if_pos ea, if_neg eb] at e
          exact absurd e (hpa b ((mem hb).resolve_left eb))
      · by_cases eb : b = x
        · rw [if_neg ea, if_pos eb] at e
          exact absurd e.symm (hpa a ((mem ha).resolve_left ea))
        · rw [if_neg ea, if_neg eb] at e
          exact G.inj a ((mem ha).resolve_left ea) b ((mem hb).resolve_left eb) e
    · have h1 : a ∉ ks := fun h => ha (List.mem_append_left _ h)
      have h2 : a ≠ x := fun h => ha (by simp [h])
      rw [if_neg h2]; exact G.emp a h1
    · exact same_list hp0 (fun b o e => by rw [upd_ne (ne_of_none e G.d0)]; exact same_list hp0 G.sm b o e)
    · by_cases e : a = x
      · rw [if_pos e]; exact hp0
      · rw [if_neg e]
        rcases List.mem_append.mp ha with h | h
        · exact G.fresh a h
        · simp at h; exact absurd h e
theorem adj_snoc {ts : List (Nat × Nat)} {i : Nat} {t : Nat × Nat} (h : ts[i]? = some t) (k j : Nat) : adj (ts.take (i + 1)) k j ↔ adj (ts.take i) k j ∨ (k = t.1 ∧ j = t.2) ∨ (k = t.2 ∧ j = t.1) := by
  unfold adj
  rw [List.take_add_one, h]
  simp only [Option.toList, List.mem_append, List.mem_singleton]
  constructor
  · rintro ((h | h) | (h | h))
    · exact .inl (.inl h)
    · exact .inr (.inl ⟨by rw [← h], by rw [← h]⟩)
    · exact .inl (.inr h)
    · exact .inr (.inr ⟨by rw [← h], by rw [← h]⟩)
  · rintro ((h | h) | ⟨h1, h2⟩ | ⟨h1, h2⟩)
    · exact .inl (.inl h)
    · exact .inr (.inl h)
    · exact .inl (.inr (Prod.ext h1 h2))
    · exact .inr (.inr (Prod.ext h2 h1))
theorem mem_two {R : Nat → List Nat} {t : Nat × Nat} {k j : Nat} : j ∈ (if k = t.2 then (if t.2 = t.1 then R t.1 ++ [t.2] else R t.2) ++ [t.1] else if k = t.1 then R t.1 ++ [t.2] else R k) ↔ j ∈ R k ∨ (k = t.1 ∧ j = t.2) ∨ (k = t.2 ∧ j = t.1) := by
  by_cases e : k = t.2
  · rw [if_pos e]
    by_cases e1 : t.2 = t.1
    · rw [if_pos e1]
      simp only [List.mem_append, List.mem_singleton]
      rw [e, e1]
      constructor
      · rintro ((h | h) | h)
        · exact .inl h
        · exact .inr (.inl ⟨by trivial, h⟩)
        · exact .inr (.inr ⟨by trivial, h⟩)
      · rintro (h | ⟨_, h⟩ | ⟨_, h⟩)
        · exact .inl (.inl h)
        · exact .inl (.inr h)
        · exact .inr h
    · rw [if_neg e1]
      simp only [List.mem_append, List.mem_singleton]
      rw [e]
      constructor
      · rintro (h | h)
        · exact .inl h
        · exact .inr (.inr ⟨by trivial, h⟩)
      · rintro (h | ⟨h, _⟩ | ⟨_, h⟩)
        · exact .inl h
        · exact absurd h e1
        · exact .inr h
  · rw [if_neg e]
    by_cases e1 : k = t.1
    · rw [if_pos e1]
      simp only [List.mem_append, List.mem_singleton]
      rw [e1]
      constructor
      · rintro (h | h)
        · exact .inl h
        · exact .inr (.inl ⟨by trivial, h⟩)
      · rintro (h | ⟨_, h⟩ | ⟨h, _⟩)
        · exact .inl h
        · exact .inr h
        · exact absurd (e1.trans h) e
    · rw [if_neg e1]
      constructor
      · exact .inl
      · rintro (h | ⟨h, _⟩ | ⟨h, _⟩)
        · exact h
        · exact absurd h e1
        · exact absurd h e
section
variable {P : Program} {w : World} {K : PySem.W.Frag} {mg : Str → Option Value} {base : Heap}
def spNearByL : Sp := fun vs H Q _ => ∃ (a : Addr) (xs : List V) (ts : List (Nat × Nat)), vs = [.ref a] ∧ H a = some (.lst xs) ∧ Paired (TieV H) xs ts ∧ ts.length ≤ 400 ∧
  ∀ H' d kvs ks ad R, Same H H' → NearA H' d kvs ks ad R → ks.length ≤ 800 → (∀ a b, b ∈ R a ↔ adj ts a b) → (∀ a, a ∈ ks ↔ ∃ b, adj ts a b) → (∀ a, (R a).length ≤ 800) → Q (.ref d) H'
theorem k_near_byL (A : At K mg "near_by" s_near_by) (B : Bt mg) : Cal P w K mg base 1 "near_by" spNearByL [] := by
  refine mk A sc_near_by (fun _ _ _ _ _ _ us hl => match us, hl with | [_], _ => rfl) (fun vs H Q E h => ?_) (fun f cdv A outer s H vs Q E hr h => ?_)
  · obtain ⟨a, xs, ts, rfl, _⟩ := h
    rfl
  · obtain ⟨a, xs, ts, rfl, ha, hts, hlen, q⟩ := h
    refine ⟨_, (pss_cons (ps_set (i := 1) sc_near_by.nd rfl (.inl rfl) pe_dnewK)
    (pss_cons (ps_for PassesOwn.never rfl (pi_list (pv 0)) (pg_tup rfl (pgs_cons (pg_name (i := 2) sc_near_by.nd rfl (.inl rfl)) (pgs_cons (pg_name (i := 3) sc_near_by.nd rfl (.inl rfl)) pgs_nil)))
      (pss_cons (ps_expr (pe_bm PySem.F.plainAttrs_list PySem.F.slot_list_append PySem.F.type_list_append mt_append (pe_dsetd (pv 1) (pv 2) (pe_lst pa_nil) ⟨rfl, rfl, rfl, rfl⟩) (pa_cons (pv 3) pa_nil)))
      (pss_one (ps_expr (pe_bm PySem.F.plainAttrs_list PySem.F.slot_list_append PySem.F.type_list_append mt_append (pe_dsetd (pv 1) (pv 3) (pe_lst pa_nil) ⟨rfl, rfl, rfl, rfl⟩) (pa_cons (pv 2) pa_nil))))))
    (pss_one (ps_ret (pv 1))))), ?_⟩
    intro d hd
    refine ⟨.ref a, rfl, a, rfl, ⟨_, lq (same_upd hd _ _ ha)⟩, ?_⟩
    have hl := paired_len hts
    refine for_it (walk_list (K := K) (a := a) (xs := xs)) (fun i σ H' => (∃ b c, σ = [some (.ref a), some (.ref d), b, c]) ∧ ∃ kvs ks ad R, NearG H H' d kvs ks ad R ∧ ks.length ≤ 2 * i ∧ (∀ a, (R a).length ≤ 2 * i) ∧ (∀ a b, b ∈ R a ↔ adj (ts.take i) a b) ∧ (∀ a, a ∈ ks ↔ ∃ b, adj (ts.take i) a b))
      ⟨⟨none, none, rfl⟩, [], [], fun _ => 0, fun _ => [], { at_ := upd_same, dd := ⟨rfl, by simp, fun _ => rfl, fun _ => by simp⟩, row := by simp, inj := by simp, emp := fun _ _ => rfl, sm := same_upd hd, d0 := hd, fresh := by simp }, Nat.le_refl 0, fun _ => Nat.le_refl 0, fun a b => by simp [adj], fun a => by simp [adj]⟩
      (fun i σ H' _ h => ?_) (fun i x σ H' H'' hi h hx => ?_) (fun σ H' h => ?_)
    · obtain ⟨_, kvs, ks, ad, R, G, _⟩ := h
      exact lq (G.sm _ _ ha)
    · obtain ⟨⟨b, c, rfl⟩, kvs, ks, ad, R, G, hk, hR, hm, hks⟩ := h
      obtain ⟨rfl, hx⟩ := hx
      obtain ⟨t, ht, r⟩ := paired_get hts hx
      obtain ⟨pp, rfl, hpp⟩ := r.keep (Same.tups G.sm)
      have hi' : i < ts.length := (List.getElem?_eq_some_iff.mp ht).1
      refine ⟨pp, _, rfl, tq hpp, rfl, iv t.1, _, rfl, iv t.2, [], rfl, rfl, ?_⟩
      refine near_put (x := t.1) (y := t.2) G rfl rfl rfl (by omega) (by have := hR t.1; omega) fun H2 kvs2 ad2 G2 => ?_
      refine near_put (x := t.2) (y := t.1) G2 rfl rfl rfl (by have := ins_len t.1 ks; omega) ?_ fun H3 kvs3 ad3 G3 => ?_
      · have := hR t.1
        have := hR t.2
        by_cases e : t.2 = t.1
        · rw [if_pos e, List.length_append]; simp; omega
        · rw [if_neg e]; omega
      · refine ⟨⟨_, _, rfl⟩, kvs3, _, ad3, _, G3, ?_, fun k => ?_, fun k j => ?_, fun k => ?_⟩
        · have := ins_len t.2 (ins t.1 ks)
          have := ins_len t.1 ks
          omega
        · have h1 := hR k
          have h2 := hR t.1
          have h3 := hR t.2
          by_cases e : k = t.2
          · rw [if_pos e]
            by_cases e1 : t.2 = t.1
            · rw [if_pos e1, List.length_append, List.length_append]; simp; omega
            · rw [if_neg e1, List.length_append]; simp; omega
          · rw [if_neg e]
            by_cases e1 : k = t.1
            · rw [if_pos e1, List.length_append]; simp; omega
            · rw [if_neg e1]; omega
        · rw [adj_snoc ht, ← hm]
          exact mem_two
        · rw [mem_ins, mem_ins, hks]
          constructor
          · rintro (h | h | ⟨b, h⟩)
            · exact ⟨t.1, (adj_snoc ht k _).mpr (.inr (.inr ⟨h, rfl⟩))⟩
            · exact ⟨t.2, (adj_snoc ht k _).mpr (.inr (.inl ⟨h, rfl⟩))⟩
            · exact ⟨b, (adj_snoc ht k _).mpr (.inl h)⟩
          · rintro ⟨b, h⟩
            rcases (adj_snoc ht k _).mp h with h | ⟨h, _⟩ | ⟨h, _⟩
            · exact .inr (.inr ⟨b, h⟩)
            · exact .inr (.inl h)
            · exact .inl h
    · obtain ⟨⟨b, c, rfl⟩, kvs, ks, ad, R, G, hk, hR, hm, hks⟩ := h
      have e : ts.take xs.length = ts := by rw [hl, List.take_length]
      rw [e] at hm hks
      refine ⟨.ref d, rfl, q _ d kvs ks ad R G.sm G.toNearA (by omega) hm hks fun a => by have := hR a; omega⟩
def spNearByT : Sp := fun vs H Q _ => ∃ (a : Addr) (xs : List V) (ts : List (Nat × Nat)), vs = [.ref a] ∧ H a = some (.tup xs) ∧ Paired (TieV H) xs ts ∧ ts.length ≤ 400 ∧
  ∀ H' d kvs ks ad R, Same H H' → NearA H' d kvs ks ad R → ks.length ≤ 800 → (∀ a b, b ∈ R a ↔ adj ts a b) → (∀ a, a ∈ ks ↔ ∃ b, adj ts a b) → (∀ a, (R a).length ≤ 800) → (∀ a ∈ ks, H (ad a) = none) → Q (.ref d) H'
theorem k_near_byT (A : At K mg "near_by" s_near_by) (B : Bt mg) : Cal P w K mg base 1 "near_by" spNearByT [] := by
  refine mk A sc_near_by (fun _ _ _ _ _ _ us hl => match us, hl with | [_], _ => rfl) (fun vs H Q E h => ?_) (fun f cdv A outer s H vs Q E hr h => ?_)
  · obtain ⟨a, xs, ts, rfl, _⟩ := h
    rfl
  · obtain ⟨a, xs, ts, rfl, ha, hts, hlen, q⟩ := h
    refine ⟨_, (pss_cons (ps_set (i := 1) sc_near_by.nd rfl (.inl rfl) pe_dnewK)
    (pss_cons (ps_for PassesOwn.never rfl (pi_tup (pv 0)) (pg_tup rfl (pgs_cons (pg_name (i := 2) sc_near_by.nd rfl (.inl rfl)) (pgs_cons (pg_name (i := 3) sc_near_by.nd rfl (.inl rfl)) pgs_nil)))
      (pss_cons (ps_expr (pe_bm PySem.F.plainAttrs_list PySem.F.slot_list_append PySem.F.type_list_append mt_append (pe_dsetd (pv 1) (pv 2) (pe_lst pa_nil) ⟨rfl, rfl, rfl, rfl⟩) (pa_cons (pv 3) pa_nil)))
      (pss_one (ps_expr (pe_bm PySem.F.plainAttrs_list PySem.F.slot_list_append PySem.F.type_list_append mt_append (pe_dsetd (pv 1) (pv 3) (pe_lst pa_nil) ⟨rfl, rfl, rfl, rfl⟩) (pa_cons (pv 2) pa_nil))))))
    (pss_one (ps_ret (pv 1))))), ?_⟩
    intro d hd
    refine ⟨.ref a, rfl, a, rfl, ⟨_, tq (same_upd hd _ _ ha)⟩, ?_⟩
    have hl := paired_len hts
    refine for_it (walk_tup (K := K) (a := a) (xs := xs)) (fun i σ H' => (∃ b c, σ = [some (.ref a), some (.ref d), b, c]) ∧ ∃ kvs ks ad R, NearG H H' d kvs ks ad R ∧ ks.length ≤ 2 * i ∧ (∀ a, (R a).length ≤ 2 * i) ∧ (∀ a b, b ∈ R a ↔ adj (ts.take i) a b) ∧ (∀ a, a ∈ ks ↔ ∃ b, adj (ts.take i) a b))
      ⟨⟨none, none, rfl⟩, [], [], fun _ => 0, fun _ => [], { at_ := upd_same, dd := ⟨rfl, by simp, fun _ => rfl, fun _ => by simp⟩, row := by simp, inj := by simp, emp := fun _ _ => rfl, sm := same_upd hd, d0 := hd, fresh := by simp }, Nat.le_refl 0, fun _ => Nat.le_refl 0, fun a b => by simp [adj], fun a => by simp [adj]⟩
      (fun i σ H' _ h => ?_) (fun i x σ H' H'' hi h hx => ?_) (fun σ H' h => ?_)
    · obtain ⟨_, kvs, ks, ad, R, G, _⟩ := h
      exact tq (G.sm _ _ ha)
    · obtain ⟨⟨b, c, rfl⟩, kvs, ks, ad, R, G, hk, hR, hm, hks⟩ := h
      obtain ⟨rfl, hx⟩ := hx
      obtain ⟨t, ht, r⟩ := paired_get hts hx
      obtain ⟨pp, rfl, hpp⟩ := r.keep (Same.tups G.sm)
      have hi' : i < ts.length := (List.getElem?_eq_some_iff.mp ht).1
      refine ⟨pp, _, rfl, tq hpp, rfl, iv t.1, _, rfl, iv t.2, [], rfl, rfl, ?_⟩
      refine near_put (x := t.1) (y := t.2) G rfl rfl rfl (by omega) (by have := hR t.1; omega) fun H2 kvs2 ad2 G2 => ?_
      refine near_put (x := t.2) (y := t.1) G2 rfl rfl rfl (by have := ins_len t.1 ks; omega) ?_ fun H3 kvs3 ad3 G3 => ?_
      · have := hR t.1
        have := hR t.2
        by_cases e : t.2 = t.1
        · rw [if_pos e, List.length_append]; simp; omega
        · rw [if_neg e]; omega
      · refine ⟨⟨_, _, rfl⟩, kvs3, _, ad3, _, G3, ?_, fun k => ?_, fun k j => ?_, fun k => ?_⟩
        · have := ins_len t.2 (ins t.1 ks)
          have := ins_len t.1 ks
          omega
        · have h1 := hR k
          have h2 := hR t.1
          have h3 := hR t.2
          by_cases e : k = t.2
          · rw [if_pos e]
            by_cases e1 : t.2 = t.1
            · rw [if_pos e1, List.length_append, List.length_append]; simp; omega
            · rw [if_neg e1, List.length_append]; simp; omega
          · rw [if_neg e]
            by_cases e1 : k = t.1
            · rw [if_pos e1, List.length_append]; simp; omega
            · rw [if_neg e1]; omega
        · rw [adj_snoc ht, ← hm]
          exact mem_two
        · rw [mem_ins, mem_ins, hks]
          constructor
          · rintro (h | h | ⟨b, h⟩)
            · exact ⟨t.1, (adj_snoc ht k _).mpr (.inr (.inr ⟨h, rfl⟩))⟩
            · exact ⟨t.2, (adj_snoc ht k _).mpr (.inr (.inl ⟨h, rfl⟩))⟩
            · exact ⟨b, (adj_snoc ht k _).mpr (.inl h)⟩
          · rintro ⟨b, h⟩
            rcases (adj_snoc ht k _).mp h with h | ⟨h, _⟩ | ⟨h, _⟩
            · exact .inr (.inr ⟨b, h⟩)
            · exact .inr (.inl h)
            · exact .inl h
    · obtain ⟨⟨b, c, rfl⟩, kvs, ks, ad, R, G, hk, hR, hm, hks⟩ := h
      have e : ts.take xs.length = ts := by rw [hl, List.take_length]
      rw [e] at hm hks
      refine ⟨.ref d, rfl, q _ d kvs ks ad R G.sm G.toNearA (by omega) hm hks (fun a => by have := hR a; omega) G.fresh⟩
end
end Wp
set_option maxHeartbeats 4000000
namespace Wp
open PySem PySem.Spec PyProof.Rows L2
open C8 (Cal pe_c pe_gc)
/-! rings and ways -/
/-- each member after the one ahead of it, the first after the last -/
def steps (l : List Nat) : List (Nat × Nat) := (l.getLast?.toList ++ l).zip l
theorem atI_pre {α : Type} {l : List α} {i : Nat} {x : α} (hx : l[i]? = some x) : ∃ p, atI l ((i : Int) - 1) = some p ∧ (l.getLast?.toList ++ l)[i]? = some p := by
  have hi := (List.getElem?_eq_some_iff.mp hx).1
  rcases i with _ | i
  · obtain ⟨z, hz⟩ : ∃ z, l.getLast? = some z := by
      cases l with
      | nil => simp at hi
      | cons a l => exact ⟨_, List.getLast?_cons ..⟩
    refine ⟨z, ?_, by rw [hz]; rfl⟩
    unfold atI ixN
    rw [if_neg (by omega), if_pos (by omega)]
    show l[(((0 : Nat) : Int) - 1 + (l.length : Int)).toNat]? = some z
    rw [show (((0 : Nat) : Int) - 1 + (l.length : Int)).toNat = l.length - 1 by omega, ← List.getLast?_eq_getElem?, hz]
  · have hp : l[i]? = some l[i] := List.getElem?_eq_getElem (by omega)
    refine ⟨l[i], ?_, ?_⟩
    · rw [show ((i + 1 : Nat) : Int) - 1 = (i : Int) by omega]
      exact atI_nat hp
    · cases e : l.getLast? with
      | none =>
        rw [List.getLast?_eq_none_iff] at e
        rw [e] at hi; simp at hi
      | some z => simp [hp]
theorem steps_get {l : List Nat} {i x : Nat} (hx : l[i]? = some x) : ∃ p, atI l ((i : Int) - 1) = some p ∧ (steps l)[i]? = some (p, x) := by
  obtain ⟨p, h1, h2⟩ := atI_pre hx
  refine ⟨p, h1, ?_⟩
  unfold steps
  rw [List.getElem?_zip_eq_some]
  exact ⟨h2, hx⟩
theorem steps_len (l : List Nat) : (steps l).length = l.length := by
  unfold steps
  rw [List.length_zip, List.length_append]
  omega
theorem atI_map {l : List Nat} {i : Int} {p : Nat} (h : atI l i = some p) : atI (ivs l) i = some (iv p) := by
  unfold atI at h ⊢
  rw [List.length_map]
  cases e : ixN l.length i with
  | none => rw [e] at h; cases h
  | some j =>
    rw [e] at h
    show (l.map iv)[j]? = _
    rw [List.getElem?_map]
    have h : l[j]? = some p := h
    rw [h]; rfl
section
variable {P : Program} {w : World} {K : PySem.W.Frag} {mg : Str → Option Value} {base : Heap}
def spRingSteps : Sp := fun vs H Q _ => ∃ (a : Addr) (l : List Nat), vs = [.ref a] ∧ H a = some (.lst (ivs l)) ∧ l.length ≤ 1000 ∧
  ∀ H' b xs, Same H H' → H' b = some (.lst xs) → Paired (TieV H') xs (steps l) → Q (.ref b) H'
theorem k_ring_steps (A : At K mg "ring_steps" s_ring_steps) (B : Bt mg) : Cal P w K mg base 1 "ring_steps" spRingSteps [] := by
  refine mk A sc_ring_steps (fun _ _ _ _ _ _ us hl => match us, hl with | [_], _ => rfl) (fun vs H Q E h => ?_) (fun f cdv A outer s H vs Q E hr h => ?_)
  · obtain ⟨a, l, rfl, _⟩ := h
    rfl
  · obtain ⟨a, l, rfl, ha, hl, q⟩ := h
    refine ⟨_, (pss_one (ps_ret (pe_lc (own := [("at", 1)]) rfl sc_ring_steps.nd (pi_range1 (by rfl) B.range (pa_cons (pe_callB call_len_seq (by rfl) B.len (by decide +kernel) (pa_cons (pv 0) pa_nil)) pa_nil)) (blkOk_by (N := ["ring", "at"]) (sc := defScope s_ring_steps) (by decide +kernel)) (fun _ _ _ _ _ => (pg_name (i := 1) sc_ring_steps.nd rfl (.inl rfl) (.inr rfl))) (fun _ _ _ _ _ => pts_nil) (fun _ _ _ _ _ => (pe_tup (pa_cons (pe_ix (r := rIxL K) ix_list (pv 0) (pe_op op_sub (pv 1) pe_int) (fun _ _ => rfl)) (pa_cons (pe_ix (r := rIxL K) ix_list (pv 0) (pv 1) (fun _ _ => rfl)) pa_nil))))))), ?_⟩
    refine ⟨.ref a, rfl, a, _, rfl, .inl (lq ha), (((ivs l).length : Nat) : Int), rfl, by omega, by rw [List.length_map]; omega, fun D hD => ?_⟩
    refine lc0 walk_range (fun i H' => Same H H' ∧ ∃ xs, H' D = some (.lst xs) ∧ Paired (TieV H') xs ((steps l).take i)) ⟨same_upd hD, [], upd_same, .nil⟩ (fun i H' _ h => trivial) (fun i x H' H'' hi h hx => ?_) (fun H' h => ?_)
    · obtain ⟨s1, xs, hx1, hx2⟩ := h
      obtain ⟨rfl, hx⟩ := hx
      obtain rfl : x = iv i := hx.trans (by show V.int (0 + (i : Int)) = iv i; rw [Int.zero_add])
      have hi' : i < l.length := by simpa [ivs] using hi
      obtain ⟨p, h1, h2⟩ := steps_get (List.getElem?_eq_getElem hi')
      refine ⟨rfl, .ref a, rfl, iv i, rfl, (i : Int), 1, rfl, rfl, a, _, _, iv p, rfl, rfl, lq (s1 _ _ ha), atI_map h1, .ref a, rfl, iv i, rfl, a, _, _, iv l[i], rfl, rfl, lq (s1 _ _ ha), atI_map (atI_nat (List.getElem?_eq_getElem hi')), by show 2 ≤ sizeLine; decide, fun t ht => ?_⟩
      have hxl := paired_len hx2
      rw [List.length_take] at hxl
      have s2 := same_upd (o := .tup [iv p, iv l[i]]) ht
      refine ⟨xs, s2 _ _ hx1, small1000 (by omega), same_list hD (Same.trans s1 s2), xs ++ [.ref t], upd_same, ?_⟩
      have htD : t ≠ D := fun e => by rw [e, hx1] at ht; cases ht
      rw [List.take_add_one, h2]
      have kp : ∀ {v : V} {u : Nat × Nat}, TieV H'' v u → TieV (upd (upd H'' t (.tup [iv p, iv l[i]])) D (.lst (xs ++ [.ref t]))) v u := fun {v u} r => by
        obtain ⟨z, e, hz⟩ := r
        refine ⟨z, e, ?_⟩
        rw [upd_ne (fun e => by rw [e, hx1] at hz; cases hz)]
        exact s2 _ _ hz
      exact paired_snoc (paired_mono (fun _ _ r => kp r) hx2) ⟨t, rfl, by rw [upd_ne htD, upd_same]⟩
    · obtain ⟨s1, xs, hx1, hx2⟩ := h
      refine q H' D xs s1 hx1 ?_
      have e : (steps l).take (((ivs l).length : Nat) : Int).toNat = steps l := by rw [Int.toNat_natCast, List.length_map, ← steps_len, List.take_length]
      rw [e] at hx2
      exact hx2
end
end Wp
set_option maxHeartbeats 4000000
namespace Wp
open PySem PySem.Spec PyProof.Rows L2
open C8 (Cal pe_c pe_gc)
section
variable {P : Program} {w : World} {K : PySem.W.Frag} {mg : Str → Option Value} {base : Heap}
theorem atI_end {l : List Nat} {x : Nat} {i : Nat} (hl : l.length = i + 1) (hx : l[i]? = some x) : atI (ivs l) (-1) = some (iv x) := by
  refine atI_map ?_
  unfold atI ixN
  rw [if_neg (by omega), if_pos (by omega)]
  show l[((-1 : Int) + (l.length : Int)).toNat]? = some x
  rw [show ((-1 : Int) + (l.length : Int)).toNat = i by omega, hx]
/-- l is the row of those that came one from the other, the last from none -/
def Chain (kvs : List (Key × V)) (l : List Nat) : Prop := ∀ i x, l[i]? = some x → (∀ y, l[i + 1]? = some y → valV kvs (nK x) = some (iv y)) ∧ (l[i + 1]? = none → valV kvs (nK x) = some .non)
def spWayBack : Sp := fun vs H Q _ => ∃ (d : Addr) (z : Nat) (l : List Nat) (kvs : List (Key × V)), vs = [.ref d, iv z] ∧ H d = some (.dK kvs) ∧ Chain kvs (z :: l) ∧ l.length ≤ 100 ∧
  ∀ H' a, Same H H' → H' a = some (.lst (ivs (z :: l).reverse)) → Q (.ref a) H'
theorem k_way_back (A : At K mg "way_back" s_way_back) (B : Bt mg) : Cal P w K mg base 1 "way_back" spWayBack [] := by
  refine mk A sc_way_back (fun _ _ _ _ _ _ us hl => match us, hl with | [_, _], _ => rfl) (fun vs H Q E h => ?_) (fun f cdv A outer s H vs Q E hr h => ?_)
  · obtain ⟨d, z, l, kvs, rfl, _⟩ := h
    rfl
  · obtain ⟨d, z, l, kvs, rfl, hd, hc, hl, q⟩ := h
    refine ⟨_, (pss_cons (ps_set (i := 2) sc_way_back.nd rfl (.inl rfl) (pe_lst (pa_cons (pv 1) pa_nil)))
    (pss_cons (ps_while PassesOwn.never (pt_cmpR op_notN (pe_dget (hu_of hr) (pv 0) (pe_ix ix_list (pv 2) (pe_un un_neg pe_int) (fun _ _ => rfl)) (fun _ _ => rfl)) pe_non (nomark _))
      (pss_one (ps_expr (pe_bm PySem.F.plainAttrs_list PySem.F.slot_list_append PySem.F.type_list_append mt_append (pv 2) (pa_cons (pe_dget (hu_of hr) (pv 0) (pe_ix ix_list (pv 2) (pe_un un_neg pe_int) (fun _ _ => rfl)) (fun _ _ => rfl)) pa_nil)))))
    (pss_one (ps_ret (pe_revL (pv 2)))))), ?_⟩
    refine ⟨iv z, rfl, by show 1 ≤ sizeLine; decide, fun a ha => ?_⟩
    generalize hL : z :: l = L at hc q
    have hLl : L.length = l.length + 1 := by rw [← hL]; rfl
    refine ⟨fun m σ H' => ∃ i, m = L.length - (i + 1) ∧ i < L.length ∧ σ = [some (.ref d), some (iv z), some (.ref a)] ∧ Same H H' ∧ H' a = some (.lst (ivs (L.take (i + 1)))),
      ⟨_, 0, rfl, by omega, rfl, same_upd ha, by rw [upd_same, ← hL]; rfl⟩, fun m σ H' h => ?_⟩
    obtain ⟨i, rfl, hi, rfl, s1, ha'⟩ := h
    have hx : L[i]? = some L[i] := List.getElem?_eq_getElem hi
    generalize L[i] = x at hx
    have hlt : (L.take (i + 1)).length = i + 1 := by rw [List.length_take]; omega
    have hend : atI (ivs (L.take (i + 1))) (-1) = some (iv x) := atI_end hlt (by rw [List.getElem?_take_of_lt (by omega)]; exact hx)
    cases hn : L[i + 1]? with
    | some y =>
      have hv := (hc i x hx).1 y hn
      have hg : DGet H' d (iv x) (some (iv y)) := by rw [← hv]; exact DGet.k (k := nK x) (s1 _ _ hd)
      refine ⟨.ref d, rfl, .ref a, rfl, 1, rfl, a, _, -1, iv x, rfl, rfl, lq ha', hend, d, iv y, rfl, hg, rfl, true, rfl, iteT ⟨_, fun _ _ h => h, ?_⟩⟩
      refine ⟨.ref a, rfl, .inl ⟨rfl, _, lq ha'⟩, .ref d, rfl, .ref a, rfl, 1, rfl, a, _, -1, iv x, rfl, rfl, lq ha', hend, d, iv y, rfl, hg, a, _, iv y, rfl, rfl, ha', by rw [List.length_map]; exact small1000 (by omega), ?_⟩
      have hi2 := (List.getElem?_eq_some_iff.mp hn).1
      refine ⟨_, ?_, i + 1, rfl, hi2, rfl, same_list ha s1, ?_⟩
      · omega
      · rw [upd_same, List.take_add_one (l := L) (i := i + 1), hn]; simp [ivs]
    | none =>
      have hv := (hc i x hx).2 hn
      have hg : DGet H' d (iv x) (some .non) := by rw [← hv]; exact DGet.k (k := nK x) (s1 _ _ hd)
      refine ⟨.ref d, rfl, .ref a, rfl, 1, rfl, a, _, -1, iv x, rfl, rfl, lq ha', hend, d, .non, rfl, hg, rfl, false, rfl, iteF ?_⟩
      have e : L.take (i + 1) = L := List.take_of_length_le (by have := List.getElem?_eq_none_iff.mp hn; omega)
      rw [e] at ha'
      refine ⟨.ref a, rfl, a, _, rfl, lq ha', fun p hp => q _ p (Same.trans s1 (same_upd hp)) ?_⟩
      rw [upd_same]; simp [ivs]
end
end Wp
set_option maxHeartbeats 4000000
namespace Wp
open PySem PySem.Spec PyProof.Rows L2
open C8 (Cal pe_c pe_gc)
open Wb (pd)
theorem flat_ivs (l : List Nat) : (ivs l).all flatV = true := by
  rw [List.all_map]
  exact List.all_eq_true.mpr fun _ _ => rfl
theorem inV_ivs (x : Nat) (l : List Nat) : inV (iv x) (ivs l) = decide (x ∈ l) := by
  unfold inV
  rw [List.any_map]
  induction l with
  | nil => rfl
  | cons y l ih =>
    rw [List.any_cons, ih]
    have e : ((fun y => eqV y (iv x)) ∘ iv) y = decide (x = y) := by
      show ((y : Int) == (x : Int)) = _
      by_cases h : x = y
      · simp [h]
      · simp [h]; omega
    rw [e]
    simp [List.mem_cons]
theorem pd_get : ∀ {l : List Nat} {i u v : Nat}, l[i]? = some u → l[i + 1]? = some v → pd l u v = true
  | [], _, _, _, h, _ => by simp at h
  | [a], 0, _, _, _, h => by simp at h
  | [a], i + 1, _, _, h, _ => by simp at h
  | a :: b :: l, 0, u, v, h, g => by
    simp at h g
    exact (Wb.pd_two a b l u v).mpr (.inl ⟨h.symm, g.symm⟩)
  | a :: b :: l, i + 1, u, v, h, g => (Wb.pd_two a b l u v).mpr (.inr (pd_get (i := i) (by simpa using h) (by simpa using g)))
/-- a way from b to one of ends, else through none of ends and of bar -/
structure Way (R : Nat → List Nat) (b : Nat) (ends bar wy : List Nat) : Prop where
  nd : wy.Nodup
  hd : wy.head? = some b
  lst : ∃ z ∈ ends, wy.getLast? = some z ∧ z ≠ b
  st : ∀ u v, pd wy u v = true → v ∈ R u
  inn : ∀ x ∈ wy, x ≠ b → wy.getLast? ≠ some x → x ∉ ends ∧ x ∉ bar
/-- the walk from b stays within S -/
structure Shut (R : Nat → List Nat) (b : Nat) (ends bar S : List Nat) : Prop where
  bin : b ∈ S
  cl : ∀ x ∈ S, ∀ y ∈ R x, y ∈ ends ∨ y ∉ bar → y ∈ S
  no : ∀ x ∈ S, x ≠ b → x ∉ ends
structure BF (H H' : Hp) (dc dw : Addr) (n b : Nat) (R : Nat → List Nat) (ends bar : List Nat) (kvs : List (Key × V)) (ks : List Nat) (pa : Nat → Nat) (wt : List Nat) : Prop where
  sm : Same H H'
  c0 : H dc = none
  w0 : H dw = none
  ne : dw ≠ dc
  dct : H' dc = some (.dK kvs)
  dd : DD nK kvs ks fun a => if a ∈ ks then some (if a = b then .non else iv (pa a)) else none
  wl : H' dw = some (.lst (ivs wt))
  wk : ∀ x ∈ wt, x ∈ ks
  wn : wt.length ≤ ks.length
  lt : ∀ x ∈ ks, x < n
  bin : b ∈ ks
  bad : ∀ x ∈ ks, x ≠ b → x ∉ ends ∧ x ∉ bar
  ch : ∀ x ∈ ks, ∃ c, c.head? = some x ∧ c.getLast? = some b ∧ c.Nodup ∧ (∀ y ∈ c, y ∈ ks) ∧ ∀ u v, pd c u v = true → u ≠ b ∧ pa u = v ∧ u ∈ R v
theorem BF.val {H H' : Hp} {dc dw : Addr} {n b : Nat} {R : Nat → List Nat} {ends bar : List Nat} {kvs : List (Key × V)} {ks : List Nat} {pa : Nat → Nat} {wt : List Nat} (F : BF H H' dc dw n b R ends bar kvs ks pa wt) {y x : Nat} (hy : y ∉ ks) :
    DD nK (putK kvs (nK y) (iv x)) (ks ++ [y]) fun a => if a ∈ ks ++ [y] then some (if a = b then .non else iv (if a = y then x else pa a)) else none := by
  have D := DD.put (fun a b => nK_inj) F.dd y (iv x)
  rw [if_neg hy] at D
  have hyb : y ≠ b := fun e => hy (e ▸ F.bin)
  refine ⟨D.keys, D.nd, fun a => ?_, fun a => ?_⟩
  · rw [D.val]
    by_cases e : a = y
    · rw [if_pos e, if_pos (by simp [e]), if_neg (e ▸ hyb), if_pos e]
    · rw [if_neg e, if_neg e]
      by_cases hm : a ∈ ks
      · rw [if_pos hm, if_pos (List.mem_append_left _ hm)]
      · rw [if_neg hm, if_neg (by simp [hm, e])]
  · by_cases hb : a ∈ ks ++ [y]
    · simp only [hb, if_true, Option.isSome_some]
    · simp only [hb, if_false, Option.isSome_none]; simp
theorem BF.chain {H H' : Hp} {dc dw : Addr} {n b : Nat} {R : Nat → List Nat} {ends bar : List Nat} {kvs : List (Key × V)} {ks : List Nat} {pa : Nat → Nat} {wt : List Nat} (F : BF H H' dc dw n b R ends bar kvs ks pa wt) {y x : Nat} (hx : x ∈ ks) (hy : y ∉ ks) (hyR : y ∈ R x) :
    ∃ c, c.head? = some y ∧ c.getLast? = some b ∧ c.Nodup ∧ (∀ z ∈ c, z = y ∨ z ∈ ks) ∧ ∀ u v, pd c u v = true → u ≠ b ∧ (if u = y then x else pa u) = v ∧ u ∈ R v := by
  obtain ⟨c, h1, h2, h3, h4, h5⟩ := F.ch x hx
  have hyb : y ≠ b := fun e => hy (e ▸ F.bin)
  cases c with
  | nil => simp at h1
  | cons x0 c =>
    simp at h1
    subst h1
    refine ⟨y :: x0 :: c, rfl, by rw [List.getLast?_cons_cons]; exact h2, List.nodup_cons.mpr ⟨fun h => hy (h4 y h), h3⟩, fun z hz => ?_, fun u v h => ?_⟩
    · rcases List.mem_cons.mp hz with h | h
      · exact .inl h
      · exact .inr (h4 z h)
    · rcases (Wb.pd_two y x0 c u v).mp h with ⟨rfl, rfl⟩ | h
      · exact ⟨hyb, by rw [if_pos rfl], hyR⟩
      · obtain ⟨g1, g2, g3⟩ := h5 u v h
        have hu : u ≠ y := fun e => hy (e ▸ h4 u (Wb.pd_mem h).1)
        exact ⟨g1, by rw [if_neg hu]; exact g2, g3⟩
theorem BF.add {H H' : Hp} {dc dw : Addr} {n b : Nat} {R : Nat → List Nat} {ends bar : List Nat} {kvs : List (Key × V)} {ks : List Nat} {pa : Nat → Nat} {wt : List Nat} (F : BF H H' dc dw n b R ends bar kvs ks pa wt) {y x : Nat} (hx : x ∈ ks) (hy : y ∉ ks) (hyR : y ∈ R x) (hyn : y < n) (he : y ∉ ends) (hb : y ∉ bar) :
    BF H (upd (upd H' dc (.dK (putK kvs (nK y) (iv x)))) dw (.lst (ivs wt ++ [iv y]))) dc dw n b R ends bar (putK kvs (nK y) (iv x)) (ks ++ [y]) (fun a => if a = y then x else pa a) (wt ++ [y]) where
  sm := same_list F.w0 (fun b o e => by rw [upd_ne (ne_of_none e F.c0)]; exact F.sm b o e)
  c0 := F.c0
  w0 := F.w0
  ne := F.ne
  dct := by rw [upd_ne (Ne.symm F.ne), upd_same]
  dd := F.val hy
  wl := by rw [upd_same]; simp [ivs]
  wk z hz := by
    rcases List.mem_append.mp hz with h | h
    · exact List.mem_append_left _ (F.wk z h)
    · exact List.mem_append_right _ h
  wn := by
    rw [List.length_append, List.length_append]
    have := F.wn
    simp; omega
  lt z hz := by
    rcases List.mem_append.mp hz with h | h
    · exact F.lt z h
    · simp at h; rw [h]; exact hyn
  bin := List.mem_append_left _ F.bin
  bad z hz hzb := by
    rcases List.mem_append.mp hz with h | h
    · exact F.bad z h hzb
    · simp at h; rw [h]; exact ⟨he, hb⟩
  ch z hz := by
    rcases List.mem_append.mp hz with h | h
    · obtain ⟨c, h1, h2, h3, h4, h5⟩ := F.ch z h
      refine ⟨c, h1, h2, h3, fun y hy => List.mem_append_left _ (h4 y hy), fun u v g => ?_⟩
      obtain ⟨g1, g2, g3⟩ := h5 u v g
      have hu : u ≠ y := fun e => hy (e ▸ h4 u (Wb.pd_mem g).1)
      exact ⟨g1, by rw [if_neg hu]; exact g2, g3⟩
    · simp at h
      obtain ⟨c, h1, h2, h3, h4, h5⟩ := F.chain hx hy hyR
      refine ⟨c, by rw [h]; exact h1, h2, h3, fun z hz => ?_, h5⟩
      rcases h4 z hz with h | h
      · simp [h]
      · exact List.mem_append_left _ h
theorem Way.of {R : Nat → List Nat} {b y : Nat} {ends bar ks : List Nat} {c : List Nat} (h1 : c.head? = some y) (h2 : c.getLast? = some b) (h3 : c.Nodup) (hs : ∀ u v, pd c u v = true → u ∈ R v) (he : y ∈ ends) (hyb : y ≠ b) (h4 : ∀ z ∈ c, z = y ∨ z ∈ ks) (bad : ∀ x ∈ ks, x ≠ b → x ∉ ends ∧ x ∉ bar) : Way R b ends bar c.reverse where
  nd := by unfold List.Nodup; rw [List.pairwise_reverse]; exact h3.imp Ne.symm
  hd := by rw [List.head?_reverse]; exact h2
  lst := ⟨y, he, by rw [List.getLast?_reverse]; exact h1, hyb⟩
  st u v h := by
    rw [Wb.pd_rev] at h
    exact hs v u h
  inn x hx hxb hxl := by
    rw [List.getLast?_reverse, h1] at hxl
    rcases h4 x (List.mem_reverse.mp hx) with h | h
    · exact absurd (by rw [h]) hxl
    · exact bad x h hxb
theorem ints_lay : ∀ l : List Nat, PyData.canLayAll0 (l.map fun (k : Nat) => .int (k : Int)) = true
  | [] => rfl
  | _ :: l => by
    show (true && PyData.canLayAll0 (l.map fun (k : Nat) => .int (k : Int))) = true
    rw [ints_lay l]; rfl
theorem ints_shaped (l : List Nat) : SeqAt.shaped (.list (l.map fun (k : Nat) => .int (k : Int))) = true ∧ SeqAt.shaped (.tuple (l.map fun (k : Nat) => .int (k : Int))) = true := by
  have h1 := ints_lay l
  have h2 := depth_nats l
  have h3 : (PyData.list (l.map fun (k : Nat) => .int (k : Int))).depth = (PyData.tuple (l.map fun (k : Nat) => .int (k : Int))).depth := rfl
  constructor
  · show (PyData.canLayAll0 (l.map fun (k : Nat) => .int (k : Int)) && decide ((PyData.list (l.map fun (k : Nat) => .int (k : Int))).depth ≤ 64)) = true
    rw [h1, decide_eq_true (by omega)]; rfl
  · show (PyData.canLayAll0 (l.map fun (k : Nat) => .int (k : Int)) && decide ((PyData.tuple (l.map fun (k : Nat) => .int (k : Int))).depth ≤ 64)) = true
    rw [h1, decide_eq_true (by omega)]; rfl
theorem ne_nil_ints {K : PySem.W.Frag} {H : Hp} {a p : Addr} {l : List Nat} {Q : VK} (ha : H a = some (.lst (ivs l))) (hp : H p = some (.lst [])) (q : Q (.bl (decide (l ≠ []))) H) : rNeD K (.ref a) (.ref p) H Q := by
  refine ⟨_, .list [], .lst (lq ha) (ivs_dp l), .lst (lq hp) .nil, (ints_shaped l).1, rfl, ?_⟩
  have e : (!PyData.eqv (.list (l.map fun (k : Nat) => .int (k : Int))) (.list [])) = decide (l ≠ []) := by
    cases l with
    | nil => rfl
    | cons x l => rfl
  rw [e]; exact q
theorem ne_nil_ties {K : PySem.W.Frag} {H : Hp} {a p : Addr} {vs : List V} {ts : List (Nat × Nat)} {Q : VK} (ha : H a = some (.lst vs)) (hs : Paired (TieV H) vs ts) (hp : H p = some (.lst [])) (q : Q (.bl (decide (ts ≠ []))) H) : rNeD K (.ref a) (.ref p) H Q := by
  refine ⟨_, .list [], .lst (lq ha) (ties_dp hs), .lst (lq hp) .nil, (tDs_shaped ts).2, rfl, ?_⟩
  have e : (!PyData.eqv (.list (ts.map tD)) (.list [])) = decide (ts ≠ []) := by
    cases ts with
    | nil => rfl
    | cons x l => rfl
  rw [e]; exact q
theorem BF.same {H H' H2 : Hp} {dc dw : Addr} {n b : Nat} {R : Nat → List Nat} {ends bar : List Nat} {kvs : List (Key × V)} {ks : List Nat} {pa : Nat → Nat} {wt : List Nat} (F : BF H H' dc dw n b R ends bar kvs ks pa wt) (g : Same H' H2) : BF H H2 dc dw n b R ends bar kvs ks pa wt :=
  ⟨Same.trans F.sm g, F.c0, F.w0, F.ne, g _ _ F.dct, F.dd, g _ _ F.wl, F.wk, F.wn, F.lt, F.bin, F.bad, F.ch⟩
theorem BF.pop {H H' : Hp} {dc dw : Addr} {n b : Nat} {R : Nat → List Nat} {ends bar : List Nat} {kvs : List (Key × V)} {ks : List Nat} {pa : Nat → Nat} {x : Nat} {wt : List Nat} (F : BF H H' dc dw n b R ends bar kvs ks pa (x :: wt)) : BF H (upd H' dw (.lst (ivs wt))) dc dw n b R ends bar kvs ks pa wt :=
  ⟨same_list F.w0 F.sm, F.c0, F.w0, F.ne, by rw [upd_ne (Ne.symm F.ne)]; exact F.dct, F.dd, upd_same, fun z hz => F.wk z (.tail _ hz), by have := F.wn; simp at this; omega, F.lt, F.bin, F.bad, F.ch⟩
theorem near_get {H' : Hp} {d : Addr} {kvs : List (Key × V)} {ks : List Nat} {ad : Nat → Addr} {R : Nat → List Nat} {p : Addr} (N : NearA H' d kvs ks ad R) (hp : H' p = some (.lst [])) (x : Nat) : ∃ o r, DGet H' d (iv x) o ∧ o.getD (.ref p) = .ref r ∧ H' r = some (.lst (ivs (R x))) ∧ (r = p ∨ r = ad x ∧ x ∈ ks) := by
  refine ⟨valV kvs (nK x), ?_⟩
  by_cases h : x ∈ ks
  · refine ⟨ad x, DGet.k (k := nK x) N.at_, ?_, N.row x h, .inr ⟨rfl, h⟩⟩
    rw [N.dd.val, if_pos h]; rfl
  · refine ⟨p, DGet.k (k := nK x) N.at_, ?_, ?_, .inl rfl⟩
    · rw [N.dd.val, if_neg h]; rfl
    · rw [hp, N.emp x h]; rfl
section
variable {P : Program} {w : World} {K : PySem.W.Frag} {mg : Str → Option Value} {base : Heap}
def spWayThrough : Sp := fun vs H Q _ => ∃ (d e g : Addr) (n b : Nat) (kvs : List (Key × V)) (ks : List Nat) (ad : Nat → Addr) (R : Nat → List Nat) (ends : List Nat) (kvs2 : List (Key × V)) (bar : List Nat), vs = [.ref d, iv b, .ref e, .ref g] ∧ NearA H d kvs ks ad R ∧ H e = some (.lst (ivs ends)) ∧ H g = some (.dK kvs2) ∧ DS nK kvs2 bar (.bl true) ∧
  n ≤ 20 ∧ b < n ∧ (∀ a, ∀ y ∈ R a, y < n) ∧ (∀ H' a wy, Same H H' → H' a = some (.lst (ivs wy)) → Way R b ends bar wy → Q (.ref a) H') ∧ ∀ H' S, Same H H' → Shut R b ends bar S → Q .non H'
theorem k_way_through (A : At K mg "way_through" s_way_through) (B : Bt mg) (C_way_back : Cal P w K mg base 1 "way_back" spWayBack []) : Cal P w K mg base 2 "way_through" spWayThrough [] := by
  refine mk A sc_way_through (fun _ _ _ _ _ _ us hl => match us, hl with | [_, _, _, _], _ => rfl) (fun vs H Q E h => ?_) (fun f cdv A outer s H vs Q E hr h => ?_)
  · obtain ⟨d, e, g, n, b, kvs, ks, ad, R, ends, kvs2, bar, rfl, _⟩ := h
    rfl
  · obtain ⟨d, e, g, n, b, kvs, ks, ad, R, ends, kvs2, bar, rfl, hN, he, hg, hbar, hn, hb, hR, q1, q2⟩ := h
    refine ⟨_, (pss_cons (ps_par (i := 4) (j := 5) rfl sc_way_through.nd rfl rfl (by decide) rfl rfl (pa_cons (pe_disp (pps_cons (pv 1) pe_non pps_nil) (by rfl) (by rfl) (fun z => by cases z) (by decide)) (pa_cons (pe_lst (pa_cons (pv 1) pa_nil)) pa_nil)) rfl)
    (pss_cons (ps_while PassesOwn.never (pt_cmpR (op_neD hr.units) (pv 5) (pe_lst pa_nil) (nomark _))
      (pss_cons (ps_set (i := 6) sc_way_through.nd rfl (.inl rfl) (pe_bm PySem.F.plainAttrs_list PySem.F.slot_list_pop PySem.F.type_list_pop mt_popAt (pv 5) (pa_cons pe_int pa_nil)))
      (pss_one (ps_for PassesOwn.never rfl (pi_list (pe_dget2 (hu_of hr) (pv 0) (pv 6) (pe_lst pa_nil) ⟨rfl, rfl, rfl, rfl⟩)) (pg_name (i := 7) sc_way_through.nd rfl (.inl rfl))
        (pss_one (ps_if (PW.pt (pw_and (pt_cmp (pc_dnotin (hu_of hr) (pv 7) (pv 4))) (pw_and1 (PW.pt (pw_or (pt_cmpR op_in_seq (pv 7) (pv 2) (by with_unfolding_all rfl)) (pw_or1 (pt_cmp (pc_dnotin (hu_of hr) (pv 7) (pv 3)))))))))
          (pss_cons (ps_dput (hu_of hr) (pv 4) (pv 7) (pv 6) rfl)
          (pss_cons (ps_if (pt_cmpR op_in_seq (pv 7) (pv 2) (by with_unfolding_all rfl))
            (pss_one (ps_ret (pe_c C_way_back hr (by decide) (by rfl) (pa_cons (pv 4) (pa_cons (pv 7) pa_nil)))))
            pss_nil)
          (pss_one (ps_expr (pe_bm PySem.F.plainAttrs_list PySem.F.slot_list_append PySem.F.type_list_append mt_append (pv 5) (pa_cons (pv 7) pa_nil))))))
          pss_nil))))))
    (pss_one (ps_ret pe_non)))), ?_⟩
    intro dc hdc
    refine ⟨iv b, rfl, upd_same, [(nK b, .non)], rfl, by simp, ?_⟩
    refine ⟨iv b, rfl, by show 1 ≤ sizeLine; decide, fun dw hdw => ⟨_, _, rfl, ?_⟩⟩
    have hne : dw ≠ dc := fun z => by rw [z, upd_same] at hdw; cases hdw
    have hdwH : H dw = none := by
      rw [upd_ne hne, upd_ne hne] at hdw
      exact hdw
    have F0 : BF H (upd (upd (upd H dc (.dK [])) dc (.dK (mergeK [] [(nK b, .non)]))) dw (.lst [iv b])) dc dw n b R ends bar (mergeK [] [(nK b, .non)]) [b] (fun _ => 0) [b] := by
      refine ⟨same_list hdwH fun x o z => ?_, hdc, hdwH, hne, by rw [upd_ne (Ne.symm hne), upd_same], ⟨rfl, by simp, fun a => ?_, fun a => ?_⟩, upd_same, by simp, Nat.le_refl _, by simpa using hb, by simp, by simp, fun x hx => ⟨[b], by simp at hx; rw [hx]; rfl, rfl, by simp, by simp, fun u v h => by cases h⟩⟩
      · rw [upd_ne (ne_of_none z hdc), upd_ne (ne_of_none z hdc)]; exact z
      · show valV (putK [] (nK b) .non) (nK a) = _
        rw [valV_put]
        by_cases h : a = b
        · rw [h, if_pos rfl, if_pos (by simp), if_pos rfl]
        · rw [if_neg (fun z => h (nK_inj z)), if_neg (by simp [h])]; rfl
      · by_cases h : a ∈ [b]
        · simp only [h, if_true, Option.isSome_some]
        · simp only [h, if_false, Option.isSome_none]; simp
    refine ⟨fun m σ H' => ∃ kc kz pa wt x y, σ = [some (.ref d), some (iv b), some (.ref e), some (.ref g), some (.ref dc), some (.ref dw), x, y] ∧ BF H H' dc dw n b R ends bar kc kz pa wt ∧ m = 2 * (n - kz.length) + wt.length ∧
        ∀ x ∈ kz, x ∉ wt → ∀ y ∈ R x, y ∈ ends ∨ y ∉ bar → y ∈ kz, ⟨_, _, _, _, _, none, none, rfl, F0, rfl, fun x hx hw => absurd hx hw⟩, fun m σ H' h => ?_⟩
    obtain ⟨kc, kz, pa, wt, x, y, rfl, F, rfl, hcl⟩ := h
    refine ⟨.ref dw, rfl, by show 0 ≤ sizeLine; omega, fun p hp => ?_⟩
    have F1 := F.same (same_upd (o := .lst []) hp)
    have hps : upd H' p (.lst []) p = some (.lst []) := upd_same
    generalize upd H' p (.lst []) = H1 at F1 hps ⊢
    refine ne_nil_ints F1.wl hps ?_
    cases wt with
    | nil =>
      rw [decide_eq_false (by simp)]
      refine ⟨false, rfl, iteF ?_⟩
      exact q2 _ kz F1.sm ⟨F.bin, fun x hx y hy h => hcl x hx (by simp) y hy h, fun x hx hxb => (F.bad x hx hxb).1⟩
    | cons h wt =>
      rw [decide_eq_true (by simp)]
      refine ⟨true, rfl, iteT ⟨_, fun _ _ h => h, ?_⟩⟩
      refine ⟨.ref dw, rfl, .inl ⟨rfl, _, lq F1.wl⟩, dw, _, 0, 0, iv h, rfl, rfl, F1.wl, by omega, by omega, by simp [ivs, seqIndex?], rfl, ?_⟩
      rw [show (ivs (h :: wt)).eraseIdx 0 = ivs wt from rfl]
      have F2 := F1.pop
      have hhk : h ∈ kz := F.wk h (by simp)
      refine ⟨.ref d, rfl, d, rfl, .inl ⟨kvs, .inl (F2.sm _ _ hN.at_)⟩, iv h, rfl, by show 0 ≤ sizeLine; omega, fun p2 hp2 => ?_⟩
      have F3 := F2.same (same_upd (o := .lst []) hp2)
      have hps2 : upd (upd H1 dw (.lst (ivs wt))) p2 (.lst []) p2 = some (.lst []) := upd_same
      generalize upd (upd H1 dw (.lst (ivs wt))) p2 (.lst []) = H2 at F3 hps2 ⊢
      obtain ⟨o, r, hgo, ho, hr2, hrr⟩ := near_get (hN.keep F3.sm) hps2 h
      have hrd : r ≠ dw := by
        rcases hrr with rfl | ⟨rfl, hk⟩
        · intro z
          rw [z, F2.wl] at hp2
          cases hp2
        · intro z
          have := hN.row h hk
          rw [z, F.w0] at this; cases this
      have hrc : r ≠ dc := fun z => by rw [z, F3.dct] at hr2; cases hr2
      refine ⟨o, hgo, ?_⟩
      rw [ho]
      refine ⟨r, rfl, ⟨_, lq hr2⟩, ?_⟩
      have hkz0 := length_of F3.dd.nd F3.lt
      refine for_it (walk_list (K := K) (a := r) (xs := ivs (R h))) (fun j σ H' => ∃ kc kz' pa wt' y, σ = [some (.ref d), some (iv b), some (.ref e), some (.ref g), some (.ref dc), some (.ref dw), some (iv h), y] ∧ BF H H' dc dw n b R ends bar kc kz' pa wt' ∧ H' r = some (.lst (ivs (R h))) ∧ h ∈ kz' ∧ 2 * (n - kz'.length) + wt'.length ≤ 2 * (n - kz.length) + wt.length ∧
          (∀ x ∈ kz', x ∉ wt' → x ≠ h → ∀ y ∈ R x, y ∈ ends ∨ y ∉ bar → y ∈ kz') ∧ ∀ y ∈ (R h).take j, y ∈ ends ∨ y ∉ bar → y ∈ kz')
        ⟨_, _, _, _, _, rfl, F3, hr2, hhk, Nat.le_refl _, fun x hx hw hxh y hy hh => hcl x hx (fun z => by rcases List.mem_cons.mp z with z | z; exact hxh z; exact hw z) y hy hh, by simp⟩ (fun j σ H' _ hh => ?_) (fun j v σ H' H'' hj hh hv => ?_) (fun σ H' hh => ?_)
      · obtain ⟨_, _, _, _, _, _, _, hr3, _⟩ := hh
        exact lq hr3
      · obtain ⟨kc', kz', pa', wt', y', rfl, F, hr3, hhk', hms, hcl1, hcl2⟩ := hh
        obtain ⟨rfl, hv⟩ := hv
        obtain ⟨y, hy, rfl⟩ := ivs_get hv
        have hyR : y ∈ R h := List.mem_of_getElem? hy
        have hyn := hR h y hyR
        have etake : ∀ z, z ∈ (R h).take (j + 1) ↔ z ∈ (R h).take j ∨ z = y := fun z => by
          rw [List.take_add_one, hy]; simp
        have stay : (y ∈ ends ∨ y ∉ bar → y ∈ kz') → ∃ kc kz'' pa wt'' y_1, [some (V.ref d), some (iv b), some (V.ref e), some (V.ref g), some (V.ref dc), some (V.ref dw), some (iv h), some (iv y)] = [some (.ref d), some (iv b), some (.ref e), some (.ref g), some (.ref dc), some (.ref dw), some (iv h), y_1] ∧ BF H H'' dc dw n b R ends bar kc kz'' pa wt'' ∧ H'' r = some (.lst (ivs (R h))) ∧ h ∈ kz'' ∧ 2 * (n - kz''.length) + wt''.length ≤ 2 * (n - kz.length) + wt.length ∧
          (∀ x ∈ kz'', x ∉ wt'' → x ≠ h → ∀ y ∈ R x, y ∈ ends ∨ y ∉ bar → y ∈ kz'') ∧ ∀ y ∈ (R h).take (j + 1), y ∈ ends ∨ y ∉ bar → y ∈ kz'' := fun hst =>
          ⟨kc', kz', pa', wt', _, rfl, F, hr3, hhk', hms, hcl1, fun z hz hh => by
            rcases (etake z).mp hz with h | h
            · exact hcl2 z h hh
            · rw [h] at hh ⊢; exact hst hh⟩
        refine ⟨iv y, rfl, .ref dc, rfl, dc, _, rfl, DGet.k (k := nK y) F.dct, ?_⟩
        rw [F.dd.val, isSome_if]
        by_cases hm : y ∈ kz'
        · rw [decide_eq_true hm]
          refine ⟨_, rfl, iteF ?_⟩
          exact stay fun _ => hm
        · rw [decide_eq_false hm]
          refine ⟨_, rfl, iteT ?_⟩
          refine ⟨iv y, rfl, .ref e, rfl, e, _, rfl, .inl (lq (F.sm _ _ he)), rfl, flat_ivs _, ?_⟩
          rw [inV_ivs]
          have hmz := F.lt
          have hkz := length_of F.dd.nd F.lt
          have tail_add : ∀ (he' : y ∉ ends) (hb' : y ∉ bar), 2 * (n - (kz' ++ [y]).length) + (wt' ++ [y]).length ≤ 2 * (n - kz.length) + wt.length := fun he' hb' => by
            have hlen : (kz' ++ [y]).length ≤ n := length_of (nd_snoc F.dd.nd hm) fun z hz => by
              rcases List.mem_append.mp hz with h | h
              · exact F.lt z h
              · simp at h; rw [h]; exact hyn
            rw [List.length_append] at hlen ⊢
            rw [List.length_append]
            simp at hlen ⊢
            omega
          have put : DPut H'' dc (iv y) (iv h) (upd H'' dc (.dK (putK kc' (nK y) (iv h)))) := DPut.k (k := nK y) F.dct (by rw [F.dd.len]; exact small1000 (by omega))
          by_cases hye : y ∈ ends
          · rw [decide_eq_true hye]
            refine ⟨_, rfl, iteT ?_⟩
            refine iteT ?_
            refine ⟨iv h, rfl, .ref dc, rfl, iv y, rfl, dc, _, rfl, put, ?_⟩
            have h2e : upd H'' dc (.dK (putK kc' (nK y) (iv h))) e = some (.lst (ivs ends)) := by rw [upd_ne (ne_of_none he F.c0)]; exact F.sm _ _ he
            refine ⟨iv y, rfl, .ref e, rfl, e, _, rfl, .inl (lq h2e), rfl, flat_ivs _, ?_⟩
            rw [inV_ivs, decide_eq_true hye]
            refine ⟨_, rfl, iteT ?_⟩
            obtain ⟨c, c1, c2, c3, c4, c5⟩ := F.chain hhk' hm hyR
            have hyb : y ≠ b := fun e => hm (e ▸ F.bin)
            have W : Way R b ends bar c.reverse := Way.of c1 c2 c3 (fun u v g => (c5 u v g).2.2) hye hyb c4 F.bad
            have hcn : c.length ≤ n := length_of c3 fun z hz => by
              rcases c4 z hz with h | h
              · rw [h]; exact hyn
              · exact F.lt z h
            have hCh : Chain (putK kc' (nK y) (iv h)) c := fun i x hx => by
              have hxc : x ∈ c := List.mem_of_getElem? hx
              have hxk : x ∈ kz' ++ [y] := by
                rcases c4 x hxc with h | h
                · simp [h]
                · exact List.mem_append_left _ h
              refine ⟨fun v hv => ?_, fun hv => ?_⟩
              · obtain ⟨g1, g2, _⟩ := c5 x v (pd_get hx hv)
                rw [(F.val hm).val, if_pos hxk, if_neg g1, g2]
              · have hl : c.getLast? = some x := by
                  have h1 := (List.getElem?_eq_some_iff.mp hx).1
                  have h2 := List.getElem?_eq_none_iff.mp hv
                  rw [List.getLast?_eq_getElem?, show c.length - 1 = i by omega]
                  exact hx
                rw [c2] at hl
                have : b = x := Option.some.inj hl
                rw [(F.val hm).val, if_pos hxk, if_pos this.symm]
            cases c with
            | nil => simp at c1
            | cons y0 c =>
              simp at c1
              subst c1
              refine ⟨.ref dc, rfl, iv y0, rfl, dc, y0, c, _, rfl, upd_same, hCh, by simp at hcn; omega, fun H3 a s3 ha => ?_⟩
              refine q1 H3 a _ (Same.trans (fun b o z => ?_) s3) ha W
              rw [upd_ne (ne_of_none z F.c0)]; exact F.sm _ _ z
          · rw [decide_eq_false hye]
            refine ⟨_, rfl, ?_⟩
            rw [if_neg (by decide)]
            refine ⟨iv y, rfl, .ref g, rfl, g, _, rfl, DGet.k (k := nK y) (F.sm _ _ hg), ?_⟩
            rw [hbar.val, isSome_if]
            by_cases hyb : y ∈ bar
            · rw [decide_eq_true hyb]
              refine ⟨_, rfl, iteF ?_⟩
              exact stay fun hh => hh.elim (fun z => absurd z hye) (fun z => absurd hyb z)
            · rw [decide_eq_false hyb]
              refine ⟨_, rfl, iteT ?_⟩
              refine ⟨iv h, rfl, .ref dc, rfl, iv y, rfl, dc, _, rfl, put, ?_⟩
              have h2e : upd H'' dc (.dK (putK kc' (nK y) (iv h))) e = some (.lst (ivs ends)) := by rw [upd_ne (ne_of_none he F.c0)]; exact F.sm _ _ he
              refine ⟨iv y, rfl, .ref e, rfl, e, _, rfl, .inl (lq h2e), rfl, flat_ivs _, ?_⟩
              rw [inV_ivs, decide_eq_false hye]
              refine ⟨_, rfl, iteF ?_⟩
              have hwl : upd H'' dc (.dK (putK kc' (nK y) (iv h))) dw = some (.lst (ivs wt')) := by rw [upd_ne F.ne]; exact F.wl
              have hms2 := tail_add hye hyb
              have hwn := F.wn
              refine ⟨.ref dw, rfl, .inl ⟨rfl, _, lq hwl⟩, iv y, rfl, dw, _, iv y, rfl, rfl, hwl, by rw [List.length_map]; exact small1000 (by omega), ?_⟩
              refine ⟨_, kz' ++ [y], _, wt' ++ [y], _, rfl, F.add hhk' hm hyR hyn hye hyb, by rw [upd_ne hrd, upd_ne hrc]; exact hr3, List.mem_append_left _ hhk', hms2, fun x hx hxw hxh z hz hh => ?_, fun z hz hh => ?_⟩
              · rcases List.mem_append.mp hx with hx | hx
                · exact List.mem_append_left _ (hcl1 x hx (fun z => hxw (List.mem_append_left _ z)) hxh z hz hh)
                · exact absurd (List.mem_append_right _ hx) hxw
              · rcases (etake z).mp hz with h | h
                · exact List.mem_append_left _ (hcl2 z h hh)
                · rw [h]; simp
      · obtain ⟨kc, kz', pa, wt', y, rfl, F, hr3, hhk', hms, hcl1, hcl2⟩ := hh
        refine ⟨_, ?_, kc, kz', pa, wt', _, _, rfl, F, rfl, fun x hx hw y hy hh => ?_⟩
        · show 2 * (n - kz'.length) + wt'.length < 2 * (n - kz.length) + (wt.length + 1)
          omega
        · by_cases e : x = h
          · rw [e] at hy
            refine hcl2 y ?_ hh
            rw [show (R h).take (ivs (R h)).length = R h by simp [ivs]]
            exact hy
          · exact hcl1 x hx hw e y hy hh
end
end Wp
set_option maxHeartbeats 4000000
namespace Wp
open PySem PySem.Spec PyProof.Rows L2
open C8 (Cal pe_c pe_gc)
open Wb (pd)
/-- S: what is met from c through none of St; T: those of St beside it -/
structure PieceOf (R : Nat → List Nat) (St : List Nat) (c : Nat) (S T : List Nat) : Prop where
  cin : c ∈ S
  out : ∀ x ∈ S, x ∉ St
  cl : ∀ x ∈ S, ∀ y ∈ R x, y ∉ St → y ∈ S
  tou : ∀ y, y ∈ T ↔ y ∈ St ∧ ∃ x ∈ S, y ∈ R x
  least : ∀ W : Nat → Prop, W c → (∀ x y, W x → y ∈ R x → y ∉ St → W y) → ∀ x ∈ S, W x
structure PC (H H' : Hp) (dm da dt ds : Addr) (n c : Nat) (R : Nat → List Nat) (St M : List Nat) (km kt : List (Key × V)) (kv : List (List Key × V)) (M' S T : List Nat) (ts : List (Nat × Nat)) (wt : List Nat) : Prop where
  sm : SameX dm H H'
  a0 : H da = none
  t0 : H dt = none
  s0 : H ds = none
  am : da ≠ dm
  tm : dt ≠ dm
  zm : ds ≠ dm
  met : H' dm = some (.dK km)
  dmet : DS nK km M' (.bl true)
  mem : ∀ x, x ∈ M' ↔ x ∈ M ∨ x ∈ S
  tou : H' dt = some (.dK kt)
  dtou : DS nK kt T (.bl true)
  tie : H' ds = some (.dT kv)
  dtie : DS tK kv ts (.bl true)
  wl : H' da = some (.lst (ivs wt))
  wk : ∀ x ∈ wt, x ∈ S
  wn : wt.length ≤ S.length
  nd : S.Nodup
  lt : ∀ x ∈ S, x < n ∧ x ∉ M ∧ x ∉ St
  cin : c ∈ S
  least : ∀ W : Nat → Prop, W c → (∀ x y, W x → y ∈ R x → y ∉ St → W y) → ∀ x ∈ S, W x
  tok : ∀ y ∈ T, y < n ∧ y ∈ St ∧ ∃ x ∈ S, y ∈ R x
  uok : ∀ t ∈ ts, t.1 < n ∧ t.2 < n ∧ ∃ x ∈ S, ∃ y ∈ R x, t = mm (x, y)
section
variable {H H' : Hp} {dm da dt ds : Addr} {n c : Nat} {R : Nat → List Nat} {St M : List Nat} {km kt : List (Key × V)} {kv : List (List Key × V)} {M' S T : List Nat} {ts : List (Nat × Nat)} {wt : List Nat}
theorem PC.at_ (F : PC H H' dm da dt ds n c R St M km kt kv M' S T ts wt) {ds' : Addr} : True := trivial
theorem PC.pair (F : PC H H' dm da dt ds n c R St M km kt kv M' S T ts wt) (hdt : dt ≠ ds) : da ≠ dt ∧ da ≠ ds := by
  refine ⟨fun e => ?_, fun e => ?_⟩
  · have := F.wl
    rw [e, F.tou] at this; cases this
  · have := F.wl
    rw [e, F.tie] at this; cases this
theorem PC.dts (F : PC H H' dm da dt ds n c R St M km kt kv M' S T ts wt) : dt ≠ ds := fun e => by
  have := F.tou
  rw [e, F.tie] at this; cases this
theorem PC.adt (F : PC H H' dm da dt ds n c R St M km kt kv M' S T ts wt) : da ≠ dt := fun e => by
  have := F.wl
  rw [e, F.tou] at this; cases this
theorem PC.ads (F : PC H H' dm da dt ds n c R St M km kt kv M' S T ts wt) : da ≠ ds := fun e => by
  have := F.wl
  rw [e, F.tie] at this; cases this
/-- new objects change nothing -/
theorem PC.same {H2 : Hp} (F : PC H H' dm da dt ds n c R St M km kt kv M' S T ts wt) (g : Same H' H2) : PC H H2 dm da dt ds n c R St M km kt kv M' S T ts wt :=
  { F with sm := SameX.trans F.sm (Same.x g), met := g _ _ F.met, tou := g _ _ F.tou, tie := g _ _ F.tie, wl := g _ _ F.wl }
theorem PC.pop {x : Nat} (F : PC H H' dm da dt ds n c R St M km kt kv M' S T ts (wt ++ [x])) : PC H (upd H' da (.lst (ivs wt))) dm da dt ds n c R St M km kt kv M' S T ts wt :=
  { F with sm := F.sm.new F.a0, met := by rw [upd_ne (Ne.symm F.am)]; exact F.met, tou := by rw [upd_ne (Ne.symm F.adt)]; exact F.tou, tie := by rw [upd_ne (Ne.symm F.ads)]; exact F.tie, wl := upd_same, wk := fun z hz => F.wk z (List.mem_append_left _ hz), wn := by have := F.wn; simp at this; omega }
theorem PC.addTie {x y : Nat} (F : PC H H' dm da dt ds n c R St M km kt kv M' S T ts wt) (hx : x ∈ S) (hy : y ∈ R x) (hyn : y < n) : PC H (upd H' ds (.dT (putK kv (tK (mm (x, y))) (.bl true)))) dm da dt ds n c R St M km kt (putK kv (tK (mm (x, y))) (.bl true)) M' S T (ins (mm (x, y)) ts) wt :=
  { F with sm := F.sm.new F.s0, met := by rw [upd_ne (Ne.symm F.zm)]; exact F.met, tou := by rw [upd_ne F.dts]; exact F.tou, tie := upd_same, dtie := F.dtie.putS (fun a b => tK_inj) (mm (x, y)), wl := by rw [upd_ne F.ads]; exact F.wl,
           uok := fun t ht => by
            rcases mem_ins.mp ht with h | h
            · have hxn := (F.lt x hx).1
              refine ⟨?_, ?_, x, hx, y, hy, h⟩
              · rw [h]; show min x y < n; omega
              · rw [h]; show max x y < n; omega
            · exact F.uok t h }
theorem PC.addTou {x y : Nat} (F : PC H H' dm da dt ds n c R St M km kt kv M' S T ts wt) (hx : x ∈ S) (hy : y ∈ R x) (hyn : y < n) (hs : y ∈ St) : PC H (upd H' dt (.dK (putK kt (nK y) (.bl true)))) dm da dt ds n c R St M km (putK kt (nK y) (.bl true)) kv M' S (ins y T) ts wt :=
  { F with sm := F.sm.new F.t0, met := by rw [upd_ne (Ne.symm F.tm)]; exact F.met, tou := upd_same, tie := by rw [upd_ne (Ne.symm F.dts)]; exact F.tie, dtou := F.dtou.putS (fun a b => nK_inj) y, wl := by rw [upd_ne F.adt]; exact F.wl,
           tok := fun t ht => by
            rcases mem_ins.mp ht with h | h
            · rw [h]; exact ⟨hyn, hs, x, hx, hy⟩
            · exact F.tok t h }
theorem PC.addMet {x y : Nat} (F : PC H H' dm da dt ds n c R St M km kt kv M' S T ts wt) (hx : x ∈ S) (hy : y ∈ R x) (hyn : y < n) (hs : y ∉ St) (hm : y ∉ M') :
    PC H (upd (upd H' dm (.dK (putK km (nK y) (.bl true)))) da (.lst (ivs wt ++ [iv y]))) dm da dt ds n c R St M (putK km (nK y) (.bl true)) kt kv (ins y M') (S ++ [y]) T ts (wt ++ [y]) where
  sm := F.sm.put.new F.a0
  a0 := F.a0
  t0 := F.t0
  s0 := F.s0
  am := F.am
  tm := F.tm
  zm := F.zm
  met := by rw [upd_ne (Ne.symm F.am), upd_same]
  dmet := F.dmet.putS (fun a b => nK_inj) y
  mem z := by
    rw [mem_ins, F.mem]
    simp only [List.mem_append, List.mem_singleton]
    constructor
    · rintro (h | h | h)
      · exact .inr (.inr h)
      · exact .inl h
      · exact .inr (.inl h)
    · rintro (h | h | h)
      · exact .inr (.inl h)
      · exact .inr (.inr h)
      · exact .inl h
  tou := by rw [upd_ne (Ne.symm F.adt), upd_ne F.tm]; exact F.tou
  dtou := F.dtou
  tie := by rw [upd_ne (Ne.symm F.ads), upd_ne F.zm]; exact F.tie
  dtie := F.dtie
  wl := by rw [upd_same]; simp [ivs]
  wk z hz := by
    rcases List.mem_append.mp hz with h | h
    · exact List.mem_append_left _ (F.wk z h)
    · exact List.mem_append_right _ h
  wn := by
    rw [List.length_append, List.length_append]
    have := F.wn
    simp; omega
  nd := nd_snoc F.nd fun z => hm ((F.mem y).mpr (.inr z))
  lt z hz := by
    rcases List.mem_append.mp hz with h | h
    · exact F.lt z h
    · simp at h
      rw [h]
      exact ⟨hyn, fun z => hm ((F.mem y).mpr (.inl z)), hs⟩
  cin := List.mem_append_left _ F.cin
  least W h0 hs' z hz := by
    rcases List.mem_append.mp hz with h | h
    · exact F.least W h0 hs' z h
    · simp at h
      rw [h]
      exact hs' x y (F.least W h0 hs' x hx) hy hs
  tok z hz := by
    obtain ⟨h1, h2, u, hu, h3⟩ := F.tok z hz
    exact ⟨h1, h2, u, List.mem_append_left _ hu, h3⟩
  uok t ht := by
    obtain ⟨h1, h2, u, hu, h3⟩ := F.uok t ht
    exact ⟨h1, h2, u, List.mem_append_left _ hu, h3⟩
end
theorem pairs_of_len {ts : List (Nat × Nat)} {n : Nat} (nd : ts.Nodup) (hn : n ≤ 20) (h : ∀ t ∈ ts, t.1 < n ∧ t.2 < n) : ts.length ≤ 400 := by
  have h1 : (ts.map fun t => 20 * t.1 + t.2).Nodup := by
    unfold List.Nodup
    rw [List.pairwise_map]
    refine List.Pairwise.imp_of_mem (fun {a b} ha hb hab e => ?_) nd
    have := h a ha
    have := h b hb
    exact hab (Prod.ext (by omega) (by omega))
  have := length_of h1 (n := 400) fun x hx => by
    obtain ⟨t, ht, e⟩ := List.mem_map.mp hx
    have := h t ht
    omega
  simpa using this
end Wp
set_option maxHeartbeats 4000000
namespace Wp
open PySem PySem.Spec PyProof.Rows L2
open C8 (Cal pe_c pe_gc)
open Wb (pd)
theorem nil_or_snoc {α : Type} (l : List α) : l = [] ∨ ∃ l' x, l = l' ++ [x] := by
  rcases List.eq_nil_or_concat l with h | ⟨l', x, h⟩
  · exact .inl h
  · exact .inr ⟨l', x, by rw [h, List.concat_eq_append]⟩
def PieceV (H : Hp) (v : V) (T wy : List Nat) : Prop := ∃ p a b, v = .ref p ∧ H p = some (.tup [.ref a, .ref b]) ∧ H a = some (.lst (ivs T)) ∧ H b = some (.lst (ivs wy))
theorem PieceV.keep {H H' : Hp} {v : V} {T wy : List Nat} (h : PieceV H v T wy) (g : Same H H') : PieceV H' v T wy := by
  obtain ⟨p, a, b, e, h1, h2, h3⟩ := h
  exact ⟨p, a, b, e, g _ _ h1, g _ _ h2, g _ _ h3⟩
/-- a way through a piece from one of T to another -/
structure WayP (R : Nat → List Nat) (St S T wy : List Nat) : Prop where
  nd : wy.Nodup
  ends : ∃ b ∈ T, ∃ z ∈ T, wy.head? = some b ∧ wy.getLast? = some z ∧ z ≠ b
  st : ∀ u v, pd wy u v = true → v ∈ R u ∧ (u ∈ S ∨ v ∈ S)
  inn : ∀ x ∈ wy, wy.head? ≠ some x → wy.getLast? ≠ some x → x ∉ St
section
variable {P : Program} {w : World} {K : PySem.W.Frag} {mg : Str → Option Value} {base : Heap}
def spPieceFrom : Sp := fun vs H Q _ => ∃ (d sd dm : Addr) (n c : Nat) (kvs : List (Key × V)) (ks : List Nat) (ad : Nat → Addr) (R : Nat → List Nat) (kst : List (Key × V)) (St : List Nat) (km : List (Key × V)) (M : List Nat), vs = [.ref d, iv c, .ref sd, .ref dm] ∧
  NearA H d kvs ks ad R ∧ H sd = some (.dK kst) ∧ DS nK kst St (.bl true) ∧ H dm = some (.dK km) ∧ DS nK km M (.bl true) ∧ sd ≠ dm ∧ d ≠ dm ∧ n ≤ 20 ∧ (∀ a, ∀ y ∈ R a, y < n) ∧ (∀ a b, b ∈ R a → a ∈ R b) ∧ c ∈ ks ∧ c < n ∧ c ∉ St ∧ c ∉ M ∧
  (∀ x ∈ M, x < n) ∧ (∀ x ∈ M, ∀ y ∈ R x, y ∉ St → y ∈ M) ∧ (∀ S T, PieceOf R St c S T → T.Nodup → 2 ≤ T.length) ∧
  ∀ H' v S T wy km' M', SameX dm H H' → PieceV H' v T wy → PieceOf R St c S T → T.Nodup → WayP R St S T wy → H' dm = some (.dK km') → DS nK km' M' (.bl true) → (∀ x, x ∈ M' ↔ x ∈ M ∨ x ∈ S) → Q v H'
theorem k_piece_from (A : At K mg "piece_from" s_piece_from) (B : Bt mg) (C_tie_of : Cal P w K mg base 1 "tie_of" spTieOf []) (C_near_by : Cal P w K mg base 1 "near_by" spNearByL []) (C_way_through : Cal P w K mg base 2 "way_through" spWayThrough []) : Cal P w K mg base 3 "piece_from" spPieceFrom [] := by
  refine mk A sc_piece_from (fun _ _ _ _ _ _ us hl => match us, hl with | [_, _, _, _], _ => rfl) (fun vs H Q E h => ?_) (fun f cdv A outer s H vs Q E hr h => ?_)
  · obtain ⟨d, sd, dm, n, c, kvs, ks, ad, R, kst, St, km, M, rfl, _⟩ := h
    rfl
  · obtain ⟨d, sd, dm, n, c, kvs, ks, ad, R, kst, St, km, M, rfl, hN, hsd, hSt, hdm, hMd, hsdm, hddm, hn, hR, hsym, hck, hcn, hcS, hcM, hM, hMcl, hT2, q⟩ := h
    refine ⟨_, (pss_cons (ps_par3 (i := 4) (j := 5) (l := 6) rfl sc_piece_from.nd rfl rfl rfl (by decide) (by decide) (by decide) rfl rfl rfl (pa_cons (pe_lst (pa_cons (pv 1) pa_nil)) (pa_cons pe_dnewK (pa_cons pe_dnewT pa_nil))) rfl)
    (pss_cons (ps_dput (hu_of hr) (pv 3) (pv 1) pe_bl rfl)
    (pss_cons (ps_while PassesOwn.never (pt_cmpR (op_neD hr.units) (pv 4) (pe_lst pa_nil) (nomark _))
      (pss_cons (ps_set (i := 7) sc_piece_from.nd rfl (.inl rfl) (pe_bm0 PySem.F.plainAttrs_list PySem.F.slot_list_pop PySem.F.type_list_pop mt_pop (pv 4)))
      (pss_one (ps_for PassesOwn.never rfl (pi_list (pe_dget (hu_of hr) (pv 0) (pv 7) (fun _ _ => rfl))) (pg_name (i := 8) sc_piece_from.nd rfl (.inl rfl))
        (pss_cons (ps_dput (hu_of hr) (pv 6) (pe_c C_tie_of hr (by decide) (by rfl) (pa_cons (pv 7) (pa_cons (pv 8) pa_nil))) pe_bl rfl)
        (pss_one (ps_if (pt_cmp (pc_din (hu_of hr) (pv 8) (pv 2)))
          (pss_one (ps_dput (hu_of hr) (pv 5) (pv 8) pe_bl rfl))
          (pss_one (ps_if (pt_cmp (pc_dnotin (hu_of hr) (pv 8) (pv 3)))
            (pss_cons (ps_dput (hu_of hr) (pv 3) (pv 8) pe_bl rfl)
            (pss_one (ps_expr (pe_bm PySem.F.plainAttrs_list PySem.F.slot_list_append PySem.F.type_list_append mt_append (pv 4) (pa_cons (pv 8) pa_nil)))))
            pss_nil)))))))))
    (pss_cons (ps_set (i := 9) sc_piece_from.nd rfl (.inl rfl) (pe_callB cr_sorted (by rfl) B.sorted (by decide +kernel) (pa_cons (pe_callTy (call_list_dK rfl) (by rfl) B.list (by decide +kernel) (pa_cons (pv 5) pa_nil)) pa_nil)))
    (pss_one (ps_ret (pe_tup (pa_cons (pv 9) (pa_cons (pe_c C_way_through hr (by decide) (by rfl) (pa_cons (pe_c C_near_by hr (by decide) (by rfl) (pa_cons (pe_callB cr_sortedPO (by rfl) B.sorted (by decide +kernel) (pa_cons (pe_callTy (call_list_dT rfl) (by rfl) B.list (by decide +kernel) (pa_cons (pv 6) pa_nil)) pa_nil)) pa_nil)) (pa_cons (pe_ix ix_list (pv 9) pe_int (fun _ _ => rfl)) (pa_cons (pe_slice sl_list (pv 9) (po_some pe_int) po_none) (pa_cons (pv 2) pa_nil))))) pa_nil))))))))), ?_⟩
    refine ⟨iv c, rfl, by show 1 ≤ sizeLine; decide, fun da hda dt hdt ds hds => ⟨_, _, _, rfl, ?_⟩⟩
    have hdtH : H dt = none := none_of_same (same_upd hda) hdt
    have hdsH : H ds = none := none_of_same (Same.trans (same_upd hda) (same_upd hdt)) hds
    have ham : da ≠ dm := fun z => by rw [z, hdm] at hda; cases hda
    have htm : dt ≠ dm := fun z => by rw [z, hdm] at hdtH; cases hdtH
    have hzm : ds ≠ dm := fun z => by rw [z, hdm] at hdsH; cases hdsH
    have hat : da ≠ dt := fun z => by rw [← z, upd_same] at hdt; cases hdt
    have hzt : ds ≠ dt := fun z => by rw [z, upd_same] at hds; cases hds
    have hza : ds ≠ da := fun z => by rw [z, upd_ne hat, upd_same] at hds; cases hds
    have s0 : Same H (upd (upd (upd H da (.lst [iv c])) dt (.dK [])) ds (.dT [])) := Same.trans (same_upd hda) (Same.trans (same_upd hdt) (same_upd hds))
    have hML := length_of hMd.nd hM
    refine ⟨.ref dm, rfl, iv c, rfl, dm, _, rfl, DPut.k (k := nK c) (s0 _ _ hdm) (by rw [hMd.len]; exact small1000 (by omega)), ?_⟩
    have F0 : PC H (upd (upd (upd (upd H da (.lst [iv c])) dt (.dK [])) ds (.dT [])) dm (.dK (putK km (nK c) (.bl true)))) dm da dt ds n c R St M (putK km (nK c) (.bl true)) [] [] (ins c M) [c] [] [] [c] := by
      refine ⟨SameX.put (Same.x s0), hda, hdtH, hdsH, ham, htm, hzm, upd_same, hMd.putS (fun a b => nK_inj) c, fun x => ?_, ?_, DD.nil0, ?_, DD.nil0, ?_, by simp, Nat.le_refl _, by simp, fun x hx => ?_, by simp, fun W h0 _ x hx => ?_, by simp, by simp⟩
      · rw [mem_ins]; simp [or_comm]
      · rw [upd_ne htm, upd_ne (Ne.symm hzt), upd_same]
      · rw [upd_ne hzm, upd_same]
      · rw [upd_ne ham, upd_ne (Ne.symm hza), upd_ne hat, upd_same]; rfl
      · simp at hx; rw [hx]; exact ⟨hcn, hcM, hcS⟩
      · simp at hx; rw [hx]; exact h0
    refine ⟨fun m σ H' => ∃ km kt kv M' S T ts wt x y z, σ = [some (.ref d), some (iv c), some (.ref sd), some (.ref dm), some (.ref da), some (.ref dt), some (.ref ds), x, y, z] ∧ PC H H' dm da dt ds n c R St M km kt kv M' S T ts wt ∧ m = 2 * (n - S.length) + wt.length ∧
        ∀ x ∈ S, x ∉ wt → ∀ y ∈ R x, mm (x, y) ∈ ts ∧ (y ∈ St → y ∈ T) ∧ (y ∉ St → y ∈ M'), ⟨_, _, _, _, _, _, _, _, _, none, none, none, rfl, F0, rfl, fun x hx hw => absurd hx hw⟩, fun m σ H' h => ?_⟩
    obtain ⟨km, kt, kv, M', S, T, ts, wt, x, y, z, rfl, F, rfl, hcl⟩ := h
    refine ⟨.ref da, rfl, by show 0 ≤ sizeLine; omega, fun p hp => ?_⟩
    have F1 := F.same (same_upd (o := .lst []) hp)
    have hps : upd H' p (.lst []) p = some (.lst []) := upd_same
    generalize upd H' p (.lst []) = H1 at F1 hps ⊢
    refine ne_nil_ints F1.wl hps ?_
    rcases nil_or_snoc wt with rfl | ⟨wt, h, rfl⟩
    · rw [decide_eq_false (by simp)]
      refine ⟨false, rfl, iteF ?_⟩
      have hcl' : ∀ x ∈ S, ∀ y ∈ R x, mm (x, y) ∈ ts ∧ (y ∈ St → y ∈ T) ∧ (y ∉ St → y ∈ M') := fun x hx => hcl x hx (by simp)
      have hTn := length_of F1.dtou.nd fun x hx => (F1.tok x hx).1
      have hts := pairs_of_len F1.dtie.nd hn fun t ht => ⟨(F1.uok t ht).1, (F1.uok t ht).2.1⟩
      refine ⟨.ref dt, rfl, dt, kt, rfl, F1.tou, fun l1 hl1 => ?_⟩
      have F2 := F1.same (same_upd (o := .lst (kt.map fun kv => kV kv.1)) hl1)
      have hkl : upd H1 l1 (.lst (kt.map fun kv => kV kv.1)) l1 = some (.lst (kt.map fun kv => kV kv.1)) := upd_same
      generalize upd H1 l1 (.lst (kt.map fun kv => kV kv.1)) = H2 at F2 hkl ⊢
      have ek : (kt.map fun kv => kV kv.1) = (T.map fun (k : Nat) => (k : Int)).map V.int := by
        have := congrArg (List.map kV) F1.dtou.keys
        rw [List.map_map, List.map_map] at this
        rw [List.map_map]
        exact this
      refine ⟨l1, _, rfl, lq (hkl.trans (by rw [ek])), by rw [List.length_map]; omega, fun ns l2 hns hsr hl2 => ?_⟩
      obtain ⟨T', rfl, hT'⟩ := nats_of_perm hns
      have F3 := F2.same (same_upd (o := .lst ((T'.map fun (k : Nat) => (k : Int)).map V.int)) hl2)
      have h2s : upd H2 l2 (.lst ((T'.map fun (k : Nat) => (k : Int)).map V.int)) l2 = some (.lst (ivs T')) := by rw [upd_same]; simp [ivs]
      generalize upd H2 l2 (.lst ((T'.map fun (k : Nat) => (k : Int)).map V.int)) = H3 at F3 h2s ⊢
      have hPO : PieceOf R St c S T' := by
        refine ⟨F3.cin, fun x hx => (F3.lt x hx).2.2, fun x hx y hy hyS => ?_, fun y => ?_, F3.least⟩
        · rcases (F3.mem y).mp ((hcl' x hx y hy).2.2 hyS) with g | g
          · exact absurd (hMcl y g x (hsym x y hy) (F3.lt x hx).2.2) (F3.lt x hx).2.1
          · exact g
        · rw [hT'.mem_iff]
          constructor
          · intro hy
            exact (F3.tok y hy).2
          · rintro ⟨h1, x, hx, hy⟩
            exact (hcl' x hx y hy).2.1 h1
      have hTnd : T'.Nodup := hT'.nodup_iff.mpr F3.dtou.nd
      have hT2' := hT2 S T' hPO hTnd
      refine ⟨.ref l2, rfl, ?_⟩
      refine ⟨.ref ds, rfl, ds, kv, rfl, .inl F3.tie, fun l3 bs hl3 hbs => ?_⟩
      have hkt := keys_ties hbs F3.dtie.keys
      have F4 := F3.same (same_upd (o := .lst (bs.map V.ref)) hl3)
      have s4 := same_upd (o := .lst (bs.map V.ref)) hl3
      have h3s : upd H3 l3 (.lst (bs.map V.ref)) l3 = some (.lst (bs.map V.ref)) := upd_same
      generalize upd H3 l3 (.lst (bs.map V.ref)) = H4 at F4 s4 h3s ⊢
      have P1 : Paired (TieV H4) (bs.map V.ref) ts := paired_mono (fun _ _ r => r.keep (Same.tups s4)) hkt
      refine ⟨l3, _, kk H4, rfl, lq h3s, fun x hx => ?_, fun ys l5 hs hst h5 => ?_⟩
      · obtain ⟨u, _, ⟨t, rfl, ht⟩⟩ := paired_mem P1 hx
        refine ⟨t, rfl, ?_⟩
        rw [ht, kk_tie ⟨t, rfl, ht⟩]
      obtain ⟨us, P2, hperm, hlt⟩ := sorted_ties P1 F4.dtie.nd hs hst.perm
      have F5 := F4.same (same_upd (o := .lst ys) h5)
      have s5 := same_upd (o := .lst ys) h5
      have h5s : upd H4 l5 (.lst ys) l5 = some (.lst ys) := upd_same
      generalize upd H4 l5 (.lst ys) = H5 at F5 s5 h5s ⊢
      refine ⟨l5, ys, us, rfl, h5s, paired_mono (fun _ _ r => r.keep (Same.tups s5)) P2, by rw [hperm.length_eq]; exact hts, fun H6 d6 kvs6 ks6 ad6 R6 s6 hN6 hk6 hR6 hks6 hRl6 => ?_⟩
      have F6 := F5.same s6
      have h2s6 : H6 l2 = some (.lst (ivs T')) := s6 _ _ (s5 _ _ (s4 _ _ h2s))
      have hRS : ∀ u v, v ∈ R6 u ↔ v ∈ R u ∧ (u ∈ S ∨ v ∈ S) := fun u v => by
        rw [hR6]
        unfold adj
        rw [hperm.mem_iff, hperm.mem_iff]
        constructor
        · intro h
          have : ∃ x ∈ S, ∃ y ∈ R x, (u = x ∧ v = y) ∨ (u = y ∧ v = x) := by
            rcases h with h | h
            · obtain ⟨_, _, x, hx, y, hy, e⟩ := F6.uok _ h
              refine ⟨x, hx, y, hy, ?_⟩
              have e1 : u = min x y := congrArg Prod.fst e
              have e2 : v = max x y := congrArg Prod.snd e
              omega
            · obtain ⟨_, _, x, hx, y, hy, e⟩ := F6.uok _ h
              refine ⟨x, hx, y, hy, ?_⟩
              have e1 : v = min x y := congrArg Prod.fst e
              have e2 : u = max x y := congrArg Prod.snd e
              omega
          obtain ⟨x, hx, y, hy, ⟨rfl, rfl⟩ | ⟨rfl, rfl⟩⟩ := this
          · exact ⟨hy, .inl hx⟩
          · exact ⟨hsym _ _ hy, .inr hx⟩
        · rintro ⟨h, g⟩
          have key : mm (u, v) ∈ ts := by
            rcases g with g | g
            · exact (hcl' u g v h).1
            · have := (hcl' v g u (hsym _ _ h)).1
              have e : mm (v, u) = mm (u, v) := Prod.ext (Nat.min_comm v u) (Nat.max_comm v u)
              rw [← e]; exact this
          by_cases e : u ≤ v
          · left
            have : mm (u, v) = (u, v) := Prod.ext (Nat.min_eq_left e) (Nat.max_eq_right e)
            rw [← this]; exact key
          · right
            have : mm (u, v) = (v, u) := Prod.ext (Nat.min_eq_right (by omega)) (Nat.max_eq_left (by omega))
            rw [← this]; exact key
      cases T' with
      | nil => simp at hT2'
      | cons t0 tr =>
        have ht0 := (F6.tok t0 (hT'.mem_iff.mp (by simp)))
        refine ⟨.ref l2, rfl, l2, _, 0, iv t0, rfl, rfl, lq h2s6, atI_nat (j := 0) rfl, ?_⟩
        refine ⟨.ref l2, rfl, 1, rfl, l2, _, rfl, lq h2s6, fun l7 hl7 => ?_⟩
        have F7 := F6.same (same_upd (o := .lst (cutV (ivs (t0 :: tr)) (some 1) none)) hl7)
        have s7 := same_upd (o := .lst (cutV (ivs (t0 :: tr)) (some 1) none)) hl7
        have h7s : upd H6 l7 (.lst (cutV (ivs (t0 :: tr)) (some 1) none)) l7 = some (.lst (ivs tr)) := by
          rw [upd_same, cut1]; rfl
        generalize upd H6 l7 (.lst (cutV (ivs (t0 :: tr)) (some 1) none)) = H7 at F7 s7 h7s ⊢
        have hndc := List.nodup_cons.mp hTnd
        have htmem : ∀ z, z ∈ t0 :: tr → z ∈ St ∧ ∃ x ∈ S, z ∈ R x := fun z hz => (hPO.tou z).mp hz
        refine ⟨.ref sd, rfl, d6, l7, sd, n, t0, kvs6, ks6, ad6, R6, tr, kst, St, rfl, hN6.keep s7, h7s, F7.sm _ _ hsdm hsd, hSt, hn, ht0.1, fun a y hy => hR a y ((hRS a y).mp hy).1, fun H8 a wy s8 ha W => ?_, fun H8 X s8 W => ?_⟩
        · have F8 := F7.same s8
          refine ⟨by show 2 ≤ sizeLine; decide, fun pp hpp => ?_⟩
          have F9 := F8.same (same_upd (o := .tup [.ref l2, .ref a]) hpp)
          have s9 := same_upd (o := .tup [.ref l2, .ref a]) hpp
          refine q _ (.ref pp) S (t0 :: tr) wy _ _ F9.sm ⟨pp, l2, a, rfl, upd_same, s9 _ _ (s8 _ _ (s7 _ _ h2s6)), s9 _ _ ha⟩ hPO hTnd ?_ F9.met F9.dmet F9.mem
          obtain ⟨z, hz, hzl, hzb⟩ := W.lst
          refine ⟨W.nd, ⟨t0, by simp, z, .tail _ hz, W.hd, hzl, hzb⟩, fun u v h => ?_, fun x hx h1 h2 => (W.inn x hx (fun e => h1 (by rw [W.hd, e])) h2).2⟩
          obtain ⟨g1, g2⟩ := (hRS u v).mp (W.st u v h)
          exact ⟨g1, g2⟩
        · exfalso
          -- the walk is shut, yet another of T can be reached
          obtain ⟨_, s0', hs0, ht0s⟩ := htmem t0 (by simp)
          have hs0X : s0' ∈ X := W.cl t0 W.bin s0' ((hRS _ _).mpr ⟨hsym _ _ ht0s, .inr hs0⟩) (.inr (hPO.out s0' hs0))
          have hcX : ∀ x ∈ S, x ∈ X := by
            -- from s0' all of S is met: c first
            have hall : ∀ Wp : Nat → Prop, Wp s0' → (∀ x y, Wp x → x ∈ S → y ∈ S → (y ∈ R x) → Wp y) → ∀ x ∈ S, Wp x := fun Wp h0 hs => by
              have hc0 : Wp c := by
                have := hPO.least (fun x => x ∈ S ∧ (Wp x → Wp c)) ⟨hPO.cin, id⟩ (fun x y hx hy hyS => ⟨hPO.cl x hx.1 y hy hyS, fun hw => hx.2 (hs y x hw (hPO.cl x hx.1 y hy hyS) hx.1 (hsym _ _ hy))⟩) s0' hs0
                exact this.2 h0
              intro x hx
              have := hPO.least (fun x => x ∈ S ∧ Wp x) ⟨hPO.cin, hc0⟩ (fun x y hx hy hyS => ⟨hPO.cl x hx.1 y hy hyS, hs x y hx.2 hx.1 (hPO.cl x hx.1 y hy hyS) hy⟩) x hx
              exact this.2
            exact hall (fun x => x ∈ X) hs0X fun x y hx hxS hyS hy => W.cl x hx y ((hRS _ _).mpr ⟨hy, .inl hxS⟩) (.inr (hPO.out y hyS))
          cases tr with
          | nil => simp at hT2'
          | cons t1 tr =>
            obtain ⟨_, x1, hx1, ht1⟩ := htmem t1 (by simp)
            have := W.cl x1 (hcX x1 hx1) t1 ((hRS _ _).mpr ⟨ht1, .inl hx1⟩) (.inl (by simp))
            exact W.no t1 this (fun e => hndc.1 (by rw [e]; simp)) (by simp)
    · rw [decide_eq_true (by simp)]
      refine ⟨true, rfl, iteT ⟨_, fun _ _ h => h, ?_⟩⟩
      refine ⟨.ref da, rfl, .inl ⟨rfl, _, lq F1.wl⟩, da, _, iv h, rfl, rfl, F1.wl, by simp [ivs], ?_⟩
      rw [show (ivs (wt ++ [h])).dropLast = ivs wt by simp [ivs]]
      have F2 := F1.pop
      have hhS : h ∈ S := F.wk h (by simp)
      generalize upd H1 da (.lst (ivs wt)) = H2 at F2 ⊢
      have hhk : h ∈ ks := by
        refine Classical.byContradiction fun hno => ?_
        have : ∀ x ∈ S, x ∈ ks := F.least (fun x => x ∈ ks) hck fun x y hx hy hyS => Classical.byContradiction fun hno => by
          have := hsym x y hy
          rw [hN.emp y hno] at this; cases this
        exact hno (this h hhS)
      have hN2 : NearA H2 d kvs ks ad R := by
        refine ⟨F2.sm _ _ hddm hN.at_, hN.dd, fun a ha => F2.sm _ _ (fun z => ?_) (hN.row a ha), hN.inj, hN.emp⟩
        have := hN.row a ha
        rw [z, hdm] at this; cases this
      refine ⟨.ref d, rfl, iv h, rfl, d, .ref (ad h), rfl, ?_, ad h, rfl, ⟨_, lq (hN2.row h hhk)⟩, ?_⟩
      · have := hN2.dd.val h
        rw [if_pos hhk] at this
        rw [← this]
        exact DGet.k (k := nK h) hN2.at_
      · have hpos : 2 * (n - S.length) + wt.length < 2 * (n - S.length) + (wt ++ [h]).length := by rw [List.length_append]; simp
        have hadm : ad h ≠ dm := fun z => by have := hN.row h hhk; rw [z, hdm] at this; cases this
        have hrow0 := hN.row h hhk
        refine for_it (walk_list (K := K) (a := ad h) (xs := ivs (R h))) (fun j σ H' => ∃ km kt kv M' S' T ts wt' y z, σ = [some (.ref d), some (iv c), some (.ref sd), some (.ref dm), some (.ref da), some (.ref dt), some (.ref ds), some (iv h), y, z] ∧ PC H H' dm da dt ds n c R St M km kt kv M' S' T ts wt' ∧ h ∈ S' ∧ 2 * (n - S'.length) + wt'.length ≤ 2 * (n - S.length) + wt.length ∧
          (∀ x ∈ S', x ∉ wt' → x ≠ h → ∀ y ∈ R x, mm (x, y) ∈ ts ∧ (y ∈ St → y ∈ T) ∧ (y ∉ St → y ∈ M')) ∧ ∀ y ∈ (R h).take j, mm (h, y) ∈ ts ∧ (y ∈ St → y ∈ T) ∧ (y ∉ St → y ∈ M'))
          ⟨_, _, _, _, _, _, _, _, _, _, rfl, F2, hhS, Nat.le_refl _, fun x hx hw hxh y hy => hcl x hx (fun z => by rcases List.mem_append.mp z with z | z; exact hw z; simp at z; exact hxh z) y hy, by simp⟩ (fun j σ H' _ hh => ?_) (fun j v σ H' H'' hj hh hv => ?_) (fun σ H' hh => ?_)
        · obtain ⟨_, _, _, _, _, _, _, _, _, _, _, F, _⟩ := hh
          exact lq (F.sm _ _ hadm hrow0)
        · obtain ⟨km', kt', kv', M2, S', T', ts', wt', y', z', rfl, F, hhS', hms, hcl1, hcl2⟩ := hh
          obtain ⟨rfl, hv⟩ := hv
          obtain ⟨y, hy, rfl⟩ := ivs_get hv
          have hyR : y ∈ R h := List.mem_of_getElem? hy
          have hyn := hR h y hyR
          have etake : ∀ z, z ∈ (R h).take (j + 1) ↔ z ∈ (R h).take j ∨ z = y := fun z => by
            rw [List.take_add_one, hy]; simp
          have hts := pairs_of_len F.dtie.nd hn fun t ht => ⟨(F.uok t ht).1, (F.uok t ht).2.1⟩
          have hTn := length_of F.dtou.nd fun x hx => (F.tok x hx).1
          have hSn := length_of F.nd fun x hx => (F.lt x hx).1
          have hMn := length_of F.dmet.nd fun x hx => ((F.mem x).mp hx).elim (hM x) fun g => (F.lt x g).1
          refine ⟨.ref ds, rfl, iv h, rfl, iv y, rfl, h, y, rfl, fun t ht => ?_⟩
          have F3 := F.same (same_upd (o := .tup [.int (min h y : Nat), .int (max h y : Nat)]) ht)
          have htup : upd H'' t (.tup [.int (min h y : Nat), .int (max h y : Nat)]) t = some (.tup [.int (min h y : Nat), .int (max h y : Nat)]) := upd_same
          generalize upd H'' t (.tup [.int (min h y : Nat), .int (max h y : Nat)]) = H3 at F3 htup ⊢
          refine ⟨ds, _, rfl, DPut.t (k := tK (mm (h, y))) F3.tie htup (by rw [F3.dtie.len]; exact small1000 (by omega)), ?_⟩
          have F4 := F3.addTie hhS' hyR hyn
          generalize upd H3 ds (.dT (putK kv' (tK (mm (h, y))) (.bl true))) = H4 at F4 ⊢
          have hsd4 : H4 sd = some (.dK kst) := F4.sm _ _ hsdm hsd
          refine ⟨iv y, rfl, .ref sd, rfl, sd, _, rfl, DGet.k (k := nK y) hsd4, ?_⟩
          rw [hSt.val, isSome_if]
          by_cases hyS : y ∈ St
          · rw [decide_eq_true hyS]
            refine ⟨_, rfl, iteT ?_⟩
            refine ⟨.ref dt, rfl, iv y, rfl, dt, _, rfl, DPut.k (k := nK y) F4.tou (by rw [F4.dtou.len]; exact small1000 (by omega)), ?_⟩
            refine ⟨_, _, _, _, _, _, _, _, _, _, rfl, F4.addTou hhS' hyR hyn hyS, hhS', hms, fun x hx hw hxh y hy => ?_, fun z hz => ?_⟩
            · obtain ⟨h1, h2, h3⟩ := hcl1 x hx hw hxh y hy
              exact ⟨mem_ins.mpr (.inr h1), fun g => mem_ins.mpr (.inr (h2 g)), h3⟩
            · rcases (etake z).mp hz with e | e
              · obtain ⟨h1, h2, h3⟩ := hcl2 z e
                exact ⟨mem_ins.mpr (.inr h1), fun g => mem_ins.mpr (.inr (h2 g)), h3⟩
              · rw [e]
                exact ⟨mem_ins.mpr (.inl rfl), fun g => mem_ins.mpr (.inl rfl), fun g => absurd hyS g⟩
          · rw [decide_eq_false hyS]
            refine ⟨_, rfl, iteF ?_⟩
            refine ⟨iv y, rfl, .ref dm, rfl, dm, _, rfl, DGet.k (k := nK y) F4.met, ?_⟩
            rw [F4.dmet.val, isSome_if]
            by_cases hyM : y ∈ M2
            · rw [decide_eq_true hyM]
              refine ⟨_, rfl, iteF ?_⟩
              refine ⟨_, _, _, _, _, _, _, _, _, _, rfl, F4, hhS', hms, fun x hx hw hxh y hy => ?_, fun z hz => ?_⟩
              · obtain ⟨h1, h2, h3⟩ := hcl1 x hx hw hxh y hy
                exact ⟨mem_ins.mpr (.inr h1), h2, h3⟩
              · rcases (etake z).mp hz with e | e
                · obtain ⟨h1, h2, h3⟩ := hcl2 z e
                  exact ⟨mem_ins.mpr (.inr h1), h2, h3⟩
                · rw [e]
                  exact ⟨mem_ins.mpr (.inl rfl), fun g => absurd g hyS, fun g => hyM⟩
            · rw [decide_eq_false hyM]
              refine ⟨_, rfl, iteT ?_⟩
              refine ⟨.ref dm, rfl, iv y, rfl, dm, _, rfl, DPut.k (k := nK y) F4.met (by rw [F4.dmet.len]; exact small1000 (by omega)), ?_⟩
              have hwl : upd H4 dm (.dK (putK km' (nK y) (.bl true))) da = some (.lst (ivs wt')) := by rw [upd_ne ham]; exact F4.wl
              have hwn := F4.wn
              refine ⟨.ref da, rfl, .inl ⟨rfl, _, lq hwl⟩, iv y, rfl, da, _, iv y, rfl, rfl, hwl, by rw [List.length_map]; exact small1000 (by omega), ?_⟩
              have F5 := F4.addMet hhS' hyR hyn hyS hyM
              have hS5 := length_of F5.nd fun x hx => (F5.lt x hx).1
              refine ⟨_, _, _, _, _, _, _, _, _, _, rfl, F5, List.mem_append_left _ hhS', ?_, fun x hx hw hxh y hy => ?_, fun z hz => ?_⟩
              · rw [List.length_append] at hS5 ⊢
                rw [List.length_append]
                simp at hS5 ⊢
                omega
              · rcases List.mem_append.mp hx with hx | hx
                · obtain ⟨h1, h2, h3⟩ := hcl1 x hx (fun g => hw (List.mem_append_left _ g)) hxh y hy
                  exact ⟨mem_ins.mpr (.inr h1), h2, fun g => mem_ins.mpr (.inr (h3 g))⟩
                · exact absurd (List.mem_append_right _ hx) hw
              · rcases (etake z).mp hz with e | e
                · obtain ⟨h1, h2, h3⟩ := hcl2 z e
                  exact ⟨mem_ins.mpr (.inr h1), h2, fun g => mem_ins.mpr (.inr (h3 g))⟩
                · rw [e]
                  exact ⟨mem_ins.mpr (.inl rfl), fun g => absurd g hyS, fun g => mem_ins.mpr (.inl rfl)⟩
        · obtain ⟨km', kt', kv', M2, S', T', ts', wt', y', z', rfl, F, hhS', hms, hcl1, hcl2⟩ := hh
          refine ⟨_, ?_, _, _, _, _, S', _, _, wt', _, _, _, rfl, F, rfl, fun x hx hw y hy => ?_⟩
          · omega
          · by_cases e : x = h
            · rw [e] at hy ⊢
              refine hcl2 y ?_
              rw [show (R h).take (ivs (R h)).length = R h by simp [ivs]]
              exact hy
            · exact hcl1 x hx hw e y hy
end
end Wp
set_option maxHeartbeats 4000000
namespace Wp
open PySem PySem.Spec PyProof.Rows L2
open C8 (Cal pe_c pe_gc)
open Wb (pd)
/-- what pieces_left lists -/
def Ent (R : Nat → List Nat) (lf : List (Nat × Nat)) (St S T wy : List Nat) : Prop :=
  (S = [] ∧ ∃ a b, (a, b) ∈ lf ∧ a ∈ St ∧ b ∈ St ∧ T = [a, b] ∧ wy = [a, b]) ∨ ((∃ c, c ∉ St ∧ (∃ y, y ∈ R c) ∧ PieceOf R St c S T) ∧ T.Nodup ∧ WayP R St S T wy)
theorem Ent.ne {R : Nat → List Nat} {lf : List (Nat × Nat)} {St S T wy : List Nat} (h : Ent R lf St S T wy) : T ≠ [] ∧ wy ≠ [] := by
  rcases h with ⟨_, a, b, _, _, _, rfl, rfl⟩ | ⟨_, _, W⟩
  · simp
  · obtain ⟨b, hb, z, hz, h1, _⟩ := W.ends
    exact ⟨fun e => (by rw [e] at hb; cases hb), fun e => (by rw [e] at h1; cases h1)⟩
theorem PieceV.keepL {H : Hp} {v : V} {T wy : List Nat} {df : Addr} {vs : List V} {o : HO} (h : PieceV H v T wy) (hT : T ≠ []) (hw : wy ≠ []) (hd : H df = some (.lst vs)) (hr : ∀ v ∈ vs, ∃ p, v = .ref p) : PieceV (upd H df o) v T wy := by
  obtain ⟨p, a, b, e, h1, h2, h3⟩ := h
  have key : ∀ {l : List Nat} {z : Addr}, l ≠ [] → H z = some (.lst (ivs l)) → z ≠ df := fun {l z} hl hz ez => by
    rw [ez, hd] at hz
    cases l with
    | nil => exact hl rfl
    | cons x l =>
      have : vs = ivs (x :: l) := by cases hz; rfl
      obtain ⟨p, hp⟩ := hr (iv x) (by rw [this]; simp)
      cases hp
  refine ⟨p, a, b, e, ?_, ?_, ?_⟩
  · rw [upd_ne (fun z => by rw [z, hd] at h1; cases h1)]; exact h1
  · rw [upd_ne (key hT h2)]; exact h2
  · rw [upd_ne (key hw h3)]; exact h3
theorem PieceV.keepX {H H' : Hp} {v : V} {T wy : List Nat} {dm : Addr} {km : List (Key × V)} (h : PieceV H v T wy) (hd : H dm = some (.dK km)) (g : SameX dm H H') : PieceV H' v T wy := by
  obtain ⟨p, a, b, e, h1, h2, h3⟩ := h
  exact ⟨p, a, b, e, g _ _ (fun z => by rw [z, hd] at h1; cases h1) h1, g _ _ (fun z => by rw [z, hd] at h2; cases h2) h2, g _ _ (fun z => by rw [z, hd] at h3; cases h3) h3⟩
theorem PieceV.ref {H : Hp} {v : V} {T wy : List Nat} (h : PieceV H v T wy) : ∃ p, v = .ref p := by
  obtain ⟨p, a, b, e, _⟩ := h
  exact ⟨p, e⟩
section
variable {P : Program} {w : World} {K : PySem.W.Frag} {mg : Str → Option Value} {base : Heap}
def spPiecesLeft : Sp := fun vs H Q _ => ∃ (l sd : Addr) (n : Nat) (xs : List V) (lf : List (Nat × Nat)) (kst : List (Key × V)) (St : List Nat), vs = [.ref l, .ref sd] ∧ H l = some (.lst xs) ∧ Paired (TieV H) xs lf ∧ lf.length ≤ 60 ∧ (∀ t ∈ lf, t.1 < t.2 ∧ t.2 < n) ∧ n ≤ 20 ∧
  H sd = some (.dK kst) ∧ DS nK kst St (.bl true) ∧ (∀ R c S T, (∀ u v, v ∈ R u ↔ adj lf u v) → PieceOf R St c S T → c ∉ St → (∃ y, y ∈ R c) → T.Nodup → 2 ≤ T.length) ∧
  ∀ H' l' vs' R, Same H H' → H' l' = some (.lst vs') → vs'.length ≤ 100 → (∀ u v, v ∈ R u ↔ adj lf u v) → (∀ v ∈ vs', ∃ S T wy, PieceV H' v T wy ∧ Ent R lf St S T wy) →
    (∀ a b, (a, b) ∈ lf → a ∈ St → b ∈ St → ∃ v ∈ vs', PieceV H' v [a, b] [a, b]) → (∀ a b, adj lf a b → a ∉ St → ∃ v ∈ vs', ∃ S T wy, PieceV H' v T wy ∧ Ent R lf St S T wy ∧ a ∈ S) → Q (.ref l') H'
theorem k_pieces_left (A : At K mg "pieces_left" s_pieces_left) (B : Bt mg) (C_near_by : Cal P w K mg base 1 "near_by" spNearByL []) (C_piece_from : Cal P w K mg base 3 "piece_from" spPieceFrom []) : Cal P w K mg base 4 "pieces_left" spPiecesLeft [] := by
  refine mk A sc_pieces_left (fun _ _ _ _ _ _ us hl => match us, hl with | [_, _], _ => rfl) (fun vs H Q E h => ?_) (fun f cdv A outer s H vs Q E hr h => ?_)
  · obtain ⟨l, sd, n, xs, lf, kst, St, rfl, _⟩ := h
    rfl
  · obtain ⟨l, sd, n, xs, lf, kst, St, rfl, hl, hxs, hlen, hlt, hn, hsd, hSt, hT2, q⟩ := h
    refine ⟨_, (pss_cons (ps_par3 (i := 2) (j := 3) (l := 4) rfl sc_pieces_left.nd rfl rfl rfl (by decide) (by decide) (by decide) rfl rfl rfl (pa_cons (pe_c C_near_by hr (by decide) (by rfl) (pa_cons (pv 0) pa_nil)) (pa_cons pe_dnewK (pa_cons (pe_lst pa_nil) pa_nil))) rfl)
    (pss_cons (ps_for PassesOwn.never rfl (pi_list (pv 0)) (pg_tup rfl (pgs_cons (pg_name (i := 5) sc_pieces_left.nd rfl (.inl rfl)) (pgs_cons (pg_name (i := 6) sc_pieces_left.nd rfl (.inl rfl)) pgs_nil)))
      (pss_one (ps_if (PW.pt (pw_and (pt_cmp (pc_din (hu_of hr) (pv 5) (pv 1))) (pw_and1 (pt_cmp (pc_din (hu_of hr) (pv 6) (pv 1))))))
        (pss_one (ps_expr (pe_bm PySem.F.plainAttrs_list PySem.F.slot_list_append PySem.F.type_list_append mt_append (pv 4) (pa_cons (pe_tup (pa_cons (pe_lst (pa_cons (pv 5) (pa_cons (pv 6) pa_nil))) (pa_cons (pe_lst (pa_cons (pv 5) (pa_cons (pv 6) pa_nil))) pa_nil))) pa_nil))))
        pss_nil)))
    (pss_cons (ps_for PassesOwn.never rfl (pi_list (pe_callB cr_sorted (by rfl) B.sorted (by decide +kernel) (pa_cons (pe_callTy (call_list_dK rfl) (by rfl) B.list (by decide +kernel) (pa_cons (pv 2) pa_nil)) pa_nil))) (pg_name (i := 7) sc_pieces_left.nd rfl (.inl rfl))
      (pss_one (ps_if (PW.pt (pw_and (pt_cmp (pc_dnotin (hu_of hr) (pv 7) (pv 1))) (pw_and1 (pt_cmp (pc_dnotin (hu_of hr) (pv 7) (pv 3))))))
        (pss_one (ps_expr (pe_bm PySem.F.plainAttrs_list PySem.F.slot_list_append PySem.F.type_list_append mt_append (pv 4) (pa_cons (pe_c C_piece_from hr (by decide) (by rfl) (pa_cons (pv 2) (pa_cons (pv 7) (pa_cons (pv 1) (pa_cons (pv 3) pa_nil))))) pa_nil))))
        pss_nil)))
    (pss_one (ps_ret (pv 4)))))), ?_⟩
    refine ⟨.ref l, rfl, l, xs, lf, rfl, hl, hxs, by omega, fun H1 d kvs ks ad R s1 hN hkl hR hks hRl => ?_⟩
    intro dm hdm
    refine ⟨by show 0 ≤ sizeLine; omega, fun df hdf => ⟨_, _, _, rfl, ?_⟩⟩
    have hdfm : df ≠ dm := fun z => by rw [z, upd_same] at hdf; cases hdf
    have hdf1 : H1 df = none := none_of_same (same_upd hdm) hdf
    have s2 : Same H1 (upd (upd H1 dm (.dK [])) df (.lst [])) := Same.trans (same_upd hdm) (same_upd hdf)
    have hxl := paired_len hxs
    refine ⟨.ref l, rfl, l, rfl, ⟨_, lq (s2 _ _ (s1 _ _ hl))⟩, ?_⟩
    refine for_it (walk_list (K := K) (a := l) (xs := xs)) (fun i σ H' => (∃ x y z, σ = [some (.ref l), some (.ref sd), some (.ref d), some (.ref dm), some (.ref df), x, y, z]) ∧ Same H1 H' ∧ H' dm = some (.dK []) ∧ ∃ vs, H' df = some (.lst vs) ∧ vs.length ≤ i ∧ (∀ v ∈ vs, ∃ S T wy, PieceV H' v T wy ∧ Ent R lf St S T wy) ∧
        ∀ a b, (a, b) ∈ lf.take i → a ∈ St → b ∈ St → ∃ v ∈ vs, PieceV H' v [a, b] [a, b])
      ⟨⟨none, none, none, rfl⟩, s2, by rw [upd_ne (Ne.symm hdfm), upd_same], [], upd_same, Nat.le_refl 0, by simp, by simp⟩ (fun i σ H' _ h => lq (h.2.1 _ _ (s1 _ _ hl))) (fun i x σ H' H'' hi h hx => ?_) (fun σ H' h => ?_)
    · obtain ⟨⟨x', y', z', rfl⟩, s3, hdm', vs, hdf', hvl, hvs, hcov⟩ := h
      obtain ⟨rfl, hx⟩ := hx
      obtain ⟨t, ht, r⟩ := paired_get hxs hx
      obtain ⟨pp, rfl, hpp⟩ := r.keep (Same.tups (Same.trans s1 s3))
      have htm : t ∈ lf := List.mem_of_getElem? ht
      have hi' := (List.getElem?_eq_some_iff.mp ht).1
      have etake : ∀ z, z ∈ lf.take (i + 1) ↔ z ∈ lf.take i ∨ z = t := fun z => by
        rw [List.take_add_one, ht]; simp
      have hsd3 : H'' sd = some (.dK kst) := s3 _ _ (s1 _ _ hsd)
      refine ⟨pp, _, rfl, tq hpp, rfl, iv t.1, _, rfl, iv t.2, [], rfl, rfl, ?_⟩
      have stay : (t.1 ∈ St → t.2 ∈ St → False) → (∃ x y z, [some (V.ref l), some (V.ref sd), some (V.ref d), some (V.ref dm), some (V.ref df), some (iv t.1), some (iv t.2), z'] = [some (.ref l), some (.ref sd), some (.ref d), some (.ref dm), some (.ref df), x, y, z]) ∧ Same H1 H'' ∧ H'' dm = some (.dK []) ∧ ∃ vs, H'' df = some (.lst vs) ∧ vs.length ≤ i + 1 ∧ (∀ v ∈ vs, ∃ S T wy, PieceV H'' v T wy ∧ Ent R lf St S T wy) ∧
        ∀ a b, (a, b) ∈ lf.take (i + 1) → a ∈ St → b ∈ St → ∃ v ∈ vs, PieceV H'' v [a, b] [a, b] := fun hno =>
        ⟨⟨_, _, _, rfl⟩, s3, hdm', vs, hdf', by omega, hvs, fun a b hab ha hb => by
          rcases (etake _).mp hab with h | h
          · exact hcov a b h ha hb
          · rw [← h] at hno
            exact (hno ha hb).elim⟩
      refine ⟨iv t.1, rfl, .ref sd, rfl, sd, _, rfl, DGet.k (k := nK t.1) hsd3, ?_⟩
      rw [hSt.val, isSome_if]
      by_cases h1 : t.1 ∈ St
      · rw [decide_eq_true h1]
        refine ⟨_, rfl, iteT ?_⟩
        refine ⟨iv t.2, rfl, .ref sd, rfl, sd, _, rfl, DGet.k (k := nK t.2) hsd3, ?_⟩
        rw [hSt.val, isSome_if]
        by_cases h2 : t.2 ∈ St
        · rw [decide_eq_true h2]
          refine ⟨_, rfl, iteT ?_⟩
          refine ⟨.ref df, rfl, .inl ⟨rfl, _, lq hdf'⟩, iv t.1, rfl, iv t.2, rfl, by show 2 ≤ sizeLine; decide, fun a1 ha1 => ⟨iv t.1, rfl, iv t.2, rfl, by show 2 ≤ sizeLine; decide, fun a2 ha2 => ⟨by show 2 ≤ sizeLine; decide, fun a3 ha3 => ?_⟩⟩⟩
          have sA := Same.trans (same_upd (o := .lst [iv t.1, iv t.2]) ha1) (Same.trans (same_upd (o := .lst [iv t.1, iv t.2]) ha2) (same_upd (o := .tup [.ref a1, .ref a2]) ha3))
          have hPV : PieceV (upd (upd (upd H'' a1 (.lst [iv t.1, iv t.2])) a2 (.lst [iv t.1, iv t.2])) a3 (.tup [.ref a1, .ref a2])) (.ref a3) [t.1, t.2] [t.1, t.2] :=
            ⟨a3, a1, a2, rfl, upd_same, same_upd ha3 _ _ (same_upd ha2 _ _ upd_same), same_upd ha3 _ _ upd_same⟩
          generalize upd (upd (upd H'' a1 (.lst [iv t.1, iv t.2])) a2 (.lst [iv t.1, iv t.2])) a3 (.tup [.ref a1, .ref a2]) = H5 at sA hPV ⊢
          have hE : Ent R lf St [] [t.1, t.2] [t.1, t.2] := .inl ⟨rfl, t.1, t.2, htm, h1, h2, rfl, rfl⟩
          have hrefs : ∀ v ∈ vs, ∃ p, v = .ref p := fun v hv => by
            obtain ⟨_, _, _, h, _⟩ := hvs v hv
            exact h.ref
          have hd5 := sA _ _ hdf'
          refine ⟨df, vs, .ref a3, rfl, rfl, hd5, small1000 (by omega), ?_⟩
          refine ⟨⟨_, _, _, rfl⟩, same_list hdf1 (Same.trans s3 sA), by rw [upd_ne (Ne.symm hdfm)]; exact sA _ _ hdm', vs ++ [.ref a3], upd_same, by rw [List.length_append]; simp; omega, fun v hv => ?_, fun a b hab ha hb => ?_⟩
          · rcases List.mem_append.mp hv with h | h
            · obtain ⟨S, T, wy, g1, g2⟩ := hvs v h
              exact ⟨S, T, wy, (g1.keep sA).keepL g2.ne.1 g2.ne.2 hd5 hrefs, g2⟩
            · simp at h
              rw [h]
              exact ⟨[], _, _, hPV.keepL (by simp) (by simp) hd5 hrefs, hE⟩
          · rcases (etake _).mp hab with h | h
            · obtain ⟨v, hv, g⟩ := hcov a b h ha hb
              exact ⟨v, List.mem_append_left _ hv, (g.keep sA).keepL (by simp) (by simp) hd5 hrefs⟩
            · rw [← h] at hPV
              exact ⟨.ref a3, by simp, hPV.keepL (by simp) (by simp) hd5 hrefs⟩
        · rw [decide_eq_false h2]
          refine ⟨_, rfl, iteF ?_⟩
          exact stay fun _ h => h2 h
      · rw [decide_eq_false h1]
        refine ⟨_, rfl, iteF ?_⟩
        exact stay fun h _ => h1 h
    · obtain ⟨⟨x', y', z', rfl⟩, s3, hdm', vs, hdf', hvl, hvs, hcov⟩ := h
      have hcov : ∀ a b, (a, b) ∈ lf → a ∈ St → b ∈ St → ∃ v ∈ vs, PieceV H' v [a, b] [a, b] := by
        rw [hxl, List.take_length] at hcov; exact hcov
      have hN3 := hN.keep s3
      have hRn : ∀ a, ∀ y ∈ R a, y < n := fun a y hy => by
        rcases (hR a y).mp hy with h | h
        · exact (hlt _ h).2
        · have := hlt _ h
          simp at this; omega
      have hsym : ∀ a b, b ∈ R a → a ∈ R b := fun a b h => (hR b a).mpr (Or.symm ((hR a b).mp h))
      have hksn : ∀ x ∈ ks, x < n := fun x hx => by
        obtain ⟨b, hb⟩ := (hks x).mp hx
        exact hRn b x (hsym _ _ ((hR x b).mpr hb))
      have hkn := length_of hN.dd.nd hksn
      refine ⟨.ref d, rfl, d, kvs, rfl, hN3.at_, fun l1 hl1 => ?_⟩
      have s4 := same_upd (o := .lst (kvs.map fun kv => kV kv.1)) hl1
      have hkl : upd H' l1 (.lst (kvs.map fun kv => kV kv.1)) l1 = some (.lst (kvs.map fun kv => kV kv.1)) := upd_same
      generalize upd H' l1 (.lst (kvs.map fun kv => kV kv.1)) = H4 at s4 hkl ⊢
      have ek : (kvs.map fun kv => kV kv.1) = (ks.map fun (k : Nat) => (k : Int)).map V.int := by
        have := congrArg (List.map kV) hN.dd.keys
        rw [List.map_map, List.map_map] at this
        rw [List.map_map]
        exact this
      refine ⟨l1, _, rfl, lq (hkl.trans (by rw [ek])), by rw [List.length_map]; omega, fun ns l2 hns hsr hl2 => ?_⟩
      obtain ⟨cs, rfl, hcs⟩ := nats_of_perm hns
      have s5 := Same.trans s4 (same_upd (o := .lst ((cs.map fun (k : Nat) => (k : Int)).map V.int)) hl2)
      have h2s : upd H4 l2 (.lst ((cs.map fun (k : Nat) => (k : Int)).map V.int)) l2 = some (.lst (ivs cs)) := by rw [upd_same]; simp [ivs]
      generalize upd H4 l2 (.lst ((cs.map fun (k : Nat) => (k : Int)).map V.int)) = H5 at s5 h2s ⊢
      have hl2H : H' l2 = none := none_of_same s4 hl2
      have hl2m : l2 ≠ dm := fun z => by rw [z, hdm'] at hl2H; cases hl2H
      have hl2f : l2 ≠ df := fun z => by rw [z, hdf'] at hl2H; cases hl2H
      refine ⟨l2, rfl, ⟨_, lq h2s⟩, ?_⟩
      have hd1 : d ≠ dm := fun z => by have := hN.at_; rw [z, hdm] at this; cases this
      have hsdm : sd ≠ dm := fun z => by have := s1 _ _ hsd; rw [z, hdm] at this; cases this
      refine for_it (walk_list (K := K) (a := l2) (xs := ivs cs)) (fun i σ H' => (∃ x y z, σ = [some (.ref l), some (.ref sd), some (.ref d), some (.ref dm), some (.ref df), x, y, z]) ∧ Same H1 H' ∧ H' l2 = some (.lst (ivs cs)) ∧ ∃ vs km M, H' dm = some (.dK km) ∧ DS nK km M (.bl true) ∧ (∀ x ∈ M, x < n) ∧ (∀ x ∈ M, ∀ y ∈ R x, y ∉ St → y ∈ M) ∧
          H' df = some (.lst vs) ∧ vs.length ≤ 60 + i ∧ (∀ v ∈ vs, ∃ S T wy, PieceV H' v T wy ∧ Ent R lf St S T wy) ∧ (∀ a b, (a, b) ∈ lf → a ∈ St → b ∈ St → ∃ v ∈ vs, PieceV H' v [a, b] [a, b]) ∧
          (∀ a ∈ M, ∃ v ∈ vs, ∃ S T wy, PieceV H' v T wy ∧ Ent R lf St S T wy ∧ a ∈ S) ∧ ∀ a ∈ cs.take i, a ∉ St → a ∈ M)
        ⟨⟨_, _, _, rfl⟩, Same.trans s3 s5, h2s, vs, [], [], s5 _ _ hdm', DD.nil0, by simp, by simp, s5 _ _ hdf', by omega, fun v hv => by
          obtain ⟨S, T, wy, g1, g2⟩ := hvs v hv
          exact ⟨S, T, wy, g1.keep s5, g2⟩, fun a b hab ha hb => by
          obtain ⟨v, hv, g⟩ := hcov a b hab ha hb
          exact ⟨v, hv, g.keep s5⟩, by simp, by simp⟩ (fun i σ H' _ h => lq h.2.2.1) (fun i x σ H' H'' hi h hx => ?_) (fun σ H' h => ?_)
      · obtain ⟨⟨x', y', z', rfl⟩, s6, h26, vs, km, M, hdm6, hDM, hMn, hMcl, hdf6, hvl, hvs, hcov1, hcov2, hproc⟩ := h
        obtain ⟨rfl, hx⟩ := hx
        obtain ⟨c, hc, rfl⟩ := ivs_get hx
        have hck : c ∈ ks := hcs.mem_iff.mp (List.mem_of_getElem? hc)
        have hi' : i < cs.length := by simpa [ivs] using hi
        have hcl := hcs.length_eq
        have etake : ∀ z, z ∈ cs.take (i + 1) ↔ z ∈ cs.take i ∨ z = c := fun z => by
          rw [List.take_add_one, hc]; simp
        have hsd6 : H'' sd = some (.dK kst) := s6 _ _ (s1 _ _ hsd)
        have stay : (c ∉ St → c ∈ M) → (∃ x y z, [some (V.ref l), some (V.ref sd), some (V.ref d), some (V.ref dm), some (V.ref df), x', y', some (iv c)] = [some (.ref l), some (.ref sd), some (.ref d), some (.ref dm), some (.ref df), x, y, z]) ∧ Same H1 H'' ∧ H'' l2 = some (.lst (ivs cs)) ∧ ∃ vs km M, H'' dm = some (.dK km) ∧ DS nK km M (.bl true) ∧ (∀ x ∈ M, x < n) ∧ (∀ x ∈ M, ∀ y ∈ R x, y ∉ St → y ∈ M) ∧
          H'' df = some (.lst vs) ∧ vs.length ≤ 60 + (i + 1) ∧ (∀ v ∈ vs, ∃ S T wy, PieceV H'' v T wy ∧ Ent R lf St S T wy) ∧ (∀ a b, (a, b) ∈ lf → a ∈ St → b ∈ St → ∃ v ∈ vs, PieceV H'' v [a, b] [a, b]) ∧
          (∀ a ∈ M, ∃ v ∈ vs, ∃ S T wy, PieceV H'' v T wy ∧ Ent R lf St S T wy ∧ a ∈ S) ∧ ∀ a ∈ cs.take (i + 1), a ∉ St → a ∈ M := fun hst =>
          ⟨⟨_, _, _, rfl⟩, s6, h26, vs, km, M, hdm6, hDM, hMn, hMcl, hdf6, by omega, hvs, hcov1, hcov2, fun a ha haS => by
            rcases (etake a).mp ha with h | h
            · exact hproc a h haS
            · rw [h] at haS ⊢; exact hst haS⟩
        refine ⟨iv c, rfl, .ref sd, rfl, sd, _, rfl, DGet.k (k := nK c) hsd6, ?_⟩
        rw [hSt.val, isSome_if]
        by_cases hcS : c ∈ St
        · rw [decide_eq_true hcS]
          refine ⟨_, rfl, iteF ?_⟩
          exact stay fun h => absurd hcS h
        · rw [decide_eq_false hcS]
          refine ⟨_, rfl, iteT ?_⟩
          refine ⟨iv c, rfl, .ref dm, rfl, dm, _, rfl, DGet.k (k := nK c) hdm6, ?_⟩
          rw [hDM.val, isSome_if]
          by_cases hcM : c ∈ M
          · rw [decide_eq_true hcM]
            refine ⟨_, rfl, iteF ?_⟩
            exact stay fun _ => hcM
          · rw [decide_eq_false hcM]
            refine ⟨_, rfl, iteT ?_⟩
            have hcy : ∃ y, y ∈ R c := by
              obtain ⟨b, hb⟩ := (hks c).mp hck
              exact ⟨b, (hR c b).mpr hb⟩
            refine ⟨.ref df, rfl, .inl ⟨rfl, _, lq hdf6⟩, ?_⟩
            refine ⟨.ref d, rfl, iv c, rfl, .ref sd, rfl, .ref dm, rfl, d, sd, dm, n, c, kvs, ks, ad, R, kst, St, km, M, rfl, hN.keep s6, hsd6, hSt, hdm6, hDM, hsdm, hd1, hn, hRn, hsym, hck, hksn c hck, hcS, hcM, hMn, hMcl, fun S T hp hnd => hT2 R c S T hR hp hcS hcy hnd, ?_⟩
            intro H7 v S T wy km' M' sx hPV hPO hTnd hW hdm7 hDM7 hM7
            have hE : Ent R lf St S T wy := .inr ⟨⟨c, hcS, hcy, hPO⟩, hTnd, hW⟩
            have hdf7 : H7 df = some (.lst vs) := sx _ _ hdfm hdf6
            have s7 : Same H1 H7 := Same.of_x s6 hdm sx
            have hrefs : ∀ v ∈ vs, ∃ p, v = .ref p := fun v hv => by
              obtain ⟨_, _, _, h, _⟩ := hvs v hv
              exact h.ref
            have kp : ∀ {v T wy}, PieceV H'' v T wy → T ≠ [] → wy ≠ [] → ∀ o, PieceV (upd H7 df o) v T wy := fun h h1 h2 o => (h.keepX hdm6 sx).keepL h1 h2 hdf7 hrefs
            obtain ⟨hT0, hw0⟩ := hE.ne
            refine ⟨df, vs, v, rfl, rfl, hdf7, small1000 (by omega), ?_⟩
            refine ⟨⟨_, _, _, rfl⟩, same_list hdf1 s7, by rw [upd_ne hl2f]; exact sx _ _ hl2m h26, vs ++ [v], km', M', by rw [upd_ne (Ne.symm hdfm)]; exact hdm7, hDM7, fun x hx => ?_, fun x hx y hy hyS => ?_, upd_same, by rw [List.length_append]; simp; omega, fun u hu => ?_, fun a b hab ha hb => ?_, fun a ha => ?_, fun a ha haS => ?_⟩
            · rcases (hM7 x).mp hx with h | h
              · exact hMn x h
              · exact hPO.least (fun x => x < n) (hksn c hck) (fun x y _ hy _ => hRn x y hy) x h
            · rcases (hM7 x).mp hx with h | h
              · exact (hM7 y).mpr (.inl (hMcl x h y hy hyS))
              · exact (hM7 y).mpr (.inr (hPO.cl x h y hy hyS))
            · rcases List.mem_append.mp hu with h | h
              · obtain ⟨S', T', wy', g1, g2⟩ := hvs u h
                exact ⟨S', T', wy', kp g1 g2.ne.1 g2.ne.2 _, g2⟩
              · simp at h
                rw [h]
                exact ⟨S, T, wy, hPV.keepL hT0 hw0 hdf7 hrefs, hE⟩
            · obtain ⟨u, hu, g⟩ := hcov1 a b hab ha hb
              exact ⟨u, List.mem_append_left _ hu, kp g (by simp) (by simp) _⟩
            · rcases (hM7 a).mp ha with h | h
              · obtain ⟨u, hu, S', T', wy', g1, g2, g3⟩ := hcov2 a h
                exact ⟨u, List.mem_append_left _ hu, S', T', wy', kp g1 g2.ne.1 g2.ne.2 _, g2, g3⟩
              · exact ⟨v, by simp, S, T, wy, hPV.keepL hT0 hw0 hdf7 hrefs, hE, h⟩
            · rcases (etake a).mp ha with h | h
              · exact (hM7 a).mpr (.inl (hproc a h haS))
              · rw [h]; exact (hM7 c).mpr (.inr hPO.cin)
      · obtain ⟨⟨x', y', z', rfl⟩, s6, h26, vs, km, M, hdm6, hDM, hMn, hMcl, hdf6, hvl, hvs, hcov1, hcov2, hproc⟩ := h
        have hcl := hcs.length_eq
        have eL : (ivs cs).length = cs.length := by simp [ivs]
        rw [eL] at hvl hproc
        rw [List.take_length] at hproc
        refine ⟨.ref df, rfl, q _ df vs R (Same.trans s1 s6) hdf6 (by omega) hR hvs hcov1 fun a b hab haS => ?_⟩
        exact hcov2 a (hproc a (hcs.mem_iff.mpr ((hks a).mpr ⟨b, hab⟩)) haS)
end
end Wp
set_option maxHeartbeats 4000000
namespace Wp
open PySem PySem.Spec PyProof.Rows L2
open C8 (Cal pe_c pe_gc)
open Wb (pd)
/-! ### xs[-2:0:-1] -/
theorem sl20_pick {items : Array Value} (h : 2 ≤ items.size) : slicePick items (some (-2)) (some 0) (some (-1)) = ((items.toList.drop 1).take (items.size - 2)).reverse.toArray := by
  unfold slicePick
  have hb : sliceBounds (some (-2)) (some 0) (some (-1)) items.size = ((items.size : Int) - 2, 0, -1) := by
    have h1 : sliceBounds (some (-2)) (some 0) (some (-1)) items.size = (max (-1) (min ((-2 : Int) + items.size) ((items.size : Int) - 1)), max (-1) (min (0 : Int) ((items.size : Int) - 1)), -1) := rfl
    rw [h1]
    congr 1
    · omega
    · congr 1
      omega
  rw [hb]
  show ((sliceRange ((items.size : Int) - 2) 0 (-1)).filterMap (items[·]?)).toArray = _
  have hr : sliceRange ((items.size : Int) - 2) 0 (-1) = ((List.range (items.size - 2)).map (1 + ·)).reverse := by
    unfold sliceRange
    have h1 : ¬ ((-1 : Int) > 0) := by decide
    have e : (if (-1 : Int) > 0 then (if (items.size : Int) - 2 < 0 then (0 - ((items.size : Int) - 2) + -1 - 1) / -1 else 0) else if (items.size : Int) - 2 > 0 then ((items.size : Int) - 2 - 0 - -1 - 1) / (- -1) else 0) = ((items.size - 2 : Nat) : Int) := by
      rw [if_neg h1]
      by_cases h2 : (items.size : Int) - 2 > 0
      · rw [if_pos h2, show (- -1 : Int) = 1 by decide, Int.ediv_one]
        omega
      · rw [if_neg h2]; omega
    simp only [e, Int.toNat_natCast]
    apply List.ext_getElem
    · simp
    · intro i h1 h2
      simp at h1
      rw [List.getElem_map, List.getElem_reverse, List.getElem_map]
      simp
      omega
  rw [hr, List.filterMap_reverse, pick_run]
section
variable {X : Cx}
def tSl20 (K : PySem.W.Frag) (te : TE) : TE := fun σ H Q => te σ H fun x H1 => ∃ a xs, x = .ref a ∧ SqL K H1 a xs ∧ 2 ≤ xs.length ∧ ∀ p, H1 p = none → Q (.ref p) (upd H1 p (.lst ((xs.drop 1).take (xs.length - 2)).reverse))
theorem pe_sl20 {e : Expr} {te : TE} {k k2 k3 : Nat} {p1 p2 p3 p4 p5 p6 pos : Pos} (he : PE X e te) : PE X (.Subscript e (.Slice (some (.UnaryOp .USub (.Constant (.int 2) k2 p4) p5)) (some (.Constant (.int 0) k3 p6)) (some (.UnaryOp .USub (.Constant (.int 1) k p1) p2)) p3) pos) (tSl20 X.K te) := by
  refine ⟨fun pins s σ H Q I h => ?_⟩
  refine Subscript_ (thn (he.run pins s σ H _ I h) fun v s1 ⟨x, H1, I1, r1, q1⟩ => ?_)
  obtain ⟨a, xs, ex, hx, h2l, q⟩ := q1
  subst ex
  cases r1
  have hst1 : PO X (some (.UnaryOp .USub (.Constant (.int 2) k2 p4) p5)) (tPart (tUn (rU fun i => .int (-i)) (tC (.int 2)))) := po_some (pe_un un_neg pe_int)
  have hst2 : PO X (some (.Constant (.int 0) k3 p6)) (tPart (tC (.int 0))) := po_some pe_int
  have hst : PO X (some (.UnaryOp .USub (.Constant (.int 1) k p1) p2)) (tPart (tUn (rU fun i => .int (-i)) (tC (.int 1)))) := po_some (pe_un un_neg pe_int)
  refine wpAny_Slice (thn (hst1.run pins s1 σ H1 (fun o H2 => o = some (-2) ∧ H2 = H1) I1 ⟨2, rfl, -2, rfl, rfl, rfl⟩) fun vl s2 ⟨l, H2, I2, pl, el, e2⟩ => ?_)
  subst el e2
  refine thn (hst2.run pins s2 σ H2 (fun o H3 => o = some 0 ∧ H3 = H2) I2 ⟨0, rfl, rfl, rfl⟩) fun vu s3 ⟨u, H3, I3, pu, eu, e3⟩ => ?_
  subst eu e3
  refine thn (hst.run pins s3 σ H3 (fun o H4 => o = some (-1) ∧ H4 = H3) I3 ⟨1, rfl, -1, rfl, rfl, rfl⟩) fun vs s4 ⟨o, H4, I4, ps, eo, e4⟩ => ?_
  subst eo e4
  have I5 : Inv X pins σ H4 { s4 with heap := s4.heap.push { cls := .type "slice", data := .fields #[vl, vu, vs] } } := I4.kept (t' := s4.toks) fun b ob q => Heap.get?_push_of_some _ q
  obtain ⟨its, r, ht, hz⟩ := I5.list hx
  have hlen := r.length
  show wpAny (model X.prog X.w) X.A (subscriptTail e (.Slice (some (.UnaryOp .USub (.Constant (.int 2) k2 p4) p5)) (some (.Constant (.int 0) k3 p6)) (some (.UnaryOp .USub (.Constant (.int 1) k p1) p2)) p3) (.ref a) (.ref s4.heap.objs.size)) (EP X pins σ Q) X.xe { s4 with heap := s4.heap.push { cls := .type "slice", data := .fields #[vl, vu, vs] } }
  refine tail_any (ops := [.ref a, .ref s4.heap.objs.size]) ht.isList.typeIs (PySem.slot_list_getitem.lookup) ?_ (by with_unfolding_all rfl)
  refine wpAny_getItem_list_slice ht.isList (Heap.IsSliceOf.new _ vl vu vs) pl pu ps (by decide) ?_ (by rw [List.size_toArray]; omega)
  rw [sl20_pick (by rw [List.size_toArray]; omega)]
  have rr : Vals ((xs.drop 1).take (xs.length - 2)).reverse ((its.drop 1).take (its.length - 2)).reverse := by
    rw [hlen]
    exact Vals.reverse (Vals.take _ (Vals.drop _ r))
  refine ⟨.ref _, _, I5.laid (t' := s4.toks) (o := .lst ((xs.drop 1).take (xs.length - 2)).reverse) (fun b ob q => Heap.get?_push_of_some _ q) (Nat.le_refl _) ?_, rfl, q _ (I5.hok.fresh (Nat.le_refl _))⟩
  refine ⟨by rw [List.length_reverse, List.length_take]; omega, _, 0, rr, ?_⟩
  have e9 : its.toArray.size = its.length := by simp
  have e10 : its.toArray.toList = its := by simp
  rw [e9, e10]
  exact Heap.get?_push_size _ rfl
end
theorem cut_from (xs : List V) (i : Nat) : cutV xs (some (i : Int)) none = xs.drop i := by
  unfold cutV
  rw [show HT.sIx xs.length 0 (some (i : Int)) = min i xs.length from HT.sIx_nat xs.length 0 i, HT.sIx_none]
  by_cases h : i ≤ xs.length
  · rw [Nat.min_eq_left h, List.take_of_length_le (by rw [List.length_drop]; omega)]
  · rw [Nat.min_eq_right (by omega), List.drop_of_length_le (by omega), List.drop_of_length_le (by omega)]; simp
theorem cut_to (xs : List V) (i : Nat) : cutV xs none (some (i : Int)) = xs.take i := by
  unfold cutV
  rw [show HT.sIx xs.length xs.length (some (i : Int)) = min i xs.length from HT.sIx_nat xs.length xs.length i, HT.sIx_none]
  show (xs.drop 0).take (min i xs.length - 0) = _
  rw [List.drop_zero, Nat.sub_zero]
  by_cases h : i ≤ xs.length
  · rw [Nat.min_eq_left h]
  · rw [Nat.min_eq_right (by omega), List.take_of_length_le (by omega), List.take_of_length_le (by omega)]
theorem split_at {l : List Nat} {x : Nat} (h : x ∈ l) : ∃ L R, l = L ++ x :: R ∧ x ∉ L := by
  induction l with
  | nil => cases h
  | cons y l ih =>
    by_cases e : x = y
    · exact ⟨[], l, by rw [e]; rfl, by simp⟩
    · rcases List.mem_cons.mp h with h | h
      · exact absurd h e
      · obtain ⟨L, R, e1, e2⟩ := ih h
        exact ⟨y :: L, R, by rw [e1]; rfl, by simp [e, e2]⟩
theorem idx1 (L R : List Nat) (x : Nat) : (ivs (L ++ x :: R))[L.length]? = some (iv x) := by simp [ivs]
theorem idx2 (x : Nat) : eqV (iv x) (iv x) = true := by
  show ((x : Int) == (x : Int)) = true
  simp
theorem idx3 {L R : List Nat} {x : Nat} (hx : x ∉ L) : ∀ (m : Nat) (z : V), m < L.length → (ivs (L ++ x :: R))[m]? = some z → eqV z (iv x) = false := fun m z hm hz => by
  obtain ⟨y, hy, rfl⟩ := ivs_get hz
  rw [List.getElem?_append_left hm] at hy
  have : y ≠ x := fun e => hx (e ▸ List.mem_of_getElem? hy)
  show ((y : Int) == (x : Int)) = false
  simp; omega
section
variable {P : Program} {w : World} {K : PySem.W.Frag} {mg : Str → Option Value} {base : Heap}
def spRingParted : Sp := fun vs H Q _ => ∃ (a b : Addr) (F I : List Nat) (w0 wm : Nat), vs = [.ref a, .ref b] ∧ H a = some (.lst (ivs F)) ∧ H b = some (.lst (ivs (w0 :: (I ++ [wm])))) ∧ F.length ≤ 200 ∧ I.length ≤ 200 ∧ w0 ∈ F ∧ wm ∈ F ∧ w0 ≠ wm ∧
  ∀ H' c p1 p2 L M P' Q', Same H H' → H' c = some (.lst [.ref p1, .ref p2]) → F = L ++ M → M ++ L = w0 :: (P' ++ wm :: Q') → H' p1 = some (.lst (ivs (w0 :: (I ++ wm :: Q')))) → H' p2 = some (.lst (ivs (w0 :: (P' ++ wm :: I.reverse)))) → Q (.ref c) H'
theorem k_ring_parted (A : At K mg "ring_parted" s_ring_parted) (B : Bt mg) : Cal P w K mg base 1 "ring_parted" spRingParted [] := by
  refine mk A sc_ring_parted (fun _ _ _ _ _ _ us hl => match us, hl with | [_, _], _ => rfl) (fun vs H Q E h => ?_) (fun f cdv A outer s H vs Q E hr h => ?_)
  · obtain ⟨a, b, F, I, w0, wm, rfl, _⟩ := h
    rfl
  · obtain ⟨a, b, F, I, w0, wm, rfl, ha, hb, hFl, hIl, h0, hm, hne, q⟩ := h
    refine ⟨_, (pss_cons (ps_set (i := 2) sc_ring_parted.nd rfl (.inl rfl) (pe_bm PySem.F.plainAttrs_list PySem.F.slot_list_index PySem.F.type_list_index mt_index (pv 0) (pa_cons (pe_ix ix_list (pv 1) pe_int (fun _ _ => rfl)) pa_nil)))
    (pss_cons (ps_set (i := 3) sc_ring_parted.nd rfl (.inl rfl) (pe_op op_cat (pe_slice sl_list (pv 0) (po_some (pv 2)) po_none) (pe_slice sl_list (pv 0) po_none (po_some (pv 2)))))
    (pss_cons (ps_set (i := 4) sc_ring_parted.nd rfl (.inl rfl) (pe_bm PySem.F.plainAttrs_list PySem.F.slot_list_index PySem.F.type_list_index mt_index (pv 3) (pa_cons (pe_ix ix_list (pv 1) (pe_un un_neg pe_int) (fun _ _ => rfl)) pa_nil)))
    (pss_one (ps_ret (pe_lst (pa_cons (pe_op op_cat (pv 1) (pe_slice sl_list (pv 3) (po_some (pe_op op_add (pv 4) pe_int)) po_none)) (pa_cons (pe_op op_cat (pe_slice sl_list (pv 3) po_none (po_some (pe_op op_add (pv 4) pe_int))) (pe_sl20 (pv 1))) pa_nil)))))))), ?_⟩
    obtain ⟨L, R, rfl, hL⟩ := split_at h0
    refine ⟨.ref a, rfl, .inl ⟨rfl, _, lq ha⟩, .ref b, rfl, b, _, 0, iv w0, rfl, rfl, lq hb, atI_nat (j := 0) rfl, ?_⟩
    refine ⟨a, _, iv w0, L.length, iv w0, rfl, rfl, lq ha, rfl, flat_ivs _, idx1 L R w0, idx2 w0, idx3 hL, ?_⟩
    refine ⟨.ref a, rfl, iv L.length, rfl, L.length, rfl, a, _, rfl, lq ha, fun p1 h1 => ?_⟩
    rw [cut_from]
    have s1 := same_upd (o := .lst ((ivs (L ++ w0 :: R)).drop L.length)) h1
    have e1 : upd H p1 (.lst ((ivs (L ++ w0 :: R)).drop L.length)) p1 = some (.lst (ivs (w0 :: R))) := by rw [upd_same]; simp [ivs]
    generalize upd H p1 (.lst ((ivs (L ++ w0 :: R)).drop L.length)) = H1 at s1 e1 ⊢
    refine ⟨.ref a, rfl, iv L.length, rfl, L.length, rfl, a, _, rfl, lq (s1 _ _ ha), fun p2 h2 => ?_⟩
    rw [cut_to]
    have s2 := same_upd (o := .lst ((ivs (L ++ w0 :: R)).take L.length)) h2
    have e2 : upd H1 p2 (.lst ((ivs (L ++ w0 :: R)).take L.length)) p2 = some (.lst (ivs L)) := by rw [upd_same]; simp [ivs]
    generalize upd H1 p2 (.lst ((ivs (L ++ w0 :: R)).take L.length)) = H2 at s2 e2 ⊢
    have e1' := s2 _ _ e1
    refine ⟨p1, p2, _, _, rfl, rfl, e1', e2, by refine Nat.le_of_lt (small1000 ?_); simp at hFl; simp [ivs]; omega, fun p3 h3 => ?_⟩
    have s3 := same_upd (o := .lst (ivs (w0 :: R) ++ ivs L)) h3
    have e3 : upd H2 p3 (.lst (ivs (w0 :: R) ++ ivs L)) p3 = some (.lst (ivs (w0 :: (R ++ L)))) := by rw [upd_same]; simp [ivs]
    generalize upd H2 p3 (.lst (ivs (w0 :: R) ++ ivs L)) = H3 at s3 e3 ⊢
    have hm2 : wm ∈ R ++ L := by
      simp at hm ⊢
      rcases hm with h | h | h
      · exact .inr h
      · exact absurd h.symm hne
      · exact .inl h
    obtain ⟨P', Q', eG, hP⟩ := split_at hm2
    have hP0 : wm ∉ w0 :: P' := by simp [hP, Ne.symm hne]
    have e3' : H3 p3 = some (.lst (ivs ((w0 :: P') ++ wm :: Q'))) := by rw [e3, eG]; rfl
    have hb3 := s3 _ _ (s2 _ _ (s1 _ _ hb))
    have hlast : atI (ivs (w0 :: (I ++ [wm]))) (-1) = some (iv wm) := atI_end (i := I.length + 1) (by simp) (by simp)
    have hlen2 : P'.length + Q'.length + 1 ≤ 200 := by
      have := congrArg List.length eG
      simp at this hFl
      omega
    refine ⟨.ref p3, rfl, .inl ⟨rfl, _, lq e3⟩, .ref b, rfl, 1, rfl, b, _, -1, iv wm, rfl, rfl, lq hb3, hlast, ?_⟩
    refine ⟨p3, _, iv wm, (w0 :: P').length, iv wm, rfl, rfl, lq e3', rfl, flat_ivs _, idx1 (w0 :: P') Q' wm, idx2 wm, idx3 hP0, ?_⟩
    refine ⟨.ref b, rfl, .ref p3, rfl, iv (w0 :: P').length, rfl, ((w0 :: P').length : Int), 1, rfl, rfl, (((w0 :: P').length + 1 : Nat) : Int), rfl, p3, _, rfl, lq e3', fun p4 h4 => ?_⟩
    rw [cut_from]
    have s4 := same_upd (o := .lst ((ivs ((w0 :: P') ++ wm :: Q')).drop ((w0 :: P').length + 1))) h4
    have e4 : upd H3 p4 (.lst ((ivs ((w0 :: P') ++ wm :: Q')).drop ((w0 :: P').length + 1))) p4 = some (.lst (ivs Q')) := by
      rw [upd_same, ← List.map_drop]
      rw [show ((w0 :: P') ++ wm :: Q').drop ((w0 :: P').length + 1) = Q' by
        rw [show (w0 :: P') ++ wm :: Q' = ((w0 :: P') ++ [wm]) ++ Q' by simp]
        rw [show (w0 :: P').length + 1 = ((w0 :: P') ++ [wm]).length by simp]
        exact List.drop_left]
    generalize upd H3 p4 (.lst ((ivs ((w0 :: P') ++ wm :: Q')).drop ((w0 :: P').length + 1))) = H4 at s4 e4 ⊢
    refine ⟨b, p4, _, _, rfl, rfl, s4 _ _ hb3, e4, by refine Nat.le_of_lt (small1000 ?_); simp [ivs]; omega, fun p5 h5 => ?_⟩
    have s5 := same_upd (o := .lst (ivs (w0 :: (I ++ [wm])) ++ ivs Q')) h5
    have e5 : upd H4 p5 (.lst (ivs (w0 :: (I ++ [wm])) ++ ivs Q')) p5 = some (.lst (ivs (w0 :: (I ++ wm :: Q')))) := by rw [upd_same]; simp [ivs]
    generalize upd H4 p5 (.lst (ivs (w0 :: (I ++ [wm])) ++ ivs Q')) = H5 at s5 e5 ⊢
    have e35 := s5 _ _ (s4 _ _ e3')
    refine ⟨.ref p3, rfl, iv (w0 :: P').length, rfl, ((w0 :: P').length : Int), 1, rfl, rfl, (((w0 :: P').length + 1 : Nat) : Int), rfl, p3, _, rfl, lq e35, fun p6 h6 => ?_⟩
    rw [cut_to]
    have s6 := same_upd (o := .lst ((ivs ((w0 :: P') ++ wm :: Q')).take ((w0 :: P').length + 1))) h6
    have e6 : upd H5 p6 (.lst ((ivs ((w0 :: P') ++ wm :: Q')).take ((w0 :: P').length + 1))) p6 = some (.lst (ivs (w0 :: (P' ++ [wm])))) := by
      rw [upd_same, ← List.map_take]
      rw [show ((w0 :: P') ++ wm :: Q').take ((w0 :: P').length + 1) = w0 :: (P' ++ [wm]) by
        rw [show (w0 :: P') ++ wm :: Q' = ((w0 :: P') ++ [wm]) ++ Q' by simp]
        rw [show (w0 :: P').length + 1 = ((w0 :: P') ++ [wm]).length by simp]
        exact List.take_left]
    generalize upd H5 p6 (.lst ((ivs ((w0 :: P') ++ wm :: Q')).take ((w0 :: P').length + 1))) = H6 at s6 e6 ⊢
    have hb6 := s6 _ _ (s5 _ _ (s4 _ _ hb3))
    refine ⟨.ref b, rfl, b, _, rfl, lq hb6, by simp [ivs], fun p7 h7 => ?_⟩
    have el : (((ivs (w0 :: (I ++ [wm]))).drop 1).take ((ivs (w0 :: (I ++ [wm]))).length - 2)).reverse = ivs I.reverse := by
      simp [ivs]
    rw [el]
    have s7 := same_upd (o := .lst (ivs I.reverse)) h7
    have e7 : upd H6 p7 (.lst (ivs I.reverse)) p7 = some (.lst (ivs I.reverse)) := upd_same
    generalize upd H6 p7 (.lst (ivs I.reverse)) = H7 at s7 e7 ⊢
    refine ⟨p6, p7, _, _, rfl, rfl, s7 _ _ e6, e7, by refine Nat.le_of_lt (small1000 ?_); simp [ivs]; omega, fun p8 h8 => ?_⟩
    have s8 := same_upd (o := .lst (ivs (w0 :: (P' ++ [wm])) ++ ivs I.reverse)) h8
    have e8 : upd H7 p8 (.lst (ivs (w0 :: (P' ++ [wm])) ++ ivs I.reverse)) p8 = some (.lst (ivs (w0 :: (P' ++ wm :: I.reverse)))) := by rw [upd_same]; simp [ivs]
    generalize upd H7 p8 (.lst (ivs (w0 :: (P' ++ [wm])) ++ ivs I.reverse)) = H8 at s8 e8 ⊢
    refine ⟨by show 2 ≤ sizeLine; decide, fun c hc => ?_⟩
    have s9 := same_upd (o := .lst [.ref p5, .ref p8]) hc
    refine q _ c p5 p8 L (w0 :: R) P' Q' ?_ upd_same rfl (by rw [List.cons_append, eG]) (s9 _ _ (s8 _ _ (s7 _ _ (s6 _ _ e5)))) (s9 _ _ e8)
    exact Same.trans s1 (Same.trans s2 (Same.trans s3 (Same.trans s4 (Same.trans s5 (Same.trans s6 (Same.trans s7 (Same.trans s8 s9)))))))
end
end Wp
set_option maxHeartbeats 4000000
namespace Wp
open PySem PySem.Spec PyProof.Rows L2
open C8 (Cal pe_c pe_gc)
open Wb (pd)
def RV (H : Hp) (v : V) (r : List Nat) : Prop := ∃ p, v = .ref p ∧ H p = some (.lst (ivs r))
theorem RV.keep {H H' : Hp} {v : V} {r : List Nat} (h : RV H v r) (g : Same H H') : RV H' v r := by
  obtain ⟨p, e, h⟩ := h
  exact ⟨p, e, g _ _ h⟩
def RL (H : Hp) (a : Addr) (rs : List (List Nat)) : Prop := ∃ vs, H a = some (.lst vs) ∧ Paired (RV H) vs rs
theorem RL.keep {H H' : Hp} {a : Addr} {rs : List (List Nat)} (h : RL H a rs) (g : Same H H') : RL H' a rs := by
  obtain ⟨vs, e, h⟩ := h
  exact ⟨vs, g _ _ e, paired_mono (fun _ _ r => r.keep g) h⟩
theorem RL.keepX {H H' : Hp} {a sd : Addr} {rs : List (List Nat)} {kst : List (Key × V)} (h : RL H a rs) (hd : H sd = some (.dK kst)) (g : SameX sd H H') : RL H' a rs := by
  obtain ⟨vs, e, h⟩ := h
  refine ⟨vs, g _ _ (fun z => by rw [z, hd] at e; cases e) e, paired_mono (fun _ _ r => ?_) h⟩
  obtain ⟨p, e1, e2⟩ := r
  exact ⟨p, e1, g _ _ (fun z => by rw [z, hd] at e2; cases e2) e2⟩
theorem TieV.keepX {H H' : Hp} {sd : Addr} {v : V} {t : Nat × Nat} {kst : List (Key × V)} (h : TieV H v t) (hd : H sd = some (.dK kst)) (g : SameX sd H H') : TieV H' v t := by
  obtain ⟨p, e1, e2⟩ := h
  exact ⟨p, e1, g _ _ (fun z => by rw [z, hd] at e2; cases e2) e2⟩
theorem TieV.keepL {H : Hp} {D : Addr} {v : V} {t : Nat × Nat} {xs : List V} {o : HO} (h : TieV H v t) (hd : H D = some (.lst xs)) : TieV (upd H D o) v t := by
  obtain ⟨p, e1, e2⟩ := h
  exact ⟨p, e1, by rw [upd_ne (fun z => by rw [z, hd] at e2; cases e2)]; exact e2⟩
theorem paired_take {α β : Type} {R : α → β → Prop} : ∀ {xs : List α} {ys : List β} (n : Nat), Paired R xs ys → Paired R (xs.take n) (ys.take n)
  | _, _, 0, _ => by simp; exact .nil
  | _, _, _ + 1, .nil => by simp; exact .nil
  | _, _, n + 1, .cons r h => .cons r (paired_take n h)
theorem paired_drop {α β : Type} {R : α → β → Prop} : ∀ {xs : List α} {ys : List β} (n : Nat), Paired R xs ys → Paired R (xs.drop n) (ys.drop n)
  | _, _, 0, h => by simpa using h
  | _, _, _ + 1, .nil => by simp; exact .nil
  | _, _, n + 1, .cons _ h => paired_drop n h
section
variable {P : Program} {w : World} {K : PySem.W.Frag} {mg : Str → Option Value} {base : Heap}
/-- the ties that a way or ring goes along -/
def along (ps : List (Nat × Nat)) (lf : List (Nat × Nat)) : List (Nat × Nat) := lf.filter fun t => !decide (t ∈ ps.map mm)
def spPutIn : Sp := fun vs H Q _ => ∃ (ra la sd wa : Addr) (i n : Nat) (rs : List (List Nat)) (lv : List V) (lf : List (Nat × Nat)) (kst : List (Key × V)) (St F I : List Nat) (w0 wm : Nat), vs = [.ref ra, .ref la, .ref sd, iv i, .ref wa] ∧
  RL H ra rs ∧ H la = some (.lst lv) ∧ Paired (TieV H) lv lf ∧ H sd = some (.dK kst) ∧ DS nK kst St (.bl true) ∧ H wa = some (.lst (ivs (w0 :: (I ++ [wm])))) ∧ rs[i]? = some F ∧ rs.length ≤ 200 ∧ lf.length ≤ 60 ∧ n ≤ 20 ∧ (∀ x ∈ St, x < n) ∧ (∀ x ∈ w0 :: (I ++ [wm]), x < n) ∧
  F.length ≤ 200 ∧ I.length ≤ 200 ∧ w0 ∈ F ∧ wm ∈ F ∧ w0 ≠ wm ∧
  ∀ H' p ra' la' lv' kst' St' L M P' Q', SameX sd H H' → H' p = some (.tup [.ref ra', .ref la']) → F = L ++ M → M ++ L = w0 :: (P' ++ wm :: Q') →
    RL H' ra' (rs.take i ++ rs.drop (i + 1) ++ [w0 :: (I ++ wm :: Q'), w0 :: (P' ++ wm :: I.reverse)]) → H' la' = some (.lst lv') → Paired (TieV H') lv' (along ((steps (w0 :: (I ++ [wm]))).drop 1) lf) →
    H' sd = some (.dK kst') → DS nK kst' St' (.bl true) → (∀ x, x ∈ St' ↔ x ∈ St ∨ x ∈ w0 :: (I ++ [wm])) → Q (.ref p) H'
theorem k_put_in (A : At K mg "put_in" s_put_in) (B : Bt mg) (C_tie_of : Cal P w K mg base 1 "tie_of" spTieOf []) (C_ring_steps : Cal P w K mg base 1 "ring_steps" spRingSteps []) (C_ring_parted : Cal P w K mg base 1 "ring_parted" spRingParted []) : Cal P w K mg base 2 "put_in" spPutIn [] := by
  refine mk A sc_put_in (fun _ _ _ _ _ _ us hl => match us, hl with | [_, _, _, _, _], _ => rfl) (fun vs H Q E h => ?_) (fun f cdv A outer s H vs Q E hr h => ?_)
  · obtain ⟨ra, la, sd, wa, i, n, rs, lv, lf, kst, St, F, I, w0, wm, rfl, _⟩ := h
    rfl
  · obtain ⟨ra, la, sd, wa, i, n, rs, lv, lf, kst, St, F, I, w0, wm, rfl, hra, hla, hlv, hsd, hSt, hwa, hF, hrl, hll, hn, hStn, hwn, hFl, hIl, h0, hm, hne, q⟩ := h
    refine ⟨_, (pss_cons (ps_for PassesOwn.never rfl (pi_list (pv 4)) (pg_name (i := 5) sc_put_in.nd rfl (.inl rfl))
      (pss_one (ps_dput (hu_of hr) (pv 2) (pv 5) pe_bl rfl)))
    (pss_cons (ps_set (i := 6) sc_put_in.nd rfl (.inr rfl) (pe_lc (own := [("one", 8), ("other", 9)]) (g := (gTup K 2 (gCons (gName 8) (gCons (gName 9) gNil)))) rfl sc_put_in.nd (pi_list (pe_slice sl_list (pe_c C_ring_steps hr (by decide) (by rfl) (pa_cons (pv 4) pa_nil)) (po_some pe_int) po_none)) (blkOk_by (N := ["rings", "left", "stands", "at", "way", "corner", "gone", "rest", "one", "other", "tie"]) (sc := defScope s_put_in) (by decide +kernel)) (fun _ _ _ _ _ => (pg_tup rfl (pgs_cons (pg_name (i := 8) sc_put_in.nd rfl (.inl rfl) (.inr rfl)) (pgs_cons (pg_name (i := 9) sc_put_in.nd rfl (.inl rfl) (.inr rfl)) pgs_nil)))) (fun _ _ _ _ _ => pts_nil) (fun _ _ _ _ _ => (pe_c C_tie_of hr (by decide) (by rfl) (pa_cons (pv 8) (pa_cons (pv 9) pa_nil))))))
    (pss_cons (ps_setLc (i := 7) (own := [("tie", 10)]) rfl sc_put_in.nd rfl rfl (sw_true rfl rfl rfl (by decide +kernel)) (pi_list (pv 1)) (blkOk_by (N := ["rings", "left", "stands", "at", "way", "corner", "gone", "rest", "one", "other", "tie"]) (sc := defScope s_put_in) (by decide +kernel)) (fun _ _ _ _ _ => (pg_name (i := 10) sc_put_in.nd rfl (.inl rfl) (.inr rfl))) (fun _ _ _ _ _ => (pts_one (pt_cmpR (r := rNotInD K) (op_notInD (u65 hr)) (pv 10) (pv 6) (by with_unfolding_all rfl)))) (fun _ _ _ _ _ => (pv 10)))
    (pss_one (ps_ret (pe_tup (pa_cons (pe_op op_cat (pe_op op_cat (pe_slice sl_list (pv 0) po_none (po_some (pv 3))) (pe_slice sl_list (pv 0) (po_some (pe_op op_add (pv 3) pe_int)) po_none)) (pe_c C_ring_parted hr (by decide) (by rfl) (pa_cons (pe_ix ix_list (pv 0) (pv 3) (fun _ _ => rfl)) (pa_cons (pv 4) pa_nil)))) (pa_cons (pv 7) pa_nil)))))))), ?_⟩
    generalize hway : w0 :: (I ++ [wm]) = way at *
    have hwas : wa ≠ sd := fun z => by rw [z, hsd] at hwa; cases hwa
    refine ⟨.ref wa, rfl, wa, rfl, ⟨_, lq hwa⟩, ?_⟩
    refine for_it (walk_list (K := K) (a := wa) (xs := ivs way)) (fun j σ H' => (∃ b, σ = [some (.ref ra), some (.ref la), some (.ref sd), some (iv i), some (.ref wa), b, none, none, none, none, none]) ∧ SameX sd H H' ∧ ∃ k1 St1, H' sd = some (.dK k1) ∧ DS nK k1 St1 (.bl true) ∧ ∀ x, x ∈ St1 ↔ x ∈ St ∨ x ∈ way.take j)
      ⟨⟨none, rfl⟩, fun _ _ _ e => e, kst, St, hsd, hSt, fun x => by simp⟩ (fun j σ H' _ h => lq (h.2.1 _ _ hwas hwa)) (fun j x σ H' H'' hj h hx => ?_) (fun σ H1 h => ?_)
    · obtain ⟨⟨b, rfl⟩, sx, k1, St1, hsd1, hD1, hS1⟩ := h
      obtain ⟨rfl, hx⟩ := hx
      obtain ⟨y, hy, rfl⟩ := ivs_get hx
      have hSn := length_of hD1.nd (n := n) fun x hx => ((hS1 x).mp hx).elim (hStn x) fun h => hwn x (List.mem_of_mem_take h)
      refine ⟨.ref sd, rfl, iv y, rfl, sd, _, rfl, DPut.k (k := nK y) hsd1 (by rw [hD1.len]; exact small1000 (by omega)), ?_⟩
      refine ⟨⟨_, rfl⟩, sx.put, _, _, upd_same, hD1.putS (fun a b => nK_inj) y, fun x => ?_⟩
      rw [mem_ins, hS1, List.take_add_one, hy]
      simp only [Option.toList, List.mem_append, List.mem_singleton]
      constructor
      · rintro (h | h | h)
        · exact .inr (.inr h)
        · exact .inl h
        · exact .inr (.inl h)
      · rintro (h | h | h)
        · exact .inr (.inl h)
        · exact .inr (.inr h)
        · exact .inl h
    · obtain ⟨⟨b, rfl⟩, sx, k1, St1, hsd1, hD1, hS1⟩ := h
      have eway : way.take (ivs way).length = way := by simp [ivs]
      rw [eway] at hS1
      have hra1 := hra.keepX hsd sx
      have hla1 : H1 la = some (.lst lv) := sx _ _ (fun z => by rw [z, hsd] at hla; cases hla) hla
      have hlv1 : Paired (TieV H1) lv lf := paired_mono (fun _ _ r => r.keepX hsd sx) hlv
      have hwa1 := sx _ _ hwas hwa
      have hwl : way.length = I.length + 2 := by rw [← hway]; simp
      refine ⟨.ref wa, rfl, wa, way, rfl, hwa1, by omega, fun H2 sa sv s2 hsa hsv => ?_⟩
      refine ⟨1, rfl, sa, sv, rfl, lq hsa, fun c3 hc3 => ?_⟩
      have s3 := same_upd (o := .lst (cutV sv (some 1) none)) hc3
      have h3 : upd H2 c3 (.lst (cutV sv (some 1) none)) c3 = some (.lst (sv.drop 1)) := by rw [upd_same, cut1]
      generalize upd H2 c3 (.lst (cutV sv (some 1) none)) = H3 at s3 h3 ⊢
      have hsd3 : Paired (TieV H3) (sv.drop 1) ((steps way).drop 1) := paired_drop 1 (paired_mono (fun _ _ r => r.keep (Same.tups s3)) hsv)
      have hsl : (sv.drop 1).length = way.length - 1 := by
        rw [paired_len hsd3, List.length_drop, steps_len]
      generalize sv.drop 1 = sv1 at h3 hsd3 hsl ⊢
      generalize hps : (steps way).drop 1 = ps at hsd3 q
      refine ⟨c3, rfl, ⟨_, lq h3⟩, fun D hD => ?_⟩
      refine lc0 (walk_list (K := K) (a := c3) (xs := sv1)) (fun j H' => Same H3 H' ∧ ∃ gv, H' D = some (.lst gv) ∧ Paired (TieV H') gv ((ps.take j).map mm)) ⟨same_upd hD, [], upd_same, by simp; exact .nil⟩ (fun j H' _ h => lq (h.1 _ _ h3)) (fun j x H' H'' hj h hx => ?_) (fun H4 h => ?_)
      · obtain ⟨s4, gv, hg, hgp⟩ := h
        obtain ⟨rfl, hx⟩ := hx
        obtain ⟨t, ht, r⟩ := paired_get hsd3 hx
        obtain ⟨pp, rfl, hpp⟩ := r.keep (Same.tups s4)
        refine ⟨pp, _, rfl, tq hpp, rfl, iv t.1, _, rfl, iv t.2, [], rfl, rfl, rfl, iv t.1, rfl, iv t.2, rfl, t.1, t.2, rfl, fun z hz => ?_⟩
        have s5 := same_upd (o := .tup [.int (min t.1 t.2 : Nat), .int (max t.1 t.2 : Nat)]) hz
        have hz5 : TieV (upd H'' z (.tup [.int (min t.1 t.2 : Nat), .int (max t.1 t.2 : Nat)])) (.ref z) (mm t) := ⟨z, rfl, upd_same⟩
        generalize upd H'' z (.tup [.int (min t.1 t.2 : Nat), .int (max t.1 t.2 : Nat)]) = H5 at s5 hz5 ⊢
        have hgl := paired_len hgp
        rw [List.length_map, List.length_take] at hgl
        refine ⟨gv, s5 _ _ hg, small1000 (by omega), same_list hD (Same.trans s4 s5), gv ++ [.ref z], upd_same, ?_⟩
        rw [List.take_add_one, ht, List.map_append]
        exact paired_snoc (paired_mono (fun _ _ r => (r.keep (Same.tups s5)).keepL (s5 _ _ hg)) hgp) (hz5.keepL (s5 _ _ hg))
      · obtain ⟨s4, gv, hg, hgp⟩ := h
        have e1 : ps.take sv1.length = ps := by rw [paired_len hsd3, List.take_length]
        rw [e1] at hgp
        -- the rest
        have s14 : Same H1 H4 := Same.trans s2 (Same.trans s3 s4)
        refine ⟨.ref la, rfl, la, rfl, ⟨_, lq (s14 _ _ hla1)⟩, fun D2 hD2 => ?_⟩
        refine lc_it (walk_list (K := K) (a := la) (xs := lv)) (fun j H' => Same H4 H' ∧ ∃ rv, H' D2 = some (.lst rv) ∧ Paired (TieV H') rv (along ps (lf.take j))) ⟨same_upd hD2, [], upd_same, by simp [along]; exact .nil⟩ (fun j H' _ h => lq (h.1 _ _ (s14 _ _ hla1))) (fun j x H' H'' hj h hx => ?_) (fun H5 h => ?_)
        · obtain ⟨s5, rv, hrv, hrp⟩ := h
          obtain ⟨rfl, hx⟩ := hx
          obtain ⟨t, ht, r⟩ := paired_get hlv1 hx
          have hj' := (List.getElem?_eq_some_iff.mp ht).1
          have r5 : TieV H'' x t := r.keep (Same.tups (Same.trans s14 s5))
          have hrl2 : rv.length ≤ 60 := by
            have h1 := paired_len hrp
            have h2 : (along ps (lf.take j)).length ≤ (lf.take j).length := List.length_filter_le _ _
            rw [List.length_take] at h2
            omega
          refine ⟨rfl, x, rfl, .ref D, rfl, ?_⟩
          refine notIn_tiesL r5 (s5 _ _ hg) (paired_mono (fun _ _ r => r.keep (Same.tups s5)) hgp) ?_
          have estep : along ps (lf.take (j + 1)) = along ps (lf.take j) ++ (if t ∈ ps.map mm then [] else [t]) := by
            unfold along
            rw [List.take_add_one, ht, List.filter_append]
            by_cases hm : t ∈ ps.map mm
            · rw [if_pos hm]
              congr 1
              show List.filter _ [t] = []
              rw [List.filter_cons_of_neg (by simpa using hm)]; rfl
            · rw [if_neg hm]
              congr 1
              show List.filter _ [t] = [t]
              rw [List.filter_cons_of_pos (by simpa using hm)]; rfl
          by_cases hm : t ∈ ps.map mm
          · rw [decide_eq_true hm]
            refine ⟨false, rfl, iteF ?_⟩
            refine ⟨s5, rv, hrv, ?_⟩
            rw [estep, if_pos hm, List.append_nil]; exact hrp
          · rw [decide_eq_false hm]
            refine ⟨true, rfl, iteT ?_⟩
            refine ⟨x, rfl, rv, hrv, small1000 (by omega), same_list hD2 s5, rv ++ [x], upd_same, ?_⟩
            rw [estep, if_neg hm]
            exact paired_snoc (paired_mono (fun _ _ r => r.keepL hrv) hrp) (r5.keepL hrv)
        · obtain ⟨s5, rv, hrv, hrp⟩ := h
          have e2 : lf.take lv.length = lf := by rw [paired_len hlv, List.take_length]
          rw [e2] at hrp
          have s15 := Same.trans s14 s5
          obtain ⟨rvs, hr1, hr2⟩ := hra1.keep s15
          have hrvl := paired_len hr2
          refine ⟨.ref ra, rfl, iv i, rfl, (i : Int), rfl, ra, _, rfl, lq hr1, fun c6 h6 => ?_⟩
          rw [cut_to]
          have s6 := same_upd (o := .lst (rvs.take i)) h6
          have e6 : upd H5 c6 (.lst (rvs.take i)) c6 = some (.lst (rvs.take i)) := upd_same
          generalize upd H5 c6 (.lst (rvs.take i)) = H6 at s6 e6 ⊢
          refine ⟨.ref ra, rfl, iv i, rfl, (i : Int), 1, rfl, rfl, ((i + 1 : Nat) : Int), rfl, ra, _, rfl, lq (s6 _ _ hr1), fun c7 h7 => ?_⟩
          rw [cut_from]
          have s7 := same_upd (o := .lst (rvs.drop (i + 1))) h7
          have e7 : upd H6 c7 (.lst (rvs.drop (i + 1))) c7 = some (.lst (rvs.drop (i + 1))) := upd_same
          generalize upd H6 c7 (.lst (rvs.drop (i + 1))) = H7 at s7 e7 ⊢
          refine ⟨c6, c7, _, _, rfl, rfl, s7 _ _ e6, e7, Nat.le_of_lt (small1000 (by rw [List.length_take, List.length_drop]; omega)), fun c8 h8 => ?_⟩
          have s8 := same_upd (o := .lst (rvs.take i ++ rvs.drop (i + 1))) h8
          have e8 : upd H7 c8 (.lst (rvs.take i ++ rvs.drop (i + 1))) c8 = some (.lst (rvs.take i ++ rvs.drop (i + 1))) := upd_same
          generalize upd H7 c8 (.lst (rvs.take i ++ rvs.drop (i + 1))) = H8 at s8 e8 ⊢
          have s58 : Same H5 H8 := Same.trans s6 (Same.trans s7 s8)
          obtain ⟨fv, hfv, ⟨fp, rfl, hfp⟩⟩ := paired_get' hr2 hF
          have s18 := Same.trans s15 s58
          refine ⟨.ref ra, rfl, iv i, rfl, ra, _, (i : Int), .ref fp, rfl, rfl, lq (s58 _ _ hr1), atI_nat (j := i) hfv, .ref wa, rfl, ?_⟩
          refine ⟨fp, wa, F, I, w0, wm, rfl, s58 _ _ hfp, by rw [hway]; exact s18 _ _ hwa1, hFl, hIl, h0, hm, hne, fun H9 c9 p1 p2 L M P' Q' s9 h9 hFLM hML hp1 hp2 => ?_⟩
          refine ⟨c8, c9, _, _, rfl, rfl, s9 _ _ e8, h9, Nat.le_of_lt (small1000 (by simp; omega)), fun c10 h10 => ?_⟩
          have s10 := same_upd (o := .lst (rvs.take i ++ rvs.drop (i + 1) ++ [.ref p1, .ref p2])) h10
          have e10 : upd H9 c10 (.lst (rvs.take i ++ rvs.drop (i + 1) ++ [.ref p1, .ref p2])) c10 = some (.lst (rvs.take i ++ rvs.drop (i + 1) ++ [.ref p1, .ref p2])) := upd_same
          generalize upd H9 c10 (.lst (rvs.take i ++ rvs.drop (i + 1) ++ [.ref p1, .ref p2])) = H10 at s10 e10 ⊢
          refine ⟨.ref D2, rfl, by show 2 ≤ sizeLine; decide, fun c11 h11 => ?_⟩
          have s11 := same_upd (o := .tup [.ref c10, .ref D2]) h11
          have s5f : Same H5 (upd H10 c11 (.tup [.ref c10, .ref D2])) := Same.trans s58 (Same.trans s9 (Same.trans s10 s11))
          have s1f : Same H1 (upd H10 c11 (.tup [.ref c10, .ref D2])) := Same.trans s15 s5f
          have s9f := Same.trans s10 s11
          refine q _ c11 c10 D2 rv k1 St1 L M P' Q' (SameX.trans sx (Same.x s1f)) upd_same hFLM hML ⟨_, s11 _ _ e10, ?_⟩ (s5f _ _ hrv) (paired_mono (fun _ _ r => r.keep (Same.tups s5f)) hrp) (s1f _ _ hsd1) hD1 hS1
          exact paired_app (paired_app (paired_take i (paired_mono (fun _ _ r => r.keep s5f) hr2)) (paired_drop (i + 1) (paired_mono (fun _ _ r => r.keep s5f) hr2))) (.cons ⟨p1, rfl, s9f _ _ hp1⟩ (.cons ⟨p2, rfl, s9f _ _ hp2⟩ .nil))
end
end Wp
set_option maxHeartbeats 4000000
namespace Wp
open PySem PySem.Spec PyProof.Rows L2
open C8 (Cal pe_c pe_gc)
open Wb (pd)
section
variable {P : Program} {w : World} {K : PySem.W.Frag} {mg : Str → Option Value} {base : Heap}
def spFirstRing : Sp := fun vs H Q _ => ∃ (a : Addr) (xs : List V) (x y n : Nat) (tr : List (Nat × Nat)), vs = [.ref a] ∧ H a = some (.tup xs) ∧ Paired (TieV H) xs ((x, y) :: tr) ∧ tr.length ≤ 60 ∧ n ≤ 20 ∧ (∀ t ∈ (x, y) :: tr, t.1 < t.2 ∧ t.2 < n) ∧
  (∀ R S, (∀ u v, v ∈ R u ↔ adj tr u v) → Shut R x [y] [] S → False) ∧ ∀ H' b wy R, Same H H' → H' b = some (.lst (ivs wy)) → (∀ u v, v ∈ R u ↔ adj tr u v) → Way R x [y] [] wy → Q (.ref b) H'
theorem k_first_ring (A : At K mg "first_ring" s_first_ring) (B : Bt mg) (C_near_by : Cal P w K mg base 1 "near_by" spNearByT []) (C_way_through : Cal P w K mg base 2 "way_through" spWayThrough []) : Cal P w K mg base 3 "first_ring" spFirstRing [] := by
  refine mk A sc_first_ring (fun _ _ _ _ _ _ us hl => match us, hl with | [_], _ => rfl) (fun vs H Q E h => ?_) (fun f cdv A outer s H vs Q E hr h => ?_)
  · obtain ⟨a, xs, x, y, n, tr, rfl, _⟩ := h
    rfl
  · obtain ⟨a, xs, x, y, n, tr, rfl, ha, hxs, htl, hn, hlt, hno, q⟩ := h
    refine ⟨_, (pss_cons (ps_asg (pe_ix ix_tup (pv 0) pe_int (fun _ _ => rfl)) (pg_tup rfl (pgs_cons (pg_name (i := 1) sc_first_ring.nd rfl (.inl rfl)) (pgs_cons (pg_name (i := 2) sc_first_ring.nd rfl (.inl rfl)) pgs_nil))))
    (pss_one (ps_ret (pe_c C_way_through hr (by decide) (by rfl) (pa_cons (pe_c C_near_by hr (by decide) (by rfl) (pa_cons (pe_slice sl_tupA (pv 0) (po_some pe_int) po_none) pa_nil)) (pa_cons (pv 1) (pa_cons (pe_lst (pa_cons (pv 2) pa_nil)) (pa_cons pe_dnewK pa_nil)))))))), ?_⟩
    obtain ⟨v0, vr, rfl, ⟨p0, rfl, hp0⟩, hvr⟩ : ∃ v0 vr, xs = v0 :: vr ∧ TieV H v0 (x, y) ∧ Paired (TieV H) vr tr := by
      cases hxs with
      | cons r h => exact ⟨_, _, rfl, r, h⟩
    refine ⟨.ref a, rfl, a, _, 0, .ref p0, rfl, rfl, tq ha, atI_nat (j := 0) rfl, p0, _, rfl, tq hp0, rfl, iv x, _, rfl, iv y, [], rfl, rfl, ?_⟩
    refine ⟨.ref a, rfl, 1, rfl, ?_⟩
    refine ⟨a, _, rfl, tq ha, fun hw => ?_, fun _ c hc => ?_⟩
    · exfalso
      have := hw.1
      rw [show HT.sIx (V.ref p0 :: vr).length 0 (some 1) = min 1 (V.ref p0 :: vr).length from HT.sIx_nat _ 0 1] at this
      simp at this
    · have s1 := same_upd (o := .tup (cutV (V.ref p0 :: vr) (some 1) none)) hc
      have h1 : upd H c (.tup (cutV (V.ref p0 :: vr) (some 1) none)) c = some (.tup vr) := by rw [upd_same, cut1]; rfl
      generalize upd H c (.tup (cutV (V.ref p0 :: vr) (some 1) none)) = H1 at s1 h1 ⊢
      have hxy := hlt (x, y) (by simp)
      refine ⟨c, vr, tr, rfl, h1, paired_mono (fun _ _ r => r.keep (Same.tups s1)) hvr, by omega, fun H2 d kvs ks ad R s2 hN hk hR hks hRl _ => ?_⟩
      refine ⟨iv x, rfl, iv y, rfl, by show 1 ≤ sizeLine; decide, fun e he => ?_⟩
      intro g hg
      have s3 := Same.trans (same_upd (o := .lst [iv y]) he) (same_upd (o := .dK []) hg)
      have hge : e ≠ g := fun z => by rw [← z, upd_same] at hg; cases hg
      refine ⟨d, e, g, n, x, kvs, ks, ad, R, [y], [], [], rfl, hN.keep s3, by rw [upd_ne hge, upd_same]; rfl, upd_same, DD.nil0, hn, ?_, fun a z hz => ?_, fun H4 b wy s4 hb W => ?_, fun H4 S s4 hS => (hno R S hR hS).elim⟩
      · simp at hxy; omega
      · rcases (hR a z).mp hz with h | h
        · exact (hlt _ (.tail _ h)).2
        · have := hlt _ (.tail _ h)
          simp at this; omega
      · exact q H4 b wy R (Same.trans s1 (Same.trans s2 (Same.trans s3 s4))) hb hR W
def spRingsFor : Sp := fun vs H Q _ => ∃ (a b : Addr) (rs : List (List Nat)) (T : List Nat), vs = [.ref a, .ref b] ∧ RL H a rs ∧ H b = some (.lst (ivs T)) ∧ rs.length ≤ 200 ∧ T.length ≤ 200 ∧
  ∀ H' c ix, Same H H' → H c = none → H' c = some (.lst (ivs ix)) → ix.Nodup → ix.length ≤ 200 → (∀ i, i ∈ ix ↔ ∃ r, rs[i]? = some r ∧ ∀ x ∈ T, x ∈ r) → Q (.ref c) H'
theorem k_rings_for (A : At K mg "rings_for" s_rings_for) (B : Bt mg) : Cal P w K mg base 1 "rings_for" spRingsFor [] := by
  refine mk A sc_rings_for (fun _ _ _ _ _ _ us hl => match us, hl with | [_, _], _ => rfl) (fun vs H Q E h => ?_) (fun f cdv A outer s H vs Q E hr h => ?_)
  · obtain ⟨a, b, rs, T, rfl, _⟩ := h
    rfl
  · obtain ⟨a, b, rs, T, rfl, ⟨vs, ha, hvs⟩, hb, hrl, hTl, q⟩ := h
    refine ⟨_, (pss_one (ps_ret (pe_lc (own := [("at", 2), ("ring", 3)]) (g := (gTup K 2 (gCons (gName 2) (gCons (gName 3) gNil)))) rfl sc_rings_for.nd (pi_enum (by rfl) B.enumerate (pa_cons (pv 0) pa_nil)) (blkOk_by (N := ["rings", "touched", "at", "ring", "corner"]) (sc := defScope s_rings_for) (by decide +kernel)) (fun _ _ _ _ _ => (pg_tup rfl (pgs_cons (pg_name (i := 2) sc_rings_for.nd rfl (.inl rfl) (.inr rfl)) (pgs_cons (pg_name (i := 3) sc_rings_for.nd rfl (.inr rfl) (.inl rfl)) pgs_nil)))) (fun _ _ _ _ _ => (pts_one (pt_val (pe_callB (r := rAll K) (cr_all rfl) (by rfl) B.all (by decide +kernel) (pa_cons (pe_lc (own := [("corner", 4)]) (wi := iList K (tVar 1)) rfl sc_rings_for.nd (pi_list (pv 1)) (blkOk_by (N := ["rings", "touched", "at", "ring", "corner"]) (sc := ({ kind := .function, names := [(".0", .local), ("at", .local), ("ring", .cell), ("all", .globalImplicit), ("touched", .cell)], isGenerator := false, isCoroutine := false } : Scope)) (by decide +kernel)) (fun _ _ _ _ _ => (pg_name (i := 4) sc_rings_for.nd rfl (.inl rfl) (.inr rfl))) (fun _ _ _ _ _ => pts_nil) (fun _ _ _ _ _ => (pe_cmpR (r := rIn K false) op_in_seq (pv 4) (pv 3) (by with_unfolding_all rfl)))) pa_nil))))) (fun _ _ _ _ _ => (pv 2))))), ?_⟩
    have hvl := paired_len hvs
    refine ⟨.ref a, rfl, a, _, rfl, lq ha, fun D hD => ?_⟩
    refine lc_it (walk_enum (K := K) (a := a) (xs := vs)) (fun i H' => Same H H' ∧ ∃ ix : List Nat, H' D = some (.lst (ivs ix)) ∧ ix.Nodup ∧ ix.length ≤ i ∧ ∀ k, k ∈ ix ↔ k < i ∧ ∃ r, rs[k]? = some r ∧ ∀ x ∈ T, x ∈ r) ⟨same_upd hD, [], upd_same, List.nodup_nil, Nat.le_refl 0, fun k => by simp⟩ (fun i H' _ h => lq (h.1 _ _ ha)) (fun i x H' H'' hi h hx => ?_) (fun H' h => ?_)
    · obtain ⟨s1, ix, hix, hnd, hil, hmem⟩ := h
      obtain ⟨p, x1, v, rfl, hp, rfl, e1, e2⟩ := hx
      cases e1
      obtain ⟨r, hr, rp, rfl, hrp⟩ := paired_get hvs e2
      have s2 := same_upd (o := .tup [.int (i : Nat), .ref rp]) hp
      have hpt : upd H' p (.tup [.int (i : Nat), .ref rp]) p = some (.tup [.int (i : Nat), .ref rp]) := upd_same
      have hpD : p ≠ D := fun z => by rw [z, hix] at hp; cases hp
      generalize upd H' p (.tup [.int (i : Nat), .ref rp]) = H2 at s2 hpt ⊢
      have s12 := Same.trans s1 s2
      refine ⟨p, _, rfl, tq hpt, rfl, iv i, _, rfl, .ref rp, [], rfl, rfl, rfl, ?_⟩
      refine ⟨.ref b, rfl, b, rfl, ⟨_, lq (s12 _ _ hb)⟩, fun D2 hD2 => ?_⟩
      refine lc0 (walk_list (K := K) (a := b) (xs := ivs T)) (fun j H' => Same H2 H' ∧ H' D2 = some (.lst (((T.take j).map fun x => decide (x ∈ r)).map V.bl))) ⟨same_upd hD2, upd_same⟩ (fun j H' _ h => lq (h.1 _ _ (s12 _ _ hb))) (fun j x H3 H4 hj h hx => ?_) (fun H3 h => ?_)
      · obtain ⟨s3, h3⟩ := h
        obtain ⟨rfl, hx⟩ := hx
        obtain ⟨y, hy, rfl⟩ := ivs_get hx
        have hjl : j < T.length := by simpa [ivs] using hj
        refine ⟨rfl, iv y, rfl, .ref rp, rfl, rp, _, rfl, .inl (lq (s3 _ _ (s12 _ _ hrp))), rfl, flat_ivs r, ?_⟩
        rw [inV_ivs]
        refine ⟨_, h3, by rw [List.length_map, List.length_map, List.length_take]; exact small1000 (by omega), same_list hD2 s3, ?_⟩
        rw [upd_same, List.take_add_one, hy]
        simp
      · obtain ⟨s3, h3⟩ := h
        have eT : T.take (ivs T).length = T := by simp [ivs]
        rw [eT] at h3
        refine ⟨D2, _, rfl, lq h3, ?_⟩
        have hall : ((T.map fun x => decide (x ∈ r)).all id) = decide (∀ x ∈ T, x ∈ r) := by
          rw [List.all_map]
          rw [Bool.eq_iff_iff]
          simp
        rw [hall]
        have hi' : i < rs.length := (List.getElem?_eq_some_iff.mp hr).1
        have hix3 := s3 _ _ (s2 _ _ hix)
        by_cases hm : ∀ x ∈ T, x ∈ r
        · rw [decide_eq_true hm]
          refine ⟨true, rfl, iteT ?_⟩
          refine ⟨iv i, rfl, _, hix3, by rw [List.length_map]; exact small1000 (by omega), same_list hD (Same.trans s12 s3), ix ++ [i], by rw [upd_same]; simp [ivs], nd_snoc hnd fun h => by have := ((hmem i).mp h).1; omega, by rw [List.length_append]; simp; omega, fun k => ?_⟩
          rw [List.mem_append, hmem]
          simp only [List.mem_singleton]
          constructor
          · rintro (⟨h1, h2⟩ | h)
            · exact ⟨by omega, h2⟩
            · rw [h]; exact ⟨by omega, r, hr, hm⟩
          · rintro ⟨h1, h2⟩
            by_cases e : k = i
            · exact .inr e
            · exact .inl ⟨by omega, h2⟩
        · rw [decide_eq_false hm]
          refine ⟨false, rfl, iteF ?_⟩
          refine ⟨Same.trans s12 s3, ix, hix3, hnd, by omega, fun k => ?_⟩
          rw [hmem]
          constructor
          · rintro ⟨h1, h2⟩
            exact ⟨by omega, h2⟩
          · rintro ⟨h1, r', h2, h3⟩
            by_cases e : k = i
            · rw [e, hr] at h2
              cases h2
              exact absurd h3 hm
            · exact ⟨by omega, r', h2, h3⟩
    · obtain ⟨s1, ix, hix, hnd, hil, hmem⟩ := h
      refine q H' D ix s1 hD hix hnd (by omega) fun k => ?_
      rw [hmem]
      constructor
      · exact fun h => h.2
      · rintro ⟨r, h1, h2⟩
        have := (List.getElem?_eq_some_iff.mp h1).1
        exact ⟨by omega, r, h1, h2⟩
end
end Wp
set_option maxHeartbeats 4000000
namespace Wp
open Wb
open PySem PySem.Spec PyProof.Rows L2
/-! the law of the drawing of a block -/
theorem pd_zip : ∀ {l : List Nat} {a b : Nat}, (a, b) ∈ l.zip (l.drop 1) ↔ pd l a b = true
  | [], a, b => by simp [pd]
  | [x], a, b => by simp [pd]
  | x :: y :: l, a, b => by
    rw [pd_two, ← pd_zip (l := y :: l)]
    simp [List.zip_cons_cons]
theorem steps_drop (l : List Nat) : (steps l).drop 1 = l.zip (l.drop 1) := by
  unfold steps
  cases l with
  | nil => rfl
  | cons x l =>
    obtain ⟨z, hz⟩ : ∃ z, (x :: l).getLast? = some z := ⟨_, List.getLast?_cons ..⟩
    rw [hz]
    show (List.zip (z :: x :: l) (x :: l)).drop 1 = List.zip (x :: l) ((x :: l).drop 1)
    rfl
theorem mem_steps_way {l : List Nat} {a b : Nat} : (a, b) ∈ (steps l).drop 1 ↔ pd l a b = true := by
  rw [steps_drop, pd_zip]
theorem mem_steps_ring {l : List Nat} {a b : Nat} : (a, b) ∈ steps l ↔ dart l a b = true := by
  cases l with
  | nil => simp [steps, dart]
  | cons x l =>
    obtain ⟨z, hz⟩ : ∃ z, (x :: l).getLast? = some z := ⟨_, List.getLast?_cons ..⟩
    obtain ⟨m, hm⟩ : ∃ m, x :: l = m ++ [z] := by
      rcases nil_or_snoc (x :: l) with h | ⟨m, y, h⟩
      · cases h
      · rw [h, List.getLast?_concat] at hz
        cases hz
        exact ⟨m, h⟩
    have e1 : (a, b) ∈ steps (x :: l) ↔ (a = z ∧ b = x) ∨ pd (x :: l) a b = true := by
      rw [← mem_steps_way (l := x :: l)]
      unfold steps
      rw [hz]
      show (a, b) ∈ List.zip (z :: x :: l) (x :: l) ↔ _ ∨ (a, b) ∈ (List.zip (z :: x :: l) (x :: l)).drop 1
      rw [List.zip_cons_cons]
      simp
    rw [e1]
    show _ ↔ pd (x :: l ++ [x]) a b = true
    rw [hm, List.append_assoc]
    rw [show m ++ ([z] ++ [x]) = m ++ z :: [x] by rfl, pd_app m z [x]]
    rw [Bool.or_eq_true, pd_two]
    simp [pd]
    constructor
    · rintro (h | h)
      · exact .inr h
      · exact .inl h
    · rintro (h | h)
      · exact .inr h
      · exact .inl h
/-- where the drawing of a block stands -/
structure BL (n : Nat) (B : E2) (rs : List (List Nat)) (Hd : E2) (lf : List (Nat × Nat)) (St : List Nat) : Prop where
  g : Gr n B
  tc : TC B
  con : ∀ u v a b, B u a = true → B v b = true → Conn B u v
  D : DInv n Hd rs
  sub : Sub Hd B
  left : ∀ u v, adj lf u v ↔ B u v = true ∧ Hd u v = false
  st : ∀ x, x ∈ St ↔ ∃ y, Hd x y = true
  ne : ∃ u v, Hd u v = true
  pl : ∀ (α : Type) (fc : Nat → Nat → α), Plane n B fc → ∃ (fc' : Nat → Nat → α) (φ : α → List Nat), Stage n B Hd (fun r => r ∈ rs) onE fc' φ
theorem vx_on {r : List Nat} (hn : r.Nodup) (h3 : 3 ≤ r.length) {c : Nat} : vx (onE r) c ↔ c ∈ r := by
  constructor
  · rintro ⟨v, hv⟩
    simp only [onE, Bool.or_eq_true] at hv
    rcases hv with h | h
    · exact (dart_mem h).1
    · exact (dart_mem h).2
  · intro hc
    obtain ⟨b, _, _, h1, _⟩ := dart_next hn h3 hc
    exact ⟨b, by simp only [onE, Bool.or_eq_true]; exact .inl ((h1 b).mpr rfl)⟩
section
variable {n : Nat} {B Hd : E2} {rs : List (List Nat)} {lf : List (Nat × Nat)} {St : List Nat} (L : BL n B rs Hd lf St)
include L
theorem BL.undr {x : Nat} (h : x ∉ St) (y : Nat) : Hd x y = false := by
  cases e : Hd x y with
  | false => rfl
  | true => exact absurd ((L.st x).mpr ⟨y, e⟩) h
theorem BL.symL : Sym B := L.g.sym
theorem BL.piece1 {R : Nat → List Nat} (hR : ∀ u v, v ∈ R u ↔ adj lf u v) {c y0 : Nat} {S T : List Nat} (hp : PieceOf R St c S T) (hc : c ∉ St) (hy0 : y0 ∈ R c) : ∀ x ∈ S, ∀ y ∈ R x, SameP B Hd c y0 x y := by
  refine hp.least (fun x => ∀ y ∈ R x, SameP B Hd c y0 x y) (fun y hy => ?_) (fun x y hx hy hyS => fun z hz => ?_)
  · exact SameP.next (SameP.turn .refl) (L.undr hc) ((L.left _ _).mp ((hR _ _).mp hy)).1
  · exact SameP.next (hx y hy) (L.undr hyS) ((L.left _ _).mp ((hR _ _).mp hz)).1
theorem BL.piece2 {R : Nat → List Nat} (hR : ∀ u v, v ∈ R u ↔ adj lf u v) {c y0 : Nat} {S T : List Nat} (hp : PieceOf R St c S T) (hc : c ∉ St) (hy0 : y0 ∈ R c) {a b : Nat} (h : SameP B Hd c y0 a b) : a ∈ S ∨ b ∈ S := by
  have h0 := (L.left _ _).mp ((hR _ _).mp hy0)
  induction h with
  | refl => exact .inl hp.cin
  | turn _ ih => exact ih.symm
  | @next a b d h hu hb ih =>
    left
    have hbS : b ∉ St := fun z => by
      obtain ⟨y, hy⟩ := (L.st b).mp z
      rw [hu y] at hy; cases hy
    rcases ih with ih | ih
    · have hab := h.is L.g.sym L.D.sym h0.1 h0.2
      exact hp.cl a ih b ((hR _ _).mpr ((L.left _ _).mpr hab)) hbS
    · exact ih
theorem BL.touch {R : Nat → List Nat} (hR : ∀ u v, v ∈ R u ↔ adj lf u v) {c y0 : Nat} {S T : List Nat} (hp : PieceOf R St c S T) (hc : c ∉ St) (hy0 : y0 ∈ R c) {p d q : Nat} (h : SameP B Hd c y0 p d) (hq : Hd p q = true) : p ∈ T := by
  have h0 := (L.left _ _).mp ((hR _ _).mp hy0)
  have hpS : p ∈ St := (L.st p).mpr ⟨q, hq⟩
  have hpd := h.is L.g.sym L.D.sym h0.1 h0.2
  refine (hp.tou p).mpr ⟨hpS, d, ?_, (hR _ _).mpr ((L.left _ _).mpr ⟨L.g.symm hpd.1, by rw [L.D.sym]; exact hpd.2⟩)⟩
  rcases L.piece2 hR hp hc hy0 h with g | g
  · exact absurd hpS (hp.out p g)
  · exact g
theorem BL.two {R : Nat → List Nat} (hR : ∀ u v, v ∈ R u ↔ adj lf u v) {c : Nat} {S T : List Nat} (hp : PieceOf R St c S T) (hc : c ∉ St) (hy : ∃ y, y ∈ R c) (hT : T.Nodup) : 2 ≤ T.length := by
  obtain ⟨y0, hy0⟩ := hy
  have h0 := (L.left _ _).mp ((hR _ _).mp hy0)
  obtain ⟨p, d, q, e, p', q', hpq, h1, h2, h3, h4⟩ := two_contacts L.g.sym L.D.sym L.g L.tc L.sub L.con L.ne h0.1 h0.2
  have m1 := L.touch hR hp hc hy0 h1 h3
  have m2 := L.touch hR hp hc hy0 h2 h4
  rcases T with _ | ⟨t0, _ | ⟨t1, T⟩⟩
  · cases m1
  · simp at m1 m2
    exact absurd (m1.trans m2.symm) hpq
  · simp
/-- an entry's ties, and where they touch -/
theorem BL.ent {R : Nat → List Nat} (hR : ∀ u v, v ∈ R u ↔ adj lf u v) {S T wy : List Nat} (he : Ent R lf St S T wy) {u v : Nat} (huv : B u v = true ∧ Hd u v = false) (hin : (S = [] ∧ ((T = [u, v] ∧ u ∈ St ∧ v ∈ St) ∨ (T = [v, u] ∧ u ∈ St ∧ v ∈ St))) ∨ u ∈ S ∨ v ∈ S) {p d q : Nat} (h : SameP B Hd u v p d) (hq : Hd p q = true) : p ∈ T := by
  have direct : u ∈ St → v ∈ St → (u ∈ T ∧ v ∈ T) → p ∈ T := fun hu hv hT => by
    have : (p = u ∧ d = v) ∨ (p = v ∧ d = u) := by
      clear hq
      induction h with
      | refl => exact .inl ⟨rfl, rfl⟩
      | turn _ ih =>
        rcases ih with ⟨h1, h2⟩ | ⟨h1, h2⟩
        · exact .inr ⟨h2, h1⟩
        · exact .inl ⟨h2, h1⟩
      | @next a b d h hb hbd ih =>
        exfalso
        rcases ih with ⟨h1, h2⟩ | ⟨h1, h2⟩
        · obtain ⟨y, hy⟩ := (L.st v).mp hv
          rw [← h2, hb y] at hy; cases hy
        · obtain ⟨y, hy⟩ := (L.st u).mp hu
          rw [← h2, hb y] at hy; cases hy
    rcases this with ⟨h1, _⟩ | ⟨h1, _⟩
    · rw [h1]; exact hT.1
    · rw [h1]; exact hT.2
  rcases hin with ⟨_, ⟨hT, hu, hv⟩ | ⟨hT, hu, hv⟩⟩ | hin
  · exact direct hu hv (by rw [hT]; simp)
  · exact direct hu hv (by rw [hT]; simp)
  · rcases he with ⟨hS, _⟩ | ⟨⟨c, hc, ⟨y0, hy0⟩, hp⟩, _, _⟩
    · rw [hS] at hin; simp at hin
    · have huvR : v ∈ R u := (hR _ _).mpr ((L.left _ _).mpr huv)
      have hvuR : u ∈ R v := (hR _ _).mpr ((L.left _ _).mpr ⟨L.g.symm huv.1, by rw [L.D.sym]; exact huv.2⟩)
      have h1 : SameP B Hd c y0 u v := by
        rcases hin with g | g
        · exact L.piece1 hR hp hc hy0 u g v huvR
        · exact SameP.turn (L.piece1 hR hp hc hy0 v g u hvuR)
      exact L.touch hR hp hc hy0 (SameP.trans h1 h) hq
/-- no ring for an entry: no drawing -/
theorem BL.none {R : Nat → List Nat} (hR : ∀ u v, v ∈ R u ↔ adj lf u v) {S T wy : List Nat} (he : Ent R lf St S T wy) (hno : ∀ r ∈ rs, ¬ ∀ x ∈ T, x ∈ r) {α : Type} {fc : Nat → Nat → α} (P : Plane n B fc) : False := by
  obtain ⟨fc', φ, Sg⟩ := L.pl α fc P
  -- a tie of the entry, its ring
  have key : ∀ u v, B u v = true → Hd u v = false → (∀ x ∈ T, ∃ d q, SameP B Hd u v x d ∧ Hd x q = true) → False := fun u v h1 h2 hT => by
    refine hno (φ (fc' u v)) (Sg.ft.mem u v h1) fun x hx => ?_
    obtain ⟨d, q, g1, g2⟩ := hT x hx
    have hr := Sg.ft.mem u v h1
    exact (vx_on (L.D.nd _ hr).1 (L.D.nd _ hr).2.1).mp (Sg.contact g1 h1 h2 g2)
  rcases he with ⟨_, a, b, hab, ha, hb, rfl, _⟩ | ⟨⟨c, hc, ⟨y0, hy0⟩, hp⟩, _, _⟩
  · have h0 := (L.left a b).mp (.inl hab)
    refine key a b h0.1 h0.2 fun x hx => ?_
    simp at hx
    rcases hx with rfl | rfl
    · obtain ⟨q, hq⟩ := (L.st _).mp ha
      exact ⟨b, q, .refl, hq⟩
    · obtain ⟨q, hq⟩ := (L.st _).mp hb
      exact ⟨a, q, .turn .refl, hq⟩
  · have h0 := (L.left _ _).mp ((hR _ _).mp hy0)
    refine key c y0 h0.1 h0.2 fun x hx => ?_
    obtain ⟨h1, s, hs, hxs⟩ := (hp.tou x).mp hx
    obtain ⟨q, hq⟩ := (L.st x).mp h1
    exact ⟨s, q, SameP.turn (L.piece1 hR hp hc hy0 s hs x hxs), hq⟩
end
theorem Ent.way {R : Nat → List Nat} {lf : List (Nat × Nat)} {St S T wy : List Nat} (hR : ∀ u v, v ∈ R u ↔ adj lf u v) (hlt : ∀ t ∈ lf, t.1 < t.2) (he : Ent R lf St S T wy) :
    ∃ I w0 wm, wy = w0 :: (I ++ [wm]) ∧ w0 ∈ T ∧ wm ∈ T ∧ w0 ≠ wm ∧ wy.Nodup ∧ (∀ c ∈ I, c ∉ St) ∧ (∀ u v, pd wy u v = true → adj lf u v) ∧ ∀ x ∈ T, x ∈ St := by
  rcases he with ⟨_, a, b, hab, ha, hb, rfl, rfl⟩ | ⟨⟨c, hc, _, hp⟩, hT, W⟩
  · have hl : a < b := hlt (a, b) hab
    refine ⟨[], a, b, rfl, by simp, by simp, by omega, by simp; omega, by simp, fun u v h => ?_, fun x hx => ?_⟩
    · rcases (pd_two a b [] u v).mp h with ⟨rfl, rfl⟩ | h
      · exact .inl hab
      · cases h
    · simp at hx
      rcases hx with rfl | rfl <;> assumption
  · obtain ⟨b, hb, z, hz, h1, h2, hzb⟩ := W.ends
    cases wy with
    | nil => cases h1
    | cons w0 l =>
      simp at h1
      subst h1
      rcases nil_or_snoc l with rfl | ⟨I, wm, rfl⟩
      · simp at h2; exact absurd h2.symm hzb
      · have : wm = z := by
          rw [List.getLast?_cons] at h2
          simpa using h2
        subst this
        refine ⟨I, w0, wm, rfl, hb, hz, Ne.symm hzb, W.nd, fun c hcI => ?_, fun u v h => ?_, fun x hx => ((hp.tou x).mp hx).1⟩
        · have hnd := W.nd
          refine W.inn c (by simp [hcI]) (fun e => ?_) (fun e => ?_)
          · simp at e
            have := (List.nodup_cons.mp hnd).1
            rw [e] at this
            exact this (by simp [hcI])
          · rw [h2] at e
            have e : wm = c := Option.some.inj e
            have hn2 := (List.nodup_cons.mp hnd).2
            rw [List.nodup_append] at hn2
            exact hn2.2.2 c hcI wm (by simp) e.symm
        · exact (hR u v).mp (W.st u v h).1
theorem adj_along {ps lf : List (Nat × Nat)} (hlt : ∀ t ∈ lf, t.1 < t.2) {u v : Nat} : adj (along ps lf) u v ↔ adj lf u v ∧ ¬ ((u, v) ∈ ps ∨ (v, u) ∈ ps) := by
  have one : ∀ u v, (u, v) ∈ along ps lf ↔ (u, v) ∈ lf ∧ ¬ ((u, v) ∈ ps ∨ (v, u) ∈ ps) := fun u v => by
    unfold along
    rw [List.mem_filter]
    constructor
    · rintro ⟨h1, h2⟩
      refine ⟨h1, fun h => ?_⟩
      have hl : u < v := hlt (u, v) h1
      simp only [Bool.not_eq_true', decide_eq_false_iff_not] at h2
      refine h2 (List.mem_map.mpr ?_)
      rcases h with h | h
      · exact ⟨_, h, Prod.ext (Nat.min_eq_left (by omega)) (Nat.max_eq_right (by omega))⟩
      · exact ⟨_, h, Prod.ext (Nat.min_eq_right (by omega)) (Nat.max_eq_left (by omega))⟩
    · rintro ⟨h1, h2⟩
      refine ⟨h1, ?_⟩
      have hl : u < v := hlt (u, v) h1
      simp only [Bool.not_eq_true', decide_eq_false_iff_not]
      intro h
      obtain ⟨⟨a, b⟩, hab, e⟩ := List.mem_map.mp h
      have e1 : min a b = u := congrArg Prod.fst e
      have e2 : max a b = v := congrArg Prod.snd e
      by_cases hc : a ≤ b
      · have : a = u ∧ b = v := by omega
        rw [this.1, this.2] at hab
        exact h2 (.inl hab)
      · have : a = v ∧ b = u := by omega
        rw [this.1, this.2] at hab
        exact h2 (.inr hab)
  unfold adj
  rw [one, one]
  constructor
  · rintro (⟨h1, h2⟩ | ⟨h1, h2⟩)
    · exact ⟨.inl h1, h2⟩
    · exact ⟨.inr h1, fun h => h2 h.symm⟩
  · rintro ⟨h1 | h1, h2⟩
    · exact .inl ⟨h1, h2⟩
    · exact .inr ⟨h1, fun h => h2 h.symm⟩
theorem spE_mem {l : List Nat} (h : 2 ≤ l.length) {x : Nat} (hx : x ∈ l) : ∃ y, spE l x y = true := by
  obtain ⟨i, hi⟩ := List.getElem?_of_mem hx
  have hil := (List.getElem?_eq_some_iff.mp hi).1
  by_cases e : i + 1 < l.length
  · have := pd_get hi (List.getElem?_eq_getElem e)
    exact ⟨_, by simp only [spE, Bool.or_eq_true]; exact .inl this⟩
  · obtain ⟨j, rfl⟩ : ∃ j, i = j + 1 := ⟨i - 1, by omega⟩
    have := pd_get (List.getElem?_eq_getElem (i := j) (by omega)) hi
    exact ⟨_, by simp only [spE, Bool.or_eq_true]; exact .inr this⟩
theorem BL.step {n : Nat} {B Hd : E2} {l1 l2 : List (List Nat)} {F : List Nat} {lf : List (Nat × Nat)} {St St' : List Nat} (L : BL n B (l1 ++ F :: l2) Hd lf St) (hlt : ∀ t ∈ lf, t.1 < t.2) {R : Nat → List Nat} (hR : ∀ u v, v ∈ R u ↔ adj lf u v)
    {S T wy I : List Nat} {w0 wm : Nat} (he : Ent R lf St S T wy) (hwy : wy = w0 :: (I ++ [wm])) (hTF : ∀ x ∈ T, x ∈ F) {La M P' Q' : List Nat} (hF : F = La ++ M) (hG : M ++ La = w0 :: (P' ++ wm :: Q')) (hSt' : ∀ x, x ∈ St' ↔ x ∈ St ∨ x ∈ wy)
    (hsel : (∀ r ∈ l1 ++ F :: l2, (∀ x ∈ T, x ∈ r) → r = F) ∨ ∀ u v, B u v = true → Hd u v = false → ∃ S' T' wy', Ent R lf St S' T' wy' ∧ ((S' = [] ∧ ((T' = [u, v] ∧ u ∈ St ∧ v ∈ St) ∨ (T' = [v, u] ∧ u ∈ St ∧ v ∈ St))) ∨ u ∈ S' ∨ v ∈ S') ∧ ∃ G1 ∈ l1 ++ F :: l2, ∃ G2 ∈ l1 ++ F :: l2, G1 ≠ G2 ∧ (∀ x ∈ T', x ∈ G1) ∧ ∀ x ∈ T', x ∈ G2) :
    ∃ Hd', BL n B (l1 ++ l2 ++ [w0 :: (I ++ wm :: Q'), w0 :: (P' ++ wm :: I.reverse)]) Hd' (along ((steps wy).drop 1) lf) St' := by
  obtain ⟨I', w0', wm', e, hw0T, hwmT, hne, hnd, hIS, hadj, hTS⟩ := he.way hR hlt
  have eI : w0' = w0 ∧ I' = I ∧ wm' = wm := by
    rw [hwy] at e
    have h1 := List.cons.inj e
    have h2 := List.append_inj' h1.2 rfl
    exact ⟨h1.1.symm, h2.1.symm, by simpa using h2.2.symm⟩
  obtain ⟨rfl, rfl, rfl⟩ := eI
  clear e
  have hFm : F ∈ l1 ++ F :: l2 := by simp
  obtain ⟨hFn, hF3, hFlt⟩ := L.D.nd F hFm
  have hmem : ∀ x, x ∈ F ↔ x ∈ M ++ La := fun x => by rw [hF]; simp [or_comm]
  have hGn : (M ++ La).Nodup := by
    rw [hF] at hFn
    exact (List.perm_append_comm.nodup_iff).mp hFn
  have hFd : ∀ u v, dart F u v = dart (M ++ La) u v := fun u v => by rw [hF]; exact dart_app La M u v
  have drawn : ∀ x ∈ F, x ∈ St := fun x hx => by
    obtain ⟨b, _, _, h1, _⟩ := dart_next hFn hF3 hx
    exact (L.st x).mpr ⟨b, (L.D.iff x b).mpr ⟨F, hFm, (h1 b).mpr rfl⟩⟩
  have hPt : Parted (M ++ La) wy (w0' :: (I' ++ wm' :: Q')) (w0' :: (P' ++ wm' :: I'.reverse)) w0' wm' I' P' Q' :=
    ⟨hG, hwy, rfl, rfl, hGn, hnd, fun c hc hcG => hIS c hc (drawn c ((hmem c).mpr hcG))⟩
  have hadj2 : ∀ u v, spE wy u v = true → B u v = true ∧ Hd u v = false := fun u v h => by
    simp only [spE, Bool.or_eq_true] at h
    rcases h with h | h
    · exact (L.left u v).mp (hadj u v h)
    · exact (L.left u v).mp (hadj v u h).symm
  have hw2 : 2 ≤ wy.length := by rw [hwy]; simp
  have hwlt : ∀ x ∈ wy, x < n := fun x hx => by
    obtain ⟨y, hy⟩ := spE_mem hw2 hx
    exact L.g.bnd1 (hadj2 x y hy).1
  have hI0 : ∀ c ∈ I', ∀ v, Hd c v = false := fun c hc v => L.undr (hIS c hc) v
  obtain ⟨D', _, _, _⟩ := L.D.split hPt hFd (by rw [hF]; simp [Nat.add_comm]) hmem hwlt (fun u v h => (hadj2 u v h).2) hI0
  refine ⟨_, L.g, L.tc, L.con, D', fun u v h => ?_, fun u v => ?_, fun x => ?_, ?_, fun α fc P => ?_⟩
  · rcases Bool.or_eq_true _ _ ▸ h with h | h
    · exact L.sub u v h
    · exact (hadj2 u v h).1
  · rw [adj_along hlt, mem_steps_way, mem_steps_way, L.left]
    simp only [spE]
    constructor
    · rintro ⟨⟨h1, h2⟩, h3⟩
      refine ⟨h1, ?_⟩
      cases e1 : pd wy u v <;> cases e2 : pd wy v u <;> simp [e1, e2, h2] at h3 ⊢
    · rintro ⟨h1, h2⟩
      cases e1 : pd wy u v <;> cases e2 : pd wy v u <;> simp [e1, e2] at h2 ⊢
      exact ⟨h1, h2⟩
  · rw [hSt', L.st]
    constructor
    · rintro (⟨y, hy⟩ | h)
      · exact ⟨y, by rw [hy]; rfl⟩
      · obtain ⟨y, hy⟩ := spE_mem hw2 h
        exact ⟨y, by rw [hy]; exact Bool.or_true _⟩
    · rintro ⟨y, hy⟩
      rcases Bool.or_eq_true _ _ ▸ hy with h | h
      · exact .inl ⟨y, h⟩
      · right
        simp only [spE, Bool.or_eq_true] at h
        rcases h with h | h
        · exact (pd_mem h).1
        · exact (pd_mem h).2
  · obtain ⟨u, v, h⟩ := L.ne
    exact ⟨u, v, by rw [h]; rfl⟩
  · obtain ⟨fc', φ, Sg⟩ := L.pl α fc P
    obtain ⟨w1, hw1⟩ : ∃ w1, pd wy w0' w1 = true := by
      rw [hwy]
      cases I' with
      | nil => exact ⟨wm', (pd_two w0' wm' [] _ _).mpr (.inl ⟨rfl, rfl⟩)⟩
      | cons x I' => exact ⟨x, (pd_two w0' x _ _ _).mpr (.inl ⟨rfl, rfl⟩)⟩
    have h01 := (L.left _ _).mp (hadj _ _ hw1)
    have facts : (∀ u v, pd wy u v = true → SameP B Hd w0' w1 u v) ∧ (∀ x ∈ T, ∃ d q, SameP B Hd w0' w1 x d ∧ Hd x q = true) ∧
        ((S = [] ∧ ((T = [w0', w1] ∧ w0' ∈ St ∧ w1 ∈ St) ∨ (T = [w1, w0'] ∧ w0' ∈ St ∧ w1 ∈ St))) ∨ w0' ∈ S ∨ w1 ∈ S) := by
      rcases id he with ⟨hS, a, b, hab, ha, hb, hTe, hwe⟩ | ⟨⟨c, hc, ⟨y0, hy0⟩, hp⟩, _, W⟩
      · rw [hwe] at hw1
        have e1 : w0' = a ∧ w1 = b := by
          rcases (pd_two a b [] _ _).mp hw1 with h | h
          · exact h
          · cases h
        obtain ⟨rfl, rfl⟩ := e1
        refine ⟨fun u v h => ?_, fun x hx => ?_, .inl ⟨hS, .inl ⟨hTe, ha, hb⟩⟩⟩
        · rw [hwe] at h
          rcases (pd_two w0' w1 [] _ _).mp h with ⟨rfl, rfl⟩ | h
          · exact .refl
          · cases h
        · rw [hTe] at hx
          simp at hx
          rcases hx with rfl | rfl
          · obtain ⟨q, hq⟩ := (L.st _).mp ha
            exact ⟨_, q, .refl, hq⟩
          · obtain ⟨q, hq⟩ := (L.st _).mp hb
            exact ⟨_, q, .turn .refl, hq⟩
      · have sym : ∀ u v, v ∈ R u → u ∈ R v := fun u v h => (hR v u).mpr ((hR u v).mp h).symm
        have any : ∀ u v, v ∈ R u → (u ∈ S ∨ v ∈ S) → SameP B Hd c y0 u v := fun u v h g => by
          rcases g with g | g
          · exact L.piece1 hR hp hc hy0 u g v h
          · exact SameP.turn (L.piece1 hR hp hc hy0 v g u (sym u v h))
        have h00 := (L.left _ _).mp ((hR _ _).mp hy0)
        have b1 := any w0' w1 (W.st _ _ hw1).1 (W.st _ _ hw1).2
        have back := b1.symm L.g.sym L.D.sym h00.1 h00.2
        refine ⟨fun u v h => back.trans (any u v (W.st u v h).1 (W.st u v h).2), fun x hx => ?_, .inr (W.st _ _ hw1).2⟩
        obtain ⟨g1, s, hs, hxs⟩ := (hp.tou x).mp hx
        obtain ⟨q, hq⟩ := (L.st x).mp g1
        exact ⟨s, q, back.trans (SameP.turn (L.piece1 hR hp hc hy0 s hs x hxs)), hq⟩
    obtain ⟨f1, f2, f3⟩ := facts
    refine Sg.draw L.D hPt hFd (by rw [hF]; simp [Nat.add_comm]) hmem hwlt hadj2 hI0 hw1 f1 ?_
    rcases hsel with hu | hf
    · left
      refine hu _ (Sg.ft.mem _ _ h01.1) fun x hx => ?_
      obtain ⟨d, q, g1, g2⟩ := f2 x hx
      have hr := Sg.ft.mem _ _ h01.1
      exact (vx_on (L.D.nd _ hr).1 (L.D.nd _ hr).2.1).mp (Sg.contact g1 h01.1 h01.2 g2)
    · right
      refine ⟨fun u v h1 h2 => ?_, fun c d q h hq => hTF c (L.ent hR he h01 f3 h hq)⟩
      obtain ⟨S', T', wy', he', hin, G1, hG1, G2, hG2, hGne, k1, k2⟩ := hf u v h1 h2
      by_cases e : G1 = φ (fc' u v)
      · exact ⟨G2, hG2, fun z => hGne (e.trans z.symm), fun c d h hs hh => (vx_on (L.D.nd _ hG2).1 (L.D.nd _ hG2).2.1).mpr (k2 c (L.ent hR he' ⟨h1, h2⟩ hin hs hh))⟩
      · exact ⟨G1, hG1, e, fun c d h hs hh => (vx_on (L.D.nd _ hG1).1 (L.D.nd _ hG1).2.1).mpr (k1 c (L.ent hR he' ⟨h1, h2⟩ hin hs hh))⟩
end Wp
set_option maxHeartbeats 4000000
namespace Wp
open Wb
open PySem PySem.Spec PyProof.Rows L2
/-- a block: ties ts -/
structure Blk (n : Nat) (B : E2) (ts : List (Nat × Nat)) : Prop where
  g : Gr n B
  tc : TC B
  con : ∀ u v a b, B u a = true → B v b = true → Conn B u v
  nd : ts.Nodup
  lt : ∀ t ∈ ts, t.1 < t.2 ∧ t.2 < n
  iff : ∀ u v, B u v = true ↔ adj ts u v
theorem Blk.rest {n : Nat} {B : E2} {x y : Nat} {tr : List (Nat × Nat)} (K : Blk n B ((x, y) :: tr)) (u v : Nat) : adj tr u v ↔ B u v = true ∧ ¬ ((u = x ∧ v = y) ∨ (u = y ∧ v = x)) := by
  have hx := (List.nodup_cons.mp K.nd).1
  have hxy := (K.lt (x, y) (by simp)).1
  rw [K.iff]
  unfold adj
  constructor
  · intro h
    refine ⟨h.elim (fun h => .inl (.tail _ h)) (fun h => .inr (.tail _ h)), ?_⟩
    rintro (⟨rfl, rfl⟩ | ⟨rfl, rfl⟩)
    · rcases h with h | h
      · exact hx h
      · have := (K.lt _ (.tail _ h)).1
        simp at this hxy; omega
    · rcases h with h | h
      · have := (K.lt _ (.tail _ h)).1
        simp at this hxy; omega
      · exact hx h
  · rintro ⟨h, hn⟩
    rcases h with h | h
    · rcases List.mem_cons.mp h with e | e
      · exact absurd (.inl ⟨congrArg Prod.fst e, congrArg Prod.snd e⟩) hn
      · exact .inl e
    · rcases List.mem_cons.mp h with e | e
      · exact absurd (.inr ⟨congrArg Prod.snd e, congrArg Prod.fst e⟩) hn
      · exact .inr e
theorem Blk.shut {n : Nat} {B : E2} {x y : Nat} {tr : List (Nat × Nat)} (K : Blk n B ((x, y) :: tr)) (hne : tr ≠ []) {R : Nat → List Nat} (hR : ∀ u v, v ∈ R u ↔ adj tr u v) {S : List Nat} (hS : Shut R x [y] [] S) : False := by
  have hxy : x < y := (K.lt (x, y) (by simp)).1
  have hBxy : B x y = true := (K.iff x y).mpr (.inl (by simp))
  have hy : y ∉ S := fun h => hS.no y h (by omega) (by simp)
  have cl : ∀ u ∈ S, ∀ v, B u v = true → ¬ ((u = x ∧ v = y) ∨ (u = y ∧ v = x)) → v ∈ S := fun u hu v h1 h2 =>
    hS.cl u hu v ((hR u v).mpr ((K.rest u v).mpr ⟨h1, h2⟩)) (.inr (by simp))
  by_cases hz : ∃ z, B x z = true ∧ z ≠ y
  · obtain ⟨z, h1, h2⟩ := hz
    have hc := K.tc x z y h1 hBxy
    have hzS := cl x hS.bin z h1 (by rintro (⟨_, h⟩ | ⟨h, _⟩); exact h2 h; omega)
    have : ∀ w, Conn (Av B x) z w → w ∈ S := fun w hw => by
      induction hw with
      | refl => exact hzS
      | step _ e ih =>
        obtain ⟨e1, e2, e3⟩ := Av_iff.mp e
        exact cl _ ih _ e1 (by rintro (⟨h, _⟩ | ⟨_, h⟩); exact e2 h; exact e3 h)
    exact hy (this y hc)
  · have hall : ∀ z, B x z = true → z = y := fun z h => Classical.byContradiction fun hn => hz ⟨z, h, hn⟩
    by_cases hw : ∃ z, B y z = true ∧ z ≠ x
    · obtain ⟨z, h1, h2⟩ := hw
      have hc := K.tc y x z (K.g.symm hBxy) h1
      have : ∀ w, Conn (Av B y) x w → w = x := fun w hw => by
        induction hw with
        | refl => rfl
        | step _ e ih =>
          obtain ⟨e1, e2, e3⟩ := Av_iff.mp e
          rw [ih] at e1
          exact absurd (hall _ e1) e3
      exact h2 (this z hc)
    · have hall2 : ∀ z, B y z = true → z = x := fun z h => Classical.byContradiction fun hn => hw ⟨z, h, hn⟩
      cases tr with
      | nil => exact hne rfl
      | cons t tr =>
        obtain ⟨a, b⟩ := t
        have hab : B a b = true := (K.iff a b).mpr (.inl (by simp))
        have hlt : a < b := (K.lt (a, b) (by simp)).1
        have hc := K.con x a y b hBxy hab
        have : ∀ w, Conn B x w → w = x ∨ w = y := fun w hw => by
          induction hw with
          | refl => exact .inl rfl
          | step _ e ih =>
            rcases ih with ih | ih
            · rw [ih] at e; exact .inr (hall _ e)
            · rw [ih] at e; exact .inl (hall2 _ e)
        have hnd := (List.nodup_cons.mp K.nd).1
        rcases this a hc with h | h
        · rw [h] at hab
          have := hall b hab
          exact hnd (by rw [h, this]; simp)
        · rw [h] at hab
          have := hall2 b hab
          omega
theorem Blk.first {n : Nat} {B : E2} {x y : Nat} {tr : List (Nat × Nat)} (K : Blk n B ((x, y) :: tr)) {R : Nat → List Nat} (hR : ∀ u v, v ∈ R u ↔ adj tr u v) {wy : List Nat} (W : Way R x [y] [] wy) {St : List Nat} (hSt : ∀ z, z ∈ St ↔ z ∈ wy) :
    wy ≠ wy.reverse ∧ BL n B [wy, wy.reverse] (onE wy) (along (steps wy) ((x, y) :: tr)) St := by
  have hxy : x < y := (K.lt (x, y) (by simp)).1
  have hBxy : B x y = true := (K.iff x y).mpr (.inl (by simp))
  obtain ⟨z, hz, hl, hzx⟩ := W.lst
  simp at hz
  subst hz
  obtain ⟨l, hl1⟩ : ∃ l, wy = x :: l := by
    have := W.hd
    cases wy with
    | nil => cases this
    | cons a l => simp at this; exact ⟨l, by rw [this]⟩
  have h3 : 3 ≤ wy.length := by
    rcases l with _ | ⟨a, _ | ⟨b, l⟩⟩
    · rw [hl1] at hl; simp at hl; omega
    · rw [hl1] at hl
      simp at hl
      subst hl
      have := W.st x a (by rw [hl1]; exact (pd_two x a [] _ _).mpr (.inl ⟨rfl, rfl⟩))
      have := ((K.rest x a).mp ((hR x a).mp this)).2
      exact absurd (.inl ⟨rfl, rfl⟩) this
    · rw [hl1]; simp
  have hBw : ∀ u v, dart wy u v = true → B u v = true := fun u v h => by
    rw [hl1] at h
    obtain ⟨m, hm⟩ : ∃ m, wy = m ++ [z] := by
      rcases nil_or_snoc wy with h | ⟨m, q, h⟩
      · rw [h] at hl1; cases hl1
      · rw [h, List.getLast?_concat] at hl
        cases hl
        exact ⟨m, h⟩
    have h' : pd (x :: l ++ [x]) u v = true := h
    rw [← hl1, hm, List.append_assoc, show m ++ ([z] ++ [x]) = m ++ z :: [x] by rfl, pd_app m z [x], Bool.or_eq_true, ← hm] at h'
    rcases h' with h' | h'
    · exact ((K.rest u v).mp ((hR u v).mp (W.st u v h'))).1
    · rcases (pd_two z x [] u v).mp h' with ⟨rfl, rfl⟩ | h'
      · exact K.g.symm hBxy
      · cases h'
  have hBo : ∀ u v, onE wy u v = true → B u v = true := fun u v h => by
    simp only [onE, Bool.or_eq_true] at h
    rcases h with h | h
    · exact hBw u v h
    · exact K.g.symm (hBw v u h)
  have hwlt : ∀ c ∈ wy, c < n := fun c hc => by
    obtain ⟨v, hv⟩ := (vx_on W.nd h3).mpr hc
    exact K.g.bnd1 (hBo c v hv)
  have D := Wb.DInv.first W.nd h3 hwlt
  refine ⟨by have := D.nodup; simp at this; exact this, K.g, K.tc, K.con, D, hBo, fun u v => ?_, fun c => ?_, ?_, fun α fc P => ?_⟩
  · rw [adj_along (fun t ht => (K.lt t ht).1), mem_steps_ring, mem_steps_ring, ← K.iff]
    simp only [onE]
    constructor
    · rintro ⟨h1, h2⟩
      refine ⟨h1, ?_⟩
      cases e1 : dart wy u v <;> cases e2 : dart wy v u <;> simp [e1, e2] at h2 ⊢
    · rintro ⟨h1, h2⟩
      refine ⟨h1, ?_⟩
      cases e1 : dart wy u v <;> cases e2 : dart wy v u <;> simp [e1, e2] at h2 ⊢
  · rw [hSt]
    exact (vx_on W.nd h3).symm
  · obtain ⟨v, hv⟩ := (vx_on W.nd h3).mpr (show x ∈ wy by rw [hl1]; simp)
    exact ⟨x, v, hv⟩
  · obtain ⟨φ, Sg⟩ := Stage.first K.g K.tc K.con P W.nd h3 hwlt hBo
    exact ⟨fc, φ, Sg⟩
/-- what a drawn block answers -/
structure RingsOk (n : Nat) (B : E2) (rs : List (List Nat)) : Prop where
  nd : ∀ r ∈ rs, r.Nodup ∧ 2 ≤ r.length ∧ ∀ x ∈ r, x < n
  nodup : rs.Nodup
  uniq : ∀ r s u v, r ∈ rs → s ∈ rs → dart r u v = true → dart s u v = true → r = s
  iff : ∀ u v, B u v = true ↔ ∃ r, r ∈ rs ∧ dart r u v = true
def HasFive (B : E2) : Prop := ∃ v a b c d, [v, a, b, c, d].Nodup ∧ ∀ u w, u ≠ w → u ∈ [v, a, b, c, d] → w ∈ [v, a, b, c, d] → B u w = true
def Planar (n : Nat) (B : E2) : Prop := ∃ (α : Type) (fc : Nat → Nat → α), Plane n B fc
theorem BL.done {n : Nat} {B Hd : E2} {rs : List (List Nat)} {St : List Nat} (L : BL n B rs Hd [] St) : RingsOk n B rs ∧ ¬ HasFive B := by
  have e : ∀ u v, B u v = Hd u v := fun u v => by
    cases h : B u v with
    | true =>
      cases g : Hd u v with
      | true => rfl
      | false =>
        have := (L.left u v).mpr ⟨h, g⟩
        rcases this with h | h <;> cases h
    | false =>
      cases g : Hd u v with
      | false => rfl
      | true => rw [L.sub u v g] at h; cases h
  have e : B = Hd := funext fun u => funext fun v => e u v
  refine ⟨⟨fun r hr => ?_, L.D.nodup, L.D.uniq, fun u v => by rw [e]; exact L.D.iff u v⟩, ?_⟩
  · obtain ⟨h1, h2, h3⟩ := L.D.nd r hr
    exact ⟨h1, by omega, h3⟩
  · rintro ⟨v, a, b, c, d, h1, h2⟩
    have P := L.D.plane
    rw [← e] at P
    exact no_five L.g P h1 h2
theorem Blk.single {n : Nat} {B : E2} {x y : Nat} (K : Blk n B [(x, y)]) : RingsOk n B [[x, y]] ∧ ¬ HasFive B := by
  have hxy : x < y ∧ y < n := K.lt (x, y) (by simp)
  have hB : ∀ u v, B u v = true ↔ (u = x ∧ v = y) ∨ (u = y ∧ v = x) := fun u v => by
    rw [K.iff]; unfold adj; simp
    constructor
    · rintro (⟨h1, h2⟩ | ⟨h1, h2⟩)
      · exact .inl ⟨h1, h2⟩
      · exact .inr ⟨h2, h1⟩
    · rintro (⟨h1, h2⟩ | ⟨h1, h2⟩)
      · exact .inl ⟨h1, h2⟩
      · exact .inr ⟨h2, h1⟩
  have hd : ∀ u v, dart [x, y] u v = true ↔ (u = x ∧ v = y) ∨ (u = y ∧ v = x) := fun u v => by
    show pd [x, y, x] u v = true ↔ _
    rw [pd_two, pd_two]; simp [pd]
  refine ⟨⟨fun r hr => ?_, by simp, fun r s u v hr hs _ _ => ?_, fun u v => ?_⟩, ?_⟩
  · simp at hr; subst hr
    exact ⟨by simp; omega, by simp, fun z hz => by simp at hz; omega⟩
  · simp at hr hs; rw [hr, hs]
  · rw [hB]; simp [hd]
  · rintro ⟨v, a, b, c, d, h1, h2⟩
    simp at h1
    have k1 := (hB v a).mp (h2 v a (by omega) (by simp) (by simp))
    have k2 := (hB v b).mp (h2 v b (by omega) (by simp) (by simp))
    omega
end Wp
set_option maxHeartbeats 4000000
namespace Wp
open PySem PySem.Spec PyProof.Rows L2
open C8 (Cal pe_c pe_gc)
open Wb (pd TC Gr Conn Plane Stage DInv Sub Sym dart onE E2)
/-! choices -/
def ChV (H : Hp) (v : V) (e : Nat × Nat × List Nat × List Nat) : Prop := ∃ p s w, v = .ref p ∧ H p = some (.tup [iv e.1, iv e.2.1, .ref s, .ref w]) ∧ H s = some (.lst (ivs e.2.2.1)) ∧ H w = some (.lst (ivs e.2.2.2))
theorem ChV.keep {H H' : Hp} {v : V} {e : Nat × Nat × List Nat × List Nat} (h : ChV H v e) (g : Same H H') : ChV H' v e := by
  obtain ⟨p, s, w, h1, h2, h3, h4⟩ := h
  exact ⟨p, s, w, h1, g _ _ h2, g _ _ h3, g _ _ h4⟩
def cD (e : Nat × Nat × List Nat × List Nat) : PyData := .tuple [.int (e.1 : Int), .int (e.2.1 : Int), .list (e.2.2.1.map fun (k : Nat) => .int (k : Int)), .list (e.2.2.2.map fun (k : Nat) => .int (k : Int))]
theorem chv_dp {K : PySem.W.Frag} {H : Hp} {v : V} {e : Nat × Nat × List Nat × List Nat} (h : ChV H v e) : Dp K H v (cD e) := by
  obtain ⟨p, s, w, rfl, h2, h3, h4⟩ := h
  exact .tup (tq h2) (.cons (.int _) (.cons (.int _) (.cons (.lst (lq h3) (ivs_dp _)) (.cons (.lst (lq h4) (ivs_dp _)) .nil))))
theorem chvs_dp {K : PySem.W.Frag} {H : Hp} : ∀ {vs : List V} {es : List (Nat × Nat × List Nat × List Nat)}, Paired (ChV H) vs es → DpAll K H vs (es.map cD)
  | _, _, .nil => .nil
  | _, _, .cons r h => .cons (chv_dp r) (chvs_dp h)
theorem cD_alike (e f : Nat × Nat × List Nat × List Nat) : PySem.W.alike (cD e) (cD f) = true := by
  have h1 := alike_nats e.2.2.1 f.2.2.1
  have h2 := alike_nats e.2.2.2 f.2.2.2
  show (true && (true && (PySem.W.alike (.tuple (e.2.2.1.map fun (k : Nat) => .int (k : Int))) (.tuple (f.2.2.1.map fun (k : Nat) => .int (k : Int))) && (PySem.W.alike (.tuple (e.2.2.2.map fun (k : Nat) => .int (k : Int))) (.tuple (f.2.2.2.map fun (k : Nat) => .int (k : Int))) && true)))) = true
  rw [h1, h2]; rfl
theorem cD_lt {e f : Nat × Nat × List Nat × List Nat} (h : PySem.W.dataLt (cD f) (cD e) = false) : e.1 ≤ f.1 := by
  refine Classical.byContradiction fun hn => ?_
  have hne : (Sum.inl (f.1 : Int) : Int ⊕ List Nat) ≠ Sum.inl (e.1 : Int) := fun z => hn (by have := Sum.inl.inj z; omega)
  have h' : lexLt itemOrd (.inl 1 :: .inl (f.1 : Int) :: PySem.W.keyToksAll [.int (f.2.1 : Int), .list (f.2.2.1.map fun (k : Nat) => .int (k : Int)), .list (f.2.2.2.map fun (k : Nat) => .int (k : Int))])
      (.inl 1 :: .inl (e.1 : Int) :: PySem.W.keyToksAll [.int (e.2.1 : Int), .list (e.2.2.1.map fun (k : Nat) => .int (k : Int)), .list (e.2.2.2.map fun (k : Nat) => .int (k : Int))]) = false := h
  rw [lex_self (O := itemOrd), lex_diff (O := itemOrd) hne] at h'
  have h2 : decide ((f.1 : Int) < (e.1 : Int)) = false := h'
  have := of_decide_eq_false h2
  omega
theorem cD_depth : ∀ es : List (Nat × Nat × List Nat × List Nat), PyData.depthAll (es.map cD) ≤ 60
  | [] => Nat.zero_le _
  | e :: es => by
    have ih := cD_depth es
    have h1 : PyData.depthAll ((e :: es).map cD) = max (cD e).depth (PyData.depthAll (es.map cD)) := rfl
    have z : ∀ p : List Nat, PyData.depthAll (p.map fun (k : Nat) => .int (k : Int)) = 0 := fun p => by
      induction p with
      | nil => rfl
      | cons x p ih =>
        show max 0 (PyData.depthAll (p.map fun (k : Nat) => .int (k : Int))) = 0
        rw [ih]; rfl
    have h2 : (cD e).depth = max 0 (max 0 (max (PyData.depthAll (e.2.2.1.map fun (k : Nat) => .int (k : Int)) + 1) (max (PyData.depthAll (e.2.2.2.map fun (k : Nat) => .int (k : Int)) + 1) 0))) + 1 := rfl
    rw [h1, h2, z, z]
    omega
theorem ivs_inj {l m : List Nat} (h : ivs l = ivs m) : l = m := by
  induction l generalizing m with
  | nil => cases m with
    | nil => rfl
    | cons y m => cases h
  | cons x l ih =>
    cases m with
    | nil => cases h
    | cons y m =>
      have h1 := List.cons.inj h
      have e : x = y := by
        have := V.int.inj h1.1
        omega
      rw [e, ih h1.2]
theorem PieceV.uniq {H : Hp} {v : V} {T wy T' wy' : List Nat} (h : PieceV H v T wy) (g : PieceV H v T' wy') : T = T' ∧ wy = wy' := by
  obtain ⟨p, a, b, rfl, h1, h2, h3⟩ := h
  obtain ⟨p', a', b', e, g1, g2, g3⟩ := g
  cases e
  rw [h1] at g1
  cases g1
  rw [h2] at g2
  rw [h3] at g3
  have e1 := ivs_inj (HO.lst.inj (Option.some.inj g2))
  have e2 := ivs_inj (HO.lst.inj (Option.some.inj g3))
  exact ⟨e1, e2⟩
def Ch (rs : List (List Nat)) (T : List Nat) (e : Nat × Nat × List Nat × List Nat) : Prop := e.1 = e.2.2.1.length ∧ e.2.2.1.Nodup ∧ ∀ k, k ∈ e.2.2.1 ↔ ∃ r, rs[k]? = some r ∧ ∀ x ∈ T, x ∈ r
theorem along_lt {ps lf : List (Nat × Nat)} {t : Nat × Nat} (h : t ∈ lf) (g : t ∈ ps.map Wp.mm) : (along ps lf).length < lf.length := by
  unfold along
  induction lf with
  | nil => cases h
  | cons u lf ih =>
    have hle := List.length_filter_le (fun t => !decide (t ∈ ps.map Wp.mm)) lf
    by_cases e : u ∈ ps.map Wp.mm
    · rw [List.filter_cons_of_neg (by simpa using e), List.length_cons]
      omega
    · rw [List.filter_cons_of_pos (by simpa using e), List.length_cons, List.length_cons]
      rcases List.mem_cons.mp h with h | h
      · rw [h] at g; exact absurd g e
      · have := ih h
        omega
theorem along_snoc {ps lf : List (Nat × Nat)} {j : Nat} {t : Nat × Nat} (ht : lf[j]? = some t) : along ps (lf.take (j + 1)) = along ps (lf.take j) ++ (if t ∈ ps.map Wp.mm then [] else [t]) := by
  unfold along
  rw [List.take_add_one, ht, List.filter_append]
  by_cases hm : t ∈ ps.map Wp.mm
  · rw [if_pos hm]
    congr 1
    show List.filter _ [t] = []
    rw [List.filter_cons_of_neg (by simpa using hm)]; rfl
  · rw [if_neg hm]
    congr 1
    show List.filter _ [t] = [t]
    rw [List.filter_cons_of_pos (by simpa using hm)]; rfl
theorem ChV.keepL {H : Hp} {v : V} {e : Nat × Nat × List Nat × List Nat} {dc : Addr} {cv : List V} {o : HO} (h : ChV H v e) (hv : v ∈ cv) (hd : H dc = some (.lst cv)) : ChV (upd H dc o) v e := by
  obtain ⟨p, s, w, rfl, h2, h3, h4⟩ := h
  have key : ∀ {l : List Nat} {z : Addr}, H z = some (.lst (ivs l)) → z ≠ dc := fun {l z} hz ez => by
    rw [ez, hd] at hz
    have : cv = ivs l := HO.lst.inj (Option.some.inj hz)
    rw [this] at hv
    obtain ⟨k, _, e⟩ := List.mem_map.mp hv
    cases e
  refine ⟨p, s, w, rfl, ?_, ?_, ?_⟩
  · rw [upd_ne (fun z => by rw [z, hd] at h2; cases h2)]; exact h2
  · rw [upd_ne (key h3)]; exact h3
  · rw [upd_ne (key h4)]; exact h4
theorem paired_mem_mono {α β : Type} {R S : α → β → Prop} : ∀ {xs : List α} {ys : List β}, (∀ a b, a ∈ xs → R a b → S a b) → Paired R xs ys → Paired S xs ys
  | _, _, _, .nil => .nil
  | _, _, f, .cons r h => .cons (f _ _ (by simp) r) (paired_mem_mono (fun a b ha => f a b (.tail _ ha)) h)
theorem ent_len {n : Nat} {B Hd : E2} {rs : List (List Nat)} {lf : List (Nat × Nat)} {St : List Nat} (L : BL n B rs Hd lf St) {R : Nat → List Nat} {S T wy : List Nat} (he : Ent R lf St S T wy) (hn : n ≤ 20) : T.length ≤ 20 := by
  rcases he with ⟨_, a, b, _, _, _, rfl, _⟩ | ⟨⟨c, hc, _, hp⟩, hT, _⟩
  · simp
  · have := length_of hT (n := n) fun x hx => by
      obtain ⟨y, hy⟩ := (L.st x).mp ((hp.tou x).mp hx).1
      exact L.g.bnd1 (L.sub x y hy)
    omega
section
variable {P : Program} {w : World} {K : PySem.W.Frag} {mg : Str → Option Value} {base : Heap}
def spBlockRings : Sp := fun vs H Q _ => ∃ (t : Addr) (xs : List V) (ts : List (Nat × Nat)) (n : Nat) (B : E2), vs = [.ref t] ∧ H t = some (.tup xs) ∧ Paired (TieV H) xs ts ∧ ts.length ≤ 60 ∧ ts ≠ [] ∧ n ≤ 20 ∧ Blk n B ts ∧
  (∀ H', Same H H' → ¬ Planar n B → Q .non H') ∧ ∀ H' l rs, Same H H' → RL H' l rs → rs.length ≤ 200 → RingsOk n B rs → ¬ HasFive B → Q (.ref l) H'
theorem k_block_rings (A : At K mg "block_rings" s_block_rings) (B : Bt mg) (C_tie_of : Cal P w K mg base 1 "tie_of" spTieOf []) (C_ring_steps : Cal P w K mg base 1 "ring_steps" spRingSteps []) (C_first_ring : Cal P w K mg base 3 "first_ring" spFirstRing [])
    (C_pieces_left : Cal P w K mg base 4 "pieces_left" spPiecesLeft []) (C_rings_for : Cal P w K mg base 1 "rings_for" spRingsFor []) (C_put_in : Cal P w K mg base 2 "put_in" spPutIn []) : Cal P w K mg base 5 "block_rings" spBlockRings [] := by
  refine mk A sc_block_rings (fun _ _ _ _ _ _ us hl => match us, hl with | [_], _ => rfl) (fun vs H Q E h => ?_) (fun f cdv A outer s H vs Q E hr h => ?_)
  · obtain ⟨t, xs, ts, n, B, rfl, _⟩ := h
    rfl
  · obtain ⟨t, xs, ts, n, Bk, rfl, ht, hxs, htl, hts0, hn, KB, q1, q2⟩ := h
    refine ⟨_, (pss_cons (ps_if (pt_cmpR op_eq (pe_callB call_len_seq (by rfl) B.len (by decide +kernel) (pa_cons (pv 0) pa_nil)) pe_int (nomark _))
      (pss_one (ps_ret (pe_lst (pa_cons (pe_callTy call_list_of (by rfl) B.list (by decide +kernel) (pa_cons (pe_ix ix_tup (pv 0) pe_int (fun _ _ => rfl)) pa_nil)) pa_nil))))
      pss_nil)
    (pss_cons (ps_set (i := 1) sc_block_rings.nd rfl (.inl rfl) (pe_c C_first_ring hr (by decide) (by rfl) (pa_cons (pv 0) pa_nil)))
    (pss_cons (ps_par (i := 2) (j := 3) rfl sc_block_rings.nd rfl rfl (by decide) rfl rfl (pa_cons (pe_lst (pa_cons (pv 1) (pa_cons (pe_revL (pv 1)) pa_nil))) (pa_cons pe_dnewK pa_nil)) rfl)
    (pss_cons (ps_for PassesOwn.never rfl (pi_list (pv 1)) (pg_name (i := 4) sc_block_rings.nd rfl (.inl rfl))
      (pss_one (ps_dput (hu_of hr) (pv 3) (pv 4) pe_bl rfl)))
    (pss_cons (ps_set (i := 5) sc_block_rings.nd rfl (.inr rfl) (pe_lc (own := [("one", 13), ("other", 14)]) (g := (gTup K 2 (gCons (gName 13) (gCons (gName 14) gNil)))) rfl sc_block_rings.nd (pi_list (pe_c C_ring_steps hr (by decide) (by rfl) (pa_cons (pv 1) pa_nil))) (blkOk_by (N := ["ties", "ring", "rings", "stands", "corner", "gone", "left", "choices", "number", "touched", "way", "some", "many", "one", "other", "tie"]) (sc := defScope s_block_rings) (by decide +kernel)) (fun _ _ _ _ _ => (pg_tup rfl (pgs_cons (pg_name (i := 13) sc_block_rings.nd rfl (.inl rfl) (.inr rfl)) (pgs_cons (pg_name (i := 14) sc_block_rings.nd rfl (.inl rfl) (.inr rfl)) pgs_nil)))) (fun _ _ _ _ _ => pts_nil) (fun _ _ _ _ _ => (pe_c C_tie_of hr (by decide) (by rfl) (pa_cons (pv 13) (pa_cons (pv 14) pa_nil))))))
    (pss_cons (ps_setLc (i := 6) (own := [("tie", 15)]) rfl sc_block_rings.nd rfl rfl (sw_true rfl rfl rfl (by decide +kernel)) (pi_tup (pv 0)) (blkOk_by (N := ["ties", "ring", "rings", "stands", "corner", "gone", "left", "choices", "number", "touched", "way", "some", "many", "one", "other", "tie"]) (sc := defScope s_block_rings) (by decide +kernel)) (fun _ _ _ _ _ => (pg_name (i := 15) sc_block_rings.nd rfl (.inl rfl) (.inr rfl))) (fun _ _ _ _ _ => (pts_one (pt_cmpR (r := rNotInD K) (op_notInD (u65 hr)) (pv 15) (pv 5) (by with_unfolding_all rfl)))) (fun _ _ _ _ _ => (pv 15)))
    (pss_cons (ps_while PassesOwn.never (pt_cmpR (op_neD hr.units) (pv 6) (pe_lst pa_nil) (nomark _))
      (pss_cons (ps_set (i := 7) sc_block_rings.nd rfl (.inl rfl) (pe_lst pa_nil))
      (pss_cons (ps_for PassesOwn.never rfl (pi_enum (by rfl) B.enumerate (pa_cons (pe_c C_pieces_left hr (by decide) (by rfl) (pa_cons (pv 6) (pa_cons (pv 3) pa_nil))) pa_nil)) (pg_tup rfl (pgs_cons (pg_name (i := 8) sc_block_rings.nd rfl (.inl rfl)) (pgs_cons (pg_tup rfl (pgs_cons (pg_name (i := 9) sc_block_rings.nd rfl (.inl rfl)) (pgs_cons (pg_name (i := 10) sc_block_rings.nd rfl (.inl rfl)) pgs_nil))) pgs_nil)))
        (pss_cons (ps_set (i := 11) sc_block_rings.nd rfl (.inl rfl) (pe_c C_rings_for hr (by decide) (by rfl) (pa_cons (pv 2) (pa_cons (pv 9) pa_nil))))
        (pss_one (ps_expr (pe_bm PySem.F.plainAttrs_list PySem.F.slot_list_append PySem.F.type_list_append mt_append (pv 7) (pa_cons (pe_tup (pa_cons (pe_callB call_len_seq (by rfl) B.len (by decide +kernel) (pa_cons (pv 11) pa_nil)) (pa_cons (pv 8) (pa_cons (pv 11) (pa_cons (pv 10) pa_nil))))) pa_nil))))))
      (pss_cons (ps_asg (pe_callB (call_minDD rfl (u65 hr)) (by rfl) B.min (by decide +kernel) (pa_cons (pv 7) pa_nil)) (pg_tup rfl (pgs_cons (pg_name (i := 12) sc_block_rings.nd rfl (.inl rfl)) (pgs_cons (pg_name (i := 8) sc_block_rings.nd rfl (.inl rfl)) (pgs_cons (pg_name (i := 11) sc_block_rings.nd rfl (.inl rfl)) (pgs_cons (pg_name (i := 10) sc_block_rings.nd rfl (.inl rfl)) pgs_nil))))))
      (pss_cons (ps_if (pt_cmpR op_eq (pv 12) pe_int (nomark _))
        (pss_one (ps_ret pe_non))
        pss_nil)
      (pss_one (ps_asg (pe_c C_put_in hr (by decide) (by rfl) (pa_cons (pv 2) (pa_cons (pv 6) (pa_cons (pv 3) (pa_cons (pe_ix ix_list (pv 11) pe_int (fun _ _ => rfl)) (pa_cons (pv 10) pa_nil)))))) (pg_tup rfl (pgs_cons (pg_name (i := 2) sc_block_rings.nd rfl (.inl rfl)) (pgs_cons (pg_name (i := 6) sc_block_rings.nd rfl (.inl rfl)) pgs_nil))))))))))
    (pss_one (ps_ret (pv 2)))))))))), ?_⟩
    have hxl := paired_len hxs
    refine ⟨.ref t, rfl, t, _, rfl, .inr (tq ht), rfl, decide (ts.length = 1), ?_, ?_⟩
    · exact congrArg V.bl (by rw [Bool.eq_iff_iff]; simp [hxl]; omega)
    by_cases h1 : ts.length = 1
    · rw [decide_eq_true h1]
      refine iteT ?_
      obtain ⟨⟨x, y⟩, rfl⟩ : ∃ u, ts = [u] := List.length_eq_one_iff.mp h1
      obtain ⟨v0, rfl, ⟨p0, rfl, hp0⟩⟩ : ∃ v0, xs = [v0] ∧ TieV H v0 (x, y) := by
        cases hxs with
        | cons r h => cases h; exact ⟨_, rfl, r⟩
      obtain ⟨g1, g2⟩ := KB.single
      refine ⟨.ref t, rfl, t, _, 0, .ref p0, rfl, rfl, tq ht, atI_nat (j := 0) rfl, p0, _, rfl, .inr (tq hp0), fun l1 hl1 => ?_⟩
      refine ⟨by show 1 ≤ sizeLine; decide, fun l2 hl2 => ?_⟩
      have s1 := same_upd (o := .lst [iv x, iv y]) hl1
      have s2 := same_upd (o := .lst [.ref l1]) hl2
      exact q2 _ l2 [[x, y]] (Same.trans s1 s2) ⟨_, upd_same, .cons ⟨l1, rfl, s2 _ _ upd_same⟩ .nil⟩ (by simp) g1 g2
    · rw [decide_eq_false h1]
      refine iteF ?_
      obtain ⟨⟨x, y⟩, tr, rfl⟩ : ∃ u tr, ts = u :: tr := by
        cases ts with
        | nil => exact absurd rfl hts0
        | cons u tr => exact ⟨u, tr, rfl⟩
      have htr : tr ≠ [] := fun e => by rw [e] at h1; simp at h1
      refine ⟨.ref t, rfl, t, xs, x, y, n, tr, rfl, ht, hxs, by simp at htl; omega, hn, KB.lt, fun R S hR hS => KB.shut htr hR hS, fun H1 ra wy R s1 hra hR W => ?_⟩
      obtain ⟨hwr, L0⟩ := KB.first hR W (St := wy) (fun z => Iff.rfl)
      obtain ⟨hwn, hw2, hwlt⟩ : wy.Nodup ∧ 3 ≤ wy.length ∧ ∀ x ∈ wy, x < n := L0.D.nd wy (by simp)
      have hwl := length_of hwn hwlt
      refine ⟨.ref ra, rfl, .ref ra, rfl, ra, _, rfl, lq hra, fun rb hrb => ?_⟩
      rw [show (ivs wy).reverse = ivs wy.reverse by simp [ivs]]
      have s2 := same_upd (o := .lst (ivs wy.reverse)) hrb
      have hrb2 : upd H1 rb (.lst (ivs wy.reverse)) rb = some (.lst (ivs wy.reverse)) := upd_same
      generalize upd H1 rb (.lst (ivs wy.reverse)) = H2 at s2 hrb2 ⊢
      refine ⟨by show 2 ≤ sizeLine; decide, fun rl hrl => ?_⟩
      have s3 := same_upd (o := .lst [.ref ra, .ref rb]) hrl
      have hrl3 : upd H2 rl (.lst [.ref ra, .ref rb]) rl = some (.lst [.ref ra, .ref rb]) := upd_same
      generalize upd H2 rl (.lst [.ref ra, .ref rb]) = H3 at s3 hrl3 ⊢
      intro sd hsd
      have hRL : RL H3 rl [wy, wy.reverse] := ⟨_, hrl3, .cons ⟨ra, rfl, s3 _ _ (s2 _ _ hra)⟩ (.cons ⟨rb, rfl, s3 _ _ hrb2⟩ .nil)⟩
      have s13 : Same H H3 := Same.trans s1 (Same.trans s2 s3)
      have s4 := same_upd (o := .dK []) hsd
      have hsd4 : upd H3 sd (.dK []) sd = some (.dK []) := upd_same
      generalize upd H3 sd (.dK []) = H4 at s4 hsd4 ⊢
      have hsdH3 := hsd
      have hra4 := s4 _ _ (s3 _ _ (s2 _ _ hra))
      refine ⟨_, _, rfl, .ref ra, rfl, ra, rfl, ⟨_, lq hra4⟩, ?_⟩
      refine for_it (walk_list (K := K) (a := ra) (xs := ivs wy)) (fun j σ H' => (∃ b, σ = [some (.ref t), some (.ref ra), some (.ref rl), some (.ref sd), b, none, none, none, none, none, none, none, none, none, none, none]) ∧ Same H3 H' ∧ ∃ k1 St1, H' sd = some (.dK k1) ∧ DS nK k1 St1 (.bl true) ∧ ∀ x, x ∈ St1 ↔ x ∈ wy.take j)
        ⟨⟨none, rfl⟩, s4, [], [], hsd4, DD.nil0, fun x => by simp⟩ (fun j σ H' _ h => lq (h.2.1 _ _ (s3 _ _ (s2 _ _ hra)))) (fun j x σ H' H'' hj h hx => ?_) (fun σ H5 h => ?_)
      · obtain ⟨⟨b, rfl⟩, sx, k1, St1, hsd1, hD1, hS1⟩ := h
        obtain ⟨rfl, hx⟩ := hx
        obtain ⟨y, hy, rfl⟩ := ivs_get hx
        have hSn := length_of hD1.nd (n := n) fun x hx => hwlt x (List.mem_of_mem_take ((hS1 x).mp hx))
        refine ⟨.ref sd, rfl, iv y, rfl, sd, _, rfl, DPut.k (k := nK y) hsd1 (by rw [hD1.len]; exact small1000 (by omega)), ?_⟩
        refine ⟨⟨_, rfl⟩, fun b o e => by rw [upd_ne (ne_of_none e hsdH3)]; exact sx b o e, _, _, upd_same, hD1.putS (fun a b => nK_inj) y, fun x => ?_⟩
        rw [mem_ins, hS1, List.take_add_one, hy]
        simp only [Option.toList, List.mem_append, List.mem_singleton]
        exact or_comm
      · obtain ⟨⟨b, rfl⟩, s5, k1, St1, hsd5, hD1, hS1⟩ := h
        rw [show wy.take (ivs wy).length = wy by simp [ivs]] at hS1
        have hra5 := s5 _ _ (s3 _ _ (s2 _ _ hra))
        refine ⟨.ref ra, rfl, ra, wy, rfl, hra5, by omega, fun H6 sa sv s6 hsa hsv => ?_⟩
        have hsl : sv.length = wy.length := by rw [paired_len hsv, steps_len]
        generalize hps : steps wy = ps at hsv L0
        refine ⟨sa, rfl, ⟨_, lq hsa⟩, fun D hD => ?_⟩
        refine lc0 (walk_list (K := K) (a := sa) (xs := sv)) (fun j H' => Same H6 H' ∧ ∃ gv, H' D = some (.lst gv) ∧ Paired (TieV H') gv ((ps.take j).map Wp.mm)) ⟨same_upd hD, [], upd_same, by simp; exact .nil⟩ (fun j H' _ h => lq (h.1 _ _ hsa)) (fun j x H' H'' hj h hx => ?_) (fun H7 h => ?_)
        · obtain ⟨s7, gv, hg, hgp⟩ := h
          obtain ⟨rfl, hx⟩ := hx
          obtain ⟨u, hu, r⟩ := paired_get hsv hx
          obtain ⟨pp, rfl, hpp⟩ := r.keep (Same.tups s7)
          refine ⟨pp, _, rfl, tq hpp, rfl, iv u.1, _, rfl, iv u.2, [], rfl, rfl, rfl, iv u.1, rfl, iv u.2, rfl, u.1, u.2, rfl, fun z hz => ?_⟩
          have s8 := same_upd (o := .tup [.int (min u.1 u.2 : Nat), .int (max u.1 u.2 : Nat)]) hz
          have hz8 : TieV (upd H'' z (.tup [.int (min u.1 u.2 : Nat), .int (max u.1 u.2 : Nat)])) (.ref z) (Wp.mm u) := ⟨z, rfl, upd_same⟩
          generalize upd H'' z (.tup [.int (min u.1 u.2 : Nat), .int (max u.1 u.2 : Nat)]) = H8 at s8 hz8 ⊢
          have hgl := paired_len hgp
          rw [List.length_map, List.length_take] at hgl
          refine ⟨gv, s8 _ _ hg, small1000 (by omega), same_list hD (Same.trans s7 s8), gv ++ [.ref z], upd_same, ?_⟩
          rw [List.take_add_one, hu, List.map_append]
          exact paired_snoc (paired_mono (fun _ _ r => (r.keep (Same.tups s8)).keepL (s8 _ _ hg)) hgp) (hz8.keepL (s8 _ _ hg))
        · obtain ⟨s7, gv, hg, hgp⟩ := h
          rw [show ps.take sv.length = ps by rw [paired_len hsv, List.take_length]] at hgp
          have s37 : Same H3 H7 := Same.trans s5 (Same.trans s6 s7)
          have s07 : Same H H7 := Same.trans s13 s37
          refine ⟨.ref t, rfl, t, rfl, ⟨_, tq (s07 _ _ ht)⟩, fun D2 hD2 => ?_⟩
          generalize htse : (x, y) :: tr = ts at *
          refine lc_it (walk_tup (K := K) (a := t) (xs := xs)) (fun j H' => Same H7 H' ∧ ∃ rv, H' D2 = some (.lst rv) ∧ Paired (TieV H') rv (along ps (ts.take j))) ⟨same_upd hD2, [], upd_same, by simp [along]; exact .nil⟩ (fun j H' _ h => tq (h.1 _ _ (s07 _ _ ht))) (fun j x H' H'' hj h hx => ?_) (fun H8 h => ?_)
          · obtain ⟨s8, rv, hrv, hrp⟩ := h
            obtain ⟨rfl, hx⟩ := hx
            obtain ⟨u, hu, r⟩ := paired_get hxs hx
            have hj' := (List.getElem?_eq_some_iff.mp hu).1
            have r8 : TieV H'' x u := r.keep (Same.tups (Same.trans s07 s8))
            have hrl2 : rv.length ≤ 60 := by
              have h1 := paired_len hrp
              have h2 : (along ps (ts.take j)).length ≤ (ts.take j).length := List.length_filter_le _ _
              rw [List.length_take] at h2
              omega
            refine ⟨rfl, x, rfl, .ref D, rfl, ?_⟩
            refine notIn_tiesL r8 (s8 _ _ hg) (paired_mono (fun _ _ r => r.keep (Same.tups s8)) hgp) ?_
            have estep : along ps (ts.take (j + 1)) = along ps (ts.take j) ++ (if u ∈ ps.map Wp.mm then [] else [u]) := along_snoc hu
            by_cases hm : u ∈ ps.map Wp.mm
            · rw [decide_eq_true hm]
              refine ⟨false, rfl, iteF ?_⟩
              refine ⟨s8, rv, hrv, ?_⟩
              rw [estep, if_pos hm, List.append_nil]; exact hrp
            · rw [decide_eq_false hm]
              refine ⟨true, rfl, iteT ?_⟩
              refine ⟨x, rfl, rv, hrv, small1000 (by omega), same_list hD2 s8, rv ++ [x], upd_same, ?_⟩
              rw [estep, if_neg hm]
              exact paired_snoc (paired_mono (fun _ _ r => r.keepL hrv) hrp) (r8.keepL hrv)
          · obtain ⟨s8, rv, hrv, hrp⟩ := h
            rw [show ts.take xs.length = ts by rw [paired_len hxs, List.take_length]] at hrp
            have s38 := Same.trans s37 s8
            have L1 : BL n Bk [wy, wy.reverse] (onE wy) (along ps ts) St1 := { L0 with st := fun x => (hS1 x).trans (L0.st x) }
            have hal : (along ps ts).length ≤ ts.length := List.length_filter_le _ _
            refine ⟨fun m σ H' => ∃ rl la rs lv lf kst St Hd c4 c7 c8 c9 c10 c11 c12 c13 c14 c15, σ = [some (.ref t), some (.ref ra), some (.ref rl), some (.ref sd), c4, some (.ref D), some (.ref la), c7, c8, c9, c10, c11, c12, c13, c14, c15] ∧ m = lf.length ∧ Same H3 H' ∧ RL H' rl rs ∧
                H' la = some (.lst lv) ∧ Paired (TieV H') lv lf ∧ H' sd = some (.dK kst) ∧ DS nK kst St (.bl true) ∧ BL n Bk rs Hd lf St ∧ (∀ t ∈ lf, t ∈ ts) ∧ rs.length + lf.length ≤ 62 ∧ lf.length ≤ 60,
              ⟨_, rl, D2, [wy, wy.reverse], rv, along ps ts, k1, St1, onE wy, _, _, _, _, _, _, _, _, _, _, rfl, rfl, s38, hRL.keep s38, hrv, hrp, s8 _ _ (s7 _ _ (s6 _ _ hsd5)), hD1, L1, fun u hu => (List.mem_filter.mp hu).1, by show 2 + _ ≤ 62; omega, by omega⟩, fun m σ H' h => ?_⟩
            obtain ⟨rl', la, rs, lv, lf, kst, St, Hd, c4, c7, c8, c9, c10, c11, c12, c13, c14, c15, rfl, rfl, s9, hRL9, hla9, hlv9, hsd9, hSt9, L, hlfts, hcnt, hl60⟩ := h
            refine ⟨.ref la, rfl, by show 0 ≤ sizeLine; omega, fun p hp => ?_⟩
            have s10 := same_upd (o := .lst []) hp
            have hps10 : upd H' p (.lst []) p = some (.lst []) := upd_same
            generalize upd H' p (.lst []) = H10 at s10 hps10 ⊢
            have s9' : Same H3 H10 := Same.trans s9 s10
            have hRL10 := hRL9.keep s10
            have hla10 := s10 _ _ hla9
            have hlv10 : Paired (TieV H10) lv lf := paired_mono (fun _ _ r => r.keep (Same.tups s10)) hlv9
            have hsd10 := s10 _ _ hsd9
            refine ne_nil_ties hla10 hlv10 hps10 ?_
            by_cases hlf : lf = []
            · rw [decide_eq_false (by simp [hlf])]
              refine ⟨false, rfl, iteF ?_⟩
              rw [hlf] at L
              obtain ⟨g1, g2⟩ := L.done
              exact ⟨.ref rl', rfl, q2 _ rl' rs (Same.trans s13 s9') hRL10 (by omega) g1 g2⟩
            · rw [decide_eq_true hlf]
              refine ⟨true, rfl, iteT ⟨_, fun _ _ h => h, ?_⟩⟩
              refine ⟨by show 0 ≤ sizeLine; omega, fun dc hdc => ?_⟩
              have s11 := same_upd (o := .lst []) hdc
              have hdc11 : upd H10 dc (.lst []) dc = some (.lst []) := upd_same
              generalize upd H10 dc (.lst []) = H11 at s11 hdc11 ⊢
              have hlt : ∀ t ∈ lf, t.1 < t.2 ∧ t.2 < n := fun t ht => KB.lt t (hlfts t ht)
              refine ⟨.ref la, rfl, .ref sd, rfl, la, sd, n, lv, lf, kst, St, rfl, s11 _ _ hla10, paired_mono (fun _ _ r => r.keep (Same.tups s11)) hlv10, by omega, hlt, hn, s11 _ _ hsd10, hSt9, fun R c S T hR hp hc hy hT => L.two hR hp hc hy hT, ?_⟩
              intro H12 lp pv R2 s12 hlp hpl hR2 hpv hcov1 hcov2
              have hdc12 := s12 _ _ hdc11
              refine ⟨lp, pv, rfl, lq hlp, ?_⟩
              have s10c : Same H10 H12 := Same.trans s11 s12
              refine for_it (walk_enum (K := K) (a := lp) (xs := pv)) (fun i σ H' => (∃ c4 c8 c9 c10 c11 c12 c13 c14 c15, σ = [some (.ref t), some (.ref ra), some (.ref rl'), some (.ref sd), c4, some (.ref D), some (.ref la), some (.ref dc), c8, c9, c10, c11, c12, c13, c14, c15]) ∧ Same H10 H' ∧ SameX dc H12 H' ∧ H' lp = some (.lst pv) ∧ (∀ v ∈ pv, ∃ S T wy, PieceV H' v T wy ∧ Ent R2 lf St S T wy) ∧
                  ∃ cv es, H' dc = some (.lst cv) ∧ Paired (ChV H') cv es ∧ cv.length ≤ i ∧ (∀ e ∈ es, ∃ S T, Ent R2 lf St S T e.2.2.2 ∧ Ch rs T e) ∧ ∀ v ∈ pv.take i, ∀ T wy, PieceV H' v T wy → ∃ e ∈ es, Ch rs T e)
                ⟨⟨_, _, _, _, _, _, _, _, _, rfl⟩, s10c, fun _ _ _ e => e, hlp, hpv, [], [], hdc12, .nil, Nat.le_refl 0, by simp, by simp⟩ (fun i σ H' _ h => lq h.2.2.2.1) (fun i x σ H' H'' hi h hx => ?_) (fun σ H13 h => ?_)
              · obtain ⟨⟨c4, c8, c9, c10, c11, c12, c13, c14, c15, rfl⟩, s13', sX, hlp', hpv', cv, es, hdc', hce, hcl, hes, hcov⟩ := h
                obtain ⟨pp, x1, v, rfl, hpp, rfl, e1, e2⟩ := hx
                cases e1
                have e2 : pv[i]? = some v := e2
                have hvm : v ∈ pv := List.mem_of_getElem? e2
                have hil := (List.getElem?_eq_some_iff.mp e2).1
                obtain ⟨S, T, wy2, hPV, hEnt⟩ := hpv' v hvm
                obtain ⟨pc, pa, pb, rfl, hpc, hpa, hpb⟩ := id hPV
                have s14 := same_upd (o := .tup [.int (i : Nat), .ref pc]) hpp
                have hpt : upd H' pp (.tup [.int (i : Nat), .ref pc]) pp = some (.tup [.int (i : Nat), .ref pc]) := upd_same
                generalize upd H' pp (.tup [.int (i : Nat), .ref pc]) = H14 at s14 hpt ⊢
                have hTlen : T.length ≤ 20 := ent_len L hEnt hn
                refine ⟨pp, _, rfl, tq hpt, rfl, iv i, _, rfl, .ref pc, [], rfl, pc, _, rfl, tq (s14 _ _ hpc), rfl, .ref pa, _, rfl, .ref pb, [], rfl, rfl, rfl, ?_⟩
                have s1014 := Same.trans s13' s14
                refine ⟨.ref rl', rfl, .ref pa, rfl, rl', pa, rs, T, rfl, hRL10.keep s1014, s14 _ _ hpa, by omega, by omega, fun H15 c ix s15 hc0 hc hixn hixl hixm => ?_⟩
                refine ⟨.ref dc, rfl, .inl ⟨rfl, _, lq (s15 _ _ (s14 _ _ hdc'))⟩, .ref c, rfl, c, _, rfl, .inl (lq hc), iv i, rfl, .ref c, rfl, .ref pb, rfl, by show 4 ≤ sizeLine; decide, fun pt hpt' => ?_⟩
                have s16 := same_upd (o := .tup [.int ((ivs ix).length : Nat), iv i, .ref c, .ref pb]) hpt'
                have hpt16 : upd H15 pt (.tup [.int ((ivs ix).length : Nat), iv i, .ref c, .ref pb]) pt = some (.tup [.int ((ivs ix).length : Nat), iv i, .ref c, .ref pb]) := upd_same
                generalize upd H15 pt (.tup [.int ((ivs ix).length : Nat), iv i, .ref c, .ref pb]) = H16 at s16 hpt16 ⊢
                have sF : Same H' H16 := Same.trans s14 (Same.trans s15 s16)
                refine ⟨dc, cv, .ref pt, rfl, rfl, sF _ _ hdc', small1000 (by omega), ?_⟩
                have hdcF := sF _ _ hdc'
                have hrefs : ∀ v ∈ cv, ∃ p, v = .ref p := fun v hv => by
                  obtain ⟨e, _, he⟩ := paired_mem hce hv
                  obtain ⟨p, _, _, h, _⟩ := he
                  exact ⟨p, h⟩
                have hcdc : c ≠ dc := fun z => by rw [z, s14 _ _ hdc'] at hc0; cases hc0
                have hptd : pt ≠ dc := fun z => by rw [z, hdcF] at hpt16; cases hpt16
                have kp : ∀ {v T wy}, PieceV H' v T wy → T ≠ [] → wy ≠ [] → ∀ o, PieceV (upd H16 dc o) v T wy := fun h h1 h2 o => (h.keep sF).keepL h1 h2 hdcF hrefs
                have kc : ∀ {v e}, v ∈ cv → ChV H' v e → ∀ o, ChV (upd H16 dc o) v e := fun {v e} hv h o => (h.keep sF).keepL hv hdcF
                have hpbF : pb ≠ dc := fun z => by
                  have h1 := hdc'
                  rw [← z, hpb] at h1
                  have h2 : ivs wy2 = cv := HO.lst.inj (Option.some.inj h1)
                  obtain ⟨w0, hw0⟩ := List.exists_mem_of_ne_nil _ hEnt.ne.2
                  obtain ⟨p, hp⟩ := hrefs (iv w0) (by rw [← h2]; exact List.mem_map.mpr ⟨w0, hw0, rfl⟩)
                  cases hp
                have hnew : ChV (upd H16 dc (.lst (cv ++ [.ref pt]))) (.ref pt) (ix.length, i, ix, wy2) := by
                  refine ⟨pt, c, pb, rfl, ?_, ?_, ?_⟩
                  · rw [upd_ne hptd, hpt16]; simp [ivs]
                  · rw [upd_ne hcdc]; exact s16 _ _ hc
                  · rw [upd_ne hpbF]; exact sF _ _ hpb
                have hChn : Ch rs T (ix.length, i, ix, wy2) := ⟨rfl, hixn, hixm⟩
                have etake : ∀ z, z ∈ pv.take (i + 1) ↔ z ∈ pv.take i ∨ z = .ref pc := fun z => by
                  rw [List.take_add_one, e2]; simp
                have hdc10 : H10 dc = none := hdc
                have hlpd : lp ≠ dc := fun z => by
                  rw [z, hdc12] at hlp
                  have h2 : [] = pv := HO.lst.inj (Option.some.inj hlp)
                  rw [← h2] at hvm
                  cases hvm
                refine ⟨⟨_, _, _, _, _, _, _, _, _, rfl⟩, same_list hdc10 (Same.trans s13' sF), (SameX.trans sX (Same.x sF)).put, by rw [upd_ne hlpd]; exact sF _ _ hlp', fun v hv => ?_, cv ++ [.ref pt], es ++ [(ix.length, i, ix, wy2)], upd_same, ?_, by rw [List.length_append]; simp; omega, fun e he => ?_, fun v hv T2 wy3 h => ?_⟩
                · obtain ⟨S', T', wy', g1, g2⟩ := hpv' v hv
                  exact ⟨S', T', wy', kp g1 g2.ne.1 g2.ne.2 _, g2⟩
                · exact paired_snoc (paired_mem_mono (fun v e hv r => kc hv r _) hce) hnew
                · rcases List.mem_append.mp he with h | h
                  · exact hes e h
                  · simp at h; rw [h]; exact ⟨S, T, hEnt, hChn⟩
                · rcases (etake v).mp hv with hv | hv
                  · obtain ⟨S', T', wy', g1, g2⟩ := hpv' v (List.mem_of_mem_take hv)
                    obtain ⟨eT, ew⟩ := h.uniq (kp g1 g2.ne.1 g2.ne.2 _)
                    obtain ⟨e, he, hch⟩ := hcov v hv T' wy' g1
                    exact ⟨e, List.mem_append_left _ he, by rw [eT]; exact hch⟩
                  · rw [hv] at h
                    obtain ⟨eT, ew⟩ := h.uniq (kp hPV hEnt.ne.1 hEnt.ne.2 _)
                    exact ⟨(ix.length, i, ix, wy2), by simp, by rw [eT]; exact hChn⟩
              · obtain ⟨⟨c4, c8, c9, c10, c11, c12, c13, c14, c15, rfl⟩, s13', sX, hlp', hpv', cv, es, hdc', hce, hcl, hes, hcov⟩ := h
                rw [List.take_length] at hcov
                have sH : Same H H13 := Same.trans s13 (Same.trans s9' s13')
                have hpvF : ∀ {v T wy}, PieceV H12 v T wy → v ∈ pv → ∀ {T' wy'}, PieceV H13 v T' wy' → True := fun _ _ _ _ _ => trivial
                -- every left tie has a choice
                have hcover : ∀ u v, Bk u v = true → Hd u v = false → ∃ S' T' wy', Ent R2 lf St S' T' wy' ∧ ((S' = [] ∧ ((T' = [u, v] ∧ u ∈ St ∧ v ∈ St) ∨ (T' = [v, u] ∧ u ∈ St ∧ v ∈ St))) ∨ u ∈ S' ∨ v ∈ S') ∧ ∃ e ∈ es, Ch rs T' e := fun u v g1 g2 => by
                  have hadj := (L.left u v).mpr ⟨g1, g2⟩
                  have hold : ∀ {v T wy}, PieceV H12 v T wy → T ≠ [] → wy ≠ [] → v ∈ pv → ∃ e ∈ es, Ch rs T e := fun {v T wy} h hT hw hv => by
                    refine hcov v hv T wy ?_
                    obtain ⟨p, a, b, e, g1, g2, g3⟩ := h
                    have key : ∀ {l : List Nat} {z : Addr}, l ≠ [] → H12 z = some (.lst (ivs l)) → z ≠ dc := fun {l z} hl hz ez => by
                      rw [ez, hdc12] at hz
                      cases l with
                      | nil => exact hl rfl
                      | cons x l => cases hz
                    exact ⟨p, a, b, e, sX _ _ (fun z => by rw [z, hdc12] at g1; cases g1) g1, sX _ _ (key hT g2) g2, sX _ _ (key hw g3) g3⟩
                  by_cases hu : u ∈ St
                  · by_cases hv : v ∈ St
                    · rcases hadj with h | h
                      · obtain ⟨z, hz, hp⟩ := hcov1 u v h hu hv
                        exact ⟨[], _, _, .inl ⟨rfl, u, v, h, hu, hv, rfl, rfl⟩, .inl ⟨rfl, .inl ⟨rfl, hu, hv⟩⟩, hold hp (by simp) (by simp) hz⟩
                      · obtain ⟨z, hz, hp⟩ := hcov1 v u h hv hu
                        exact ⟨[], _, _, .inl ⟨rfl, v, u, h, hv, hu, rfl, rfl⟩, .inl ⟨rfl, .inr ⟨rfl, hu, hv⟩⟩, hold hp (by simp) (by simp) hz⟩
                    · obtain ⟨z, hz, S', T', wy', hp, he, hin⟩ := hcov2 v u hadj.symm hv
                      exact ⟨S', T', wy', he, .inr (.inr hin), hold hp he.ne.1 he.ne.2 hz⟩
                  · obtain ⟨z, hz, S', T', wy', hp, he, hin⟩ := hcov2 u v hadj hu
                    exact ⟨S', T', wy', he, .inr (.inl hin), hold hp he.ne.1 he.ne.2 hz⟩
                have hes0 : es ≠ [] := by
                  obtain ⟨⟨a, b⟩, hab⟩ := List.exists_mem_of_ne_nil _ hlf
                  obtain ⟨g1, g2⟩ := (L.left a b).mp (.inl hab)
                  obtain ⟨_, _, _, _, _, e, he, _⟩ := hcover a b g1 g2
                  exact fun h => by rw [h] at he; cases he
                have hcel := paired_len hce
                refine ⟨.ref dc, rfl, dc, cv, es.map cD, rfl, lq hdc', chvs_dp hce, ⟨fun d hd d' hd' => ?_, fun d hd => ?_⟩, cD_depth es, fun h => ?_, fun k x d hx hd hmin => ?_⟩
                · obtain ⟨e, _, rfl⟩ := List.mem_map.mp hd
                  obtain ⟨e', _, rfl⟩ := List.mem_map.mp hd'
                  exact cD_alike e e'
                · obtain ⟨e, _, rfl⟩ := List.mem_map.mp hd
                  exact fun z => by cases z
                · rw [h] at hcel
                  exact hes0 (List.eq_nil_of_length_eq_zero hcel.symm)
                obtain ⟨e, hek, hch⟩ := paired_get hce hx
                have hem : e ∈ es := List.mem_of_getElem? hek
                have hd' : d = cD e := by
                  rw [List.getElem?_map, hek] at hd
                  exact (Option.some.inj hd).symm
                have hmin' : ∀ e' ∈ es, e.1 ≤ e'.1 := fun e' he' => cD_lt (by rw [← hd']; exact hmin _ (List.mem_map.mpr ⟨e', he', rfl⟩))
                obtain ⟨S, T, hEnt, hCh⟩ := hes e hem
                obtain ⟨p, sP, wP, rfl, hp1, hp2, hp3⟩ := hch
                obtain ⟨m0, num, ix, wy2⟩ := e
                refine ⟨p, _, rfl, tq hp1, rfl, iv m0, _, rfl, iv num, _, rfl, .ref sP, _, rfl, .ref wP, [], rfl, rfl, ?_⟩
                have hm0 : m0 = ix.length := hCh.1
                refine ⟨iv m0, rfl, rfl, decide (m0 = 0), ?_, ?_⟩
                · exact congrArg V.bl (by rw [Bool.eq_iff_iff]; simp)
                by_cases h0 : m0 = 0
                · rw [decide_eq_true h0]
                  refine iteT ?_
                  refine q1 _ sH ?_
                  rintro ⟨α, fc, Pl⟩
                  refine L.none hR2 hEnt (fun r hr hT => ?_) Pl
                  obtain ⟨j, hj⟩ := List.getElem?_of_mem hr
                  have : j ∈ ix := (hCh.2.2 j).mpr ⟨r, hj, hT⟩
                  rw [hm0] at h0
                  rw [List.eq_nil_of_length_eq_zero h0] at this
                  cases this
                · rw [decide_eq_false h0]
                  refine iteF ?_
                  obtain ⟨k0, ixr, rfl⟩ : ∃ k0 ixr, ix = k0 :: ixr := by
                    cases ix with
                    | nil => exact absurd hm0 h0
                    | cons a b => exact ⟨a, b, rfl⟩
                  obtain ⟨F, hF, hTF⟩ := (hCh.2.2 k0).mp (by simp)
                  have hEnt : Ent R2 lf St S T wy2 := hEnt
                  have hp3 : H13 wP = some (.lst (ivs wy2)) := hp3
                  obtain ⟨I, w0, wm, hwy, hw0, hwm, hne01, hwnd, hwI, hwadj, hTS⟩ := hEnt.way hR2 (fun t ht => (hlt t ht).1)
                  have hFm : F ∈ rs := List.mem_of_getElem? hF
                  obtain ⟨hFn, hF3, hFlt⟩ := L.D.nd F hFm
                  have hFl := length_of hFn hFlt
                  have hwlt2 : ∀ x ∈ wy2, x < n := fun x hx => by
                    obtain ⟨z, hz⟩ := spE_mem (by rw [hwy]; simp) hx
                    simp only [Wb.spE, Bool.or_eq_true] at hz
                    rcases hz with hz | hz
                    · exact L.g.bnd1 ((L.left _ _).mp (hwadj _ _ hz)).1
                    · exact L.g.bnd2 ((L.left _ _).mp (hwadj _ _ hz)).1
                  have hwl2 := length_of hwnd hwlt2
                  have hIl : I.length ≤ 20 := by
                    rw [hwy] at hwl2
                    simp at hwl2; omega
                  have hStn : ∀ x ∈ St, x < n := fun x hx => by
                    obtain ⟨z, hz⟩ := (L.st x).mp hx
                    exact L.g.bnd1 (L.sub x z hz)
                  refine ⟨.ref rl', rfl, .ref la, rfl, .ref sd, rfl, .ref sP, rfl, sP, _, 0, iv k0, rfl, rfl, lq hp2, atI_nat (j := 0) rfl, .ref wP, rfl, ?_⟩
                  refine ⟨rl', la, sd, wP, k0, n, rs, lv, lf, kst, St, F, I, w0, wm, rfl, hRL10.keep s13', s13' _ _ hla10, paired_mono (fun _ _ r => r.keep (Same.tups s13')) hlv10, s13' _ _ hsd10, hSt9, ?_, hF, by omega, hl60, hn, hStn, by rw [← hwy]; exact hwlt2, by omega, by omega, hTF _ hw0, hTF _ hwm, hne01, ?_⟩
                  · rw [← hwy]; exact hp3
                  intro H14 pr ra2 la2 lv2 kst2 St2 La M P' Q' sx hpr hFLM hML hRL14 hla14 hlv14 hsd14 hD14 hSt14
                  refine ⟨pr, _, rfl, tq hpr, rfl, .ref ra2, _, rfl, .ref la2, [], rfl, rfl, ?_⟩
                  rw [← hwy] at hlv14 hSt14
                  have hsplit : rs = rs.take k0 ++ F :: rs.drop (k0 + 1) := by
                    have hk := (List.getElem?_eq_some_iff.mp hF)
                    rw [← hk.2, ← List.drop_eq_getElem_cons hk.1, List.take_append_drop]
                  have hBL : ∃ Hd', BL n Bk (rs.take k0 ++ rs.drop (k0 + 1) ++ [w0 :: (I ++ wm :: Q'), w0 :: (P' ++ wm :: I.reverse)]) Hd' (along ((steps wy2).drop 1) lf) St2 := by
                    refine BL.step (F := F) (by rw [← hsplit]; exact L) (fun t ht => (hlt t ht).1) hR2 hEnt hwy hTF hFLM hML hSt14 ?_
                    rw [← hsplit]
                    by_cases hm1 : m0 = 1
                    · left
                      intro r hr hT
                      obtain ⟨j, hj⟩ := List.getElem?_of_mem hr
                      have hjx : j ∈ k0 :: ixr := (hCh.2.2 j).mpr ⟨r, hj, hT⟩
                      rw [hm0] at hm1
                      have : ixr = [] := by simp at hm1; exact hm1
                      rw [this] at hjx
                      simp at hjx
                      rw [hjx, hF] at hj
                      exact (Option.some.inj hj).symm
                    · right
                      intro u v g1 g2
                      obtain ⟨S', T', wy', he', hin, e', hem', hch'⟩ := hcover u v g1 g2
                      refine ⟨S', T', wy', he', hin, ?_⟩
                      have hle := hmin' e' hem'
                      obtain ⟨j1, j2, l', hix⟩ : ∃ j1 j2 l', e'.2.2.1 = j1 :: j2 :: l' := by
                        have h2 : 2 ≤ e'.2.2.1.length := by rw [← hch'.1]; have hle : m0 ≤ e'.1 := hle; omega
                        match e'.2.2.1, h2 with
                        | j1 :: j2 :: l', _ => exact ⟨j1, j2, l', rfl⟩
                      have hj12 : j1 ≠ j2 := by
                        have := hch'.2.1
                        rw [hix] at this
                        have := (List.nodup_cons.mp this).1
                        exact fun z => this (by rw [z]; simp)
                      obtain ⟨G1, hG1, k1⟩ := (hch'.2.2 j1).mp (by rw [hix]; simp)
                      obtain ⟨G2, hG2, k2⟩ := (hch'.2.2 j2).mp (by rw [hix]; simp)
                      refine ⟨G1, List.mem_of_getElem? hG1, G2, List.mem_of_getElem? hG2, fun z => hj12 ?_, k1, k2⟩
                      obtain ⟨b1, c1⟩ := List.getElem?_eq_some_iff.mp hG1
                      obtain ⟨b2, c2⟩ := List.getElem?_eq_some_iff.mp hG2
                      exact nodup_idx L.D.nodup b1 b2 (by rw [c1, c2, z])
                  obtain ⟨Hd', L'⟩ := hBL
                  obtain ⟨w1, hw1⟩ : ∃ w1, pd wy2 w0 w1 = true := by
                    rw [hwy]
                    cases I with
                    | nil => exact ⟨wm, (Wb.pd_two w0 wm [] _ _).mpr (.inl ⟨rfl, rfl⟩)⟩
                    | cons x I => exact ⟨x, (Wb.pd_two w0 x _ _ _).mpr (.inl ⟨rfl, rfl⟩)⟩
                  have hless : (along ((steps wy2).drop 1) lf).length < lf.length := by
                    have hin := mem_steps_way.mpr hw1
                    rcases hwadj _ _ hw1 with h | h
                    · refine along_lt h (List.mem_map.mpr ⟨_, hin, ?_⟩)
                      have hl : w0 < w1 := (hlt _ h).1
                      exact Prod.ext (Nat.min_eq_left (by omega)) (Nat.max_eq_right (by omega))
                    · refine along_lt h (List.mem_map.mpr ⟨_, hin, ?_⟩)
                      have hl : w1 < w0 := (hlt _ h).1
                      exact Prod.ext (Nat.min_eq_right (by omega)) (Nat.max_eq_left (by omega))
                  have hlen2 : (rs.take k0 ++ rs.drop (k0 + 1) ++ [w0 :: (I ++ wm :: Q'), w0 :: (P' ++ wm :: I.reverse)]).length = rs.length + 1 := by
                    have := (List.getElem?_eq_some_iff.mp hF).1
                    simp; omega
                  have s314 : Same H3 H14 := fun b o e => sx b o (ne_of_none e hsdH3) (Same.trans s9' s13' b o e)
                  exact ⟨_, hless, ra2, la2, _, lv2, _, kst2, St2, Hd', _, _, _, _, _, _, _, _, _, _, rfl, rfl, s314, hRL14, hla14, hlv14, hsd14, hD14, L', fun t ht => hlfts t (List.mem_filter.mp ht).1, by rw [hlen2]; omega, by omega⟩
end
end Wp
set_option maxHeartbeats 4000000
namespace Wp
open PySem PySem.Spec PyProof.Rows L2
open C8 (Cal pe_c pe_gc)
open Wb (Gr Conn Av E2 Sym Sub)
/-! numbers of parts without a corner -/
def Ad (R : Nat → List Nat) : E2 := fun u v => decide (v ∈ R u)
theorem Ad_iff {R : Nat → List Nat} {u v : Nat} : Ad R u v = true ↔ v ∈ R u := by simp [Ad]
/-- found as far as it goes: c none, the others by lab -/
abbrev LabD (kvs : List (Key × V)) (c : Nat) (ks : List Nat) (lab : Nat → Nat) : Prop := DD nK kvs ks fun a => if a ∈ ks then some (if a = c then V.non else iv (lab a)) else none
theorem LabD.put {kvs : List (Key × V)} {c : Nat} {ks : List Nat} {lab : Nat → Nat} (D : LabD kvs c ks lab) (hc : c ∈ ks) {x b : Nat} (hx : x ∉ ks) : LabD (putK kvs (nK x) (iv b)) c (ks ++ [x]) (fun a => if a = x then b else lab a) := by
  have E := DD.put (fun a b => nK_inj) D x (iv b)
  rw [if_neg hx] at E
  have hxc : x ≠ c := fun e => hx (e ▸ hc)
  refine ⟨E.keys, E.nd, fun a => ?_, fun a => ?_⟩
  · rw [E.val]
    show _ = if a ∈ ks ++ [x] then some (if a = c then V.non else iv (if a = x then b else lab a)) else none
    by_cases e : a = x
    · rw [if_pos e, if_pos (by simp [e]), if_neg (e ▸ hxc), if_pos e]
    · rw [if_neg e, if_neg e]
      by_cases hm : a ∈ ks
      · rw [if_pos hm, if_pos (List.mem_append_left _ hm)]
      · rw [if_neg hm, if_neg (by simp [hm, e])]
  · by_cases hb : a ∈ ks ++ [x]
    · simp only [hb, if_true, Option.isSome_some]
    · simp only [hb, if_false, Option.isSome_none]; simp
/-- where part_numbers stands at begin, wt still waiting -/
structure PN (n c b : Nat) (R : Nat → List Nat) (ks : List Nat) (lab : Nat → Nat) (wt : List Nat) : Prop where
  cin : c ∈ ks
  lt : ∀ x ∈ ks, x < n
  wlt : ∀ x ∈ wt, x < n ∧ x ∉ ks
  wnd : wt.Nodup
  con : ∀ x ∈ ks, x ≠ c → Conn (Av (Ad R) c) (lab x) x
  wcon : ∀ x ∈ wt, Conn (Av (Ad R) c) b x
  same : ∀ x ∈ ks, x ≠ c → ∀ y ∈ R x, y ≠ c → y ∈ ks → lab x = lab y
  old : ∀ x ∈ ks, x ≠ c → lab x ≠ b → ∀ y ∈ R x, y ≠ c → y ∈ ks
  new : ∀ x ∈ ks, x ≠ c → lab x = b → ∀ y ∈ R x, y ≠ c → y ∈ ks ∨ y ∈ wt
theorem PN.step {n c b h : Nat} {R : Nat → List Nat} {ks : List Nat} {lab : Nat → Nat} {wt : List Nat} (F : PN n c b R ks lab (wt ++ [h])) (hR : ∀ a, ∀ y ∈ R a, y < n) (hsym : ∀ a d, d ∈ R a → a ∈ R d) (hnd : ∀ a, (R a).Nodup) :
    PN n c b R (ks ++ [h]) (fun a => if a = h then b else lab a) (wt ++ (R h).filter fun y => !decide (y ∈ ks ++ [h]) && !decide (y ∈ wt)) := by
  have hh := F.wlt h (by simp)
  have hhc : h ≠ c := fun e => hh.2 (e ▸ F.cin)
  have hwn := F.wnd
  rw [List.nodup_append] at hwn
  have hhw : h ∉ wt := fun m => hwn.2.2 h m h (by simp) rfl
  have mem : ∀ {x}, x ∈ ks ++ [h] → x ∈ ks ∨ x = h := fun {x} hx => by simpa using hx
  have lab' : ∀ x ∈ ks, (if x = h then b else lab x) = lab x := fun x hx => if_neg fun (e : x = h) => hh.2 (e ▸ hx)
  have fmem : ∀ y, y ∈ (R h).filter (fun y => !decide (y ∈ ks ++ [h]) && !decide (y ∈ wt)) ↔ y ∈ R h ∧ y ∉ ks ++ [h] ∧ y ∉ wt := fun y => by
    rw [List.mem_filter]; simp only [Bool.and_eq_true, Bool.not_eq_true', decide_eq_false_iff_not]
  refine ⟨List.mem_append_left _ F.cin, fun x hx => ?_, fun x hx => ?_, ?_, fun x hx hxc => ?_, fun x hx => ?_, fun x hx hxc y hy hyc hyk => ?_, fun x hx hxc hl y hy hyc => ?_, fun x hx hxc hl y hy hyc => ?_⟩
  · rcases mem hx with h1 | h1
    · exact F.lt x h1
    · rw [h1]; exact hh.1
  · rcases List.mem_append.mp hx with h1 | h1
    · refine ⟨(F.wlt x (by simp [h1])).1, fun h2 => ?_⟩
      rcases mem h2 with h3 | h3
      · exact (F.wlt x (by simp [h1])).2 h3
      · exact hhw (h3 ▸ h1)
    · obtain ⟨g1, g2, g3⟩ := (fmem x).mp h1
      exact ⟨hR h x g1, g2⟩
  · rw [List.nodup_append]
    refine ⟨hwn.1, (hnd h).filter _, fun x hx y hy e => ?_⟩
    exact ((fmem y).mp hy).2.2 (e ▸ hx)
  · rcases mem hx with h1 | h1
    · rw [lab' x h1]; exact F.con x h1 hxc
    · rw [h1, if_pos rfl]; exact F.wcon h (by simp)
  · rcases List.mem_append.mp hx with h1 | h1
    · exact F.wcon x (by simp [h1])
    · obtain ⟨g1, g2, g3⟩ := (fmem x).mp h1
      have hxc : x ≠ c := fun e => g2 (by rw [e]; exact List.mem_append_left _ F.cin)
      exact (F.wcon h (by simp)).step (Wb.Av_iff.mpr ⟨Ad_iff.mpr g1, hhc, hxc⟩)
  · -- labels agree
    have hk : ∀ z ∈ ks, z ≠ c → h ∈ R z → lab z = b := fun z hz hzc hzh => Classical.byContradiction fun hn => hh.2 (F.old z hz hzc hn h hzh hhc)
    rcases mem hx with h1 | h1
    · rcases mem hyk with h2 | h2
      · rw [lab' x h1, lab' y h2]; exact F.same x h1 hxc y hy hyc h2
      · rw [lab' x h1, h2, if_pos rfl]
        exact hk x h1 hxc (h2 ▸ hy)
    · rcases mem hyk with h2 | h2
      · rw [lab' y h2, h1, if_pos rfl]
        exact (hk y h2 hyc (hsym h y (h1 ▸ hy))).symm
      · rw [h1, h2]
  · rcases mem hx with h1 | h1
    · rw [lab' x h1] at hl
      exact List.mem_append_left _ (F.old x h1 hxc hl y hy hyc)
    · rw [h1, if_pos rfl] at hl
      exact absurd rfl hl
  · rcases mem hx with h1 | h1
    · rw [lab' x h1] at hl
      rcases F.new x h1 hxc hl y hy hyc with g | g
      · exact .inl (List.mem_append_left _ g)
      · rcases List.mem_append.mp g with g | g
        · exact .inr (List.mem_append_left _ g)
        · exact .inl (List.mem_append_right _ g)
    · rw [h1] at hy
      by_cases g : y ∈ ks ++ [h]
      · exact .inl g
      · right
        by_cases g2 : y ∈ wt
        · exact List.mem_append_left _ g2
        · exact List.mem_append_right _ ((fmem y).mpr ⟨hy, g, g2⟩)
theorem wait_read {H : Hp} {σ : L2.St} {d : Addr} {b c : Nat} {x' : V} {kvs : List (Key × V)} {ks : List Nat} {lab : Nat → Nat} (h3 : σ[3]? = some (some (iv b))) (h2 : σ[2]? = some (some (.ref d))) (hd : H d = some (.dK kvs)) (D : LabD kvs c ks lab) {Q : VK}
    (q : ∀ dw wt H3, Same H H3 → H dw = none → H3 dw = some (.lst (ivs wt)) → (b ∈ ks ∧ wt = [] ∨ b ∉ ks ∧ wt = [b]) → Q (.ref dw) H3) : tIf (tB (tDIn (tVar 3) (tVar 2))) (tLst tNil) (tLst (tCons (tVar 3) tNil)) σ H Q := by
  refine ⟨iv b, h3, .ref d, h2, d, _, rfl, DGet.k (k := nK b) hd, ?_⟩
  rw [D.val, isSome_if]
  by_cases hm : b ∈ ks
  · rw [decide_eq_true hm]
    refine ⟨true, rfl, iteT ?_⟩
    refine ⟨by show 0 ≤ sizeLine; omega, fun dw hdw => ?_⟩
    exact q dw [] _ (same_upd hdw) hdw upd_same (.inl ⟨hm, rfl⟩)
  · rw [decide_eq_false hm]
    refine ⟨false, rfl, iteF ?_⟩
    refine ⟨iv b, h3, by show 1 ≤ sizeLine; decide, fun dw hdw => ?_⟩
    exact q dw [b] _ (same_upd hdw) hdw upd_same (.inr ⟨hm, rfl⟩)
section
variable {P : Program} {w : World} {K : PySem.W.Frag} {mg : Str → Option Value} {base : Heap}
def spPartNumbers : Sp := fun vs H Q _ => ∃ (a : Addr) (n c : Nat) (R : Nat → List Nat), vs = [.ref a, iv c] ∧ RowsV H a n R ∧ n ≤ 20 ∧ c < n ∧ (∀ i, (R i).length ≤ 60 ∧ (R i).Nodup) ∧ (∀ a, ∀ y ∈ R a, y < n) ∧ (∀ a d, d ∈ R a → a ∈ R d) ∧
  ∀ H' d kvs ks lab, Same H H' → H' d = some (.dK kvs) → LabD kvs c ks lab → (∀ x, x < n → x ∈ ks) → (∀ x y, x < n → y < n → x ≠ c → y ≠ c → (lab x = lab y ↔ Conn (Av (Ad R) c) x y)) → Q (.ref d) H'
theorem k_part_numbers (A : At K mg "part_numbers" s_part_numbers) (B : Bt mg) : Cal P w K mg base 1 "part_numbers" spPartNumbers [] := by
  refine mk A sc_part_numbers (fun _ _ _ _ _ _ us hl => match us, hl with | [_, _], _ => rfl) (fun vs H Q E h => ?_) (fun f cdv A outer s H vs Q E hr h => ?_)
  · obtain ⟨a, n, c, R, rfl, _⟩ := h
    rfl
  · obtain ⟨a, n, c, R, rfl, hRv, hn, hc, hR1, hRn, hsym, q⟩ := h
    refine ⟨_, (pss_cons (ps_set (i := 2) sc_part_numbers.nd rfl (.inr rfl) (pe_disp (pps_cons (pv 1) pe_non pps_nil) (by rfl) (by rfl) (fun z => by cases z) (by decide)))
    (pss_cons (ps_for PassesOwn.never rfl (pi_range1 (by rfl) B.range (pa_cons (pe_callB call_len_seq (by rfl) B.len (by decide +kernel) (pa_cons (pv 0) pa_nil)) pa_nil)) (pg_name (i := 3) sc_part_numbers.nd rfl (.inl rfl))
      (pss_cons (ps_set (i := 4) sc_part_numbers.nd rfl (.inr rfl) (pe_ifExp (pt_cmp (pc_din (hu_of hr) (pv 3) (pv 2))) (pe_lst pa_nil) (pe_lst (pa_cons (pv 3) pa_nil))))
      (pss_one (ps_while PassesOwn.never (pt_cmpR (op_neD hr.units) (pv 4) (pe_lst pa_nil) (nomark _))
        (pss_cons (ps_set (i := 5) sc_part_numbers.nd rfl (.inl rfl) (pe_bm0 PySem.F.plainAttrs_list PySem.F.slot_list_pop PySem.F.type_list_pop mt_pop (pv 4)))
        (pss_cons (ps_dput (hu_of hr) (pv 2) (pv 5) (pv 3) rfl)
        (pss_one (ps_expr (pe_bm PySem.F.plainAttrs_list PySem.F.slot_list_extend PySem.F.type_list_extend mt_extend (pv 4) (pa_cons (pe_lc (own := [("late", 6)]) rfl sc_part_numbers.nd (pi_list (pe_ix ix_list (pv 0) (pv 5) (fun _ _ => rfl))) (blkOk_by (N := ["near", "corner", "found", "begin", "waiting", "here", "late"]) (sc := defScope s_part_numbers) (by decide +kernel)) (fun _ _ _ _ _ => (pg_name (i := 6) sc_part_numbers.nd rfl (.inl rfl) (.inr rfl))) (fun _ _ _ _ _ => (pts_one (PW.pt (pw_and (pt_cmp (pc_dnotin (hu_of hr) (pv 6) (pv 2))) (pw_and1 (pt_cmpR (r := rIn K true) op_notIn_seq (pv 6) (pv 4) (by with_unfolding_all rfl))))))) (fun _ _ _ _ _ => (pv 6))) pa_nil))))))))))
    (pss_one (ps_ret (pv 2))))), ?_⟩
    intro d hd
    refine ⟨iv c, rfl, upd_same, [(nK c, .non)], rfl, by simp, ?_⟩
    have s1 : Same H (upd (upd H d (.dK [])) d (.dK (mergeK [] [(nK c, .non)]))) := fun b x e => by
      rw [upd_ne (ne_of_none e hd), upd_ne (ne_of_none e hd)]; exact e
    have hd1 : upd (upd H d (.dK [])) d (.dK (mergeK [] [(nK c, .non)])) d = some (.dK (mergeK [] [(nK c, .non)])) := upd_same
    generalize upd (upd H d (.dK [])) d (.dK (mergeK [] [(nK c, .non)])) = H1 at s1 hd1 ⊢
    have D0 : LabD (mergeK [] [(nK c, .non)]) c [c] (fun _ => 0) := by
      refine ⟨rfl, by simp, fun a => ?_, fun a => ?_⟩
      · show valV (putK [] (nK c) .non) (nK a) = _
        rw [valV_put]
        by_cases h : a = c
        · rw [h, if_pos rfl, if_pos (by simp), if_pos rfl]
        · rw [if_neg (fun z => h (nK_inj z)), if_neg (by simp [h])]; rfl
      · by_cases h : a ∈ [c]
        · simp only [h, if_true, Option.isSome_some]
        · simp only [h, if_false, Option.isSome_none]; simp
    obtain ⟨xs, hxs, hxl, hrow⟩ := hRv.get
    refine ⟨.ref a, rfl, a, _, rfl, .inl (lq (s1 _ _ hxs)), (xs.length : Nat), rfl, by omega, by omega, ?_⟩
    refine for_it walk_range (fun b σ H' => (∃ x y z, σ = [some (.ref a), some (iv c), some (.ref d), x, y, z, none]) ∧ Same H H' ∧ ∃ kvs ks lab, H' d = some (.dK kvs) ∧ LabD kvs c ks lab ∧ PN n c b R ks lab [] ∧ (∀ x ∈ ks, x ≠ c → lab x < b) ∧ ∀ x, x < b → x ∈ ks)
      ⟨⟨none, none, none, rfl⟩, s1, _, _, _, hd1, D0, ⟨by simp, by simp; exact hc, by simp, List.nodup_nil, by simp, by simp, by simp, by simp, by simp⟩, by simp, by simp⟩ (fun b σ H' _ h => trivial) (fun b x σ H' H'' hi h hx => ?_) (fun σ H' h => ?_)
    · obtain ⟨⟨x', y', z', rfl⟩, s2, kvs, ks, lab, hd2, D2, F, hlab, hb⟩ := h
      obtain ⟨rfl, hx⟩ := hx
      obtain rfl : x = iv b := hx.trans (by show V.int (0 + (b : Int)) = iv b; rw [Int.zero_add])
      have hbn : b < n := by omega
      -- what waits first
      refine wait_read (d := d) (x' := iv b) rfl rfl hd2 D2 fun dw wt H3 s3' hdw0' hdw3 hwt => ?_
      have s3 : Same H H3 := Same.trans s2 s3'
      have hdw0 := none_of_same s2 hdw0'
      have hd3 := s3' _ _ hd2
      have F3 : PN n c b R ks lab wt := by
        rcases hwt with ⟨hm, rfl⟩ | ⟨hm, rfl⟩
        · exact F
        · refine { F with wlt := fun x hx => ?_, wnd := by simp, wcon := fun x hx => ?_, old := F.old, new := fun x hx hxc hl y hy hyc => ?_ }
          · simp at hx; rw [hx]; exact ⟨hbn, hm⟩
          · simp at hx; rw [hx]; exact .refl
          · exact absurd (hlab x hx hxc) (by omega)
      have hbk : b ∈ ks ∨ b ∈ wt := by
        rcases hwt with ⟨hm, rfl⟩ | ⟨hm, rfl⟩
        · exact .inl hm
        · exact .inr (by simp)
      have hlb : ∀ x ∈ ks, x ≠ c → lab x ≤ b := fun x hx hxc => Nat.le_of_lt (hlab x hx hxc)
      have hddw : dw ≠ d := fun z => by rw [z, hd2] at hdw0'; cases hdw0'
      refine ⟨fun m σ H' => ∃ kvs ks lab wt x y, σ = [some (.ref a), some (iv c), some (.ref d), some (iv b), some (.ref dw), x, none] ∧ m = n - ks.length ∧ Same H H' ∧ H' d = some (.dK kvs) ∧ LabD kvs c ks lab ∧ H' dw = some (.lst (ivs wt)) ∧ PN n c b R ks lab wt ∧ (b ∈ ks ∨ b ∈ wt) ∧ (∀ x ∈ ks, x ≠ c → lab x ≤ b) ∧ (∀ x, x < b → x ∈ ks) ∧ y = 0,
        ⟨_, _, _, _, _, _, 0, rfl, rfl, s3, hd3, D2, hdw3, F3, hbk, hlb, hb, rfl⟩, fun m σ H' h => ?_⟩
      clear F3 hbk hlb hd3 hdw3 hwt s3 hb hlab F D2 hd2 s2 s3' hdw0'
      obtain ⟨kvs, ks, lab, wt, x4, _, rfl, rfl, s4, hd4, D4, hdw4, F, hbk, hlb, hb, _⟩ := h
      refine ⟨.ref dw, rfl, by show 0 ≤ sizeLine; omega, fun p hp => ?_⟩
      have s5 := same_upd (o := .lst []) hp
      have hp5 : upd H' p (.lst []) p = some (.lst []) := upd_same
      generalize upd H' p (.lst []) = H5 at s5 hp5 ⊢
      refine ne_nil_ints (s5 _ _ hdw4) hp5 ?_
      rcases nil_or_snoc wt with rfl | ⟨wt, h, rfl⟩
      · rw [decide_eq_false (by simp)]
        refine ⟨false, rfl, iteF ?_⟩
        refine ⟨⟨_, _, _, rfl⟩, Same.trans s4 s5, kvs, ks, lab, s5 _ _ hd4, D4, { F with wcon := by simp, old := fun x hx hxc hl y hy hyc => ?_, new := fun x hx hxc hl y hy hyc => ?_ }, fun x hx hxc => by have := hlb x hx hxc; omega, fun x hx => ?_⟩
        · by_cases e : lab x = b
          · rcases F.new x hx hxc e y hy hyc with g | g
            · exact g
            · cases g
          · exact F.old x hx hxc e y hy hyc
        · have := hlb x hx hxc
          omega
        · by_cases e : x = b
          · rw [e]
            rcases hbk with g | g
            · exact g
            · cases g
          · exact hb x (by omega)
      · rw [decide_eq_true (by simp)]
        refine ⟨true, rfl, iteT ⟨_, fun _ _ h => h, ?_⟩⟩
        refine ⟨.ref dw, rfl, .inl ⟨rfl, _, lq (s5 _ _ hdw4)⟩, dw, _, iv h, rfl, rfl, s5 _ _ hdw4, by simp [ivs], ?_⟩
        rw [show (ivs (wt ++ [h])).dropLast = ivs wt by simp [ivs]]
        have hh := F.wlt h (by simp)
        have s6 : Same H (upd H5 dw (.lst (ivs wt))) := same_list hdw0 (Same.trans s4 s5)
        have hd6 : upd H5 dw (.lst (ivs wt)) d = some (.dK kvs) := by rw [upd_ne (Ne.symm hddw)]; exact s5 _ _ hd4
        have hdw6 : upd H5 dw (.lst (ivs wt)) dw = some (.lst (ivs wt)) := upd_same
        generalize upd H5 dw (.lst (ivs wt)) = H6 at s6 hd6 hdw6 ⊢
        have hkn := length_of D4.nd F.lt
        refine ⟨iv b, rfl, .ref d, rfl, iv h, rfl, d, _, rfl, DPut.k (k := nK h) hd6 (by rw [D4.len]; exact small1000 (by omega)), ?_⟩
        have D7 := D4.put F.cin (b := b) hh.2
        have F7 := F.step hRn hsym fun a => (hR1 a).2
        have s7 : Same H (upd H6 d (.dK (putK kvs (nK h) (iv b)))) := fun z o e => by rw [upd_ne (ne_of_none e hd)]; exact s6 z o e
        have hd7 : upd H6 d (.dK (putK kvs (nK h) (iv b))) d = some (.dK (putK kvs (nK h) (iv b))) := upd_same
        have hdw7 : upd H6 d (.dK (putK kvs (nK h) (iv b))) dw = some (.lst (ivs wt)) := by rw [upd_ne hddw]; exact hdw6
        generalize upd H6 d (.dK (putK kvs (nK h) (iv b))) = H7 at s7 hd7 hdw7 ⊢
        obtain ⟨rp, hrp1, hrp2⟩ := hrow h hh.1
        refine ⟨.ref dw, rfl, .inl ⟨rfl, _, lq hdw7⟩, ?_⟩
        refine ⟨.ref a, rfl, iv h, rfl, a, xs, (h : Int), .ref rp, rfl, rfl, lq (s7 _ _ hxs), atI_nat hrp1, rp, rfl, ⟨_, lq (s7 _ _ hrp2)⟩, fun D hD => ?_⟩
        have hR1h := (hR1 h).1
        refine lc_it (walk_list (K := K) (a := rp) (xs := ivs (R h))) (fun j H' => Same H7 H' ∧ H' D = some (.lst (ivs (((R h).take j).filter fun y => !decide (y ∈ ks ++ [h]) && !decide (y ∈ wt))))) ⟨same_upd hD, by rw [upd_same]; simp [ivs]⟩ (fun j H' _ h => lq (h.1 _ _ (s7 _ _ hrp2))) (fun j x H' H'' hj hh2 hx => ?_) (fun H8 hh2 => ?_)
        · obtain ⟨s8, hD8⟩ := hh2
          obtain ⟨rfl, hx⟩ := hx
          obtain ⟨y, hy, rfl⟩ := ivs_get hx
          have hd8 := s8 _ _ hd7
          have hdw8 := s8 _ _ hdw7
          have elen : ((R h).take j |>.filter fun y => !decide (y ∈ ks ++ [h]) && !decide (y ∈ wt)).length ≤ 60 := by
            have h1 := List.length_filter_le (fun y => !decide (y ∈ ks ++ [h]) && !decide (y ∈ wt)) ((R h).take j)
            have h2 := (hR1 h).1
            rw [List.length_take] at h1
            omega
          have no : ((!decide (y ∈ ks ++ [h]) && !decide (y ∈ wt)) = false) → (((R h).take (j + 1)).filter fun y => !decide (y ∈ ks ++ [h]) && !decide (y ∈ wt)) = ((R h).take j).filter fun y => !decide (y ∈ ks ++ [h]) && !decide (y ∈ wt) := fun e => by
            rw [List.take_add_one, hy, List.filter_append]
            show _ ++ List.filter _ [y] = _
            rw [List.filter_cons_of_neg (by rw [e]; decide)]; simp
          have yes : ((!decide (y ∈ ks ++ [h]) && !decide (y ∈ wt)) = true) → (((R h).take (j + 1)).filter fun y => !decide (y ∈ ks ++ [h]) && !decide (y ∈ wt)) = (((R h).take j).filter fun y => !decide (y ∈ ks ++ [h]) && !decide (y ∈ wt)) ++ [y] := fun e => by
            rw [List.take_add_one, hy, List.filter_append]
            show _ ++ List.filter _ [y] = _
            rw [List.filter_cons_of_pos (by rw [e])]; simp
          refine ⟨rfl, iv y, rfl, .ref d, rfl, d, _, rfl, DGet.k (k := nK y) hd8, ?_⟩
          rw [D7.val, isSome_if]
          by_cases g1 : y ∈ ks ++ [h]
          · rw [decide_eq_true g1]
            refine ⟨false, rfl, iteF ?_⟩
            refine ⟨s8, ?_⟩
            rw [no (by simp [g1])]; exact hD8
          · rw [decide_eq_false g1]
            refine ⟨true, rfl, iteT ?_⟩
            refine ⟨iv y, rfl, .ref dw, rfl, dw, _, rfl, .inl (lq hdw8), rfl, flat_ivs _, ?_⟩
            rw [inV_ivs]
            by_cases g2 : y ∈ wt
            · rw [decide_eq_true g2]
              refine ⟨false, rfl, iteF ?_⟩
              refine ⟨s8, ?_⟩
              rw [no (by simp [g2])]; exact hD8
            · rw [decide_eq_false g2]
              refine ⟨true, rfl, iteT ?_⟩
              refine ⟨iv y, rfl, _, hD8, by rw [List.length_map]; exact small1000 (by omega), same_list hD s8, ?_⟩
              rw [upd_same, yes (by simp only [g1, g2]; decide)]; simp [ivs]
        · obtain ⟨s8, hD8⟩ := hh2
          rw [show (R h).take (ivs (R h)).length = R h by simp [ivs]] at hD8
          have hdw8 := s8 _ _ hdw7
          have hwn7 := length_of F7.wnd fun x hx => (F7.wlt x hx).1
          rw [List.length_append] at hwn7
          refine ⟨dw, D, _, _, rfl, rfl, hdw8, hD8, by rw [List.length_map, List.length_map]; exact Nat.le_of_lt (small1000 (by omega)), ?_⟩
          have hkn7 := length_of D7.nd F7.lt
          rw [List.length_append] at hkn7
          have hkn8 : ks.length + 1 ≤ n := by simpa using hkn7
          have mem : ∀ {x}, x ∈ ks ++ [h] → x ∈ ks ∨ x = h := fun {x} hx => by simpa using hx
          refine ⟨n - (ks ++ [h]).length, by rw [List.length_append]; simp; omega, _, ks ++ [h], _, _, _, 0, rfl, rfl, same_list hdw0 (Same.trans s7 s8), by rw [upd_ne (Ne.symm hddw)]; exact s8 _ _ hd7, D7, by rw [upd_same]; simp [ivs], F7, ?_, fun x hx hxc => ?_, fun x hx => List.mem_append_left _ (hb x hx), rfl⟩
          · rcases hbk with g | g
            · exact .inl (List.mem_append_left _ g)
            · rcases List.mem_append.mp g with g | g
              · exact .inr (List.mem_append_left _ g)
              · exact .inl (List.mem_append_right _ g)
          · rcases mem hx with g | g
            · rw [if_neg (fun (e : x = h) => hh.2 (e ▸ g))]; exact hlb x g hxc
            · rw [if_pos g]; exact Nat.le_refl _
    · obtain ⟨⟨x', y', z', rfl⟩, s2, kvs, ks, lab, hd2, D2, F, hlab, hb⟩ := h
      have hall : ∀ x, x < n → x ∈ ks := fun x hx => hb x (by omega)
      refine ⟨.ref d, rfl, q H' d kvs ks lab s2 hd2 D2 hall fun x y hx hy hxc hyc => ⟨fun e => ?_, fun h => ?_⟩⟩
      · have h1 := F.con x (hall x hx) hxc
        have h2 := F.con y (hall y hy) hyc
        rw [e] at h1
        have hs : Sym (Av (Ad R) c) := fun u v => by
          rw [Bool.eq_iff_iff, Wb.Av_iff, Wb.Av_iff, Ad_iff, Ad_iff]
          exact ⟨fun ⟨a, b, d⟩ => ⟨hsym _ _ a, d, b⟩, fun ⟨a, b, d⟩ => ⟨hsym _ _ a, d, b⟩⟩
        exact (h1.symm hs).trans h2
      · induction h with
        | refl => rfl
        | @step u v _ e ih =>
          obtain ⟨e1, e2, e3⟩ := Wb.Av_iff.mp e
          have e1 := Ad_iff.mp e1
          have hu : u < n := hRn v u (hsym _ _ e1)
          rw [ih hu e2]
          exact F.same u (hall u hu) e2 v e1 e3 (hall v (hRn u v e1))
end
end Wp
set_option maxHeartbeats 4000000
namespace Wp
open PySem PySem.Spec PyProof.Rows L2
open C8 (Cal pe_c pe_gc)
/-! ### d.setdefault(t, v), t a tuple -/
def tDSetdT (td ty tx : TE) : TE := fun σ H Q => td σ H fun x H1 => ∃ a, x = .ref a ∧ IsD H1 a ∧ ty σ H1 fun y H2 => tx σ H2 fun z H3 => ∃ (kvs : List (List L2.Key × V)) (k : List L2.Key) (b : Addr), H3 a = some (.dT kvs) ∧ y = .ref b ∧ H3 b = some (.tup (k.map kV)) ∧ kvs.length < sizeLine ∧
  (∀ v, valV kvs k = some v → Q v H3) ∧ (valV kvs k = none → Q z (upd H3 a (.dT (putK kvs k z))))
section
variable {X : Cx} {pins : List (Addr × Obj)} {σ : L2.St} {H : Hp} {s : Shared} {a b : Addr} {r : Value} {d : V} {k : List L2.Key} {A : Around} {E : Value → Shared → Prop}
theorem d_setdT {kvs : List (List L2.Key × V)} {Q : Value → Shared → Prop} (hu : A.units + 1 < cLine) (I : Inv X pins σ H s) (e : H a = some (.dT kvs)) (eb : H b = some (.tup (k.map kV))) (rd : RelV d r) (hl : kvs.length < sizeLine)
    (h1 : ∀ v, valV kvs k = some v → ∀ (w' : Value) (s' : Shared), Inv X pins σ H s' → RelV v w' → Q w' s') (h2 : valV kvs k = none → ∀ (w' : Value) (s' : Shared), Inv X pins σ (upd H a (.dT (putK kvs k d))) s' → RelV d w' → Q w' s') :
    wpAny (model X.prog X.w) A (call (.builtin "dict.setdefault") [.ref a, .ref b, r]) Q E s := by
  obtain ⟨z, hd, xs, rel, dd⟩ := dt_of I.hok e
  have hz : xs.length ≤ sizeLine := by rw [← Paired.length rel]; exact z
  refine call_setdefault_heap (hsz := hz) (tupleKind_room_in1 hu) (key_of I.hok eb) hd dd (fun p hp => ?_) fun hn h' dd' hs => ?_
  · have q := rel.val k
    cases q0 : valV kvs k with
    | none =>
      rw [q0, hp] at q
      exact (show False from q).elim
    | some v0 =>
      rw [q0, hp] at q
      exact h1 v0 q0 _ _ (I.tok _) q
  · have q := rel.val k
    cases q0 : valV kvs k with
    | some v0 =>
      rw [q0, hn] at q
      exact (show False from q).elim
    | none =>
      have hl2 : (putK kvs k d).length ≤ sizeLine := by
        have := length_putK kvs k d
        omega
      obtain ⟨q, es, ep, hq, h2', h3, h4, _, h5⟩ := dd'
      refine h2 q0 _ _ (d_write (t' := _) I (by rw [e]; exact True.intro) hs ⟨q, hq⟩ ⟨hl2, hd, _, (rel.put k eb rd).keeps fun c ys ec => ?_, q, es, ep, hq, h2', h3, h4, h5⟩) rd
      rw [upd_ne (ne_of ec e (fun z => nomatch z))]
      exact ec
end
section
variable {X : Cx} {o e f : Expr} {td ty tx : TE} {apos cpos : Pos}
theorem pe_dsetdT (hu : X.A.units + 1 < cLine) (ho : PE X o td) (he : PE X e ty) (hf : PE X f tx) (m : M2 X o "setdefault" apos e f cpos) : PE X (.Call (.Attribute o "setdefault" apos) [e, f] [] cpos) (tDSetdT td ty tx) := by
  refine ⟨fun pins s σ H Q I h => ?_⟩
  refine wpAny_Call_method m.base m.few m.line PySem.F.plainAttrs_dict PySem.F.slot_dict_setdefault PySem.F.type_dict_setdefault (thn (ho.run pins s σ H _ I h) fun u s1 ⟨x, H1, I1, rx, a, ex, d, q1⟩ => ?_)
  subst ex
  obtain rfl : u = Value.ref a := rx
  obtain ⟨t1, t2, _⟩ := isD_at I1 d
  refine ⟨t1, t2, ?_⟩
  rw [m.trees]
  refine Calls.callWith_builtin rfl (Calls.evalArgs_plain (Calls.spliced_cons (thn (he.run pins s1 σ H1 _ I1 q1) fun iv s2 ⟨y, H2, I2, ry, q2⟩ =>
    Calls.spliced_cons (thn (hf.run pins s2 σ H2 _ I2 q2) fun fv s3 ⟨z, H3, I3, rz, kvs, k, b, ea, ey, eb, hl, q3, q4⟩ => Calls.spliced_nil ?_))))
  subst ey
  obtain rfl : iv = Value.ref b := ry
  exact d_setdT hu I3 ea eb rz hl (fun v hv w' s4 I4 rw' => ⟨v, _, I4, rw', q3 v hv⟩) fun hn w' s4 I4 rw' => ⟨z, _, I4, rw', q4 hn⟩
end
/-! ### marks -/
theorem eqv_tD (u t : Nat × Nat) : PyData.eqv (tD u) (tD t) = decide (u = t) := by
  have : PyData.eqv (tD u) (tD t) = (((u.1 : Int) == (t.1 : Int)) && (((u.2 : Int) == (t.2 : Int)) && true)) := rfl
  rw [this]
  by_cases h : u = t
  · rw [h]; simp
  · rw [decide_eq_false h]
    by_cases h1 : u.1 = t.1
    · have h2 : u.2 ≠ t.2 := fun h2 => h (Prod.ext h1 h2)
      simp; omega
    · simp; omega
structure MkV (H : Hp) (d : Addr) (ts : List (Nat × Nat)) (mk : Nat × Nat → Nat × Nat) (kvs : List (List L2.Key × V)) (ks : List (Nat × Nat)) (vf : Nat × Nat → V) : Prop where
  at_ : H d = some (.dT kvs)
  dd : DD tK kvs ks fun t => if t ∈ ks then some (vf t) else none
  ks : ∀ t, t ∈ ks ↔ t ∈ ts
  val : ∀ t ∈ ts, TieV H (vf t) (mk t) ∧ mk t ∈ ts
inductive Root (mk : Nat × Nat → Nat × Nat) : Nat × Nat → Nat × Nat → Prop where
  | base {r : Nat × Nat} : mk r = r → Root mk r r
  | step {t r : Nat × Nat} : Root mk (mk t) r → Root mk t r
theorem Root.is {mk : Nat × Nat → Nat × Nat} {t r : Nat × Nat} (h : Root mk t r) : mk r = r := by
  induction h with
  | base h => exact h
  | step _ ih => exact ih
theorem Root.fix {mk : Nat × Nat → Nat × Nat} {t s : Nat × Nat} (h : Root mk t s) (e : mk t = t) : s = t := by
  induction h with
  | base _ => rfl
  | @step t r _ ih =>
    have := ih (by rw [e, e])
    rw [this, e]
theorem Root.uniq {mk : Nat × Nat → Nat × Nat} {t r s : Nat × Nat} (h : Root mk t r) (g : Root mk t s) : r = s := by
  induction h with
  | base e => exact (g.fix e).symm
  | @step t r h ih =>
    cases g with
    | base e =>
      have g2 : Root mk s s := .base e
      exact ih (e.symm ▸ g2)
    | step g => exact ih g
theorem Root.union {mk : Nat × Nat → Nat × Nat} {mx mn : Nat × Nat} (hx : mk mx = mx) (hn : mk mn = mn) {t r : Nat × Nat} (h : Root mk t r) : Root (fun u => if u = mx then mn else mk u) t (if r = mx then mn else r) := by
  have hmn : Root (fun u => if u = mx then mn else mk u) mn mn := .base (by
    show (if mn = mx then mn else mk mn) = mn
    by_cases e : mn = mx
    · rw [if_pos e]
    · rw [if_neg e]; exact hn)
  induction h with
  | @base r e =>
    by_cases g : r = mx
    · rw [if_pos g, g]
      refine .step ?_
      show Root _ (if mx = mx then mn else mk mx) mn
      rw [if_pos rfl]; exact hmn
    · rw [if_neg g]
      exact .base (by show (if r = mx then mn else mk r) = r; rw [if_neg g]; exact e)
  | @step t r h ih =>
    by_cases g : t = mx
    · have e : mk t = t := by rw [g]; exact hx
      rw [e] at ih; exact ih
    · refine .step ?_
      show Root _ (if t = mx then mn else mk t) _
      rw [if_neg g]; exact ih
section
variable {P : Program} {w : World} {K : PySem.W.Frag} {mg : Str → Option Value} {base : Heap}
def spHeadsOf : Sp := fun vs H Q _ => ∃ (d : Addr) (v : V) (t : Nat × Nat) (ts : List (Nat × Nat)) (mk : Nat × Nat → Nat × Nat) (kvs : List (List L2.Key × V)) (ks : List (Nat × Nat)) (vf : Nat × Nat → V) (rk : Nat × Nat → Nat), vs = [.ref d, v] ∧ TieV H v t ∧ t ∈ ts ∧ MkV H d ts mk kvs ks vf ∧ (∀ t ∈ ts, mk t ≠ t → rk (mk t) < rk t) ∧
  ∀ v' r, TieV H v' r → Root mk t r → r ∈ ts → Q v' H
theorem k_heads_of (A : At K mg "heads_of" s_heads_of) (B : Bt mg) : Cal P w K mg base 1 "heads_of" spHeadsOf [] := by
  refine mk A sc_heads_of (fun _ _ _ _ _ _ us hl => match us, hl with | [_, _], _ => rfl) (fun vs H Q E h => ?_) (fun f cdv A outer s H vs Q E hr h => ?_)
  · obtain ⟨d, v, t, ts, mk, kvs, ks, vf, rk, rfl, _⟩ := h
    rfl
  · obtain ⟨d, v, t, ts, mk, kvs, ks, vf, rk, rfl, hv, ht, M, hrk, q⟩ := h
    refine ⟨_, (pss_cons (ps_while PassesOwn.never (pt_cmpR (op_neD hr.units) (pe_dget (hu_of hr) (pv 0) (pv 1) (fun _ _ => rfl)) (pv 1) (nomark _))
      (pss_one (ps_set (i := 1) sc_heads_of.nd rfl (.inl rfl) (pe_dget (hu_of hr) (pv 0) (pv 1) (fun _ _ => rfl)))))
    (pss_one (ps_ret (pv 1)))), ?_⟩
    refine ⟨fun m σ H' => ∃ v' u, σ = [some (.ref d), some v'] ∧ H' = H ∧ m = rk u ∧ TieV H v' u ∧ u ∈ ts ∧ ∀ r, Root mk u r → Root mk t r, ⟨_, v, t, rfl, rfl, rfl, hv, ht, fun _ h => h⟩, fun m σ H' h => ?_⟩
    obtain ⟨v', u, rfl, rfl, rfl, hv', hu, hroot⟩ := h
    obtain ⟨h1, h2⟩ := M.val u hu
    obtain ⟨p, rfl, hp⟩ := id hv'
    have hg : DGet H' d (.ref p) (some (vf u)) := by
      have := M.dd.val u
      rw [if_pos ((M.ks u).mpr hu)] at this
      rw [← this]
      exact DGet.t (k := tK u) M.at_ hp
    refine ⟨.ref d, rfl, .ref p, rfl, d, vf u, rfl, hg, .ref p, rfl, tD (mk u), tD u, tie_dp h1, tie_dp hv', tD_shaped _, tD_shaped _, ?_⟩
    rw [eqv_tD]
    by_cases e : mk u = u
    · rw [decide_eq_true e]
      refine ⟨_, rfl, iteF ?_⟩
      exact ⟨.ref p, rfl, q _ u hv' (hroot u (.base e)) hu⟩
    · rw [decide_eq_false e]
      refine ⟨_, rfl, iteT ⟨_, fun _ _ h => h, ?_⟩⟩
      refine ⟨.ref d, rfl, .ref p, rfl, d, vf u, rfl, hg, _, hrk u hu e, vf u, mk u, rfl, rfl, rfl, h1, h2, fun r h => hroot r (.step h)⟩
end
end Wp
set_option maxHeartbeats 4000000
namespace Wp
open PySem PySem.Spec PyProof.Rows L2
open Wb (Gr Conn Av E2 Sym Sub Cls)
/-! classes by marks, the plain part -/
def aE (ts : List (Nat × Nat)) : E2 := fun u v => decide ((u, v) ∈ ts ∨ (v, u) ∈ ts)
theorem aE_iff {ts : List (Nat × Nat)} {u v : Nat} : aE ts u v = true ↔ adj ts u v := by simp [aE, adj]
def rk20 (t : Nat × Nat) : Nat := 20 * t.1 + t.2
/-- what holds of T where ties that meet are of one kind -/
def Meets1 (A : E2) (T : Nat → Nat → Bool) : Prop := (∀ u v, T u v = T v u) ∧ ∀ c o p, A c o = true → A c p = true → Conn (Av A c) o p → T c o = T c p
structure UF (ts : List (Nat × Nat)) (mk ρ : Nat × Nat → Nat × Nat) : Prop where
  root : ∀ t ∈ ts, Root mk t (ρ t) ∧ ρ t ∈ ts
  rk : ∀ t ∈ ts, mk t ≠ t → rk20 (mk t) < rk20 t
  snd : ∀ T, Meets1 (aE ts) T → ∀ t ∈ ts, ∀ u ∈ ts, ρ t = ρ u → T t.1 t.2 = T u.1 u.2
theorem UF.idem {ts : List (Nat × Nat)} {mk ρ : Nat × Nat → Nat × Nat} (F : UF ts mk ρ) {t : Nat × Nat} (ht : t ∈ ts) : ρ (ρ t) = ρ t ∧ mk (ρ t) = ρ t := by
  obtain ⟨h1, h2⟩ := F.root t ht
  exact ⟨((F.root _ h2).1).fix h1.is, h1.is⟩
theorem UF.start (ts : List (Nat × Nat)) : UF ts (fun t => t) (fun t => t) :=
  ⟨fun t ht => ⟨.base rfl, ht⟩, fun t _ h => absurd rfl h, fun T _ t _ u _ e => by rw [e]⟩
/-- two roots joined: mx under mn -/
def un (ρ : Nat × Nat → Nat × Nat) (mx mn : Nat × Nat) : Nat × Nat → Nat × Nat := fun t => if ρ t = mx then mn else ρ t
theorem UF.union {ts : List (Nat × Nat)} {mk ρ : Nat × Nat → Nat × Nat} (F : UF ts mk ρ) {a b mx mn : Nat × Nat} (ha : a ∈ ts) (hb : b ∈ ts) (hab : (mx = ρ a ∧ mn = ρ b) ∨ (mx = ρ b ∧ mn = ρ a)) (hlt : mx ≠ mn → rk20 mn < rk20 mx) (hT : ∀ T, Meets1 (aE ts) T → T a.1 a.2 = T b.1 b.2) :
    UF ts (fun u => if u = mx then mn else mk u) (un ρ mx mn) ∧ un ρ mx mn a = un ρ mx mn b := by
  have hmx : mx ∈ ts ∧ mk mx = mx ∧ ρ mx = mx := by
    rcases hab with ⟨rfl, _⟩ | ⟨rfl, _⟩
    · exact ⟨(F.root a ha).2, (F.idem ha).2, (F.idem ha).1⟩
    · exact ⟨(F.root b hb).2, (F.idem hb).2, (F.idem hb).1⟩
  have hmn : mn ∈ ts ∧ mk mn = mn ∧ ρ mn = mn := by
    rcases hab with ⟨_, rfl⟩ | ⟨_, rfl⟩
    · exact ⟨(F.root b hb).2, (F.idem hb).2, (F.idem hb).1⟩
    · exact ⟨(F.root a ha).2, (F.idem ha).2, (F.idem ha).1⟩
  refine ⟨⟨fun t ht => ⟨Root.union hmx.2.1 hmn.2.1 (F.root t ht).1, ?_⟩, fun t ht h => ?_, fun T hM t ht u hu e => ?_⟩, ?_⟩
  · unfold un
    split
    · exact hmn.1
    · exact (F.root t ht).2
  · skip
    by_cases e : t = mx
    · rw [if_pos e] at h ⊢
      rw [e] at h ⊢
      exact hlt (Ne.symm h)
    · rw [if_neg e] at h ⊢
      exact F.rk t ht h
  · have hx : T mx.1 mx.2 = T mn.1 mn.2 := by
      have e1 := F.snd T hM a ha (ρ a) (F.root a ha).2 (F.idem ha).1.symm
      have e2 := F.snd T hM b hb (ρ b) (F.root b hb).2 (F.idem hb).1.symm
      have e3 := hT T hM
      rcases hab with ⟨rfl, rfl⟩ | ⟨rfl, rfl⟩
      · rw [← e1, ← e2, e3]
      · rw [← e1, ← e2, e3]
    have own : ∀ t ∈ ts, T t.1 t.2 = T (un ρ mx mn t).1 (un ρ mx mn t).2 := fun t ht => by
      have e1 := F.snd T hM t ht (ρ t) (F.root t ht).2 (F.idem ht).1.symm
      unfold un
      by_cases g : ρ t = mx
      · rw [if_pos g, ← hx, ← g, e1]
      · rw [if_neg g, e1]
    rw [own t ht, own u hu, e]
  · unfold un
    rcases hab with ⟨h1, h2⟩ | ⟨h1, h2⟩
    · rw [← h1, if_pos rfl, ← h2]
      split <;> rfl
    · rw [← h1, if_pos rfl, ← h2]
      split <;> rfl
theorem un_eq {ρ : Nat × Nat → Nat × Nat} {mx mn t u : Nat × Nat} (h : ρ t = ρ u) : un ρ mx mn t = un ρ mx mn u := by unfold un; rw [h]
theorem mm_comm (u v : Nat) : mm (u, v) = mm (v, u) := Prod.ext (Nat.min_comm u v) (Nat.max_comm u v)
theorem mm_of_lt {t : Nat × Nat} (h : t.1 < t.2) : mm (t.1, t.2) = t := Prod.ext (Nat.min_eq_left (by omega)) (Nat.max_eq_right (by omega))
theorem mm_adj {ts : List (Nat × Nat)} (hlt : ∀ t ∈ ts, t.1 < t.2) {u v : Nat} (h : adj ts u v) : mm (u, v) ∈ ts := by
  rcases h with h | h
  · rw [mm_of_lt (hlt _ h)]; exact h
  · rw [mm_comm, mm_of_lt (hlt _ h)]; exact h
theorem UF.cls {ts : List (Nat × Nat)} {mk ρ : Nat × Nat → Nat × Nat} (F : UF ts mk ρ) (hlt : ∀ t ∈ ts, t.1 < t.2) (one : ∀ c o p, adj ts c o → adj ts c p → Conn (Av (aE ts) c) o p → ρ (mm (c, o)) = ρ (mm (c, p))) : Cls (aE ts) (fun u v => ρ (mm (u, v))) where
  sym u v := by show ρ (mm (u, v)) = ρ (mm (v, u)); rw [mm_comm]
  one c o p h1 h2 h := one c o p (aE_iff.mp h1) (aE_iff.mp h2) h
  least T h1 h2 u v a b h3 h4 e := by
    have key : ∀ u v, T (mm (u, v)).1 (mm (u, v)).2 = T u v := fun u v => by
      by_cases h : u ≤ v
      · have : mm (u, v) = (u, v) := Prod.ext (Nat.min_eq_left h) (Nat.max_eq_right h)
        rw [this]
      · have : mm (u, v) = (v, u) := Prod.ext (Nat.min_eq_right (by omega)) (Nat.max_eq_left (by omega))
        rw [this, h1]
    have := F.snd T ⟨h1, h2⟩ _ (mm_adj hlt (aE_iff.mp h3)) _ (mm_adj hlt (aE_iff.mp h4)) e
    rw [key, key] at this
    exact this
end Wp
set_option maxHeartbeats 4000000
namespace Wp
open PySem PySem.Spec PyProof.Rows L2
open C8 (Cal pe_c pe_gc)
/-! groups of ties by head -/
structure GG (H0 H : Hp) (df : Addr) (gvs : List (List L2.Key × V)) (gks : List (Nat × Nat)) (ga : Nat × Nat → Addr) (G : Nat × Nat → List (Nat × Nat)) : Prop where
  sm : Same H0 H
  d0 : H0 df = none
  at_ : H df = some (.dT gvs)
  dd : DD tK gvs gks fun r => if r ∈ gks then some (.ref (ga r)) else none
  row : ∀ r ∈ gks, ∃ xs, H (ga r) = some (.lst xs) ∧ Paired (TieV H) xs (G r)
  inj : ∀ r ∈ gks, ∀ u ∈ gks, ga r = ga u → r = u
  fresh : ∀ r ∈ gks, H0 (ga r) = none
  emp : ∀ r, r ∉ gks → G r = []
theorem GG.ne {H0 H : Hp} {df : Addr} {gvs : List (List L2.Key × V)} {gks : List (Nat × Nat)} {ga : Nat × Nat → Addr} {G : Nat × Nat → List (Nat × Nat)} (h : GG H0 H df gvs gks ga G) {r : Nat × Nat} (hr : r ∈ gks) : ga r ≠ df := fun e => by
  obtain ⟨xs, hx, _⟩ := h.row r hr
  rw [e, h.at_] at hx; cases hx
theorem group_put {K : PySem.W.Frag} {H0 H : Hp} {df : Addr} {gvs : List (List L2.Key × V)} {gks : List (Nat × Nat)} {ga : Nat × Nat → Addr} {G : Nat × Nat → List (Nat × Nat)} (F : GG H0 H df gvs gks ga G) {t r : Nat × Nat} {tv : V} {σ : L2.St} {ty : TE}
    (h11 : σ[11]? = some (some (.ref df))) (h3 : σ[3]? = some (some tv)) (ht : TieV H tv t) (hty : ∀ Q : VK, (∀ rp, H rp = some (.tup [iv r.1, iv r.2]) → Q (.ref rp) H) → ty σ H Q) (hk : gks.length ≤ 500) (hG : (G r).length ≤ 500) {Q : Hp → Prop}
    (q : ∀ H' gvs' ga', GG H0 H' df gvs' (ins r gks) ga' (fun u => if u = r then G r ++ [t] else G u) → Q H') :
    (tBM K "list" rAppend (tDSetdT (tVar 11) ty (tLst tNil)) (tCons (tVar 3) tNil)) σ H fun _ H' => Q H' := by
  refine ⟨.ref df, h11, df, rfl, .inr ⟨gvs, .inl F.at_⟩, hty _ fun rp hr => ⟨by show 0 ≤ sizeLine; omega, fun p hp => ?_⟩⟩
  have hpd : p ≠ df := fun e => by rw [e, F.at_] at hp; cases hp
  have hp0 : H0 p = none := none_of_same F.sm hp
  have hrp : rp ≠ p := fun e => by rw [← e, hr] at hp; cases hp
  refine ⟨gvs, tK r, rp, by rw [upd_ne (Ne.symm hpd)]; exact F.at_, rfl, by rw [upd_ne hrp]; exact hr, by rw [F.dd.len]; exact small1000 (by omega), fun v hv => ?_, fun hv => ?_⟩
  · rw [F.dd.val] at hv
    have hm : r ∈ gks := by
      by_cases hm : r ∈ gks
      · exact hm
      · rw [if_neg hm] at hv; cases hv
    rw [if_pos hm] at hv
    cases hv
    obtain ⟨xs, hx1, hx2⟩ := F.row r hm
    have hne := F.ne hm
    have hpa : ∀ u ∈ gks, p ≠ ga u := fun u hu e => by
      obtain ⟨ys, hy, _⟩ := F.row u hu
      rw [e, hy] at hp; cases hp
    have hx3 : upd H p (.lst []) (ga r) = some (.lst xs) := by rw [upd_ne (Ne.symm (hpa r hm))]; exact hx1
    have hxl := paired_len hx2
    refine ⟨.inl ⟨rfl, _, lq hx3⟩, tv, h3, ga r, xs, tv, rfl, rfl, hx3, small1000 (by omega), ?_⟩
    have kp : ∀ {v u}, TieV H v u → TieV (upd (upd H p (.lst [])) (ga r) (.lst (xs ++ [tv]))) v u := fun {v u} h => by
      obtain ⟨z, e, hz⟩ := h
      exact ⟨z, e, by rw [upd_ne (fun y => by rw [y, hx1] at hz; cases hz), upd_ne (fun y => by rw [y, hp] at hz; cases hz)]; exact hz⟩
    have hi : ins r gks = gks := by unfold ins; rw [if_pos hm]
    refine q _ gvs ga ?_
    rw [hi]
    refine ⟨same_list (F.fresh r hm) (same_list hp0 F.sm), F.d0, ?_, F.dd, fun u hu => ?_, F.inj, F.fresh, fun u hu => ?_⟩
    · rw [upd_ne (Ne.symm hne), upd_ne (Ne.symm hpd)]; exact F.at_
    · show ∃ ys, _ ∧ Paired _ ys (if u = r then G r ++ [t] else G u)
      by_cases e : u = r
      · rw [if_pos e, e]
        exact ⟨_, upd_same, paired_snoc (paired_mono (fun _ _ h => kp h) hx2) (kp ht)⟩
      · rw [if_neg e]
        obtain ⟨ys, hy1, hy2⟩ := F.row u hu
        exact ⟨ys, by rw [upd_ne (fun z => e (F.inj u hu r hm z)), upd_ne (Ne.symm (hpa u hu))]; exact hy1, paired_mono (fun _ _ h => kp h) hy2⟩
    · show (if u = r then G r ++ [t] else G u) = []
      rw [if_neg (fun (e : u = r) => hu (e ▸ hm))]; exact F.emp u hu
  · have hm : r ∉ gks := fun hm => by rw [F.dd.val, if_pos hm] at hv; cases hv
    have hp2 : upd (upd H p (.lst [])) df (.dT (putK gvs (tK r) (.ref p))) p = some (.lst []) := by rw [upd_ne hpd, upd_same]
    refine ⟨.inl ⟨rfl, _, lq hp2⟩, tv, h3, p, _, tv, rfl, rfl, hp2, by show 0 < sizeLine; rw [sizeLine_eq]; omega, ?_⟩
    have kp : ∀ {v u}, TieV H v u → TieV (upd (upd (upd H p (.lst [])) df (.dT (putK gvs (tK r) (.ref p)))) p (.lst ([] ++ [tv]))) v u := fun {v u} h => by
      obtain ⟨z, e, hz⟩ := h
      have hzp : z ≠ p := fun y => by rw [y, hp] at hz; cases hz
      exact ⟨z, e, by rw [upd_ne hzp, upd_ne (fun y => by rw [y, F.at_] at hz; cases hz), upd_ne hzp]; exact hz⟩
    have hi : ins r gks = gks ++ [r] := by unfold ins; rw [if_neg hm]
    have hpa : ∀ u ∈ gks, p ≠ ga u := fun u hu e => by
      obtain ⟨ys, hy, _⟩ := F.row u hu
      rw [e, hy] at hp; cases hp
    have mem : ∀ {u}, u ∈ gks ++ [r] → u = r ∨ u ∈ gks := fun {u} h => by
      rcases List.mem_append.mp h with h | h
      · exact .inr h
      · simp at h; exact .inl h
    have D := DD.put (fun a b => tK_inj) F.dd r (.ref p)
    rw [if_neg hm] at D
    refine q _ (putK gvs (tK r) (.ref p)) (fun u => if u = r then p else ga u) ?_
    rw [hi]
    refine ⟨same_list hp0 (fun b o e => by rw [upd_ne (ne_of_none e F.d0)]; exact same_list hp0 F.sm b o e), F.d0, ?_, ⟨D.keys, D.nd, fun b => ?_, fun b => ?_⟩, fun u hu => ?_, fun u hu v hv e => ?_, fun u hu => ?_, fun u hu => ?_⟩
    · rw [upd_ne (Ne.symm hpd), upd_same]
    · rw [D.val]
      show (if b = r then some (V.ref p) else _) = if b ∈ gks ++ [r] then some (.ref (if b = r then p else ga b)) else none
      by_cases e : b = r
      · rw [if_pos e, if_pos (by simp [e]), if_pos e]
      · rw [if_neg e]
        by_cases hb : b ∈ gks
        · rw [if_pos hb, if_pos (List.mem_append_left _ hb), if_neg e]
        · rw [if_neg hb, if_neg (by simp [hb, e])]
    · by_cases hb : b ∈ gks ++ [r]
      · simp only [hb, if_true, Option.isSome_some]
      · simp only [hb, if_false, Option.isSome_none]; simp
    · show ∃ ys, upd _ p _ (if u = r then p else ga u) = some (.lst ys) ∧ Paired _ ys (if u = r then G r ++ [t] else G u)
      by_cases e : u = r
      · rw [if_pos e, if_pos e, F.emp r hm]
        exact ⟨_, upd_same, .cons (kp ht) .nil⟩
      · have hk2 := (mem hu).resolve_left e
        rw [if_neg e, if_neg e]
        obtain ⟨ys, hy1, hy2⟩ := F.row u hk2
        exact ⟨ys, by rw [upd_ne (Ne.symm (hpa u hk2)), upd_ne (F.ne hk2), upd_ne (Ne.symm (hpa u hk2))]; exact hy1, paired_mono (fun _ _ h => kp h) hy2⟩
    · by_cases eu : u = r
      · by_cases ev : v = r
        · rw [eu, ev]
        · rw [if_pos eu, if_neg ev] at e
          exact absurd e (hpa v ((mem hv).resolve_left ev))
      · by_cases ev : v = r
        · rw [if_neg eu, if_pos ev] at e
          exact absurd e.symm (hpa u ((mem hu).resolve_left eu))
        · rw [if_neg eu, if_neg ev] at e
          exact F.inj u ((mem hu).resolve_left eu) v ((mem hv).resolve_left ev) e
    · show H0 (if u = r then p else ga u) = none
      by_cases e : u = r
      · rw [if_pos e]; exact hp0
      · rw [if_neg e]; exact F.fresh u ((mem hu).resolve_left e)
    · have h1 : u ∉ gks := fun h => hu (List.mem_append_left _ h)
      have h2 : u ≠ r := fun h => hu (by simp [h])
      show (if u = r then G r ++ [t] else G u) = []
      rw [if_neg h2]; exact F.emp u h1
end Wp
set_option maxHeartbeats 4000000
namespace Wp
open PySem PySem.Spec PyProof.Rows L2
open C8 (Cal pe_c pe_gc)
open Wb (Gr Conn Av E2 Sym Sub Cls)
theorem RowsV.keepN {d : Addr} {H H' : Hp} {a : Addr} {n : Nat} {R : Nat → List Nat} (h : RowsV H a n R) (hd : ∀ xs, H d ≠ some (.lst xs)) (g : SameX d H H') : RowsV H' a n R := by
  obtain ⟨as, e, h⟩ := h
  refine ⟨as, e, h.nd, g _ _ (fun z => ?_) h.at_, fun i p hp => g _ _ (fun z => ?_) (h.row i p hp)⟩
  · have := h.at_
    rw [z] at this
    exact hd _ this
  · have := h.row i p hp
    rw [z] at this
    exact hd _ this
def rTupOf (K : PySem.W.Frag) : List V → Hp → VK → Prop := fun xs H Q => ∃ p ys, xs = [.ref p] ∧ ((SqL K H p ys ∧ ∀ l, H l = none → Q (.ref l) (upd H l (.tup ys))) ∨ (SqT K H p ys ∧ Q (.ref p) H))
def TiesV (H : Hp) (v : V) (bs : List (Nat × Nat)) : Prop := ∃ a xs, v = .ref a ∧ H a = some (.tup xs) ∧ Paired (TieV H) xs bs
theorem TiesV.keep {H H' : Hp} {v : V} {bs : List (Nat × Nat)} (h : TiesV H v bs) (g : Same H H') : TiesV H' v bs := by
  obtain ⟨a, xs, e, h1, h2⟩ := h
  exact ⟨a, xs, e, g _ _ h1, paired_mono (fun _ _ r => r.keep (Same.tups g)) h2⟩
/-- the marks hold vf where each tie's mark stands -/
theorem MkV.keep {H H' : Hp} {d : Addr} {ts : List (Nat × Nat)} {mk : Nat × Nat → Nat × Nat} {kvs : List (List L2.Key × V)} {ks : List (Nat × Nat)} {vf : Nat × Nat → V} (M : MkV H d ts mk kvs ks vf) (g : Same H H') : MkV H' d ts mk kvs ks vf :=
  ⟨g _ _ M.at_, M.dd, M.ks, fun t ht => ⟨(M.val t ht).1.keep (Same.tups g), (M.val t ht).2⟩⟩
theorem MkV.put {H : Hp} {d : Addr} {ts : List (Nat × Nat)} {mk : Nat × Nat → Nat × Nat} {kvs : List (List L2.Key × V)} {ks : List (Nat × Nat)} {vf : Nat × Nat → V} (M : MkV H d ts mk kvs ks vf) {mx mn : Nat × Nat} {v : V} (hx : mx ∈ ts) (hn : mn ∈ ts) (hv : TieV H v mn) :
    MkV (upd H d (.dT (putK kvs (tK mx) v))) d ts (fun u => if u = mx then mn else mk u) (putK kvs (tK mx) v) ks (fun u => if u = mx then v else vf u) := by
  have D := DD.put (fun a b => tK_inj) M.dd mx v
  have hxk := (M.ks mx).mpr hx
  rw [if_pos hxk] at D
  have kp : ∀ {v t}, TieV H v t → TieV (upd H d (.dT (putK kvs (tK mx) v))) v t := fun {v t} h => by
    obtain ⟨p, e, hp⟩ := h
    exact ⟨p, e, by rw [upd_ne (fun z => by rw [z, M.at_] at hp; cases hp)]; exact hp⟩
  have kp' : ∀ {v' t}, TieV H v' t → TieV (upd H d (.dT (putK kvs (tK mx) v))) v' t := fun {v' t} h => by
    obtain ⟨p, e, hp⟩ := h
    exact ⟨p, e, by rw [upd_ne (fun z => by rw [z, M.at_] at hp; cases hp)]; exact hp⟩
  refine ⟨upd_same, ⟨D.keys, D.nd, fun b => ?_, fun b => ?_⟩, M.ks, fun t ht => ?_⟩
  · rw [D.val]
    show (if b = mx then some v else _) = if b ∈ ks then some (if b = mx then v else vf b) else none
    by_cases e : b = mx
    · rw [if_pos e, if_pos (e ▸ hxk), if_pos e]
    · rw [if_neg e, if_neg e]
  · by_cases hb : b ∈ ks
    · simp only [hb, if_true, Option.isSome_some]
    · simp only [hb, if_false, Option.isSome_none]; simp
  · show TieV _ (if t = mx then v else vf t) (if t = mx then mn else mk t) ∧ (if t = mx then mn else mk t) ∈ ts
    by_cases e : t = mx
    · rw [if_pos e, if_pos e]; exact ⟨kp' hv, hn⟩
    · rw [if_neg e, if_neg e]; exact ⟨kp' (M.val t ht).1, (M.val t ht).2⟩
/-- first: by the part's number a tie at c into it -/
structure FiV (H : Hp) (sf : Addr) (c : Nat) (Rc : List Nat) (lab : Nat → Nat) (kf : List (L2.Key × V)) (lf : List Nat) (vl : Nat → V) (fo : Nat → Nat) : Prop where
  at_ : H sf = some (.dK kf)
  dd : DD nK kf lf fun a => if a ∈ lf then some (vl a) else none
  ok : ∀ a ∈ lf, TieV H (vl a) (mm (c, fo a)) ∧ fo a ∈ Rc ∧ lab (fo a) = a
theorem first_read {H : Hp} {σ : L2.St} {sf dp : Addr} {c o : Nat} {Rc : List Nat} {lab : Nat → Nat} {kf kp : List (L2.Key × V)} {lf : List Nat} {vl : Nat → V} {fo : Nat → Nat} {v3 : V} (F : FiV H sf c Rc lab kf lf vl fo) (h6 : σ[6]? = some (some (.ref sf))) (h5 : σ[5]? = some (some (.ref dp))) (h7 : σ[7]? = some (some (iv o))) (h3 : σ[3]? = some (some v3))
    (hp : H dp = some (.dK kp)) (hv : valV kp (nK o) = some (iv (lab o))) (ht : TieV H v3 (mm (c, o))) (ho : o ∈ Rc) (hl : lf.length ≤ 500) {Q : VK}
    (q : ∀ v8 o' H5 kf' lf' vl' fo', SameX sf H H5 → FiV H5 sf c Rc lab kf' lf' vl' fo' → TieV H5 v8 (mm (c, o')) → o' ∈ Rc → lab o' = lab o → lab o ∈ lf' → fo' (lab o) = o' → (∀ a ∈ lf, a ∈ lf' ∧ fo' a = fo a) → lf'.length ≤ lf.length + 1 → Q v8 H5) :
    tDSetd (tVar 6) (tDGet (tVar 5) (tVar 7)) (tVar 3) σ H Q := by
  refine ⟨.ref sf, h6, sf, rfl, .inl ⟨kf, .inl F.at_⟩, .ref dp, h5, iv o, h7, dp, iv (lab o), rfl, ?_, v3, h3, kf, nK (lab o), F.at_, rfl, by rw [F.dd.len]; exact small1000 (by omega), fun v hv' => ?_, fun hv' => ?_⟩
  · rw [← hv]; exact DGet.k (k := nK o) hp
  · rw [F.dd.val] at hv'
    by_cases hm : lab o ∈ lf
    · rw [if_pos hm] at hv'
      cases hv'
      obtain ⟨g1, g2, g3⟩ := F.ok _ hm
      exact q _ (fo (lab o)) H kf lf vl fo (fun _ _ _ e => e) F g1 g2 g3 hm rfl (fun a ha => ⟨ha, rfl⟩) (by omega)
    · rw [if_neg hm] at hv'; cases hv'
  · have hm : lab o ∉ lf := fun hm => by rw [F.dd.val, if_pos hm] at hv'; cases hv'
    have D := DD.put (fun a b => nK_inj) F.dd (lab o) v3
    rw [if_neg hm] at D
    have kp' : ∀ {v t}, TieV H v t → TieV (upd H sf (.dK (putK kf (nK (lab o)) v3))) v t := fun {v t} h => by
      obtain ⟨p, e, hp⟩ := h
      exact ⟨p, e, by rw [upd_ne (fun z => by rw [z, F.at_] at hp; cases hp)]; exact hp⟩
    refine q v3 o _ _ (lf ++ [lab o]) (fun a => if a = lab o then v3 else vl a) (fun a => if a = lab o then o else fo a) (SameX.put (fun _ _ _ e => e)) ⟨upd_same, ⟨D.keys, D.nd, fun b => ?_, fun b => ?_⟩, fun a ha => ?_⟩ (kp' ht) ho rfl (by simp) (if_pos rfl) (fun a ha => ⟨List.mem_append_left _ ha, if_neg fun (e : a = lab o) => hm (e ▸ ha)⟩) (by simp)
    · rw [D.val]
      show (if b = lab o then some v3 else _) = if b ∈ lf ++ [lab o] then some (if b = lab o then v3 else vl b) else none
      by_cases e : b = lab o
      · rw [if_pos e, if_pos (by simp [e]), if_pos e]
      · rw [if_neg e]
        by_cases hb : b ∈ lf
        · rw [if_pos hb, if_pos (List.mem_append_left _ hb), if_neg e]
        · rw [if_neg hb, if_neg (by simp [hb, e])]
    · by_cases hb : b ∈ lf ++ [lab o]
      · simp only [hb, if_true, Option.isSome_some]
      · simp only [hb, if_false, Option.isSome_none]; simp
    · show TieV _ (if a = lab o then v3 else vl a) (mm (c, if a = lab o then o else fo a)) ∧ (if a = lab o then o else fo a) ∈ Rc ∧ lab (if a = lab o then o else fo a) = a
      by_cases e : a = lab o
      · rw [if_pos e, if_pos e]; exact ⟨kp' ht, ho, e.symm⟩
      · rw [if_neg e, if_neg e]
        rcases List.mem_append.mp ha with h | h
        · exact ⟨kp' (F.ok a h).1, (F.ok a h).2⟩
        · simp at h; exact absurd h e
theorem MkV.keepX {H H' : Hp} {d sf : Addr} {kf : List (L2.Key × V)} {ts : List (Nat × Nat)} {mk : Nat × Nat → Nat × Nat} {kvs : List (List L2.Key × V)} {ks : List (Nat × Nat)} {vf : Nat × Nat → V} (M : MkV H d ts mk kvs ks vf) (hs : H sf = some (.dK kf)) (g : SameX sf H H') : MkV H' d ts mk kvs ks vf :=
  ⟨g _ _ (fun z => by have := M.at_; rw [z, hs] at this; cases this) M.at_, M.dd, M.ks, fun t ht => ⟨(M.val t ht).1.keepX hs g, (M.val t ht).2⟩⟩
theorem FiV.keepD {H H' : Hp} {d sf : Addr} {c : Nat} {Rc : List Nat} {lab : Nat → Nat} {kf : List (L2.Key × V)} {lf : List Nat} {vl : Nat → V} {fo : Nat → Nat} {kvs : List (List L2.Key × V)} (F : FiV H sf c Rc lab kf lf vl fo) (hd : H d = some (.dT kvs)) (g : SameX d H H') : FiV H' sf c Rc lab kf lf vl fo :=
  ⟨g _ _ (fun z => by have := F.at_; rw [z, hd] at this; cases this) F.at_, F.dd, fun a ha => ⟨by
    obtain ⟨p, e, hp⟩ := (F.ok a ha).1
    exact ⟨p, e, g _ _ (fun z => by rw [z, hd] at hp; cases hp) hp⟩, (F.ok a ha).2⟩⟩
theorem nd_sub_len {α : Type} [DecidableEq α] : ∀ {l m : List α}, l.Nodup → (∀ x ∈ l, x ∈ m) → l.length ≤ m.length
  | [], _, _, _ => Nat.zero_le _
  | x :: l, m, h, g => by
    have hx : x ∈ m := g x (by simp)
    have := nd_sub_len (l := l) (m := m.erase x) (List.nodup_cons.mp h).2 fun y hy => by
      have hne : y ≠ x := fun e => (List.nodup_cons.mp h).1 (e ▸ hy)
      exact (List.mem_erase_of_ne hne).mpr (g y (.tail _ hy))
    rw [List.length_erase_of_mem hx] at this
    have hpos : 0 < m.length := List.length_pos_of_mem hx
    rw [List.length_cons]
    omega
theorem minmax {H : Hp} {v9 v10 : V} {r9 r10 : Nat × Nat} (h9 : TieV H v9 r9) (h10 : TieV H v10 r10) (l9 : r9.2 < 20) (l10 : r10.2 < 20) : ∃ mx mn p q, (if tlt r9 r10 = true then v10 else v9) = .ref p ∧ H p = some (.tup [iv mx.1, iv mx.2]) ∧ (if tlt r10 r9 = true then v10 else v9) = .ref q ∧ H q = some (.tup [iv mn.1, iv mn.2]) ∧
    ((mx = r9 ∧ mn = r10) ∨ (mx = r10 ∧ mn = r9)) ∧ (mx ≠ mn → rk20 mn < rk20 mx) := by
  obtain ⟨p, rfl, hp⟩ := h9
  obtain ⟨q, rfl, hq⟩ := h10
  unfold tlt rk20
  by_cases h1 : r9.1 < r10.1 ∨ (r9.1 = r10.1 ∧ r9.2 < r10.2)
  · have e1 : (decide (r9.1 < r10.1) || (decide (r9.1 = r10.1) && decide (r9.2 < r10.2))) = true := by simpa using h1
    have e2 : ¬ (decide (r10.1 < r9.1) || (decide (r10.1 = r9.1) && decide (r10.2 < r9.2))) = true := by simp; omega
    rw [if_pos e1, if_neg e2]
    exact ⟨r10, r9, q, p, rfl, hq, rfl, hp, .inr ⟨rfl, rfl⟩, fun _ => by omega⟩
  · have e1 : ¬ (decide (r9.1 < r10.1) || (decide (r9.1 = r10.1) && decide (r9.2 < r10.2))) = true := by simpa using h1
    rw [if_neg e1]
    by_cases h2 : r10.1 < r9.1 ∨ (r10.1 = r9.1 ∧ r10.2 < r9.2)
    · have e2 : (decide (r10.1 < r9.1) || (decide (r10.1 = r9.1) && decide (r10.2 < r9.2))) = true := by simpa using h2
      rw [if_pos e2]
      exact ⟨r9, r10, p, q, rfl, hp, rfl, hq, .inl ⟨rfl, rfl⟩, fun _ => by omega⟩
    · have e2 : ¬ (decide (r10.1 < r9.1) || (decide (r10.1 = r9.1) && decide (r10.2 < r9.2))) = true := by simpa using h2
      rw [if_neg e2]
      have e : r10 = r9 := Prod.ext (by omega) (by omega)
      exact ⟨r9, r9, p, p, rfl, hp, rfl, hp, .inl ⟨rfl, e.symm⟩, fun h => absurd rfl h⟩
theorem alike_ties : ∀ p q : List (Nat × Nat), PySem.W.alike (.tuple (p.map tD)) (.tuple (q.map tD)) = true
  | [], _ => rfl
  | _ :: _, [] => rfl
  | _ :: p, _ :: q => alike_ties p q
theorem tiesv_dp {K : PySem.W.Frag} {H : Hp} : ∀ {vs : List V}, (∀ v ∈ vs, ∃ bs, TiesV H v bs ∧ bs ≠ []) → ∃ ds, DpAll K H vs ds ∧ ∀ d ∈ ds, ∃ b bs, d = .tuple ((b :: bs).map tD)
  | [], _ => ⟨[], .nil, by simp⟩
  | v :: vs, h => by
    obtain ⟨ds, h1, h2⟩ := tiesv_dp (K := K) (vs := vs) fun v hv => h v (.tail _ hv)
    obtain ⟨bs, ⟨a, xs, rfl, hx, hp⟩, hne⟩ := h v (.head _)
    refine ⟨.tuple (bs.map tD) :: ds, .cons (.tup (tq hx) (ties_dp hp)) h1, fun d hd => ?_⟩
    rcases List.mem_cons.mp hd with h | h
    · cases bs with
      | nil => exact absurd rfl hne
      | cons b bs => exact ⟨b, bs, h⟩
    · exact h2 d h
section
variable {P : Program} {w : World} {K : PySem.W.Frag} {mg : Str → Option Value} {base : Heap}
def spBlocksOf : Sp := fun vs H Q _ => ∃ (v : V) (n : Nat) (ts : List (Nat × Nat)), vs = [v] ∧ WebV H v n ts ∧ WebOk n ts ∧
  ∀ H' l vs (cls : Nat → Nat → Nat × Nat), Same H H' → H' l = some (.lst vs) → vs.length ≤ 60 → Cls (aE ts) cls → (∀ v ∈ vs, ∃ k bs, TiesV H' v bs ∧ bs ≠ [] ∧ bs.Nodup ∧ ∀ t, t ∈ bs ↔ t ∈ ts ∧ cls t.1 t.2 = k) → (∀ t ∈ ts, ∃ v ∈ vs, ∃ bs, TiesV H' v bs ∧ t ∈ bs) → Q (.ref l) H'
theorem k_blocks_of (A : At K mg "blocks_of" s_blocks_of) (B : Bt mg) (C_tie_of : Cal P w K mg base 1 "tie_of" spTieOf []) (C_neighbours_of : Cal P w K mg base 1 "neighbours_of" spNeighboursOf []) (C_part_numbers : Cal P w K mg base 1 "part_numbers" spPartNumbers []) (C_heads_of : Cal P w K mg base 1 "heads_of" spHeadsOf []) : Cal P w K mg base 2 "blocks_of" spBlocksOf [] := by
  refine mk A sc_blocks_of (fun _ _ _ _ _ _ us hl => match us, hl with | [_], _ => rfl) (fun vs H Q E h => ?_) (fun f cdv A outer s H vs Q E hr h => ?_)
  · obtain ⟨v, n, ts, rfl, _⟩ := h
    rfl
  · obtain ⟨v, n, ts, rfl, hw, ok, q⟩ := h
    refine ⟨_, (pss_cons (ps_par (i := 1) (j := 2) rfl sc_blocks_of.nd rfl rfl (by decide) rfl rfl (pa_cons pe_dnewT (pa_cons (pe_c C_neighbours_of hr (by decide) (by rfl) (pa_cons (pv 0) pa_nil)) pa_nil)) rfl)
    (pss_cons (ps_for PassesOwn.never rfl (pi_tup (pe_ix ix_tup (pv 0) pe_int (fun _ _ => rfl))) (pg_name (i := 3) sc_blocks_of.nd rfl (.inl rfl))
      (pss_one (ps_dput (hu_of hr) (pv 1) (pv 3) (pv 3) rfl)))
    (pss_cons (ps_for PassesOwn.never rfl (pi_range1 (by rfl) B.range (pa_cons (pe_ix ix_tup (pv 0) pe_int (fun _ _ => rfl)) pa_nil)) (pg_name (i := 4) sc_blocks_of.nd rfl (.inl rfl))
      (pss_cons (ps_par (i := 5) (j := 6) rfl sc_blocks_of.nd rfl rfl (by decide) rfl rfl (pa_cons (pe_c C_part_numbers hr (by decide) (by rfl) (pa_cons (pv 2) (pa_cons (pv 4) pa_nil))) (pa_cons pe_dnewK pa_nil)) rfl)
      (pss_one (ps_for PassesOwn.never rfl (pi_list (pe_ix ix_list (pv 2) (pv 4) (fun _ _ => rfl))) (pg_name (i := 7) sc_blocks_of.nd rfl (.inl rfl))
        (pss_cons (ps_set (i := 3) sc_blocks_of.nd rfl (.inl rfl) (pe_c C_tie_of hr (by decide) (by rfl) (pa_cons (pv 4) (pa_cons (pv 7) pa_nil))))
        (pss_cons (ps_set (i := 8) sc_blocks_of.nd rfl (.inl rfl) (pe_dsetd (pv 6) (pe_dget (hu_of hr) (pv 5) (pv 7) (fun _ _ => rfl)) (pv 3) ⟨rfl, rfl, rfl, rfl⟩))
        (pss_cons (ps_par (i := 9) (j := 10) rfl sc_blocks_of.nd rfl rfl (by decide) rfl rfl (pa_cons (pe_c C_heads_of hr (by decide) (by rfl) (pa_cons (pv 1) (pa_cons (pv 3) pa_nil))) (pa_cons (pe_c C_heads_of hr (by decide) (by rfl) (pa_cons (pv 1) (pa_cons (pv 8) pa_nil))) pa_nil)) rfl)
        (pss_one (ps_dput (hu_of hr) (pv 1) (pe_callB (call_maxT rfl (u65 hr)) (by rfl) B.max (by decide +kernel) (pa_cons (pv 9) (pa_cons (pv 10) pa_nil))) (pe_callB (call_minT rfl (u65 hr)) (by rfl) B.min (by decide +kernel) (pa_cons (pv 9) (pa_cons (pv 10) pa_nil))) rfl)))))))))
    (pss_cons (ps_set (i := 11) sc_blocks_of.nd rfl (.inr rfl) pe_dnewT)
    (pss_cons (ps_for PassesOwn.never rfl (pi_tup (pe_ix ix_tup (pv 0) pe_int (fun _ _ => rfl))) (pg_name (i := 3) sc_blocks_of.nd rfl (.inl rfl))
      (pss_one (ps_expr (pe_bm PySem.F.plainAttrs_list PySem.F.slot_list_append PySem.F.type_list_append mt_append (pe_dsetdT (hu_of hr) (pv 11) (pe_c C_heads_of hr (by decide) (by rfl) (pa_cons (pv 1) (pa_cons (pv 3) pa_nil))) (pe_lst pa_nil) ⟨rfl, rfl, rfl, rfl⟩) (pa_cons (pv 3) pa_nil)))))
    (pss_one (ps_ret (pe_callB (cr_sortedD (u65 hr)) (by rfl) B.sorted (by decide +kernel) (pa_cons (pe_lock (pe_lc (own := [("head", 12)]) rfl sc_blocks_of.nd (pi_keys (pv 11)) (blkOk_by (N := ["web", "marks", "near", "tie", "corner", "parts", "first", "other", "late", "one", "far", "found", "head"]) (sc := defScope s_blocks_of) (by decide +kernel)) (fun _ _ _ _ _ => (pg_name (i := 12) sc_blocks_of.nd rfl (.inl rfl) (.inr rfl))) (fun _ _ _ _ _ => pts_nil) (fun _ _ _ _ _ => (pe_callTy (r := rTupOf K) call_tuple_of (by rfl) B.tuple (by decide +kernel) (pa_cons (pe_dget (hu_of hr) (pv 11) (pv 12) (fun _ _ => rfl)) pa_nil))))) pa_nil))))))))), ?_⟩
    obtain ⟨wp, tp, ws, rfl, hwp, htp, hts⟩ := id hw
    intro d hd
    have s1 := same_upd (o := .dT []) hd
    have hd1 : upd H d (.dT []) d = some (.dT []) := upd_same
    generalize upd H d (.dT []) = H1 at s1 hd1 ⊢
    refine ⟨.ref wp, rfl, .ref wp, n, ts, rfl, hw.keep (Same.tups s1), ok, fun H2 a R s2 hR hlen hmem => ⟨_, _, rfl, ?_⟩⟩
    have s12 := Same.trans s1 s2
    have hd2 := s2 _ _ hd1
    refine ⟨.ref wp, rfl, wp, _, 2, .ref tp, rfl, rfl, tq (s12 _ _ hwp), atI_nat (j := 2) rfl, tp, rfl, ⟨_, tq (s12 _ _ htp)⟩, ?_⟩
    have hwl := paired_len hts
    have hnd := nodup_srt ok.srt
    refine for_it (walk_tup (K := K) (a := tp) (xs := ws)) (fun i σ H' => (∃ x, σ = [some (.ref wp), some (.ref d), some (.ref a), x, none, none, none, none, none, none, none, none, none]) ∧ Same H H' ∧ SameX d H2 H' ∧ ∃ kvs vf, MkV H' d (ts.take i) (fun t => t) kvs (ts.take i) vf)
      ⟨⟨none, rfl⟩, s12, fun _ _ _ e => e, [], fun _ => .non, ⟨hd2, ⟨by simp, by simp, fun _ => by simp; rfl, fun _ => by simp⟩, fun t => Iff.rfl, by simp⟩⟩ (fun i σ H' _ h => tq (h.2.1 _ _ htp)) (fun i x σ H' H'' hi h hx => ?_) (fun σ H3 h => ?_)
    · obtain ⟨⟨x', rfl⟩, s3, sx, kvs, vf, M⟩ := h
      obtain ⟨rfl, hx⟩ := hx
      obtain ⟨t, ht, r⟩ := paired_get hts hx
      have r3 : TieV H'' x t := r.keep (Same.tups s3)
      obtain ⟨p, rfl, hp⟩ := id r3
      have hti : t ∉ ts.take i := fun hm => by
        obtain ⟨m, hm1⟩ := List.getElem?_of_mem hm
        have hmi : m < i := by have := (List.getElem?_eq_some_iff.mp hm1).1; rw [List.length_take] at this; omega
        rw [List.getElem?_take_of_lt hmi] at hm1
        obtain ⟨b1, c1⟩ := List.getElem?_eq_some_iff.mp hm1
        obtain ⟨b2, c2⟩ := List.getElem?_eq_some_iff.mp ht
        have := nodup_idx hnd b1 b2 (c1.trans c2.symm)
        omega
      have etake : ts.take (i + 1) = ts.take i ++ [t] := by rw [List.take_add_one, ht]; rfl
      have hm := ok.many
      refine ⟨.ref p, rfl, .ref d, rfl, .ref p, rfl, d, _, rfl, DPut.t (k := tK t) M.at_ hp (by rw [M.dd.len, List.length_take]; exact small1000 (by omega)), ?_⟩
      have D := DD.put (fun a b => tK_inj) M.dd t (.ref p)
      rw [if_neg hti] at D
      have hpd : p ≠ d := fun z => by rw [z, M.at_] at hp; cases hp
      have kp : ∀ {v' u}, TieV H'' v' u → TieV (upd H'' d (.dT (putK kvs (tK t) (.ref p)))) v' u := fun {v' u} h => by
        obtain ⟨z, e, hz⟩ := h
        exact ⟨z, e, by rw [upd_ne (fun y => by rw [y, M.at_] at hz; cases hz)]; exact hz⟩
      refine ⟨⟨_, rfl⟩, fun b o e => by rw [upd_ne (ne_of_none e hd)]; exact s3 b o e, sx.put, _, fun u => if u = t then .ref p else vf u, ⟨upd_same, ⟨by rw [etake]; exact D.keys, by rw [etake]; exact D.nd, fun b => ?_, fun b => ?_⟩, fun u => Iff.rfl, fun u hu => ?_⟩⟩
      · rw [D.val]
        show (if b = t then some _ else _) = if b ∈ ts.take (i + 1) then some (if b = t then V.ref p else vf b) else none
        rw [etake]
        by_cases e : b = t
        · rw [if_pos e, if_pos (by simp [e]), if_pos e]
        · rw [if_neg e]
          by_cases hb : b ∈ ts.take i
          · rw [if_pos hb, if_pos (List.mem_append_left _ hb), if_neg e]
          · rw [if_neg hb, if_neg (by simp [hb, e])]
      · by_cases hb : b ∈ ts.take (i + 1)
        · simp only [hb, if_true, Option.isSome_some]
        · simp only [hb, if_false, Option.isSome_none]; simp
      · rw [etake] at hu
        show TieV _ (if u = t then V.ref p else vf u) u ∧ u ∈ ts.take (i + 1)
        rw [etake]
        refine ⟨?_, hu⟩
        by_cases e : u = t
        · rw [if_pos e, e]; exact kp r3
        · rw [if_neg e]
          rcases List.mem_append.mp hu with h | h
          · exact kp (M.val u h).1
          · simp at h; exact absurd h e
    · obtain ⟨⟨x', rfl⟩, s3, sx, kvs, vf, M⟩ := h
      rw [hwl, List.take_length] at M
      have hlt : ∀ t ∈ ts, t.1 < t.2 ∧ t.2 < n := ok.lt
      have hn := ok.hi
      have hmany := ok.many
      have hRn : ∀ a, ∀ y ∈ R a, y < n := fun a y hy => by
        rcases (hmem a y).mp hy with h | h
        · exact (hlt _ h).2
        · have := hlt _ h
          simp at this; omega
      have hsym : ∀ a d, d ∈ R a → a ∈ R d := fun a d h => (hmem d a).mpr (Or.symm ((hmem a d).mp h))
      have hAd : Ad R = aE ts := funext fun u => funext fun v => by
        rw [Bool.eq_iff_iff, Ad_iff, aE_iff, hmem]
      have hd2n : ∀ xs, H2 d ≠ some (.lst xs) := fun xs h => by rw [hd2] at h; cases h
      obtain ⟨rxs, hrx, hrl, hrow⟩ := hR.get
      refine ⟨.ref wp, rfl, wp, _, 1, iv n, rfl, rfl, tq (s3 _ _ hwp), atI_nat (j := 1) rfl, n, rfl, by omega, by omega, ?_⟩
      refine for_it walk_range (fun c σ H' => (∃ x3 x4 x5 x6 x7 x8 x9 x10, σ = [some (.ref wp), some (.ref d), some (.ref a), x3, x4, x5, x6, x7, x8, x9, x10, none, none]) ∧ Same H H' ∧ SameX d H2 H' ∧ ∃ kvs ks vf mk ρ, MkV H' d ts mk kvs ks vf ∧ UF ts mk ρ ∧ ∀ c', c' < c → ∀ o p, adj ts c' o → adj ts c' p → Conn (Av (aE ts) c') o p → ρ (mm (c', o)) = ρ (mm (c', p)))
        ⟨⟨_, _, _, _, _, _, _, _, rfl⟩, s3, sx, kvs, ts, vf, _, _, M, UF.start ts, fun c' h => absurd h (by omega)⟩ (fun c σ H' _ h => trivial) (fun c x σ H' H'' hc h hx => ?_) (fun σ H4 h => ?_)
      · obtain ⟨⟨x3, x4, x5, x6, x7, x8, x9, x10, rfl⟩, s4, sx4, kvs, ks, vf, mk, ρ, M, U, hone⟩ := h
        obtain ⟨rfl, hx⟩ := hx
        obtain rfl : x = iv c := hx.trans (by show V.int (0 + (c : Int)) = iv c; rw [Int.zero_add])
        have hcn : c < n := by omega
        have hR4 := hR.keepN hd2n sx4
        refine ⟨.ref a, rfl, iv c, rfl, a, n, c, R, rfl, hR4, hn, hcn, hlen, hRn, hsym, fun H5 dp kp kpk lab s5 hdp LD hall hlab => ?_⟩
        intro sf hsf
        refine ⟨_, _, rfl, ?_⟩
        have s6 := same_upd (o := .dK []) hsf
        have hsf6 : upd H5 sf (.dK []) sf = some (.dK []) := upd_same
        generalize upd H5 sf (.dK []) = H6 at s6 hsf6 ⊢
        have s46 : Same H'' H6 := Same.trans s5 s6
        have hsfH : H'' sf = none := none_of_same s5 hsf
        obtain ⟨rc, hrc1, hrc2⟩ := hrow c hcn
        have had : a ≠ d := fun z => by rw [z] at hrx; exact hd2n _ hrx
        have hrcd : rc ≠ d := fun z => by rw [z] at hrc2; exact hd2n _ hrc2
        refine ⟨.ref a, rfl, iv c, rfl, a, rxs, (c : Int), .ref rc, rfl, rfl, lq (s46 _ _ (sx4 _ _ had hrx)), atI_nat hrc1, rc, rfl, ⟨_, lq (s46 _ _ (sx4 _ _ hrcd hrc2))⟩, ?_⟩
        have hrc'' := sx4 _ _ hrcd hrc2
        have hdpd : dp ≠ d := fun z => by have := s5 _ _ M.at_; rw [← z, hdp] at this; cases this
        refine for_it (walk_list (K := K) (a := rc) (xs := ivs (R c))) (fun j σ H' => (∃ x3 x7 x8 x9 x10, σ = [some (.ref wp), some (.ref d), some (.ref a), x3, some (iv c), some (.ref dp), some (.ref sf), x7, x8, x9, x10, none, none]) ∧ Same H H' ∧ SameX d H'' H' ∧ H' dp = some (.dK kp) ∧ ∃ kf lf vl fo, FiV H' sf c (R c) lab kf lf vl fo ∧ lf.length ≤ j ∧
            ∃ kvs ks vf mk ρ, MkV H' d ts mk kvs ks vf ∧ UF ts mk ρ ∧ (∀ c', c' < c → ∀ o p, adj ts c' o → adj ts c' p → Conn (Av (aE ts) c') o p → ρ (mm (c', o)) = ρ (mm (c', p))) ∧ ∀ o ∈ (R c).take j, lab o ∈ lf ∧ ρ (mm (c, o)) = ρ (mm (c, fo (lab o))))
          ⟨⟨_, _, _, _, _, rfl⟩, Same.trans s4 s46, Same.x s46, s6 _ _ hdp, [], [], fun _ => .non, fun _ => 0, ⟨hsf6, ⟨rfl, by simp, fun _ => rfl, fun _ => by simp⟩, by simp⟩, Nat.le_refl 0, kvs, ks, vf, mk, ρ, M.keep s46, U, hone, by simp⟩
          (fun j σ H' _ h => lq (h.2.2.1 _ _ hrcd hrc'')) (fun j x σ H7 H8 hj h hx => ?_) (fun σ H7 h => ?_)
        · obtain ⟨⟨x3, x7, x8, x9, x10, rfl⟩, s7, sx7, hdp7, kf, lf, vl, fo, F7, hlf, kvs, ks, vf, mk, ρ, M, U, hone, hpre⟩ := h
          obtain ⟨rfl, hx⟩ := hx
          obtain ⟨o, ho, rfl⟩ := ivs_get hx
          have hoR : o ∈ R c := List.mem_of_getElem? ho
          have hRl := (hlen c).1
          have hjl : j < (R c).length := by simpa [ivs] using hj
          have hoc : ∀ z, adj ts c z → z ≠ c := fun z hz e => by
            rw [e] at hz
            rcases hz with hz | hz <;> (have := (hlt _ hz).1; simp at this)
          have etake : ∀ z, z ∈ (R c).take (j + 1) ↔ z ∈ (R c).take j ∨ z = o := fun z => by
            rw [List.take_add_one, ho]; simp
          have hlt1 : ∀ t ∈ ts, t.1 < t.2 := fun t ht => (hlt t ht).1
          have hin : ∀ z ∈ R c, mm (c, z) ∈ ts := fun z hz => mm_adj hlt1 ((hmem c z).mp hz)
          refine ⟨iv c, rfl, iv o, rfl, c, o, rfl, fun t ht => ?_⟩
          have s9 := same_upd (o := .tup [.int (min c o : Nat), .int (max c o : Nat)]) ht
          have ht9 : TieV (upd H8 t (.tup [.int (min c o : Nat), .int (max c o : Nat)])) (.ref t) (mm (c, o)) := ⟨t, rfl, upd_same⟩
          generalize upd H8 t (.tup [.int (min c o : Nat), .int (max c o : Nat)]) = H9 at s9 ht9 ⊢
          have F9 : FiV H9 sf c (R c) lab kf lf vl fo := ⟨s9 _ _ F7.at_, F7.dd, fun a ha => ⟨(F7.ok a ha).1.keep (Same.tups s9), (F7.ok a ha).2⟩⟩
          have hval : valV kp (nK o) = some (iv (lab o)) := by
            rw [LD.val, if_pos (hall o (hRn c o hoR)), if_neg (hoc o ((hmem c o).mp hoR))]
          refine first_read F9 rfl rfl rfl rfl (s9 _ _ hdp7) hval ht9 hoR (by omega) fun v8 o' H10 kf' lf' vl' fo' sx10 F10 h8 ho' hlo hmf hfo hold hl' => ?_
          have hsf9 := F9.at_
          have M10 := (M.keep s9).keepX hsf9 sx10
          have ht10 : TieV H10 (.ref t) (mm (c, o)) := ht9.keepX hsf9 sx10
          refine ⟨.ref d, rfl, .ref t, rfl, d, .ref t, mm (c, o), ts, mk, kvs, ks, vf, rk20, rfl, ht10, hin o hoR, M10, U.rk, fun v9 r9 h9 g9 m9 => ?_⟩
          refine ⟨.ref d, rfl, v8, rfl, d, v8, mm (c, o'), ts, mk, kvs, ks, vf, rk20, rfl, h8, hin o' ho', M10, U.rk, fun v10 r10 h10 g10 m10 => ⟨_, _, rfl, ?_⟩⟩
          have e9 : r9 = ρ (mm (c, o)) := g9.uniq (U.root _ (hin o hoR)).1
          have e10 : r10 = ρ (mm (c, o')) := g10.uniq (U.root _ (hin o' ho')).1
          obtain ⟨mx, mn, pm, qm, ex, hpm, en, hqm, hor, hrk⟩ := minmax h9 h10 (by have := (hlt _ m9).2; omega) (by have := (hlt _ m10).2; omega)
          refine ⟨v9, rfl, v10, rfl, v9, v10, r9, r10, rfl, h9, h10, .ref d, rfl, v9, rfl, v10, rfl, v9, v10, r9, r10, rfl, h9, h10, ?_⟩
          rw [ex, en]
          have hksl : ks.length ≤ 60 := by
            have := nd_sub_len M10.dd.nd fun t ht => (M10.ks t).mp ht
            omega
          refine ⟨d, _, rfl, DPut.t (k := tK mx) M10.at_ hpm (by rw [M10.dd.len]; exact small1000 (by omega)), ?_⟩
          have hmxt : mx ∈ ts := by rcases hor with ⟨rfl, _⟩ | ⟨rfl, _⟩ <;> assumption
          have hmnt : mn ∈ ts := by rcases hor with ⟨_, rfl⟩ | ⟨_, rfl⟩ <;> assumption
          have M11 := M10.put hmxt hmnt (v := .ref qm) ⟨qm, rfl, hqm⟩
          have hTT : ∀ T, Meets1 (aE ts) T → T (mm (c, o)).1 (mm (c, o)).2 = T (mm (c, o')).1 (mm (c, o')).2 := fun T hM => by
            have key : ∀ u v, T (mm (u, v)).1 (mm (u, v)).2 = T u v := fun u v => by
              by_cases h : u ≤ v
              · have : mm (u, v) = (u, v) := Prod.ext (Nat.min_eq_left h) (Nat.max_eq_right h)
                rw [this]
              · have : mm (u, v) = (v, u) := Prod.ext (Nat.min_eq_right (by omega)) (Nat.max_eq_left (by omega))
                rw [this, hM.1]
            rw [key, key]
            have ho1 := (hmem c o).mp hoR
            have ho2 := (hmem c o').mp ho'
            have hcn := (hlab o o' (hRn c o hoR) (hRn c o' ho') (hoc o ho1) (hoc o' ho2)).mp hlo.symm
            rw [hAd] at hcn
            exact hM.2 c o o' (aE_iff.mpr ho1) (aE_iff.mpr ho2) hcn
          obtain ⟨U', eU⟩ := U.union (hin o hoR) (hin o' ho') (mx := mx) (mn := mn) (by
            rcases hor with ⟨h1, h2⟩ | ⟨h1, h2⟩
            · exact .inl ⟨h1.trans e9, h2.trans e10⟩
            · exact .inr ⟨h1.trans e10, h2.trans e9⟩) hrk hTT
          have s810 : Same H'' H'' := fun _ _ e => e
          have sx810 : SameX sf H8 H10 := SameX.trans (Same.x s9) sx10
          have sF : Same H (upd H10 d (.dT (putK kvs (tK mx) (.ref qm)))) := fun b oo e => by
            rw [upd_ne (ne_of_none e hd)]
            exact sx810 b oo (ne_of_none (s4 b oo e) hsfH) (s7 b oo e)
          have sxF : SameX d H'' (upd H10 d (.dT (putK kvs (tK mx) (.ref qm)))) := SameX.put fun b oo hb e => sx810 b oo (ne_of_none e hsfH) (sx7 b oo hb e)
          refine ⟨⟨_, _, _, _, _, rfl⟩, sF, sxF, ?_, kf', lf', vl', fo', F10.keepD M10.at_ (SameX.put fun _ _ _ e => e), by omega, _, ks, _, _, _, M11, U', fun c' hc' z p h1 h2 h => un_eq (hone c' hc' z p h1 h2 h), fun z hz => ?_⟩
          · have hdps : dp ≠ sf := ne_of_none hdp hsf
            rw [upd_ne hdpd]
            exact sx810 _ _ hdps hdp7
          · rcases (etake z).mp hz with hz | hz
            · obtain ⟨k1, k2⟩ := hpre z hz
              obtain ⟨k3, k4⟩ := hold _ k1
              exact ⟨k3, by rw [k4]; exact un_eq k2⟩
            · rw [hz]
              exact ⟨hmf, by rw [hfo]; exact eU⟩
        · obtain ⟨⟨x3, x7, x8, x9, x10, rfl⟩, s7, sx7, hdp7, kf, lf, vl, fo, F7, hlf, kvs, ks, vf, mk, ρ, M, U, hone, hpre⟩ := h
          rw [show (R c).take (ivs (R c)).length = R c by simp [ivs]] at hpre
          refine ⟨⟨_, _, _, _, _, _, _, _, rfl⟩, s7, SameX.trans sx4 sx7, kvs, ks, vf, mk, ρ, M, U, fun c' hc' o p h1 h2 h => ?_⟩
          by_cases e : c' = c
          · rw [e] at h1 h2 h ⊢
            have ho := (hmem c o).mpr h1
            have hp := (hmem c p).mpr h2
            have hoc : ∀ z, adj ts c z → z ≠ c := fun z hz e => by
              rw [e] at hz
              rcases hz with hz | hz <;> (have := (hlt _ hz).1; simp at this)
            have hl : lab o = lab p := (hlab o p (hRn c o ho) (hRn c p hp) (hoc o h1) (hoc p h2)).mpr (by rw [hAd]; exact h)
            rw [(hpre o ho).2, (hpre p hp).2, hl]
          · exact hone c' (by omega) o p h1 h2 h
      · obtain ⟨⟨x3, x4, x5, x6, x7, x8, x9, x10, rfl⟩, s4, sx4, kvs, ks, vf, mk, ρ, M, U, hone⟩ := h
        have hone' : ∀ c o p, adj ts c o → adj ts c p → Conn (Av (aE ts) c) o p → ρ (mm (c, o)) = ρ (mm (c, p)) := fun c o p h1 h2 h => by
          have hcn : c < n := hRn o c ((hmem o c).mpr (Or.symm h1))
          exact hone c (by omega) o p h1 h2 h
        have hlt1 : ∀ t ∈ ts, t.1 < t.2 := fun t ht => (hlt t ht).1
        have hC := U.cls hlt1 hone'
        intro df hdf
        have s5 := same_upd (o := .dT []) hdf
        have hdf5 : upd H4 df (.dT []) df = some (.dT []) := upd_same
        generalize upd H4 df (.dT []) = H5 at s5 hdf5 ⊢
        refine ⟨.ref wp, rfl, wp, _, 2, .ref tp, rfl, rfl, tq (s5 _ _ (s4 _ _ hwp)), atI_nat (j := 2) rfl, tp, rfl, ⟨_, tq (s5 _ _ (s4 _ _ htp))⟩, ?_⟩
        refine for_it (walk_tup (K := K) (a := tp) (xs := ws)) (fun i σ H' => (∃ x3, σ = [some (.ref wp), some (.ref d), some (.ref a), x3, x4, x5, x6, x7, x8, x9, x10, some (.ref df), none]) ∧ ∃ gvs gks ga G, GG H4 H' df gvs gks ga G ∧ gks.length ≤ i ∧ (∀ r, G r = (ts.take i).filter fun t => decide (ρ t = r)) ∧ ∀ r, r ∈ gks ↔ ∃ t ∈ ts.take i, ρ t = r)
          ⟨⟨_, rfl⟩, [], [], fun _ => 0, fun _ => [], ⟨s5, hdf, hdf5, ⟨rfl, by simp, fun _ => rfl, fun _ => by simp⟩, by simp, by simp, by simp, fun _ _ => rfl⟩, Nat.le_refl 0, fun r => by simp, fun r => by simp⟩ (fun i σ H' _ h => ?_) (fun i x σ H' H'' hi h hx => ?_) (fun σ H6 h => ?_)
        · obtain ⟨_, _, _, _, _, F, _⟩ := h
          exact tq (F.sm _ _ (s4 _ _ htp))
        · obtain ⟨⟨x3, rfl⟩, gvs, gks, ga, G, F, hgl, hG, hgk⟩ := h
          obtain ⟨rfl, hx⟩ := hx
          obtain ⟨t, ht, r⟩ := paired_get hts hx
          have htm : t ∈ ts := List.mem_of_getElem? ht
          have hil := (List.getElem?_eq_some_iff.mp ht).1
          have rt : TieV H'' x t := r.keep (Same.tups (Same.trans s4 F.sm))
          have M6 := M.keep F.sm
          have etake : ts.take (i + 1) = ts.take i ++ [t] := by rw [List.take_add_one, ht]; rfl
          refine group_put F (r := ρ t) (t := t) (tv := x) rfl rfl rt (fun Q hQ => ?_) (by omega) ?_ fun H7 gvs' ga' F7 => ?_
          · refine ⟨.ref d, rfl, x, rfl, d, x, t, ts, mk, kvs, ks, vf, rk20, rfl, rt, htm, M6, U.rk, fun v' r' h1 h2 _ => ?_⟩
            have : r' = ρ t := h2.uniq (U.root t htm).1
            rw [this] at h1
            obtain ⟨rp, rfl, hrp⟩ := h1
            exact hQ rp hrp
          · rw [hG]
            have h1 := List.length_filter_le (fun u => decide (ρ u = ρ t)) (ts.take i)
            rw [List.length_take] at h1
            omega
          · refine ⟨⟨_, rfl⟩, gvs', _, ga', _, F7, by have := ins_len (ρ t) gks; omega, fun r => ?_, fun r => ?_⟩
            · rw [etake, List.filter_append]
              show (if r = ρ t then G (ρ t) ++ [t] else G r) = _ ++ List.filter _ [t]
              by_cases e : r = ρ t
              · rw [if_pos e, hG, List.filter_cons_of_pos (by simp [e]), e]; rfl
              · rw [if_neg e, hG, List.filter_cons_of_neg (by simpa using fun z => e z.symm)]; simp
            · rw [mem_ins, hgk, etake]
              constructor
              · rintro (h | ⟨u, hu, h⟩)
                · exact ⟨t, by simp, h.symm⟩
                · exact ⟨u, List.mem_append_left _ hu, h⟩
              · rintro ⟨u, hu, h⟩
                rcases List.mem_append.mp hu with g | g
                · exact .inr ⟨u, g, h⟩
                · simp at g; rw [g] at h; exact .inl h.symm
        · obtain ⟨⟨x3, rfl⟩, gvs, gks, ga, G, F, hgl, hG, hgk⟩ := h
          rw [hwl, List.take_length] at hG hgk
          have hgkl := F.dd.len
          refine ⟨df, .dT gvs, F.at_, trivial, fun od => ?_⟩
          have kpU : ∀ {v u o}, TieV H6 v u → TieV (upd H6 df o) v u := fun {v u o} h => by
            obtain ⟨z, e, hz⟩ := h
            exact ⟨z, e, by rw [upd_ne (fun y => by rw [y, F.at_] at hz; cases hz)]; exact hz⟩
          have hL1 : upd H6 df (.frz od (.dT gvs)) df = some (.frz od (.dT gvs)) := upd_same
          have hL2 : ∀ b o, b ≠ df → H6 b = some o → upd H6 df (.frz od (.dT gvs)) b = some o := fun b o hb e => by rw [upd_ne hb]; exact e
          have hL3 : ∀ r ∈ gks, ∃ xs, upd H6 df (.frz od (.dT gvs)) (ga r) = some (.lst xs) ∧ Paired (TieV (upd H6 df (.frz od (.dT gvs)))) xs (G r) := fun r hr => by
            obtain ⟨xs, h1, h2⟩ := F.row r hr
            exact ⟨xs, hL2 _ _ (F.ne hr) h1, paired_mono (fun _ _ h => kpU h) h2⟩
          have hL4 : ∀ b o, b ≠ df → upd H6 df (.frz od (.dT gvs)) b = some o → H6 b = some o := fun b o hb e => by rw [upd_ne hb] at e; exact e
          generalize hLe : upd H6 df (.frz od (.dT gvs)) = HL at hL1 hL2 hL3 hL4 ⊢
          refine ⟨.ref df, rfl, df, od, rfl, .inr ⟨gvs, hL1, fun D hD => ?_⟩⟩
          refine lc0 (walk_keysT (d := df) (o := od) (kvs := gvs)) (fun i H' => Same HL H' ∧ ∃ tvs, H' D = some (.lst tvs) ∧ tvs.length = i ∧ (∀ v ∈ tvs, ∃ r ∈ gks, TiesV H' v (G r)) ∧ ∀ k r, k < i → gks[k]? = some r → ∃ v ∈ tvs, TiesV H' v (G r))
            ⟨same_upd hD, [], upd_same, rfl, by simp, fun k r h => absurd h (by omega)⟩ (fun i H' _ h => h.1 _ _ hL1) (fun i x H' H'' hi h hx => ?_) (fun H7 h => ?_)
          · obtain ⟨s7, tvs, hD7, htl, htv, hcv⟩ := h
            obtain ⟨rfl, k, v, qk, hk, rfl, hqk⟩ := hx
            obtain ⟨r, hr, ek⟩ : ∃ r, gks[i]? = some r ∧ k = tK r := by
              have := congrArg (fun l => l[i]?) F.dd.keys
              simp only [List.getElem?_map, hk] at this
              cases e : gks[i]? with
              | none => rw [e] at this; cases this
              | some r =>
                rw [e] at this
                exact ⟨r, rfl, Option.some.inj this⟩
            subst ek
            have hrm : r ∈ gks := List.mem_of_getElem? hr
            obtain ⟨xs, hx1, hx2⟩ := hL3 r hrm
            have hg : DGet H'' df (.ref qk) (some (.ref (ga r))) := by
              refine .inr ⟨gvs, tK r, qk, .inr ⟨od, s7 _ _ hL1⟩, rfl, hqk, ?_⟩
              rw [F.dd.val, if_pos hrm]
            refine ⟨rfl, .ref df, rfl, .ref qk, rfl, df, .ref (ga r), rfl, hg, ga r, xs, rfl, .inl ⟨lq (s7 _ _ hx1), fun l hl => ?_⟩⟩
            have s8 := same_upd (o := .tup xs) hl
            have hl8 : upd H'' l (.tup xs) l = some (.tup xs) := upd_same
            generalize upd H'' l (.tup xs) = H8 at s8 hl8 ⊢
            have hD8 := s8 _ _ hD7
            have hlD : l ≠ D := fun z => by rw [z, hD8] at hl8; cases hl8
            have kpD : ∀ {v bs o}, TiesV H8 v bs → TiesV (upd H8 D o) v bs := fun {v bs o} h => by
              obtain ⟨z, zs, e, hz, hp⟩ := h
              refine ⟨z, zs, e, by rw [upd_ne (fun y => by rw [y, hD8] at hz; cases hz)]; exact hz, paired_mono (fun _ _ h => h.keepL hD8) hp⟩
            have hnew : TiesV H8 (.ref l) (G r) := ⟨l, xs, rfl, hl8, paired_mono (fun _ _ h => h.keep (Same.tups (Same.trans s7 s8))) hx2⟩
            have hgl2 : gvs.length ≤ 60 := by omega
            refine ⟨tvs, hD8, small1000 (by omega), same_list hD (Same.trans s7 s8), tvs ++ [.ref l], upd_same, by simp [htl], fun v hv => ?_, fun k r' hk' hr' => ?_⟩
            · rcases List.mem_append.mp hv with h | h
              · obtain ⟨u, hu, h2⟩ := htv v h
                exact ⟨u, hu, kpD (h2.keep s8)⟩
              · simp at h; rw [h]; exact ⟨r, hrm, kpD hnew⟩
            · by_cases e : k = i
              · rw [e, hr] at hr'
                cases hr'
                exact ⟨.ref l, by simp, kpD hnew⟩
              · obtain ⟨v, hv, h2⟩ := hcv k r' (by omega) hr'
                exact ⟨v, List.mem_append_left _ hv, kpD (h2.keep s8)⟩
          · obtain ⟨s7, tvs, hD7, htl, htv, hcv⟩ := h
            have hdf7 := s7 _ _ hL1
            have hDdf : D ≠ df := fun z => by rw [z, hdf7] at hD7; cases hD7
            refine ⟨hdf7, ?_⟩
            have kpT : ∀ {v u o}, TieV H7 v u → TieV (upd H7 df o) v u := fun {v u o} h => by
              obtain ⟨z, e, hz⟩ := h
              exact ⟨z, e, by rw [upd_ne (fun y => by rw [y, hdf7] at hz; cases hz)]; exact hz⟩
            have kpB : ∀ {v bs o}, TiesV H7 v bs → TiesV (upd H7 df o) v bs := fun {v bs o} h => by
              obtain ⟨z, zs, e, hz, hp⟩ := h
              exact ⟨z, zs, e, by rw [upd_ne (fun y => by rw [y, hdf7] at hz; cases hz)]; exact hz, paired_mono (fun _ _ h => kpT h) hp⟩
            have hD8 : upd H7 df (.dT gvs) D = some (.lst tvs) := by rw [upd_ne hDdf]; exact hD7
            have htv8 : ∀ v ∈ tvs, ∃ r ∈ gks, TiesV (upd H7 df (.dT gvs)) v (G r) := fun v hv => by
              obtain ⟨r, h1, h2⟩ := htv v hv
              exact ⟨r, h1, kpB h2⟩
            have hcv8 : ∀ k r, k < gvs.length → gks[k]? = some r → ∃ v ∈ tvs, TiesV (upd H7 df (.dT gvs)) v (G r) := fun k r h1 h2 => by
              obtain ⟨v, h3, h4⟩ := hcv k r h1 h2
              exact ⟨v, h3, kpB h4⟩
            have s8 : Same H (upd H7 df (.dT gvs)) := fun b o e => by
              have h4 := s4 b o e
              have hb : b ≠ df := ne_of_none h4 hdf
              rw [upd_ne hb]
              exact s7 b o (hL2 b o hb (F.sm b o h4))
            generalize upd H7 df (.dT gvs) = H8 at hD8 htv8 hcv8 s8 ⊢
            have hGne : ∀ r ∈ gks, G r ≠ [] := fun r hr e => by
              obtain ⟨t, ht, h⟩ := (hgk r).mp hr
              have : t ∈ G r := by rw [hG]; exact List.mem_filter.mpr ⟨ht, by simpa using h⟩
              rw [e] at this; cases this
            obtain ⟨ds, hds, hdt⟩ := tiesv_dp (K := K) (fun v hv => by
              obtain ⟨r, h1, h2⟩ := htv8 v hv
              exact ⟨G r, h2, hGne r h1⟩)
            refine ⟨D, tvs, ds, rfl, lq hD8, hds, fun d hd d' hd' => ?_, .inl fun d hd => ?_, fun d hd => ?_, fun ys p hperm hp => ?_⟩
            · obtain ⟨b, bs, rfl⟩ := hdt d hd
              obtain ⟨b', bs', rfl⟩ := hdt d' hd'
              exact alike_ties _ _
            · obtain ⟨b, bs, rfl⟩ := hdt d hd
              exact ⟨_, _, rfl⟩
            · obtain ⟨b, bs, rfl⟩ := hdt d hd
              have := tDs_dep (b :: bs)
              show PyData.depthAll ((b :: bs).map tD) + 1 ≤ 60
              omega
            · have s9 := same_upd (o := .lst ys) hp
              refine q _ p ys (fun u v => ρ (mm (u, v))) (Same.trans s8 s9) upd_same (by rw [hperm.length_eq]; omega) hC (fun v hv => ?_) fun t ht => ?_
              · obtain ⟨r, h1, h2⟩ := htv8 v (hperm.mem_iff.mp hv)
                refine ⟨r, G r, h2.keep s9, hGne r h1, by rw [hG]; exact hnd.filter _, fun t => ?_⟩
                rw [hG, List.mem_filter]
                constructor
                · rintro ⟨g1, g2⟩
                  exact ⟨g1, by show ρ (mm (t.1, t.2)) = r; rw [mm_of_lt (hlt1 t g1)]; simpa using g2⟩
                · rintro ⟨g1, g2⟩
                  have g2 : ρ (mm (t.1, t.2)) = r := g2
                  rw [mm_of_lt (hlt1 t g1)] at g2
                  exact ⟨g1, by simpa using g2⟩
              · have hr := (hgk (ρ t)).mpr ⟨t, ht, rfl⟩
                obtain ⟨k, hk⟩ := List.getElem?_of_mem hr
                obtain ⟨v, h1, h2⟩ := hcv8 k (ρ t) (by have := (List.getElem?_eq_some_iff.mp hk).1; omega) hk
                exact ⟨v, hperm.mem_iff.mpr h1, G (ρ t), h2.keep s9, by rw [hG]; exact List.mem_filter.mpr ⟨ht, by simp⟩⟩
end
end Wp
set_option maxHeartbeats 4000000
namespace Wp
open PySem PySem.Spec PyProof.Rows L2
open C8 (Cal pe_c pe_gc)
section
variable {P : Program} {w : World} {K : PySem.W.Frag} {mg : Str → Option Value} {base : Heap}
def spRoundThrough : Sp := fun vs H Q _ => ∃ (d : Addr) (c b0 : Nat) (kvs : List (List L2.Key × V)) (D : List Nat) (nx : Nat → Nat), vs = [.ref d, iv c, iv b0] ∧ H d = some (.dT kvs) ∧ (∀ b ∈ D, valV kvs (tK (c, b)) = some (iv (nx b)) ∧ nx b ∈ D) ∧ (∀ x ∈ D, ∀ y ∈ D, nx x = nx y → x = y) ∧ b0 ∈ D ∧ D.length ≤ 100 ∧
  ∀ H' a l, Same H H' → H' a = some (.lst (ivs l)) → l ≠ [] → l.length ≤ D.length → Q (.ref a) H'
theorem k_round_through (A : At K mg "round_through" s_round_through) (B : Bt mg) : Cal P w K mg base 1 "round_through" spRoundThrough [] := by
  refine mk A sc_round_through (fun _ _ _ _ _ _ us hl => match us, hl with | [_, _, _], _ => rfl) (fun vs H Q E h => ?_) (fun f cdv A outer s H vs Q E hr h => ?_)
  · obtain ⟨d, c, b0, kvs, D, nx, rfl, _⟩ := h
    rfl
  · obtain ⟨d, c, b0, kvs, D, nx, rfl, hd, hv, hinj, hb0, hDl, q⟩ := h
    refine ⟨_, (pss_cons (ps_par (i := 3) (j := 4) rfl sc_round_through.nd rfl rfl (by decide) rfl rfl (pa_cons (pe_lst (pa_cons (pv 2) pa_nil)) (pa_cons (pe_dget (hu_of hr) (pv 0) (pe_tup (pa_cons (pv 1) (pa_cons (pv 2) pa_nil))) (fun _ _ => rfl)) pa_nil)) rfl)
    (pss_cons (ps_while PassesOwn.never (pt_cmpR op_ne (pv 4) (pv 2) (nomark _))
      (pss_cons (ps_expr (pe_bm PySem.F.plainAttrs_list PySem.F.slot_list_append PySem.F.type_list_append mt_append (pv 3) (pa_cons (pv 4) pa_nil)))
      (pss_one (ps_set (i := 4) sc_round_through.nd rfl (.inl rfl) (pe_dget (hu_of hr) (pv 0) (pe_tup (pa_cons (pv 1) (pa_cons (pv 4) pa_nil))) (fun _ _ => rfl))))))
    (pss_one (ps_ret (pv 3))))), ?_⟩
    refine ⟨iv b0, rfl, by show 1 ≤ sizeLine; decide, fun a ha => ?_⟩
    have s1 := same_upd (o := .lst [iv b0]) ha
    have ha1 : upd H a (.lst [iv b0]) a = some (.lst (ivs [b0])) := upd_same
    generalize upd H a (.lst [iv b0]) = H1 at s1 ha1 ⊢
    refine ⟨.ref d, rfl, iv c, rfl, iv b0, rfl, by show 2 ≤ sizeLine; decide, fun p hp => ?_⟩
    have s2 := same_upd (o := .tup [iv c, iv b0]) hp
    have hp2 : upd H1 p (.tup [iv c, iv b0]) p = some (.tup [iv c, iv b0]) := upd_same
    generalize upd H1 p (.tup [iv c, iv b0]) = H2 at s2 hp2 ⊢
    have s12 := Same.trans s1 s2
    refine ⟨d, iv (nx b0), rfl, ?_, ⟨_, _, rfl, ?_⟩⟩
    · rw [← (hv b0 hb0).1]; exact DGet.t (k := tK (c, b0)) (s12 _ _ hd) hp2
    refine ⟨fun m σ H' => ∃ l z, σ = [some (.ref d), some (iv c), some (iv b0), some (.ref a), some (iv (nx z))] ∧ m = D.length - l.length ∧ Same H H' ∧ H' a = some (.lst (ivs l)) ∧ l.Nodup ∧ (∀ x ∈ l, x ∈ D) ∧ l.head? = some b0 ∧ l.getLast? = some z ∧ ∀ i x y, l[i]? = some x → l[i + 1]? = some y → nx x = y,
      ⟨_, [b0], b0, rfl, rfl, s12, s2 _ _ ha1, by simp, by simpa using hb0, rfl, rfl, fun i x y _ h2 => by simp at h2⟩, fun m σ H' h => ?_⟩
    obtain ⟨l, z, rfl, rfl, s3, ha3, hnd, hlD, hhd, hlast, hst⟩ := h
    have hlen := nd_sub_len hnd hlD
    have hzl : z ∈ l := List.mem_of_getLast? hlast
    have hzD := hlD z hzl
    refine ⟨iv (nx z), rfl, iv b0, rfl, rfl, decide (nx z ≠ b0), ?_, ?_⟩
    · exact congrArg V.bl (by rw [Bool.eq_iff_iff]; simp; omega)
    by_cases e : nx z = b0
    · rw [decide_eq_false (by simpa using e)]
      refine iteF ?_
      exact ⟨.ref a, rfl, q _ a l s3 ha3 (fun h => by rw [h] at hlast; cases hlast) hlen⟩
    · rw [decide_eq_true e]
      refine iteT ⟨_, fun _ _ h => h, ?_⟩
      have hno : nx z ∉ l := fun hm => by
        obtain ⟨i, hi⟩ := List.getElem?_of_mem hm
        cases i with
        | zero =>
          rw [← List.head?_eq_getElem?, hhd] at hi
          exact e (Option.some.inj hi).symm
        | succ i =>
          have hil := (List.getElem?_eq_some_iff.mp hi).1
          have hx : l[i]? = some l[i] := List.getElem?_eq_getElem (by omega)
          have h1 := hst i _ _ hx hi
          have h2 := hinj _ (hlD _ (List.mem_of_getElem? hx)) z hzD h1
          rw [List.getLast?_eq_getElem?] at hlast
          obtain ⟨b1, c1⟩ := List.getElem?_eq_some_iff.mp hlast
          have := nodup_idx hnd (i := i) (j := l.length - 1) (by omega) b1 (by rw [h2, c1])
          omega
      have hnD := (hv z hzD).2
      have hnd2 : (l ++ [nx z]).Nodup := nd_snoc hnd hno
      have hlD2 : ∀ x ∈ l ++ [nx z], x ∈ D := fun x hx => by
        rcases List.mem_append.mp hx with h | h
        · exact hlD x h
        · simp at h; rw [h]; exact hnD
      have hlen2 := nd_sub_len hnd2 hlD2
      rw [List.length_append] at hlen2
      refine ⟨.ref a, rfl, .inl ⟨rfl, _, lq ha3⟩, iv (nx z), rfl, a, _, iv (nx z), rfl, rfl, ha3, by rw [List.length_map]; exact small1000 (by omega), ?_⟩
      have s4 : Same H (upd H' a (.lst (ivs l ++ [iv (nx z)]))) := same_list ha s3
      have ha4 : upd H' a (.lst (ivs l ++ [iv (nx z)])) a = some (.lst (ivs (l ++ [nx z]))) := by rw [upd_same]; simp [ivs]
      generalize upd H' a (.lst (ivs l ++ [iv (nx z)])) = H4 at s4 ha4 ⊢
      refine ⟨.ref d, rfl, iv c, rfl, iv (nx z), rfl, by show 2 ≤ sizeLine; decide, fun p5 hp5 => ?_⟩
      have s5 := same_upd (o := .tup [iv c, iv (nx z)]) hp5
      have hp6 : upd H4 p5 (.tup [iv c, iv (nx z)]) p5 = some (.tup [iv c, iv (nx z)]) := upd_same
      generalize upd H4 p5 (.tup [iv c, iv (nx z)]) = H5 at s5 hp6 ⊢
      refine ⟨d, iv (nx (nx z)), rfl, ?_, ?_⟩
      · rw [← (hv (nx z) hnD).1]; exact DGet.t (k := tK (c, nx z)) (s5 _ _ (s4 _ _ hd)) hp6
      refine ⟨D.length - (l ++ [nx z]).length, by rw [List.length_append]; simp at hlen2 ⊢; omega, l ++ [nx z], nx z, rfl, rfl, Same.trans s4 s5, s5 _ _ ha4, hnd2, hlD2, ?_, List.getLast?_concat, fun i x y h1 h2 => ?_⟩
      · cases l with
        | nil => cases hlast
        | cons x l => exact hhd
      · by_cases hi : i + 1 < l.length
        · rw [List.getElem?_append_left (by omega)] at h1
          rw [List.getElem?_append_left hi] at h2
          exact hst i x y h1 h2
        · have hi2 : i + 1 = l.length := by
            have := (List.getElem?_eq_some_iff.mp h2).1
            simp at this; omega
          rw [List.getElem?_append_left (by omega)] at h1
          rw [List.getElem?_append_right (by omega), hi2, Nat.sub_self] at h2
          simp at h2
          rw [List.getLast?_eq_getElem?, show l.length - 1 = i by omega, h1] at hlast
          rw [← h2, Option.some.inj hlast]
end
end Wp
set_option maxHeartbeats 4000000
namespace Wp
open PySem PySem.Spec PyProof.Rows L2
open C8 (Cal pe_c pe_gc)
section
variable {P : Program} {w : World} {K : PySem.W.Frag} {mg : Str → Option Value} {base : Heap}
def spIsCorner : Sp := fun vs H Q _ => ∃ (v : V) (n c : Nat) (ts : List (Nat × Nat)), vs = [v, iv c] ∧ WebV H v n ts ∧ Q (.bl (decide (c < n))) H
theorem k_is_corner (A : At K mg "is_corner" s_is_corner) (B : Bt mg) (C_is_count : Cal P w K mg base 2 "is_count" spIsCount []) : Cal P w K mg base 3 "is_corner" spIsCorner [] := by
  refine mk A sc_is_corner (fun _ _ _ _ _ _ us hl => match us, hl with | [_, _], _ => rfl) (fun vs H Q E h => ?_) (fun f cdv A outer s H vs Q E hr h => ?_)
  · obtain ⟨v, n, c, ts, rfl, _⟩ := h
    rfl
  · obtain ⟨v, n, c, ts, rfl, ⟨p, tp, vs, rfl, hp, ht, hts⟩, q⟩ := h
    refine ⟨_, (pss_one (ps_ret (pe_and (pe_c C_is_count hr (by decide) (by rfl) (pa_cons (pv 1) pa_nil)) (pe_one (pe_cmpR op_lt (pv 1) (pe_ix ix_tup (pv 0) pe_int (fun _ _ => rfl)) (nomark _)))))), ?_⟩
    refine ⟨iv c, rfl, c, rfl, true, rfl, iteT ?_⟩
    refine ⟨iv c, rfl, .ref p, rfl, p, _, 1, iv n, rfl, rfl, tq hp, atI_nat (j := 1) rfl, c, n, rfl, rfl, ?_⟩
    have e : decide ((c : Int) < (n : Int)) = decide (c < n) := by rw [decide_eq_decide]; omega
    show Q (.bl (decide ((c : Int) < (n : Int)))) H
    rw [e]; exact q
def spWantWeb : Sp := fun vs H Q _ => ∃ (v : V) (n : Nat) (ts : List (Nat × Nat)), vs = [v] ∧ WebV H v n ts ∧ WebOk n ts ∧ ∀ H', Same H H' → Q v H'
theorem k_want_web (A : At K mg "want_web" s_want_web) (B : Bt mg) (C_is_web_value : Cal P w K mg base 4 "is_web_value" spIsWebValue []) : Cal P w K mg base 5 "want_web" spWantWeb [] := by
  refine mk A sc_want_web (fun _ _ _ _ _ _ us hl => match us, hl with | [_], _ => rfl) (fun vs H Q E h => ?_) (fun f cdv A outer s H vs Q E hr h => ?_)
  · obtain ⟨v, n, ts, rfl, _⟩ := h
    rfl
  · obtain ⟨v, n, ts, rfl, hw, ok, q⟩ := h
    refine ⟨_, (pss_cons (ps_if (pt_not (pt_val (pe_c C_is_web_value hr (by decide) (by rfl) (pa_cons (pv 0) pa_nil))))
      (pss_one ps_never)
      pss_nil)
    (pss_one (ps_ret (pv 0)))), ?_⟩
    refine ⟨v, rfl, v, n, ts, rfl, hw, ok, fun H' s1 => ?_⟩
    refine ⟨true, rfl, iteF ?_⟩
    exact ⟨v, rfl, q H' s1⟩
end
end Wp
set_option maxHeartbeats 4000000
namespace Wp
open PySem PySem.Spec PyProof.Rows L2
open C8 (Cal pe_c pe_gc)
/-- min of a list of numbers: one of them -/
theorem min_nats {K : PySem.W.Frag} {H : Hp} {a : Addr} {l : List Nat} {Q : VK} (ha : H a = some (.lst (ivs l))) (hne : l ≠ []) (q : ∀ x ∈ l, Q (iv x) H) : rMinD K [.ref a] H Q := by
  refine ⟨a, _, _, rfl, lq ha, ivs_dp l, ⟨fun d hd d' hd' => ?_, fun d hd => ?_⟩, ?_, by simpa using hne, fun k x d hx hd _ => ?_⟩
  · obtain ⟨k, _, rfl⟩ := List.mem_map.mp hd
    obtain ⟨k', _, rfl⟩ := List.mem_map.mp hd'
    rfl
  · obtain ⟨k, _, rfl⟩ := List.mem_map.mp hd
    exact fun z => by cases z
  · have := depth_nats l
    have h2 : (PyData.tuple (l.map fun (k : Nat) => .int (k : Int))).depth = PyData.depthAll (l.map fun (k : Nat) => .int (k : Int)) + 1 := rfl
    omega
  · obtain ⟨y, hy, rfl⟩ := ivs_get hx
    exact q y (List.mem_of_getElem? hy)
section
variable {P : Program} {w : World} {K : PySem.W.Frag} {mg : Str → Option Value} {base : Heap}
def spRoundFromLeast : Sp := fun vs H Q _ => ∃ (a : Addr) (l : List Nat), vs = [.ref a] ∧ H a = some (.lst (ivs l)) ∧ l ≠ [] ∧ l.length ≤ 2000 ∧ ∀ H' p, Same H H' → Q (.ref p) H'
theorem k_round_from_least (A : At K mg "round_from_least" s_round_from_least) (B : Bt mg) : Cal P w K mg base 1 "round_from_least" spRoundFromLeast [] := by
  refine mk A sc_round_from_least (fun _ _ _ _ _ _ us hl => match us, hl with | [_], _ => rfl) (fun vs H Q E h => ?_) (fun f cdv A outer s H vs Q E hr h => ?_)
  · obtain ⟨a, l, rfl, _⟩ := h
    rfl
  · obtain ⟨a, l, rfl, ha, hne, hl, q⟩ := h
    refine ⟨_, (pss_cons (ps_set (i := 1) sc_round_from_least.nd rfl (.inl rfl) (pe_bm PySem.F.plainAttrs_list PySem.F.slot_list_index PySem.F.type_list_index mt_index (pe_callTy call_list_of (by rfl) B.list (by decide +kernel) (pa_cons (pv 0) pa_nil)) (pa_cons (pe_callB (call_minDD rfl (u65 hr)) (by rfl) B.min (by decide +kernel) (pa_cons (pv 0) pa_nil)) pa_nil)))
    (pss_one (ps_ret (pe_callTy call_tuple_of (by rfl) B.tuple (by decide +kernel) (pa_cons (pe_op op_cat (pe_slice sl_list (pe_callTy call_list_of (by rfl) B.list (by decide +kernel) (pa_cons (pv 0) pa_nil)) (po_some (pv 1)) po_none) (pe_slice sl_list (pe_callTy call_list_of (by rfl) B.list (by decide +kernel) (pa_cons (pv 0) pa_nil)) po_none (po_some (pv 1)))) pa_nil))))), ?_⟩
    refine ⟨.ref a, rfl, a, _, rfl, .inl (lq ha), fun c1 h1 => ?_⟩
    have s1 := same_upd (o := .lst (ivs l)) h1
    have e1 : upd H c1 (.lst (ivs l)) c1 = some (.lst (ivs l)) := upd_same
    generalize upd H c1 (.lst (ivs l)) = H1 at s1 e1 ⊢
    refine ⟨.inl ⟨rfl, _, lq e1⟩, .ref a, rfl, ?_⟩
    have key : rMinD K [.ref a] H1 fun v H2 => ∃ x ∈ l, v = iv x ∧ H2 = H1 := min_nats (s1 _ _ ha) hne fun x hx => ⟨x, hx, rfl, rfl⟩
    obtain ⟨a', xs, ds, e0, hq1, hq2, hq3, hq4, hq5, hq6⟩ := key
    refine ⟨a', xs, ds, e0, hq1, hq2, hq3, hq4, hq5, fun k x d hx hd hm => ?_⟩
    obtain ⟨y, hy, rfl, _⟩ := hq6 k x d hx hd hm
    obtain ⟨L, R, rfl, hL⟩ := split_at hy
    refine ⟨c1, _, iv y, L.length, iv y, rfl, rfl, lq e1, rfl, flat_ivs _, idx1 L R y, idx2 y, idx3 hL, ?_⟩
    refine ⟨.ref a, rfl, a, _, rfl, .inl (lq (s1 _ _ ha)), fun c2 h2 => ?_⟩
    have s2 := same_upd (o := .lst (ivs (L ++ y :: R))) h2
    have e2 : upd H1 c2 (.lst (ivs (L ++ y :: R))) c2 = some (.lst (ivs (L ++ y :: R))) := upd_same
    generalize upd H1 c2 (.lst (ivs (L ++ y :: R))) = H2 at s2 e2 ⊢
    refine ⟨iv L.length, rfl, L.length, rfl, c2, _, rfl, lq e2, fun c3 h3 => ?_⟩
    rw [cut_from]
    have s3 := same_upd (o := .lst ((ivs (L ++ y :: R)).drop L.length)) h3
    have e3 : upd H2 c3 (.lst ((ivs (L ++ y :: R)).drop L.length)) c3 = some (.lst ((ivs (L ++ y :: R)).drop L.length)) := upd_same
    generalize upd H2 c3 (.lst ((ivs (L ++ y :: R)).drop L.length)) = H3 at s3 e3 ⊢
    refine ⟨.ref a, rfl, a, _, rfl, .inl (lq (s3 _ _ (s2 _ _ (s1 _ _ ha)))), fun c4 h4 => ?_⟩
    have s4 := same_upd (o := .lst (ivs (L ++ y :: R))) h4
    have e4 : upd H3 c4 (.lst (ivs (L ++ y :: R))) c4 = some (.lst (ivs (L ++ y :: R))) := upd_same
    generalize upd H3 c4 (.lst (ivs (L ++ y :: R))) = H4 at s4 e4 ⊢
    refine ⟨iv L.length, rfl, L.length, rfl, c4, _, rfl, lq e4, fun c5 h5 => ?_⟩
    rw [cut_to]
    have s5 := same_upd (o := .lst ((ivs (L ++ y :: R)).take L.length)) h5
    have e5 : upd H4 c5 (.lst ((ivs (L ++ y :: R)).take L.length)) c5 = some (.lst ((ivs (L ++ y :: R)).take L.length)) := upd_same
    generalize upd H4 c5 (.lst ((ivs (L ++ y :: R)).take L.length)) = H5 at s5 e5 ⊢
    refine ⟨c3, c5, _, _, rfl, rfl, s5 _ _ (s4 _ _ e3), e5, by rw [sizeLine_eq]; simp [ivs] at hl ⊢; omega, fun c6 h6 => ?_⟩
    have s6 := same_upd (o := .lst ((ivs (L ++ y :: R)).drop L.length ++ (ivs (L ++ y :: R)).take L.length)) h6
    have e6 : upd H5 c6 (.lst ((ivs (L ++ y :: R)).drop L.length ++ (ivs (L ++ y :: R)).take L.length)) c6 = some (.lst ((ivs (L ++ y :: R)).drop L.length ++ (ivs (L ++ y :: R)).take L.length)) := upd_same
    generalize upd H5 c6 (.lst ((ivs (L ++ y :: R)).drop L.length ++ (ivs (L ++ y :: R)).take L.length)) = H6 at s6 e6 ⊢
    exact ⟨c6, _, rfl, .inl ⟨lq e6, fun c7 h7 => q _ c7 (Same.trans s1 (Same.trans s2 (Same.trans s3 (Same.trans s4 (Same.trans s5 (Same.trans s6 (same_upd h7)))))))⟩⟩
end
end Wp
set_option maxHeartbeats 4000000
namespace Wp
open PySem PySem.Spec PyProof.Rows L2
open C8 (Cal pe_c pe_gc)
open Wb (pd dart)
theorem at_mod {l : List Nat} {i x : Nat} (hx : l[i]? = some x) : ∃ y, l[(i + 1) % l.length]? = some y ∧ (x, y) ∈ steps l := by
  have hi := (List.getElem?_eq_some_iff.mp hx).1
  have hm : (i + 1) % l.length < l.length := Nat.mod_lt _ (by omega)
  refine ⟨l[(i + 1) % l.length], List.getElem?_eq_getElem hm, ?_⟩
  obtain ⟨p, h1, h2⟩ := steps_get (List.getElem?_eq_getElem hm)
  have hp : p = x := by
    by_cases e : i + 1 < l.length
    · rw [Nat.mod_eq_of_lt e] at h1
      rw [show ((i + 1 : Nat) : Int) - 1 = (i : Int) by omega, atI_nat hx] at h1
      exact (Option.some.inj h1).symm
    · have e2 : i + 1 = l.length := by omega
      rw [e2, Nat.mod_self] at h1
      unfold atI ixN at h1
      rw [if_neg (by omega), if_pos (by omega)] at h1
      have h1 : l[(((0 : Nat) : Int) - 1 + (l.length : Int)).toNat]? = some p := h1
      rw [show (((0 : Nat) : Int) - 1 + (l.length : Int)).toNat = i by omega, hx] at h1
      exact (Option.some.inj h1).symm
  rw [hp] at h2
  exact List.mem_of_getElem? h2
theorem steps_idx {l : List Nat} {u v : Nat} (h : (u, v) ∈ steps l) : ∃ k : Nat, l[k]? = some v ∧ atI l ((k : Int) - 1) = some u := by
  obtain ⟨k, hk⟩ := List.getElem?_of_mem h
  have hkl : k < l.length := by
    have := (List.getElem?_eq_some_iff.mp hk).1
    rwa [steps_len] at this
  obtain ⟨p, h1, h2⟩ := steps_get (List.getElem?_eq_getElem hkl)
  rw [hk] at h2
  cases h2
  exact ⟨k, List.getElem?_eq_getElem hkl, h1⟩
theorem idx_uniq {l : List Nat} (hn : l.Nodup) {i j x : Nat} (hi : l[i]? = some x) (hj : l[j]? = some x) : i = j := by
  obtain ⟨b1, c1⟩ := List.getElem?_eq_some_iff.mp hi
  obtain ⟨b2, c2⟩ := List.getElem?_eq_some_iff.mp hj
  exact nodup_idx hn b1 b2 (c1.trans c2.symm)
theorem pred_is {l : List Nat} (hn : l.Nodup) {k x c : Nat} (hk : l[k]? = some c) (h : (x, c) ∈ steps l) : atI l ((k : Int) - 1) = some x := by
  obtain ⟨j, h1, h2⟩ := steps_idx h
  rw [idx_uniq hn hk h1]; exact h2
theorem succ_is {l : List Nat} (hn : l.Nodup) {k c y : Nat} (hk : l[k]? = some c) (h : (c, y) ∈ steps l) : l[(k + 1) % l.length]? = some y := by
  obtain ⟨j, h1, h2⟩ := steps_idx h
  have hkl := (List.getElem?_eq_some_iff.mp hk).1
  have hjl := (List.getElem?_eq_some_iff.mp h1).1
  have e : (k + 1) % l.length = j := by
    cases j with
    | zero =>
      unfold atI ixN at h2
      rw [if_neg (by omega), if_pos (by omega)] at h2
      have h2 : l[(((0 : Nat) : Int) - 1 + (l.length : Int)).toNat]? = some c := h2
      rw [show (((0 : Nat) : Int) - 1 + (l.length : Int)).toNat = l.length - 1 by omega] at h2
      have := idx_uniq hn hk h2
      rw [show k + 1 = l.length by omega, Nat.mod_self]
    | succ j =>
      have h3 : l[j]? = some l[j] := List.getElem?_eq_getElem (by omega)
      rw [show ((j + 1 : Nat) : Int) - 1 = (j : Int) by omega, atI_nat h3] at h2
      have := idx_uniq hn hk (h3.trans h2)
      rw [this, Nat.mod_eq_of_lt hjl]
  rw [e]; exact h1
theorem same_dict {H0 H : Hp} {d : Addr} {o : HO} (hd : H0 d = none) (h : Same H0 H) : Same H0 (upd H d o) := fun b x e => by
  rw [upd_ne (ne_of_none e hd)]; exact h b x e
section
variable {P : Program} {w : World} {K : PySem.W.Frag} {mg : Str → Option Value} {base : Heap}
def spFollowingBy : Sp := fun vs H Q _ => ∃ (a : Addr) (rs : List (List Nat)) (n : Nat), vs = [.ref a] ∧ RL H a rs ∧ rs.length ≤ 200 ∧ n ≤ 20 ∧ (∀ r ∈ rs, r.Nodup ∧ ∀ x ∈ r, x < n) ∧ rs.Nodup ∧ (∀ r s u v, r ∈ rs → s ∈ rs → dart r u v = true → dart s u v = true → r = s) ∧
  ∀ H' d kvs, Same H H' → H' d = some (.dT kvs) → (∀ r ∈ rs, ∀ x c y, dart r x c = true → dart r c y = true → valV kvs (tK (c, y)) = some (iv x)) → Q (.ref d) H'
theorem k_following_by (A : At K mg "following_by" s_following_by) (B : Bt mg) : Cal P w K mg base 1 "following_by" spFollowingBy [] := by
  refine mk A sc_following_by (fun _ _ _ _ _ _ us hl => match us, hl with | [_], _ => rfl) (fun vs H Q E h => ?_) (fun f cdv A outer s H vs Q E hr h => ?_)
  · obtain ⟨a, rs, n, rfl, _⟩ := h
    rfl
  · obtain ⟨a, rs, n, rfl, hrs, hrl, hn, hnd, hrn, huq, q⟩ := h
    refine ⟨_, (pss_cons (ps_set (i := 1) sc_following_by.nd rfl (.inl rfl) pe_dnewT)
    (pss_cons (ps_for PassesOwn.never rfl (pi_list (pv 0)) (pg_name (i := 2) sc_following_by.nd rfl (.inl rfl))
      (pss_one (ps_for PassesOwn.never rfl (pi_enum (by rfl) B.enumerate (pa_cons (pv 2) pa_nil)) (pg_tup rfl (pgs_cons (pg_name (i := 3) sc_following_by.nd rfl (.inl rfl)) (pgs_cons (pg_name (i := 4) sc_following_by.nd rfl (.inl rfl)) pgs_nil)))
        (pss_cons (ps_par (i := 5) (j := 6) rfl sc_following_by.nd rfl rfl (by decide) rfl rfl (pa_cons (pe_ix ix_list (pv 2) (pe_op op_sub (pv 3) pe_int) (fun _ _ => rfl)) (pa_cons (pe_ix ix_list (pv 2) (pe_op op_mod (pe_op op_add (pv 3) pe_int) (pe_callB call_len_seq (by rfl) B.len (by decide +kernel) (pa_cons (pv 2) pa_nil))) (fun _ _ => rfl)) pa_nil)) rfl)
        (pss_cons (ps_if (pt_cmp (pc_din (hu_of hr) (pe_tup (pa_cons (pv 4) (pa_cons (pv 6) pa_nil))) (pv 1)))
          (pss_one (ps_ret pe_non))
          pss_nil)
        (pss_one (ps_dput (hu_of hr) (pv 1) (pe_tup (pa_cons (pv 4) (pa_cons (pv 6) pa_nil))) (pv 5) rfl)))))))
    (pss_one (ps_ret (pv 1))))), ?_⟩
    intro d hd
    obtain ⟨vs, ha, hvs⟩ := id hrs
    have s1 := same_upd (o := .dT []) hd
    refine ⟨.ref a, rfl, a, rfl, ⟨_, lq (s1 _ _ ha)⟩, ?_⟩
    have hvl := paired_len hvs
    refine for_it (walk_list (K := K) (a := a) (xs := vs)) (fun i σ H' => (∃ x2 x3 x4 x5 x6, σ = [some (.ref a), some (.ref d), x2, x3, x4, x5, x6]) ∧ Same H H' ∧ ∃ kvs KS fo, H' d = some (.dT kvs) ∧ DD tK kvs KS (fun t => if t ∈ KS then some (iv (fo t)) else none) ∧ (∀ t ∈ KS, t.1 < n ∧ t.2 < n ∧ ∃ r ∈ rs.take i, (t.1, t.2) ∈ steps r) ∧
        ∀ r ∈ rs.take i, ∀ c y, (c, y) ∈ steps r → (c, y) ∈ KS ∧ ∀ x, (x, c) ∈ steps r → fo (c, y) = x)
      ⟨⟨_, _, _, _, _, rfl⟩, s1, [], [], fun _ => 0, upd_same, ⟨rfl, by simp, fun _ => rfl, fun _ => by simp⟩, by simp, by simp⟩ (fun i σ H' _ h => lq (h.2.1 _ _ ha)) (fun i x σ H' H'' hi h hx => ?_) (fun σ H' h => ?_)
    · obtain ⟨⟨x2, x3, x4, x5, x6, rfl⟩, s2, kvs, KS, fo, hd2, D2, hK, hF⟩ := h
      obtain ⟨rfl, hx⟩ := hx
      obtain ⟨r, hr, rp, rfl, hrp0⟩ := paired_get hvs hx
      have hrp := s2 _ _ hrp0
      have hrm : r ∈ rs := List.mem_of_getElem? hr
      obtain ⟨hrn1, hrlt⟩ := hnd r hrm
      refine ⟨.ref rp, rfl, rp, _, rfl, lq hrp, ?_⟩
      have etake : ∀ z, z ∈ rs.take (i + 1) ↔ z ∈ rs.take i ∨ z = r := fun z => by
        rw [List.take_add_one, hr]; simp
      refine for_it (walk_enum (K := K) (a := rp) (xs := ivs r)) (fun j σ H' => (∃ x3 x4 x5 x6, σ = [some (.ref a), some (.ref d), some (.ref rp), x3, x4, x5, x6]) ∧ Same H H' ∧ ∃ kvs KS fo, H' d = some (.dT kvs) ∧ DD tK kvs KS (fun t => if t ∈ KS then some (iv (fo t)) else none) ∧
          (∀ t ∈ KS, t.1 < n ∧ t.2 < n ∧ ((∃ r' ∈ rs.take i, (t.1, t.2) ∈ steps r') ∨ ∃ k : Nat, k < j ∧ r[k]? = some t.1 ∧ (t.1, t.2) ∈ steps r)) ∧ (∀ r' ∈ rs.take i, ∀ c y, (c, y) ∈ steps r' → (c, y) ∈ KS ∧ ∀ x, (x, c) ∈ steps r' → fo (c, y) = x) ∧
          ∀ (k : Nat) c, k < j → r[k]? = some c → ∀ y, (c, y) ∈ steps r → (c, y) ∈ KS ∧ ∀ x, (x, c) ∈ steps r → fo (c, y) = x)
        ⟨⟨_, _, _, _, rfl⟩, s2, kvs, KS, fo, hd2, D2, fun t ht => ⟨(hK t ht).1, (hK t ht).2.1, .inl (hK t ht).2.2⟩, hF, fun k c h => absurd h (by omega)⟩ (fun j σ H' _ h => lq (h.2.1 _ _ hrp0)) (fun j x σ H3 H4 hj h hx => ?_) (fun σ H3 h => ?_)
      · obtain ⟨⟨x3, x4, x5, x6, rfl⟩, s3, kvs, KS, fo, hd3, D3, hK3, hF3, hG3⟩ := h
        obtain ⟨pp, x1, v, rfl, hpp, rfl, e1, e2⟩ := hx
        cases e1
        obtain ⟨c, hc, rfl⟩ := ivs_get e2
        have s4 := same_upd (o := .tup [.int (j : Nat), iv c]) hpp
        have hpt : upd H3 pp (.tup [.int (j : Nat), iv c]) pp = some (.tup [.int (j : Nat), iv c]) := upd_same
        generalize upd H3 pp (.tup [.int (j : Nat), iv c]) = H4 at s4 hpt ⊢
        have hrp4 := s4 _ _ (s3 _ _ hrp0)
        have hjl := (List.getElem?_eq_some_iff.mp hc).1
        obtain ⟨x, hx1, hx2⟩ := steps_get hc
        obtain ⟨y, hy1, hy2⟩ := at_mod hc
        refine ⟨pp, _, rfl, tq hpt, rfl, iv j, _, rfl, iv c, [], rfl, rfl, ?_⟩
        refine ⟨.ref rp, rfl, iv j, rfl, (j : Int), 1, rfl, rfl, rp, _, _, iv x, rfl, rfl, lq hrp4, atI_map hx1, .ref rp, rfl, iv j, rfl, (j : Int), 1, rfl, rfl, .ref rp, rfl, rp, _, rfl, .inl (lq hrp4), ?_⟩
        have hpos : (0 : Int) < ((ivs r).length : Nat) := by simp [ivs]; omega
        have hat : atI (ivs r) (((j : Int) + 1) % (((ivs r).length : Nat) : Int)) = some (iv y) := by
          rw [show ((j : Int) + 1) % (((ivs r).length : Nat) : Int) = (((j + 1) % r.length : Nat) : Int) by simp [ivs]]
          exact atI_map (atI_nat hy1)
        refine ⟨(j : Int) + 1, (((ivs r).length : Nat) : Int), rfl, rfl, hpos, rp, _, _, iv y, rfl, rfl, lq hrp4, hat, _, _, rfl, ?_⟩
        have hno : (c, y) ∉ KS := fun hm => by
          obtain ⟨_, _, h3⟩ := hK3 _ hm
          rcases h3 with ⟨r', h1, h2⟩ | ⟨k, h1, h2, _⟩
          · have he : r' = r := huq r' r c y (List.mem_of_mem_take h1) hrm (mem_steps_ring.mp h2) (mem_steps_ring.mp hy2)
            rw [he] at h1
            obtain ⟨k, hk⟩ := List.getElem?_of_mem h1
            have hki : k < i := by
              have := (List.getElem?_eq_some_iff.mp hk).1
              rw [List.length_take] at this; omega
            rw [List.getElem?_take_of_lt hki] at hk
            obtain ⟨b1, c1⟩ := List.getElem?_eq_some_iff.mp hk
            obtain ⟨b2, c2⟩ := List.getElem?_eq_some_iff.mp hr
            have := nodup_idx hrn b1 b2 (c1.trans c2.symm)
            omega
          · have := idx_uniq hrn1 h2 hc
            omega
        have hcn : c < n := hrlt c (List.mem_of_getElem? hc)
        have hyn : y < n := hrlt y (List.mem_of_getElem? hy1)
        refine ⟨iv c, rfl, iv y, rfl, by show 2 ≤ sizeLine; decide, fun p5 hp5 => ?_⟩
        have s5 := same_upd (o := .tup [iv c, iv y]) hp5
        have hp6 : upd H4 p5 (.tup [iv c, iv y]) p5 = some (.tup [iv c, iv y]) := upd_same
        generalize upd H4 p5 (.tup [iv c, iv y]) = H5 at s5 hp6 ⊢
        refine ⟨.ref d, rfl, d, _, rfl, DGet.t (k := tK (c, y)) (s5 _ _ (s4 _ _ hd3)) hp6, ?_⟩
        rw [D3.val, if_neg hno]
        refine ⟨_, rfl, iteF ?_⟩
        refine ⟨iv x, rfl, .ref d, rfl, iv c, rfl, iv y, rfl, by show 2 ≤ sizeLine; decide, fun p7 hp7 => ?_⟩
        have s7 := same_upd (o := .tup [iv c, iv y]) hp7
        have hp8 : upd H5 p7 (.tup [iv c, iv y]) p7 = some (.tup [iv c, iv y]) := upd_same
        generalize upd H5 p7 (.tup [iv c, iv y]) = H7 at s7 hp8 ⊢
        have hd7 := s7 _ _ (s5 _ _ (s4 _ _ hd3))
        have hKl := pairs_of_len D3.nd hn fun t ht => ⟨(hK3 t ht).1, (hK3 t ht).2.1⟩
        refine ⟨d, _, rfl, DPut.t (k := tK (c, y)) hd7 hp8 (by rw [D3.len]; exact small1000 (by omega)), ?_⟩
        have D4 := DD.put (fun a b => tK_inj) D3 (c, y) (iv x)
        rw [if_neg hno] at D4
        have hfo : ∀ t : Nat × Nat, t ∈ KS → (if t = (c, y) then x else fo t) = fo t := fun t ht => if_neg fun (e : t = (c, y)) => hno (by rw [← e]; exact ht)
        refine ⟨⟨_, _, _, _, rfl⟩, same_dict hd (Same.trans s3 (Same.trans s4 (Same.trans s5 s7))), _, KS ++ [(c, y)], fun t => if t = (c, y) then x else fo t, upd_same, ⟨D4.keys, D4.nd, fun b => ?_, fun b => ?_⟩, fun t ht => ?_, fun r' hr' c' y' h => ?_, fun k c' hk hc' y' h => ?_⟩
        · rw [D4.val]
          show (if b = (c, y) then some (iv x) else if b ∈ KS then some (iv (fo b)) else none) = if b ∈ KS ++ [(c, y)] then some (iv (if b = (c, y) then x else fo b)) else none
          by_cases e : b = (c, y)
          · rw [if_pos e, if_pos (by simp [e]), if_pos e]
          · rw [if_neg e, if_neg e]
            by_cases hb : b ∈ KS
            · rw [if_pos hb, if_pos (List.mem_append_left _ hb)]
            · rw [if_neg hb, if_neg (by simp [hb, e])]
        · by_cases hb : b ∈ KS ++ [(c, y)]
          · simp only [hb, if_true, Option.isSome_some]
          · simp only [hb, if_false, Option.isSome_none]; simp
        · rcases List.mem_append.mp ht with h | h
          · obtain ⟨g1, g2, g3⟩ := hK3 t h
            refine ⟨g1, g2, ?_⟩
            rcases g3 with g3 | ⟨k, h1, h2, h3⟩
            · exact .inl g3
            · exact .inr ⟨k, by omega, h2, h3⟩
          · simp at h
            rw [h]
            exact ⟨hcn, hyn, .inr ⟨j, by omega, hc, hy2⟩⟩
        · obtain ⟨g1, g2⟩ := hF3 r' hr' c' y' h
          refine ⟨List.mem_append_left _ g1, fun z hz => ?_⟩
          show (if (c', y') = (c, y) then x else fo (c', y')) = z
          rw [hfo _ g1]; exact g2 z hz
        · by_cases e : k = j
          · have e2 : c' = c := by rw [e, hc] at hc'; exact (Option.some.inj hc').symm
            rw [e2] at h ⊢
            have e3 : y' = y := by
              have := succ_is hrn1 hc h
              rw [hy1] at this; exact (Option.some.inj this).symm
            rw [e3]
            refine ⟨by simp, fun z hz => ?_⟩
            show (if (c, y) = (c, y) then x else _) = z
            rw [if_pos rfl]
            have := pred_is hrn1 hc hz
            rw [hx1] at this; exact Option.some.inj this
          · obtain ⟨g1, g2⟩ := hG3 k c' (by omega) hc' y' h
            refine ⟨List.mem_append_left _ g1, fun z hz => ?_⟩
            show (if (c', y') = (c, y) then x else fo (c', y')) = z
            rw [hfo _ g1]; exact g2 z hz
      · obtain ⟨⟨x3, x4, x5, x6, rfl⟩, s3, kvs, KS, fo, hd3, D3, hK3, hF3, hG3⟩ := h
        refine ⟨⟨_, _, _, _, _, rfl⟩, s3, kvs, KS, fo, hd3, D3, fun t ht => ?_, fun r' hr' c y hcy => ?_⟩
        · obtain ⟨g1, g2, g3⟩ := hK3 t ht
          refine ⟨g1, g2, ?_⟩
          rcases g3 with ⟨r', h1, h2⟩ | ⟨k, _, _, h2⟩
          · exact ⟨r', (etake r').mpr (.inl h1), h2⟩
          · exact ⟨r, (etake r).mpr (.inr rfl), h2⟩
        · rcases (etake r').mp hr' with h | h
          · exact hF3 r' h c y hcy
          · rw [h] at hcy ⊢
            have hc : c ∈ r := (Wb.dart_mem (mem_steps_ring.mp hcy)).1
            obtain ⟨k, hk⟩ := List.getElem?_of_mem hc
            exact hG3 k c (by have := (List.getElem?_eq_some_iff.mp hk).1; simpa [ivs] using this) hk y hcy
    · obtain ⟨⟨x2, x3, x4, x5, x6, rfl⟩, s2, kvs, KS, fo, hd2, D2, hK, hF⟩ := h
      rw [hvl, List.take_length] at hF
      refine ⟨.ref d, rfl, q H' d kvs s2 hd2 fun r hr x c y h1 h2 => ?_⟩
      obtain ⟨g1, g2⟩ := hF r hr c y (mem_steps_ring.mpr h2)
      rw [D2.val, if_pos g1, g2 x (mem_steps_ring.mpr h1)]
end
end Wp
set_option maxHeartbeats 4000000
namespace Wp
open Wb
open PySem PySem.Spec PyProof.Rows L2
theorem web_gr {n : Nat} {ts : List (Nat × Nat)} (h : ∀ t ∈ ts, t.1 < t.2 ∧ t.2 < n) : Gr n (aE ts) where
  sym u v := by
    rw [Bool.eq_iff_iff, aE_iff, aE_iff]; unfold adj; exact Or.comm
  irr u := by
    cases e : aE ts u u with
    | false => rfl
    | true =>
      rcases aE_iff.mp e with h' | h' <;> (have := (h _ h').1; simp at this)
  bnd u v e := by
    rcases aE_iff.mp e with h' | h'
    · have := h _ h'; simp at this; omega
    · have := h _ h'; simp at this; omega
section
variable {n : Nat} {ts : List (Nat × Nat)} {cls : Nat → Nat → Nat × Nat}
theorem five_blk (G : Gr n (aE ts)) (C : Cls (aE ts) cls) (h : HasFive (aE ts)) : ∃ k, HasFive (blk (aE ts) cls k) := by
  obtain ⟨v, a, b, c, d, hn, hB⟩ := h
  have star : ∀ u w x, u ≠ w → u ≠ x → u ∈ [v, a, b, c, d] → w ∈ [v, a, b, c, d] → x ∈ [v, a, b, c, d] → cls u w = cls u x := fun u w x uw ux hu hw hx => by
    by_cases e : w = x
    · rw [e]
    · exact C.one u w x (hB u w uw hu hw) (hB u x ux hu hx) (Conn.one (Av_iff.mpr ⟨hB w x e hw hx, Ne.symm uw, Ne.symm ux⟩))
  have hva : v ≠ a := by simp at hn; omega
  have mv : v ∈ [v, a, b, c, d] := by simp
  have ma : a ∈ [v, a, b, c, d] := by simp
  refine ⟨cls v a, v, a, b, c, d, hn, fun u w huw hu hw => blk_iff.mpr ⟨hB u w huw hu hw, ?_⟩⟩
  by_cases e : u = v
  · subst e
    exact star u w a huw hva hu hw ma
  · rw [star u w v huw e hu hw mv, C.sym u v]
    exact star v u a (Ne.symm e) hva mv hu ma
theorem planar_blk (G : Gr n (aE ts)) (C : Cls (aE ts) cls) {k : Nat × Nat} (h : Planar n (aE ts)) : Planar n (blk (aE ts) cls k) := by
  obtain ⟨α, fc, P⟩ := h
  obtain ⟨fc', P'⟩ := P.restrict G (C.gr G k).sym fun u v e => (blk_iff.mp e).1
  exact ⟨α, fc', P'⟩
theorem blk_of (hlt : ∀ t ∈ ts, t.1 < t.2 ∧ t.2 < n) (C : Cls (aE ts) cls) {k : Nat × Nat} {bs : List (Nat × Nat)} (nd : bs.Nodup) (h : ∀ t, t ∈ bs ↔ t ∈ ts ∧ cls t.1 t.2 = k) : Blk n (blk (aE ts) cls k) bs where
  g := C.gr (web_gr hlt) k
  tc := C.tc (web_gr hlt) k
  con := C.con (web_gr hlt) k
  nd := nd
  lt t ht := hlt t ((h t).mp ht).1
  iff u v := by
    rw [blk_iff, aE_iff]
    unfold adj
    rw [h, h]
    constructor
    · rintro ⟨h1 | h1, h2⟩
      · exact .inl ⟨h1, h2⟩
      · exact .inr ⟨h1, by rw [← h2]; exact C.sym _ _⟩
    · rintro (⟨h1, h2⟩ | ⟨h1, h2⟩)
      · exact ⟨.inl h1, h2⟩
      · exact ⟨.inr h1, by rw [← h2]; exact C.sym _ _⟩
end
/-- round a corner of what is drawn -/
theorem round_of {n : Nat} {B : E2} {rs : List (List Nat)} (G : Gr n B) (R : RingsOk n B rs) (c : Nat) : ∃ nx : Nat → Nat, (∀ y, B c y = true → B c (nx y) = true ∧ ∃ r ∈ rs, dart r (nx y) c = true ∧ dart r c y = true) ∧ ∀ y z, B c y = true → B c z = true → nx y = nx z → y = z := by
  have ex : ∀ y, ∃ x, B c y = true → B c x = true ∧ ∃ r ∈ rs, dart r x c = true ∧ dart r c y = true := fun y => by
    by_cases h : B c y = true
    · obtain ⟨r, hr, hd⟩ := (R.iff c y).mp h
      obtain ⟨hn, h2, hlt⟩ := R.nd r hr
      obtain ⟨k, hk⟩ := List.getElem?_of_mem (dart_mem hd).1
      obtain ⟨x, _, hx⟩ := steps_get hk
      have hx := mem_steps_ring.mp (List.mem_of_getElem? hx)
      exact ⟨x, fun _ => ⟨G.symm ((R.iff x c).mpr ⟨r, hr, hx⟩), r, hr, hx, hd⟩⟩
    · exact ⟨0, fun e => absurd e h⟩
  obtain ⟨nx, hnx⟩ := Classical.axiomOfChoice ex
  refine ⟨nx, fun y h => hnx y h, fun y z hy hz e => ?_⟩
  obtain ⟨_, r, hr, h1, h2⟩ := hnx y hy
  obtain ⟨_, s, hs, h3, h4⟩ := hnx z hz
  rw [e] at h1
  have ers := R.uniq r s _ _ hr hs h1 h3
  subst ers
  obtain ⟨hn, _, _⟩ := R.nd r hr
  obtain ⟨k, hk⟩ := List.getElem?_of_mem (dart_mem h2).1
  have e1 := succ_is hn hk (mem_steps_ring.mpr h2)
  have e2 := succ_is hn hk (mem_steps_ring.mpr h4)
  rw [e1] at e2; exact Option.some.inj e2
/-! heaps that change at some addresses alone -/
def SameA (as : List Addr) (H H' : Hp) : Prop := ∀ b x, b ∉ as → H b = some x → H' b = some x
theorem Same.a {as : List Addr} {H H' : Hp} (h : Same H H') : SameA as H H' := fun b x _ e => h b x e
theorem SameA.trans {as : List Addr} {H H1 H2 : Hp} (h : SameA as H H1) (g : SameA as H1 H2) : SameA as H H2 := fun b x n e => g b x n (h b x n e)
theorem SameA.put {as : List Addr} {H H' : Hp} {p : Addr} {o : HO} (h : SameA as H H') (hp : p ∈ as) : SameA as H (upd H' p o) := fun b x n e => by
  rw [upd_ne (fun z : b = p => n (by rw [z]; exact hp))]; exact h b x n e
theorem SameA.same {as : List Addr} {H0 H H' : Hp} (h : SameA as H H') (h0 : Same H0 H) (hn : ∀ p ∈ as, H0 p = none) : Same H0 H' := fun b x e => h b x (fun m => by rw [hn b m] at e; cases e) (h0 b x e)
theorem RowsA.lst {H : Hp} {a : Addr} {as : List Addr} {R : Nat → List Nat} (h : RowsA H a as R) {b : Addr} (hb : b ∈ as) : ∃ l, H b = some (.lst (ivs l)) := by
  obtain ⟨i, hi⟩ := List.getElem?_of_mem hb
  exact ⟨_, h.row i b hi⟩
theorem RowsA.noTup {H : Hp} {a : Addr} {as : List Addr} {R : Nat → List Nat} (h : RowsA H a as R) {b : Addr} {xs : List V} (e : H b = some (.tup xs)) : b ∉ as := fun m => by
  obtain ⟨l, e2⟩ := h.lst m
  rw [e] at e2; cases e2
theorem RowsA.tie {H H' : Hp} {a : Addr} {as : List Addr} {R : Nat → List Nat} (h : RowsA H a as R) (s : SameA as H H') {v : V} {t : Nat × Nat} (ht : TieV H v t) : TieV H' v t := by
  obtain ⟨p, e, hp⟩ := ht
  exact ⟨p, e, s _ _ (h.noTup hp) hp⟩
theorem RowsA.ties {H H' : Hp} {a : Addr} {as : List Addr} {R : Nat → List Nat} (h : RowsA H a as R) (s : SameA as H H') {v : V} {bs : List (Nat × Nat)} (ht : TiesV H v bs) : TiesV H' v bs := by
  obtain ⟨p, xs, e, hp, hb⟩ := ht
  exact ⟨p, xs, e, s _ _ (h.noTup hp) hp, paired_mono (fun _ _ r => h.tie s r) hb⟩
theorem RowsA.ext {H : Hp} {a : Addr} {as : List Addr} {R : Nat → List Nat} (h : RowsA H a as R) {i : Nat} {m : List Nat} {p : Addr} (hp : as[i]? = some p) {l : List V} (hl : l = ivs (R i) ++ ivs m) :
    RowsA (upd H p (.lst l)) a as (fun k => if k = i then R i ++ m else R k) := by
  have hne := h.ne hp
  refine ⟨h.nd, by rw [upd_ne (Ne.symm hne)]; exact h.at_, fun k q hq => ?_⟩
  by_cases e : k = i
  · subst e
    rw [hp] at hq
    cases hq
    rw [upd_same, if_pos rfl, hl]
    simp [ivs]
  · rw [if_neg e, upd_ne ?_]
    · exact h.row k q hq
    · intro z
      subst z
      obtain ⟨h1, e1⟩ := List.getElem?_eq_some_iff.mp hq
      obtain ⟨h2, e2⟩ := List.getElem?_eq_some_iff.mp hp
      exact e (nodup_idx h.nd h1 h2 (e1.trans e2.symm))
theorem paired_uniq {α β : Type} {R : α → β → Prop} (f : ∀ a b c, R a b → R a c → b = c) : ∀ {xs : List α} {ys zs : List β}, Paired R xs ys → Paired R xs zs → ys = zs
  | _, _, _, .nil, .nil => rfl
  | _, _, _, .cons r h, .cons s g => by rw [f _ _ _ r s, paired_uniq f h g]
theorem tiesV_uniq {H : Hp} {v : V} {bs cs : List (Nat × Nat)} (h : TiesV H v bs) (g : TiesV H v cs) : bs = cs := by
  obtain ⟨p, xs, e, hp, hb⟩ := h
  obtain ⟨q, ys, e2, hq, hc⟩ := g
  rw [e] at e2
  cases e2
  rw [hp] at hq
  cases hq
  exact paired_uniq (R := TieV H) (fun _ _ _ r s => tieV_uniq r s) hb hc
end Wp
set_option maxHeartbeats 4000000
namespace Wp
open Wb
open PySem PySem.Spec PyProof.Rows L2
open C8 (Cal pe_c pe_gc)
section
variable {P : Program} {w : World} {K : PySem.W.Frag} {mg : Str → Option Value} {base : Heap}
def spMapDrawn : Sp := fun vs H Q _ => ∃ (v : V) (n : Nat) (ts : List (Nat × Nat)), vs = [v] ∧ WebV H v n ts ∧ WebOk n ts ∧ (∀ c, c < n → ∃ y, adj ts c y) ∧
  (∀ H', Same H H' → ¬ Planar n (aE ts) → Q .non H') ∧ ∀ H' p, Same H H' → ¬ HasFive (aE ts) → Q (.ref p) H'
theorem k_map_drawn (A : At K mg "map_drawn" s_map_drawn) (B : Bt mg) (C_blocks_of : Cal P w K mg base 2 "blocks_of" spBlocksOf []) (C_block_rings : Cal P w K mg base 5 "block_rings" spBlockRings []) (C_near_by : Cal P w K mg base 1 "near_by" spNearByT [])
    (C_following_by : Cal P w K mg base 1 "following_by" spFollowingBy []) (C_round_through : Cal P w K mg base 1 "round_through" spRoundThrough []) (C_round_from_least : Cal P w K mg base 1 "round_from_least" spRoundFromLeast []) : Cal P w K mg base 6 "map_drawn" spMapDrawn [] := by
  refine mk A sc_map_drawn (fun _ _ _ _ _ _ us hl => match us, hl with | [_], _ => rfl) (fun vs H Q E h => ?_) (fun f cdv A outer s H vs Q E hr h => ?_)
  · obtain ⟨v, n, ts, rfl, _⟩ := h
    rfl
  · obtain ⟨v, n, ts, rfl, hw0, ok, htied, q1, q2⟩ := h
    obtain ⟨p, tp, vs, rfl, hp, ht, hts⟩ := id hw0
    refine ⟨_, (pss_cons (ps_setLc (i := 1) (own := [("corner", 6)]) rfl sc_map_drawn.nd rfl rfl (sw_true rfl rfl rfl (by decide +kernel)) (pi_range1 (by rfl) B.range (pa_cons (pe_ix ix_tup (pv 0) pe_int (fun _ _ => rfl)) pa_nil)) (blkOk_by (N := ["web", "rounds", "ties", "rings", "near", "following", "corner", "row"]) (sc := defScope s_map_drawn) (by decide +kernel)) (fun _ _ _ _ _ => (pg_name (i := 6) sc_map_drawn.nd rfl (.inl rfl) (.inr rfl))) (fun _ _ _ _ _ => pts_nil) (fun _ _ _ _ _ => (pe_lst pa_nil)))
    (pss_cons (ps_for PassesOwn.never rfl (pi_list (pe_c C_blocks_of hr (by decide) (by rfl) (pa_cons (pv 0) pa_nil))) (pg_name (i := 2) sc_map_drawn.nd rfl (.inl rfl))
      (pss_cons (ps_par (i := 3) (j := 4) rfl sc_map_drawn.nd rfl rfl (by decide) rfl rfl (pa_cons (pe_c C_block_rings hr (by decide) (by rfl) (pa_cons (pv 2) pa_nil)) (pa_cons (pe_c C_near_by hr (by decide) (by rfl) (pa_cons (pv 2) pa_nil)) pa_nil)) rfl)
      (pss_cons (ps_if (pt_cmpR op_isN (pv 3) pe_non (nomark _))
        (pss_one (ps_ret pe_non))
        pss_nil)
      (pss_cons (ps_set (i := 5) sc_map_drawn.nd rfl (.inl rfl) (pe_c C_following_by hr (by decide) (by rfl) (pa_cons (pv 3) pa_nil)))
      (pss_one (ps_for PassesOwn.never rfl (pi_list (pe_callB cr_sorted (by rfl) B.sorted (by decide +kernel) (pa_cons (pe_callTy (call_list_dK rfl) (by rfl) B.list (by decide +kernel) (pa_cons (pv 4) pa_nil)) pa_nil))) (pg_name (i := 6) sc_map_drawn.nd rfl (.inl rfl))
        (pss_one (ps_expr (pe_bm PySem.F.plainAttrs_list PySem.F.slot_list_extend PySem.F.type_list_extend mt_extend (pe_ix ix_list (pv 1) (pv 6) (fun _ _ => rfl)) (pa_cons (pe_c C_round_through hr (by decide) (by rfl) (pa_cons (pv 5) (pa_cons (pv 6) (pa_cons (pe_callB (call_minDD rfl (u65 hr)) (by rfl) B.min (by decide +kernel) (pa_cons (pe_dget (hu_of hr) (pv 4) (pv 6) (fun _ _ => rfl)) pa_nil)) pa_nil)))) pa_nil))))))))))
    (pss_one (ps_ret (pe_tup (pa_cons pe_str (pa_cons (pv 0) (pa_cons (pe_callTy call_tuple_of (by rfl) B.tuple (by decide +kernel) (pa_cons (pe_lc (own := [("row", 7)]) rfl sc_map_drawn.nd (pi_list (pv 1)) (blkOk_by (N := ["web", "rounds", "ties", "rings", "near", "following", "corner", "row"]) (sc := defScope s_map_drawn) (by decide +kernel)) (fun _ _ _ _ _ => (pg_name (i := 7) sc_map_drawn.nd rfl (.inl rfl) (.inr rfl))) (fun _ _ _ _ _ => pts_nil) (fun _ _ _ _ _ => (pe_c C_round_from_least hr (by decide) (by rfl) (pa_cons (pv 7) pa_nil)))) pa_nil)) pa_nil)))))))), ?_⟩
    refine ⟨.ref p, rfl, p, _, 1, iv n, rfl, rfl, tq hp, atI_nat (j := 1) rfl, n, rfl, by omega, by have := ok.hi; omega, fun D hD => ?_⟩
    rw [Int.toNat_natCast]
    refine lc0 walk_range (fun i H' => Same H H' ∧ ∃ as, as.length = i ∧ (∀ p ∈ as, H p = none) ∧ RowsA H' D as fun _ => []) ?_ (fun i H' _ h => trivial) (fun i x H' H'' hi h hx => ?_) (fun H1 h => ?_)
    · exact ⟨same_upd hD, [], rfl, by simp, ⟨List.nodup_nil, upd_same, by simp⟩⟩
    · obtain ⟨s1, as, hl, hf, hr⟩ := h
      obtain ⟨rfl, rfl⟩ := hx
      refine ⟨rfl, Nat.zero_le _, fun p1 hp1 => ?_⟩
      have hpD : p1 ≠ D := fun e => by rw [e, hr.at_] at hp1; cases hp1
      have hH : H p1 = none := none_of_same s1 hp1
      refine ⟨as.map .ref, by rw [upd_ne (Ne.symm hpD)]; exact hr.at_, by rw [List.length_map, hl]; exact small1000 (by have := ok.hi; omega), ?_, as ++ [p1], by simp [hl], ?_, hr.new hp1 rfl rfl⟩
      · exact same_list hD (Same.trans s1 (same_upd hp1))
      · intro x hx
        rcases List.mem_append.mp hx with hx | hx
        · exact hf x hx
        · simp at hx; rw [hx]; exact hH
    · obtain ⟨s1, as, hl1, hf, hr1⟩ := h
      refine ⟨.ref p, rfl, .ref p, n, ts, rfl, hw0.keep (Same.tups s1), ok, fun H2 l bvs cls s2 hl2 hbl hC hbs hcov => ?_⟩
      have s12 := Same.trans s1 s2
      have hr2 := hr1.keep s2
      have hltn : ∀ t ∈ ts, t.1 < t.2 ∧ t.2 < n := ok.lt
      have G := web_gr hltn
      have hex : ∀ v, ∃ kb : (Nat × Nat) × List (Nat × Nat), v ∈ bvs → TiesV H2 v kb.2 ∧ kb.2 ≠ [] ∧ kb.2.Nodup ∧ ∀ t, t ∈ kb.2 ↔ t ∈ ts ∧ cls t.1 t.2 = kb.1 := fun v => by
        by_cases hv : v ∈ bvs
        · obtain ⟨k, bs, h⟩ := hbs v hv
          exact ⟨(k, bs), fun _ => h⟩
        · exact ⟨((0, 0), []), fun h => absurd h hv⟩
      obtain ⟨bf, hbf⟩ := Classical.axiomOfChoice hex
      have hcov2 : ∀ t ∈ ts, ∃ v ∈ bvs, t ∈ (bf v).2 := fun t ht => by
        obtain ⟨v, hv, bs, h1, h2⟩ := hcov t ht
        exact ⟨v, hv, by rw [tiesV_uniq (hbf v hv).1 h1]; exact h2⟩
      refine ⟨l, rfl, ⟨_, lq hl2⟩, ?_⟩
      refine for_it (walk_list (K := K) (a := l) (xs := bvs)) (fun i σ H' => (∃ x2 x3 x4 x5 x6, σ = [some (.ref p), some (.ref D), x2, x3, x4, x5, x6, none]) ∧ SameA as H2 H' ∧ H' l = some (.lst bvs) ∧ (∀ j v, j < i → bvs[j]? = some v → ¬ HasFive (blk (aE ts) cls (bf v).1)) ∧
          ∃ R, RowsA H' D as R ∧ (∀ c, (R c).length ≤ 20 * i) ∧ ∀ j v, j < i → bvs[j]? = some v → ∀ c y, adj (bf v).2 c y → R c ≠ [])
        ⟨⟨_, _, _, _, _, rfl⟩, fun _ _ _ e => e, hl2, fun j v h => absurd h (by omega), _, hr2, fun _ => Nat.le_refl 0, fun j v h => absurd h (by omega)⟩ (fun i σ H' _ h => lq h.2.2.1) (fun i x σ H' H'' hi h hx => ?_) (fun σ H' h => ?_)
      · obtain ⟨⟨x2, x3, x4, x5, x6, rfl⟩, sa, hl', hfv, R, hR, hRl, hRn⟩ := h
        obtain ⟨rfl, hx⟩ := hx
        have hxm : x ∈ bvs := List.mem_of_getElem? hx
        obtain ⟨hb1, hb2, hb3, hb4⟩ := hbf x hxm
        generalize hbe : bf x = kb at hb1 hb2 hb3 hb4
        obtain ⟨k, bs⟩ := kb
        simp only at hb1 hb2 hb3 hb4
        have KB : Blk n (blk (aE ts) cls k) bs := blk_of hltn hC hb3 hb4
        obtain ⟨ba, xs, rfl, hba, hxs⟩ := hr2.ties sa hb1
        have hlas : l ∉ as := fun m => by
          obtain ⟨l', e⟩ := hr2.lst m
          rw [hl2] at e
          have e2 : bvs = ivs l' := HO.lst.inj (Option.some.inj e)
          rw [e2] at hxm
          obtain ⟨_, _, e3⟩ := List.mem_map.mp hxm
          cases e3
        have hbsl : bs.length ≤ 60 := by
          have := nd_sub_len hb3 fun t ht => ((hb4 t).mp ht).1
          have := ok.many
          omega
        have hn20 := ok.hi
        have sH : Same H H'' := sa.same s12 hf
        have hi60 : i < 60 := by omega
        refine ⟨.ref ba, rfl, ba, xs, bs, n, _, rfl, hba, hxs, hbsl, hb2, hn20, KB, fun H3 s3 hnp => ?_, fun H3 rl rs s3 hrl hrsl hok hnf => ?_⟩
        · refine ⟨.ref ba, rfl, ba, xs, bs, rfl, s3 _ _ hba, paired_mono (fun _ _ r => r.keep (Same.tups s3)) hxs, by omega, fun H4 d kvs ks ad Rn s4 hN _ hRm hks _ hfr => ⟨_, _, rfl, ?_⟩⟩
          refine ⟨.non, rfl, rfl, true, rfl, iteT ?_⟩
          exact q1 H4 (Same.trans sH (Same.trans s3 s4)) fun h => hnp (planar_blk G hC h)
        · refine ⟨.ref ba, rfl, ba, xs, bs, rfl, s3 _ _ hba, paired_mono (fun _ _ r => r.keep (Same.tups s3)) hxs, by omega, fun H4 d kvs ks ad Rn s4 hN _ hRm hks _ hfr => ⟨_, _, rfl, ?_⟩⟩
          refine ⟨.ref rl, rfl, rfl, false, rfl, iteF ?_⟩
          have hR4 := hR.keep (Same.trans s3 s4)
          have hrows : ∀ a ∈ ks, ad a ∉ as := fun a ha m => by
            obtain ⟨l', e⟩ := hR.lst m
            have := s3 _ _ e
            rw [hfr a ha] at this; cases this
          refine ⟨.ref rl, rfl, rl, rs, n, rfl, hrl.keep s4, hrsl, hn20, fun r hr => ⟨(hok.nd r hr).1, (hok.nd r hr).2.2⟩, hok.nodup, hok.uniq, fun H5 fd fkv s5 hfd hval => ?_⟩
          refine ⟨.ref d, rfl, d, kvs, rfl, s5 _ _ hN.at_, fun l1 hl1a => ?_⟩
          have s6 := same_upd (o := .lst (kvs.map fun kv => kV kv.1)) hl1a
          have hkl : upd H5 l1 (.lst (kvs.map fun kv => kV kv.1)) l1 = some (.lst (kvs.map fun kv => kV kv.1)) := upd_same
          generalize upd H5 l1 (.lst (kvs.map fun kv => kV kv.1)) = H6 at s6 hkl ⊢
          have ek : (kvs.map fun kv => kV kv.1) = (ks.map fun (k : Nat) => (k : Int)).map V.int := by
            have := congrArg (List.map kV) hN.dd.keys
            rw [List.map_map, List.map_map] at this
            rw [List.map_map]
            exact this
          have hksn : ∀ x ∈ ks, x < n := fun x hx => by
            obtain ⟨b, hb⟩ := (hks x).mp hx
            exact KB.g.bnd1 ((KB.iff _ _).mpr hb)
          have hkn := length_of hN.dd.nd hksn
          refine ⟨l1, _, rfl, lq (hkl.trans (by rw [ek])), by rw [List.length_map]; omega, fun ns l2 hns hsr hl2a => ?_⟩
          obtain ⟨cs, rfl, hcs⟩ := nats_of_perm hns
          have s7 := same_upd (o := .lst ((cs.map fun (k : Nat) => (k : Int)).map V.int)) hl2a
          have h2s : upd H6 l2 (.lst ((cs.map fun (k : Nat) => (k : Int)).map V.int)) l2 = some (.lst (ivs cs)) := by rw [upd_same]; simp [ivs]
          generalize upd H6 l2 (.lst ((cs.map fun (k : Nat) => (k : Int)).map V.int)) = H7 at s7 h2s ⊢
          have hl2as : l2 ∉ as := fun m => by
            obtain ⟨l', e⟩ := hR4.lst m
            have := s6 _ _ (s5 _ _ e)
            rw [hl2a] at this; cases this
          have s47 : Same H4 H7 := Same.trans s5 (Same.trans s6 s7)
          have hR7 := hR4.keep s47
          have hfd7 := s7 _ _ (s6 _ _ hfd)
          have hfdas : fd ∉ as := fun m => by
            obtain ⟨l', e⟩ := hR7.lst m
            rw [hfd7] at e; cases e
          have hN7 := hN.keep s47
          have hdas : d ∉ as := fun m => by
            obtain ⟨l', e⟩ := hR7.lst m
            rw [hN7.at_] at e; cases e
          have hcnd : cs.Nodup := hcs.nodup_iff.mpr hN.dd.nd
          refine ⟨l2, rfl, ⟨_, lq h2s⟩, ?_⟩
          refine for_it (walk_list (K := K) (a := l2) (xs := ivs cs)) (fun j σ H' => (∃ x6, σ = [some (.ref p), some (.ref D), some (.ref ba), some (.ref rl), some (.ref d), some (.ref fd), x6, none]) ∧ SameA as H7 H' ∧ ∃ R2, RowsA H' D as R2 ∧ (∀ c, R c ≠ [] → R2 c ≠ []) ∧ (∀ c ∈ cs.take j, R2 c ≠ []) ∧ ∀ c, (R2 c).length ≤ 20 * i + (if c ∈ cs.take j then 20 else 0))
            ⟨⟨_, rfl⟩, fun _ _ _ e => e, R, hR7, fun _ h => h, by simp, fun c => by simpa using hRl c⟩ (fun j σ H' _ h => lq (h.2.1 _ _ hl2as h2s)) (fun j x σ H8 H9 hj h hx => ?_) (fun σ H8 h => ?_)
          · obtain ⟨⟨x6, rfl⟩, sb, R2, hR2, hm1, hm2, hm3⟩ := h
            obtain ⟨rfl, hx⟩ := hx
            obtain ⟨c, hc, rfl⟩ := ivs_get hx
            have hck : c ∈ ks := hcs.mem_iff.mp (List.mem_of_getElem? hc)
            obtain ⟨y0, hy0⟩ := (hks c).mp hck
            have hcn : c < n := hksn c hck
            obtain ⟨pc, hpc⟩ : ∃ pc, as[c]? = some pc := ⟨_, List.getElem?_eq_getElem (by omega)⟩
            have etake : ∀ z, z ∈ cs.take (j + 1) ↔ z ∈ cs.take j ∨ z = c := fun z => by
              rw [List.take_add_one, hc]; simp
            have hnot : c ∉ cs.take j := fun hm => by
              obtain ⟨m, hm1⟩ := List.getElem?_of_mem hm
              have hmi : m < j := by have := (List.getElem?_eq_some_iff.mp hm1).1; rw [List.length_take] at this; omega
              rw [List.getElem?_take_of_lt hmi] at hm1
              have := idx_uniq hcnd hm1 hc
              omega
            obtain ⟨nx, hnx1, hnx2⟩ := round_of KB.g hok c
            have hDm : ∀ y, y ∈ (List.range n).filter (fun y => blk (aE ts) cls k c y) ↔ blk (aE ts) cls k c y = true := fun y => by
              rw [List.mem_filter, List.mem_range]
              exact ⟨fun h => h.2, fun h => ⟨KB.g.bnd2 h, h⟩⟩
            have hDl : ((List.range n).filter (fun y => blk (aE ts) cls k c y)).length ≤ n := by
              have := List.length_filter_le (fun y => blk (aE ts) cls k c y) (List.range n)
              rwa [List.length_range] at this
            generalize (List.range n).filter (fun y => blk (aE ts) cls k c y) = Dl at hDm hDl
            refine ⟨.ref D, rfl, iv c, rfl, D, _, c, .ref pc, rfl, rfl, lq hR2.at_, atI_nat (j := c) (by simp [hpc]), ?_⟩
            have hg : DGet H9 d (iv c) (some (.ref (ad c))) := by
              have := hN7.dd.val c
              rw [if_pos hck] at this
              rw [← this]; exact DGet.k (k := nK c) (sb _ _ hdas hN7.at_)
            have hrow := sb _ _ (hrows c hck) (hN7.row c hck)
            refine ⟨.inl ⟨rfl, _, lq (hR2.row _ _ hpc)⟩, .ref fd, rfl, iv c, rfl, .ref d, rfl, iv c, rfl, d, .ref (ad c), rfl, hg, ?_⟩
            have key : rMinD K [.ref (ad c)] H9 fun v H2 => ∃ x ∈ Rn c, v = iv x ∧ H2 = H9 := min_nats hrow (fun e => by
              have := (hRm c y0).mpr hy0
              rw [e] at this; cases this) fun x hx => ⟨x, hx, rfl, rfl⟩
            obtain ⟨a', ys, ds, e0, hq1, hq2, hq3, hq4, hq5, hq6⟩ := key
            refine ⟨a', ys, ds, e0, hq1, hq2, hq3, hq4, hq5, fun k' x' d' hx' hd' hm' => ?_⟩
            obtain ⟨b0, hb0, rfl, _⟩ := hq6 k' x' d' hx' hd' hm'
            refine ⟨fd, c, b0, fkv, Dl, nx, rfl, sb _ _ hfdas hfd7, fun b hb => ?_, fun x hx y hy e => hnx2 x y ((hDm x).mp hx) ((hDm y).mp hy) e, (hDm b0).mpr ((KB.iff _ _).mpr ((hRm c b0).mp hb0)), by omega, fun H10 la lr s10 hla hne hlen => ?_⟩
            · obtain ⟨h1, r, h2, h3, h4⟩ := hnx1 b ((hDm b).mp hb)
              exact ⟨hval r h2 _ _ _ h3 h4, (hDm _).mpr h1⟩
            have hsz := hm3 c
            rw [if_neg hnot] at hsz
            refine ⟨pc, la, _, _, rfl, rfl, s10 _ _ (hR2.row _ _ hpc), hla, by simp only [ivs, List.length_map]; rw [sizeLine_eq]; omega, ?_⟩
            refine ⟨⟨_, rfl⟩, SameA.put (sb.trans (Same.a s10)) (List.mem_of_getElem? hpc), _, (hR2.keep s10).ext hpc (m := lr) rfl, fun c' hc' => ?_, fun c' hc' => ?_, fun c' => ?_⟩
            · show (if c' = c then R2 c ++ lr else R2 c') ≠ []
              by_cases e : c' = c
              · rw [if_pos e]; simp [hne]
              · rw [if_neg e]; exact hm1 c' hc'
            · show (if c' = c then R2 c ++ lr else R2 c') ≠ []
              by_cases e : c' = c
              · rw [if_pos e]; simp [hne]
              · rw [if_neg e]; exact hm2 c' (((etake c').mp hc').resolve_right e)
            · show (if c' = c then R2 c ++ lr else R2 c').length ≤ _
              by_cases e : c' = c
              · rw [if_pos e, if_pos ((etake c').mpr (.inr e)), List.length_append]; omega
              · rw [if_neg e]
                have := hm3 c'
                by_cases h : c' ∈ cs.take j
                · rw [if_pos h] at this; rw [if_pos ((etake c').mpr (.inl h))]; exact this
                · rw [if_neg h] at this; omega
          · obtain ⟨⟨x6, rfl⟩, sb, R2, hR2, hm1, hm2, hm3⟩ := h
            have ecs : cs.take (ivs cs).length = cs := by simp [ivs]
            rw [ecs] at hm2 hm3
            have s37 := Same.trans s3 (Same.trans s4 s47)
            refine ⟨⟨_, _, _, _, _, rfl⟩, (sa.trans (Same.a s37)).trans sb, sb _ _ hlas (s37 _ _ hl'), fun j v hj hv => ?_, R2, hR2, fun c => ?_, fun j v hj hv c y hy => ?_⟩
            · by_cases e : j = i
              · rw [e, hx] at hv
                cases hv
                rw [hbe]; exact hnf
              · exact hfv j v (by omega) hv
            · have := hm3 c
              split at this <;> omega
            · by_cases e : j = i
              · rw [e, hx] at hv
                cases hv
                rw [hbe] at hy
                exact hm2 c (hcs.mem_iff.mpr ((hks c).mpr ⟨y, hy⟩))
              · exact hm1 c (hRn j v (by omega) hv c y hy)
      · obtain ⟨⟨x2, x3, x4, x5, x6, rfl⟩, sa, hl', hfv, R, hR, hRl, hRn⟩ := h
        have sH : Same H H' := sa.same s12 hf
        have hne : ∀ c, c < n → R c ≠ [] := fun c hc => by
          obtain ⟨y, hy⟩ := htied c hc
          rcases hy with h | h
          · obtain ⟨v, hv, ht⟩ := hcov2 _ h
            obtain ⟨j, hj⟩ := List.getElem?_of_mem hv
            exact hRn j v (List.getElem?_eq_some_iff.mp hj).1 hj c y (.inl ht)
          · obtain ⟨v, hv, ht⟩ := hcov2 _ h
            obtain ⟨j, hj⟩ := List.getElem?_of_mem hv
            exact hRn j v (List.getElem?_eq_some_iff.mp hj).1 hj c y (.inr ht)
        refine ⟨.ref p, rfl, ?_⟩
        refine ⟨.ref D, rfl, D, rfl, ⟨_, lq hR.at_⟩, fun D2 hD2 => ?_⟩
        refine lc0 (walk_list (K := K) (a := D) (xs := as.map V.ref)) (fun i H'' => Same H' H'' ∧ ∃ xs, H'' D2 = some (.lst xs) ∧ xs.length = i) ⟨same_upd hD2, [], upd_same, rfl⟩ (fun i H'' _ h => lq (h.1 _ _ hR.at_)) (fun i x H'' H3 hi h hx => ?_) (fun H'' h => ?_)
        · obtain ⟨s3, xs, hD3, hxl⟩ := h
          obtain ⟨rfl, hx⟩ := hx
          have hi' : i < as.length := by simpa using hi
          have hpc : as[i]? = some as[i] := List.getElem?_eq_getElem hi'
          generalize as[i] = pc at hpc
          have ex : x = .ref pc := by
            rw [List.getElem?_map, hpc] at hx
            exact (Option.some.inj hx).symm
          subst ex
          have hok20 := ok.hi
          refine ⟨rfl, .ref pc, rfl, pc, R i, rfl, s3 _ _ (hR.row _ _ hpc), hne i (by omega), by have := hRl i; omega, fun H4 pr s4 => ⟨xs, s4 _ _ hD3, small1000 (by omega), same_list hD2 (Same.trans s3 s4), _, upd_same, by simp [hxl]⟩⟩
        · obtain ⟨s3, xs, hD3, hxl⟩ := h
          refine ⟨D2, xs, rfl, .inl ⟨lq hD3, fun t1 ht1 => ⟨by show 3 ≤ sizeLine; decide, fun t2 ht2 => ?_⟩⟩⟩
          refine q2 _ t2 (Same.trans sH (Same.trans s3 (Same.trans (same_upd ht1) (same_upd ht2)))) fun h5 => ?_
          obtain ⟨k, h5⟩ := five_blk G hC h5
          obtain ⟨v0, a, b, c, d, hn5, hB5⟩ := id h5
          have hva : v0 ≠ a := by simp at hn5; omega
          obtain ⟨g1, g2⟩ := blk_iff.mp (hB5 v0 a hva (by simp) (by simp))
          have fin : ∀ t ∈ ts, cls t.1 t.2 = k → False := fun t ht e => by
            obtain ⟨v, hv, hm⟩ := hcov2 t ht
            obtain ⟨j, hj⟩ := List.getElem?_of_mem hv
            have := (((hbf v hv).2.2.2 t).mp hm).2
            rw [e] at this
            rw [this] at h5
            exact hfv j v (List.getElem?_eq_some_iff.mp hj).1 hj h5
          rcases aE_iff.mp g1 with h | h
          · exact fin _ h g2
          · exact fin _ h (by rw [← g2]; exact hC.sym _ _)
end
end Wp
set_option maxHeartbeats 4000000
namespace Wp
open PySem PySem.Spec PyProof.Rows L2
section
variable {X : Cx}
/-- t.index(x) of a tuple of flat items: the first place -/
def rTIndex (K : PySem.W.Frag) : V → List V → Hp → VK → Prop := fun x xs H Q => ∃ (a : Addr) (ys : List V) (y : V) (j : Nat) (z : V), x = V.ref a ∧ xs = [y] ∧ SqT K H a ys ∧ flatV y = true ∧ ys.all flatV = true ∧ ys[j]? = some z ∧ eqV z y = true ∧
  (∀ (m : Nat) (z' : V), m < j → ys[m]? = some z' → eqV z' y = false) ∧ Q (.int (j : Nat)) H
theorem mt_tindex : MtR X "tuple.index" (rTIndex X.K) := by
  intro pins s σ H x xs v us Q I rx rxs h
  obtain ⟨a, ys, y, j, z, rfl, rfl, hs, fy, fys, hz, hzj, hno, q⟩ := h
  cases rx
  cases rxs with
  | cons ry rt =>
    rename_i uy ut
    cases rt
    obtain ⟨its, rv, pl, hlen⟩ := I.tuple hs
    obtain ⟨⟨cls, dd, data, sl⟩, ho, hc, n, hd⟩ := pl
    simp only at hc hd
    subst hc
    subst hd
    obtain ⟨u, hu, ru⟩ := rv.get hz
    obtain ⟨hjl, hje⟩ := List.getElem?_eq_some_iff.mp hu
    have hvl := rv.length
    have hj : j < its.toArray.size := by simpa using hjl
    refine call_meets PySem.F.slot_tuple_index ⟨_, ho, rfl⟩ PySem.F.entry_tuple_index (PySem.F.args_tuple_index_2 _ _) (TI.tuple_indexAt a its.toArray n dd sl uy (eqU y) j hj ?_ ?_)
      ⟨ho, fun u' hu' => mem_eqAt ry fy rv fys u' (by simpa using hu'), ?_⟩
    · have e1 : its.toArray[j] = u := by simpa using hje
      rw [e1, eqU_of ru (flat_at fys hz)]
      exact hzj
    · intro m hm hmj
      have hml : m < its.length := by simpa using hm
      have hmy : m < ys.length := by omega
      have hy' : ys[m]? = some ys[m] := List.getElem?_eq_getElem hmy
      obtain ⟨u2, hu2, ru2⟩ := rv.get hy'
      obtain ⟨_, hme⟩ := List.getElem?_eq_some_iff.mp hu2
      have e1 : its.toArray[m] = u2 := by simpa using hme
      rw [e1, eqU_of ru2 (flat_at fys hy')]
      exact hno m _ hmj hy'
    · exact ⟨.int (j : Nat), H, I.tok _, ⟨_, rfl⟩, q⟩
end
/-- a method of a tuple whose object is known -/
def tBMT (r : V → List V → Hp → VK → Prop) (to : TE) (t : TA) : TE := fun σ H Q => to σ H fun x H1 => (∃ (p : Addr) (o : Obj) (xs : List V), x = .ref p ∧ o.dict = none ∧ H1 p = some (.frz o (.tup xs))) ∧ t σ H1 fun xs H2 => r x xs H2 Q
theorem pe_bmT {X : Cx} {o e : Expr} {es : List Expr} {to : TE} {t : TA} {name : Str} {apos cpos : Pos} {id : String} {r : V → List V → Hp → VK → Prop} (pa : PlainAttrs "tuple") (slot : Slot "tuple" name id) (hty : typeOf (.builtin id) = pure (.type "method_descriptor")) (hm : MtR X id r) (ho : PE X o to) (ha : PA X (e :: es) t)
    (hbase : attributeBase o name X.env (eval o X.env) = eval o X.env := by rfl)
    (hfew : ((backTo cpos (starEach (e :: es) X.env)).all (fun x => !x.1) && (backToKw cpos (keywordEach [] X.env)).all (fun x => x.1.isSome)
      && decide ((e :: es).length + ([] : List Keyword).length + (if ([] : List Keyword).isEmpty then 0 else 1) < 30)) = true := by rfl)
    (hline : (apos.endLine == cpos.line) = true := by rfl) (hs : starEach (e :: es) X.env = (false, eval e X.env) :: starEach es X.env := by rfl) (hplain : (backTo cpos (starEach es X.env)).any (·.1) = false := by rfl) :
    PE X (.Call (.Attribute o name apos) (e :: es) [] cpos) (tBMT r to t) := by
  refine ⟨fun pins s σ H Q I h => ?_⟩
  refine wpAny_Call_method_late hbase hfew hline rfl (thn (ho.run pins s σ H _ I h) fun v s1 ⟨x, H1, I1, r1, ty, q1⟩ => ?_)
  obtain ⟨p, ob, ys, rfl, hod, hp⟩ := ty
  have hob := I1.hok p _ hp
  obtain ⟨hg, _, its, _, hT⟩ := hob
  obtain ⟨o2, e2, hc, _⟩ := hT
  rw [hg] at e2
  cases e2
  cases r1
  refine ⟨"tuple", id, pa, slot, hty, ⟨ob, hg, hc⟩, fun a ea => by cases ea; exact ⟨ob, hg, hod⟩, ?_⟩
  have hA := ha.run cpos pins s1 σ H1 _ I1 q1
  rw [hs] at hA ⊢
  refine Calls.callWith_builtin (by show (false || (backTo cpos (starEach es X.env)).any (·.1)) = false; rw [hplain] <;> rfl) (Calls.evalArgs_plain ?_)
  exact thn hA fun us s2 ⟨vs, H2, I2, r2, q2⟩ => hm pins s2 σ H2 (.ref p) vs (.ref p) us Q I2 (show RelV (V.ref p) (Value.ref p) from rfl) r2 q2
/-- len(set(t)), t a tuple of unlike numbers -/
def tLenSetT (K : PySem.W.Frag) (ta : TE) : TE := fun σ H Q => ta σ H fun x H1 => ∃ (l : Addr) (ns : List Int), x = .ref l ∧ SqT K H1 l (ns.map V.int) ∧ ns.Nodup ∧ ns.length ≤ 1000 ∧ Q (.int (ns.length : Nat)) H1
theorem pe_lenSetT {X : Cx} {a : Expr} {ta : TE} {p p2 q pos : Pos} (hg : Gl X "len") (hm : X.mg "len" = none) (hg2 : Gl X "set") (hm2 : X.mg "set" = none) (ha : PE X a ta) (hc : X.calm = true := by rfl)
    (na : starEach [a] X.env = (false, eval a X.env) :: starEach [] X.env := by rfl) : PE X (.Call (.Name "len" p) [.Call (.Name "set" p2) [a] [] q] [] pos) (tLenSetT X.K ta) := by
  refine ⟨fun pins s σ H Q I h => ?_⟩
  refine Call_ (ld_blt I hg hm boot_len ?_)
  refine PyProof.Rows.callWith_builtin1 (PyProof.Rows.args_cons ?_ rfl) rfl rfl
  refine Call_ (ld_blt I hg2 hm2 boot_set ?_)
  refine PyProof.Rows.callWith_type1 (PyProof.Rows.args_cons (thn (ha.run pins s σ H _ I h) fun v s1 ⟨x, H1, I1, r1, q1⟩ => PyProof.Rows.args_nil ?_) na) na rfl
  obtain ⟨l, ns, rfl, hq, hnd, hl, q1⟩ := q1
  cases r1
  obtain ⟨its, rv, pt, hz⟩ := I1.tuple hq
  have hi : IntsAre its.toArray.toList ns := ints_of_vals rv
  refine call_set_tupI ns (I1.ok.hd hc) (show s1.heap.IsTuple l its.toArray from pt) hi (by unfold scanBound; omega) fun h' tk c R1 hcn hk => ?_
  refine PyProof.Rows.args_nil ?_
  obtain ⟨o, es, ep, t, ho, hex, hdt, g, nd, hm2, hb, hf, hn, hr, hl2⟩ := R1
  have hce : c = ns.length := by
    have hp : (es.toList.map keyOf).Perm ns := (List.perm_ext_iff_of_nodup nd hnd).mpr fun k => by
      rw [← hm2 k, decide_eq_true_eq]
    have := hp.length_eq
    rw [List.length_map, Array.length_toList] at this
    omega
  have I2 : Inv X pins σ H1 { s1 with heap := h', toks := tk } := I1.kept fun b o e => hk b o e
  exact call_len_set ho hex hdt hf (by omega) ⟨.int ns.length, H1, I2.tok _, ⟨_, by rw [hn, hce]⟩, q1⟩
end Wp
set_option maxHeartbeats 4000000
namespace Wp
open Wb
open PySem PySem.Spec PyProof.Rows L2
/-! parts of a web as webs -/
section
variable {n : Nat} {ts : List (Nat × Nat)} {p : List Nat}
/-- the ties of a part by its corners' places -/
noncomputable def partE (ts : List (Nat × Nat)) (p : List Nat) : E2 := fun i j => by
  classical exact decide (∃ x y, p[i]? = some x ∧ p[j]? = some y ∧ adj ts x y)
theorem partE_iff {i j : Nat} : partE ts p i j = true ↔ ∃ x y, p[i]? = some x ∧ p[j]? = some y ∧ adj ts x y := by
  unfold partE; simp
theorem adj_symm {x y : Nat} (h : adj ts x y) : adj ts y x := h.elim .inr .inl
theorem Part.deg (Pt : Part n ts p) (h2 : 1 < p.length) : ∀ x ∈ p, ∃ y, adj ts x y := fun x hx => by
  refine Classical.byContradiction fun hno => ?_
  have hno : ∀ y, ¬ adj ts x y := fun y h => hno ⟨y, h⟩
  obtain ⟨c, hc, hS⟩ := Pt.con
  by_cases e : x = c
  · have := hS (fun z => z = c) rfl fun a b ha hab => by
      rw [ha, ← e] at hab
      exact absurd hab (hno b)
    have hnd := Pt.nd
    match p, h2, this, hnd with
    | a :: b :: l, _, this, hnd =>
      have h1 := this a (by simp)
      have h2 := this b (by simp)
      rw [h1, h2] at hnd
      simp at hnd
  · exact hS (fun z => z ≠ x) (Ne.symm e) (fun a b ha hab hb => hno a (adj_symm (hb ▸ hab))) x hx rfl
theorem part_deg {us : List (Nat × Nat)} (Pt : Part n ts p) (h2 : 1 < p.length) (hus : aE us = partE ts p) (c : Nat) (hc : c < p.length) : ∃ y, adj us c y := by
  obtain ⟨y, hy⟩ := Pt.deg h2 p[c] (List.getElem_mem hc)
  obtain ⟨j, hj⟩ := List.getElem?_of_mem (Pt.closed _ (List.getElem_mem hc) y hy)
  refine ⟨j, aE_iff.mp ?_⟩
  rw [hus]
  exact partE_iff.mpr ⟨_, _, List.getElem?_eq_getElem hc, hj, hy⟩
theorem part_gr (hlt : ∀ t ∈ ts, t.1 < t.2 ∧ t.2 < n) (Pt : Part n ts p) : Gr p.length (partE ts p) where
  sym i j := by
    rw [Bool.eq_iff_iff, partE_iff, partE_iff]
    exact ⟨fun ⟨x, y, h1, h2, h3⟩ => ⟨y, x, h2, h1, adj_symm h3⟩, fun ⟨x, y, h1, h2, h3⟩ => ⟨y, x, h2, h1, adj_symm h3⟩⟩
  irr i := by
    cases e : partE ts p i i with
    | false => rfl
    | true =>
      obtain ⟨x, y, h1, h2, h3⟩ := partE_iff.mp e
      rw [h1] at h2
      cases h2
      have := (web_gr hlt).irr x
      rw [aE_iff.mpr h3] at this; cases this
  bnd i j e := by
    obtain ⟨x, y, h1, h2, h3⟩ := partE_iff.mp e
    exact ⟨(List.getElem?_eq_some_iff.mp h1).1, (List.getElem?_eq_some_iff.mp h2).1⟩
theorem planar_part (hlt : ∀ t ∈ ts, t.1 < t.2 ∧ t.2 < n) (Pt : Part n ts p) (h : Planar n (aE ts)) : Planar p.length (partE ts p) := by
  obtain ⟨α, fc, P⟩ := h
  have G := web_gr hlt
  let A : E2 := fun u v => aE ts u v && decide (u ∈ p)
  have hAs : Sym A := fun u v => by
    rw [Bool.eq_iff_iff]
    simp only [A, Bool.and_eq_true, decide_eq_true_eq, aE_iff]
    exact ⟨fun ⟨h1, h2⟩ => ⟨adj_symm h1, Pt.closed u h2 v h1⟩, fun ⟨h1, h2⟩ => ⟨adj_symm h1, Pt.closed v h2 u h1⟩⟩
  have hsub : Wb.Sub A (aE ts) := fun u v e => by
    simp only [A, Bool.and_eq_true] at e; exact e.1
  obtain ⟨fc', P'⟩ := P.restrict G hAs hsub
  have GA : Gr n A := G.sub hAs hsub
  refine ⟨α, _, P'.rename GA (k := p.length) (g := fun j => p.getD j 0) (fun j hj => ?_) (fun i j hi hj e => ?_) (part_gr hlt Pt) (fun i j hi hj => ?_) fun u v e => ?_⟩
  · rw [List.getD_eq_getElem?_getD, List.getElem?_eq_getElem hj]
    exact Pt.lt _ (List.getElem_mem hj)
  · simp only [List.getD_eq_getElem?_getD, List.getElem?_eq_getElem hj, List.getElem?_eq_getElem hi] at e
    exact nodup_idx Pt.nd hi hj e
  · rw [Bool.eq_iff_iff, partE_iff]
    simp only [A, List.getD_eq_getElem?_getD, List.getElem?_eq_getElem hj, List.getElem?_eq_getElem hi, Option.getD_some, Bool.and_eq_true, decide_eq_true_eq, aE_iff]
    constructor
    · rintro ⟨x, y, h1, h2, h3⟩
      cases h1; cases h2
      exact ⟨h3, List.getElem_mem hi⟩
    · rintro ⟨h3, _⟩
      exact ⟨_, _, rfl, rfl, h3⟩
  · simp only [A, Bool.and_eq_true, decide_eq_true_eq] at e
    obtain ⟨j, hj⟩ := List.getElem?_of_mem e.2
    refine ⟨j, (List.getElem?_eq_some_iff.mp hj).1, ?_⟩
    rw [List.getD_eq_getElem?_getD, hj]; rfl
/-- five corners all tied lie in one part -/
theorem five_part (Pt : Part n ts p) (hlt : ∀ t ∈ ts, t.1 < t.2 ∧ t.2 < n) {v a b c d : Nat} (hn : [v, a, b, c, d].Nodup) (hB : ∀ u w, u ≠ w → u ∈ [v, a, b, c, d] → w ∈ [v, a, b, c, d] → aE ts u w = true) (hv : v ∈ p) : 1 < p.length ∧ HasFive (partE ts p) := by
  have all : ∀ x ∈ [v, a, b, c, d], x ∈ p := fun x hx => by
    by_cases e : v = x
    · rw [← e]; exact hv
    · exact Pt.closed v hv x (aE_iff.mp (hB v x e (by simp) hx))
  have ix : ∀ x ∈ [v, a, b, c, d], ∃ j, p[j]? = some x := fun x hx => List.getElem?_of_mem (all x hx)
  obtain ⟨v', hv'⟩ := ix v (by simp)
  obtain ⟨a', ha'⟩ := ix a (by simp)
  obtain ⟨b', hb'⟩ := ix b (by simp)
  obtain ⟨c', hc'⟩ := ix c (by simp)
  obtain ⟨d', hd'⟩ := ix d (by simp)
  have uq : ∀ {i j x y : Nat}, p[i]? = some x → p[j]? = some y → x ≠ y → i ≠ j := fun {i j x y} h1 h2 h3 e => by
    rw [e, h2] at h1
    exact h3 (Option.some.inj h1).symm
  have hn2 := hn
  simp only [List.nodup_cons, List.mem_cons, List.not_mem_nil, or_false, not_or] at hn2
  refine ⟨?_, v', a', b', c', d', ?_, fun i j hij hi hj => ?_⟩
  · have h1 := (List.getElem?_eq_some_iff.mp hv').1
    have h2 := (List.getElem?_eq_some_iff.mp ha').1
    have := uq hv' ha' hn2.1.1
    omega
  · simp only [List.nodup_cons, List.mem_cons, List.not_mem_nil, or_false, not_or]
    exact ⟨⟨uq hv' ha' hn2.1.1, uq hv' hb' hn2.1.2.1, uq hv' hc' hn2.1.2.2.1, uq hv' hd' hn2.1.2.2.2⟩, ⟨uq ha' hb' hn2.2.1.1, uq ha' hc' hn2.2.1.2.1, uq ha' hd' hn2.2.1.2.2⟩, ⟨uq hb' hc' hn2.2.2.1.1, uq hb' hd' hn2.2.2.1.2⟩, uq hc' hd' hn2.2.2.2.1, by simp⟩
  · have at_ : ∀ i ∈ [v', a', b', c', d'], ∃ x ∈ [v, a, b, c, d], p[i]? = some x := fun i hi => by
      simp only [List.mem_cons, List.not_mem_nil, or_false] at hi
      rcases hi with rfl | rfl | rfl | rfl | rfl
      · exact ⟨v, by simp, hv'⟩
      · exact ⟨a, by simp, ha'⟩
      · exact ⟨b, by simp, hb'⟩
      · exact ⟨c, by simp, hc'⟩
      · exact ⟨d, by simp, hd'⟩
    obtain ⟨x, hx, h1⟩ := at_ i hi
    obtain ⟨y, hy, h2⟩ := at_ j hj
    refine partE_iff.mpr ⟨x, y, h1, h2, aE_iff.mp (hB x y (fun e => hij ?_) hx hy)⟩
    subst e
    exact idx_uniq Pt.nd h1 h2
/-- few ties in each part -/
def PartsFew (n : Nat) (ts : List (Nat × Nat)) : Prop := ∀ p, Part n ts p → 3 ≤ p.length → ∀ us : List (Nat × Nat), us.Nodup → (∀ t ∈ us, t.1 < t.2) → (∀ i j, adj us i j ↔ ∃ x y, p[i]? = some x ∧ p[j]? = some y ∧ adj ts x y) → us.length ≤ 3 * p.length - 6
end
end Wp
set_option maxHeartbeats 4000000
namespace Wp
open Wb
open PySem PySem.Spec PyProof.Rows L2
open C8 (Cal pe_c pe_gc)
section
variable {P : Program} {w : World} {K : PySem.W.Frag} {mg : Str → Option Value} {base : Heap}
def spPartAsWeb : Sp := fun vs H Q _ => ∃ (v pv : V) (n : Nat) (ts : List (Nat × Nat)) (p : List Nat), vs = [v, pv] ∧ WebV H v n ts ∧ WebOk n ts ∧ NumsV H pv p ∧ Part n ts p ∧
  ∀ H' v' us, Same H H' → WebV H' v' p.length us → WebOk p.length us → (∀ i j, adj us i j ↔ ∃ x y, p[i]? = some x ∧ p[j]? = some y ∧ adj ts x y) → Q v' H'
theorem k_part_as_web (A : At K mg "part_as_web" s_part_as_web) (B : Bt mg) (C_web_of_ties : Cal P w K mg base 2 "web_of_ties" spWebOfTies []) : Cal P w K mg base 3 "part_as_web" spPartAsWeb [] := by
  refine mk A sc_part_as_web (fun _ _ _ _ _ _ us hl => match us, hl with | [_, _], _ => rfl) (fun vs H Q E h => ?_) (fun f cdv A outer s H vs Q E hr h => ?_)
  · obtain ⟨v, pv, n, ts, p, rfl, _⟩ := h
    rfl
  · obtain ⟨v, pv, n, ts, p, rfl, hw, ok, hN, Pt, q⟩ := h
    obtain ⟨wp, tp, vs, rfl, hp, ht, hts⟩ := id hw
    obtain ⟨pa, rfl, po, hpo, hpa⟩ := id hN
    refine ⟨_, (pss_cons (ps_setLc (i := 2) (own := [("one", 3), ("other", 4)]) (g := (gTup K 2 (gCons (gName 3) (gCons (gName 4) gNil)))) rfl sc_part_as_web.nd rfl rfl (sw_true rfl rfl rfl (by decide +kernel)) (pi_tup (pe_ix ix_tup (pv 0) pe_int (fun _ _ => rfl))) (blkOk_by (N := ["web", "part", "pairs", "one", "other"]) (sc := defScope s_part_as_web) (by decide +kernel)) (fun _ _ _ _ _ => (pg_tup rfl (pgs_cons (pg_name (i := 3) sc_part_as_web.nd rfl (.inl rfl) (.inr rfl)) (pgs_cons (pg_name (i := 4) sc_part_as_web.nd rfl (.inl rfl) (.inr rfl)) pgs_nil)))) (fun _ _ _ _ _ => (pts_one (pt_cmpR (r := rIn K false) op_in_seq (pv 3) (pv 1) (by with_unfolding_all rfl)))) (fun _ _ _ _ _ => (pe_tup (pa_cons (pe_bmT (r := rTIndex K) PySem.F.plainAttrs_tuple PySem.F.slot_tuple_index PySem.F.type_tuple_index mt_tindex (pv 1) (pa_cons (pv 3) pa_nil)) (pa_cons (pe_bmT (r := rTIndex K) PySem.F.plainAttrs_tuple PySem.F.slot_tuple_index PySem.F.type_tuple_index mt_tindex (pv 1) (pa_cons (pv 4) pa_nil)) pa_nil)))))
    (pss_one (ps_ret (pe_c C_web_of_ties hr (by decide) (by rfl) (pa_cons (pe_callB call_len_seq (by rfl) B.len (by decide +kernel) (pa_cons (pv 1) pa_nil)) (pa_cons (pv 2) pa_nil)))))), ?_⟩
    refine ⟨.ref wp, rfl, wp, _, 2, .ref tp, rfl, rfl, tq hp, atI_nat (j := 2) rfl, tp, rfl, ⟨_, tq ht⟩, fun D hD => ?_⟩
    have hvl := paired_len hts
    refine lc_it (walk_tup (K := K) (a := tp) (xs := vs)) (fun i H' => Same H H' ∧ ∃ xs ps, H' D = some (.lst xs) ∧ Paired (TieV H') xs ps ∧ ps.length ≤ i ∧ (∀ q ∈ ps, ∃ t ∈ ts, p[q.1]? = some t.1 ∧ p[q.2]? = some t.2) ∧ ∀ t ∈ ts.take i, t.1 ∈ p → ∃ q ∈ ps, p[q.1]? = some t.1 ∧ p[q.2]? = some t.2)
      ⟨same_upd hD, [], [], upd_same, .nil, Nat.le_refl 0, by simp, by simp⟩ (fun i H' _ h => tq (h.1 _ _ ht)) (fun i x H' H'' hi h hx => ?_) (fun H' h => ?_)
    · obtain ⟨s1, xs, ps, hxs, hps, hpl, hq1, hq2⟩ := h
      obtain ⟨rfl, hx⟩ := hx
      obtain ⟨t, ht', r⟩ := paired_get hts hx
      obtain ⟨pp, rfl, hpp⟩ := r.keep (Same.tups s1)
      have htm : t ∈ ts := List.mem_of_getElem? ht'
      have hi' := (List.getElem?_eq_some_iff.mp ht').1
      have hok := ok.many
      have etake : ∀ z, z ∈ ts.take (i + 1) ↔ z ∈ ts.take i ∨ z = t := fun z => by
        rw [List.take_add_one, ht']; simp
      refine ⟨pp, _, rfl, tq hpp, rfl, iv t.1, _, rfl, iv t.2, [], rfl, rfl, rfl, ?_⟩
      refine ⟨iv t.1, rfl, .ref pa, rfl, pa, _, rfl, .inr (fq (s1 _ _ hpa)), rfl, flat_ivs p, ?_⟩
      rw [inV_ivs]
      by_cases hm : t.1 ∈ p
      · rw [decide_eq_true hm]
        refine ⟨true, rfl, iteT ?_⟩
        have hm2 : t.2 ∈ p := Pt.closed _ hm _ (.inl htm)
        obtain ⟨L, R, hp1, hL⟩ := split_at hm
        obtain ⟨L2, R2, hp2, hL2⟩ := split_at hm2
        refine ⟨.ref pa, rfl, ⟨pa, po, _, rfl, hpo, s1 _ _ hpa⟩, iv t.1, rfl, pa, _, iv t.1, L.length, iv t.1, rfl, rfl, fq (s1 _ _ hpa), rfl, flat_ivs _, by rw [hp1]; exact idx1 L R t.1, idx2 t.1, by rw [hp1]; exact idx3 hL, ?_⟩
        refine ⟨.ref pa, rfl, ⟨pa, po, _, rfl, hpo, s1 _ _ hpa⟩, iv t.2, rfl, pa, _, iv t.2, L2.length, iv t.2, rfl, rfl, fq (s1 _ _ hpa), rfl, flat_ivs _, by rw [hp2]; exact idx1 L2 R2 t.2, idx2 t.2, by rw [hp2]; exact idx3 hL2, ?_⟩
        refine ⟨by show 2 ≤ sizeLine; decide, fun z hz => ?_⟩
        have s2 := same_upd (o := .tup [iv L.length, iv L2.length]) hz
        have hz2 : TieV (upd H'' z (.tup [iv L.length, iv L2.length])) (.ref z) (L.length, L2.length) := ⟨z, rfl, upd_same⟩
        generalize upd H'' z (.tup [iv L.length, iv L2.length]) = H2 at s2 hz2 ⊢
        have hxl := paired_len hps
        have g1 : p[L.length]? = some t.1 := by rw [hp1]; simp
        have g2 : p[L2.length]? = some t.2 := by rw [hp2]; simp
        refine ⟨xs, s2 _ _ hxs, small1000 (by omega), same_list hD (Same.trans s1 s2), xs ++ [.ref z], ps ++ [(L.length, L2.length)], upd_same, ?_, by simp; omega, fun q hq => ?_, fun u hu hup => ?_⟩
        · exact paired_snoc (paired_mono (fun _ _ r => (r.keep (Same.tups s2)).keepL (s2 _ _ hxs)) hps) (hz2.keepL (s2 _ _ hxs))
        · rcases List.mem_append.mp hq with h | h
          · exact hq1 q h
          · simp at h; rw [h]; exact ⟨t, htm, g1, g2⟩
        · rcases (etake u).mp hu with h | h
          · obtain ⟨q, h1, h2⟩ := hq2 u h hup
            exact ⟨q, List.mem_append_left _ h1, h2⟩
          · rw [h]; exact ⟨(L.length, L2.length), by simp, g1, g2⟩
      · rw [decide_eq_false hm]
        refine ⟨false, rfl, iteF ?_⟩
        exact ⟨s1, xs, ps, hxs, hps, by omega, hq1, fun u hu hup => by
          rcases (etake u).mp hu with h | h
          · exact hq2 u h hup
          · rw [h] at hup; exact absurd hup hm⟩
    · obtain ⟨s1, xs, ps, hxs, hps, hpl, hq1, hq2⟩ := h
      rw [hvl, List.take_length] at hq2
      have hok := ok.many
      have hlt := ok.lt
      refine ⟨.ref pa, rfl, pa, _, rfl, .inr (fq (s1 _ _ hpa)), .ref D, rfl, p.length, D, xs, ps, by simp [ivs], hxs, hps, by omega, fun H2 v' us s2 hw' hsrt hus => ?_⟩
      have hltp : ∀ q ∈ ps, q.1 < p.length ∧ q.2 < p.length ∧ q.1 ≠ q.2 := fun q hq => by
        obtain ⟨t, h1, h2, h3⟩ := hq1 q hq
        refine ⟨(List.getElem?_eq_some_iff.mp h2).1, (List.getElem?_eq_some_iff.mp h3).1, fun e => ?_⟩
        rw [e, h3] at h2
        have := (hlt t h1).1
        have := Option.some.inj h2
        omega
      refine q H2 v' us (Same.trans s1 s2) hw' ⟨?_, ?_, ?_, fun t ht => ?_, hsrt⟩ fun i j => ?_
      · cases hp0 : p with
        | nil => exact absurd hp0 Pt.ne
        | cons _ _ => simp
      · have := length_of Pt.nd Pt.lt
        have := ok.hi
        omega
      · have := nd_sub_len (nodup_srt hsrt) fun t ht => by
          obtain ⟨q, h1, h2⟩ := (hus t).mp ht
          exact List.mem_map.mpr ⟨q, h1, h2.symm⟩
        rw [List.length_map] at this
        omega
      · obtain ⟨q, h1, h2⟩ := (hus t).mp ht
        have := hltp q h1
        rw [h2]
        simp only [mm]
        omega
      · unfold adj
        rw [hus, hus]
        constructor
        · have key : ∀ i j, (∃ q ∈ ps, (i, j) = mm q) → ∃ x y, p[i]? = some x ∧ p[j]? = some y ∧ adj ts x y := fun i j ⟨q, h1, h2⟩ => by
            obtain ⟨t, h3, h4, h5⟩ := hq1 q h1
            simp only [mm, Prod.mk.injEq] at h2
            by_cases hle : q.1 ≤ q.2
            · have e1 : i = q.1 := by omega
              have e2 : j = q.2 := by omega
              exact ⟨t.1, t.2, by rw [e1]; exact h4, by rw [e2]; exact h5, .inl h3⟩
            · have e1 : i = q.2 := by omega
              have e2 : j = q.1 := by omega
              exact ⟨t.2, t.1, by rw [e1]; exact h5, by rw [e2]; exact h4, .inr h3⟩
          rintro (h | h)
          · exact key i j h
          · obtain ⟨x, y, h1, h2, h3⟩ := key j i h
            exact ⟨y, x, h2, h1, adj_symm h3⟩
        · rintro ⟨x, y, h1, h2, h3⟩
          have key : ∀ i j x y, p[i]? = some x → p[j]? = some y → (x, y) ∈ ts → (i, j) = mm (i, j) ∧ (∃ q ∈ ps, (i, j) = mm q) ∨ (j, i) = mm (i, j) ∧ ∃ q ∈ ps, (j, i) = mm q := fun i j x y h1 h2 h3 => by
            obtain ⟨q, g1, g2, g3⟩ := hq2 _ h3 (List.mem_of_getElem? h1)
            have e1 : q.1 = i := idx_uniq Pt.nd g2 h1
            have e2 : q.2 = j := idx_uniq Pt.nd g3 h2
            have e : q = (i, j) := Prod.ext e1 e2
            rw [e] at g1
            by_cases hle : i ≤ j
            · have : (i, j) = mm (i, j) := by simp only [mm, Prod.mk.injEq]; omega
              exact .inl ⟨this, _, g1, this⟩
            · have : (j, i) = mm (i, j) := by simp only [mm, Prod.mk.injEq]; omega
              exact .inr ⟨this, _, g1, this⟩
          rcases h3 with h3 | h3
          · rcases key i j x y h1 h2 h3 with ⟨_, h⟩ | ⟨_, h⟩
            · exact .inl h
            · exact .inr h
          · rcases key j i y x h2 h1 h3 with ⟨_, h⟩ | ⟨_, h⟩
            · exact .inr h
            · exact .inl h
end
end Wp
set_option maxHeartbeats 4000000
namespace Wp
open Wb
open PySem PySem.Spec PyProof.Rows L2
open C8 (Cal pe_c pe_gc)
section
variable {P : Program} {w : World} {K : PySem.W.Frag} {mg : Str → Option Value} {base : Heap}
def spIsPartDrawable : Sp := fun vs H Q _ => ∃ (v : V) (n : Nat) (ts : List (Nat × Nat)), vs = [v] ∧ WebV H v n ts ∧ WebOk n ts ∧ (∀ c, c < n → ∃ y, adj ts c y) ∧
  (∀ H', Same H H' → ¬ HasFive (aE ts) → Q (.bl true) H') ∧ ∀ H', Same H H' → ¬ (Planar n (aE ts) ∧ (3 ≤ n → ts.length ≤ 3 * n - 6)) → Q (.bl false) H'
theorem k_is_part_drawable (A : At K mg "is_part_drawable" s_is_part_drawable) (B : Bt mg) (C_map_drawn : Cal P w K mg base 6 "map_drawn" spMapDrawn []) : Cal P w K mg base 7 "is_part_drawable" spIsPartDrawable [] := by
  refine mk A sc_is_part_drawable (fun _ _ _ _ _ _ us hl => match us, hl with | [_], _ => rfl) (fun vs H Q E h => ?_) (fun f cdv A outer s H vs Q E hr h => ?_)
  · obtain ⟨v, n, ts, rfl, _⟩ := h
    rfl
  · obtain ⟨v, n, ts, rfl, hw, ok, hdeg, q1, q2⟩ := h
    obtain ⟨p, tp, vs, rfl, hp, ht, hts⟩ := id hw
    refine ⟨_, (pss_cons (ps_if (PW.pt (pw_and (pt_cmpR op_ge (pe_ix ix_tup (pv 0) pe_int (fun _ _ => rfl)) pe_int (nomark _)) (pw_and1 (pt_cmpR op_gt (pe_callB call_len_seq (by rfl) B.len (by decide +kernel) (pa_cons (pe_ix ix_tup (pv 0) pe_int (fun _ _ => rfl)) pa_nil)) (pe_op op_sub (pe_op op_mul pe_int (pe_ix ix_tup (pv 0) pe_int (fun _ _ => rfl))) pe_int) (nomark _)))))
      (pss_one (ps_ret pe_bl))
      pss_nil)
    (pss_one (ps_ret (pe_cmpR op_notN (pe_c C_map_drawn hr (by decide) (by rfl) (pa_cons (pv 0) pa_nil)) pe_non (nomark _))))), ?_⟩
    have hvl := paired_len hts
    refine ⟨.ref p, rfl, p, _, 1, iv n, rfl, rfl, tq hp, atI_nat (j := 1) rfl, n, 3, rfl, rfl, decide (3 ≤ n), ?_, ?_⟩
    · exact congrArg V.bl (by rw [decide_eq_decide]; omega)
    by_cases hn : 3 ≤ n
    · rw [decide_eq_true hn]
      refine iteT ⟨.ref p, rfl, p, _, 2, .ref tp, rfl, rfl, tq hp, atI_nat (j := 2) rfl, tp, _, rfl, .inr (tq ht), .ref p, rfl, p, _, 1, iv n, rfl, rfl, tq hp, atI_nat (j := 1) rfl, 3, n, rfl, rfl, .inl ⟨by decide, by decide⟩, _, _, rfl, rfl, _, _, rfl, rfl, decide (3 * n - 6 < ts.length), ?_, ?_⟩
      · exact congrArg V.bl (by rw [decide_eq_decide, hvl]; omega)
      · by_cases hb : 3 * n - 6 < ts.length
        · rw [decide_eq_true hb]
          refine iteT ?_
          exact q2 H (fun _ _ e => e) fun h => by have := h.2 hn; omega
        · rw [decide_eq_false hb]
          refine iteF ?_
          exact ⟨.ref p, rfl, .ref p, n, ts, rfl, hw, ok, hdeg, fun H' s1 hnp => ⟨rfl, q2 H' s1 fun h => hnp h.1⟩, fun H' p' s1 hnf => ⟨rfl, q1 H' s1 hnf⟩⟩
    · rw [decide_eq_false hn]
      refine iteF ?_
      refine iteF ?_
      exact ⟨.ref p, rfl, .ref p, n, ts, rfl, hw, ok, hdeg, fun H' s1 hnp => ⟨rfl, q2 H' s1 fun h => hnp h.1⟩, fun H' p' s1 hnf => ⟨rfl, q1 H' s1 hnf⟩⟩
def spIsDrawable : Sp := fun vs H Q _ => ∃ (v : V) (n : Nat) (ts : List (Nat × Nat)), vs = [v] ∧ WebV H v n ts ∧ WebOk n ts ∧
  (∀ H', Same H H' → ¬ HasFive (aE ts) → Q (.bl true) H') ∧ ∀ H', Same H H' → ¬ (Planar n (aE ts) ∧ PartsFew n ts) → Q (.bl false) H'
theorem k_is_drawable (A : At K mg "is_drawable" s_is_drawable) (B : Bt mg) (C_parts_of_web : Cal P w K mg base 2 "parts_of_web" spPartsOfWeb []) (C_part_as_web : Cal P w K mg base 3 "part_as_web" spPartAsWeb []) (C_is_part_drawable : Cal P w K mg base 7 "is_part_drawable" spIsPartDrawable []) : Cal P w K mg base 8 "is_drawable" spIsDrawable [] := by
  refine mk A sc_is_drawable (fun _ _ _ _ _ _ us hl => match us, hl with | [_], _ => rfl) (fun vs H Q E h => ?_) (fun f cdv A outer s H vs Q E hr h => ?_)
  · obtain ⟨v, n, ts, rfl, _⟩ := h
    rfl
  · obtain ⟨v, n, ts, rfl, hw, ok, q1, q2⟩ := h
    refine ⟨_, (pss_cons (ps_for PassesOwn.never rfl (pi_list (pe_c C_parts_of_web hr (by decide) (by rfl) (pa_cons (pv 0) (pa_cons (pe_lst pa_nil) pa_nil)))) (pg_name (i := 1) sc_is_drawable.nd rfl (.inl rfl))
      (pss_one (ps_if (PW.pt (pw_and (pt_cmpR op_gt (pe_callB call_len_seq (by rfl) B.len (by decide +kernel) (pa_cons (pv 1) pa_nil)) pe_int (nomark _)) (pw_and1 (pt_not (pt_val (pe_c C_is_part_drawable hr (by decide) (by rfl) (pa_cons (pe_c C_part_as_web hr (by decide) (by rfl) (pa_cons (pv 0) (pa_cons (pv 1) pa_nil))) pa_nil)))))))
        (pss_one (ps_ret pe_bl))
        pss_nil)))
    (pss_one (ps_ret pe_bl))), ?_⟩
    refine ⟨v, rfl, by show 0 ≤ sizeLine; omega, fun e0 he0 => ?_⟩
    have s0 := same_upd (o := .lst []) he0
    have he1 : upd H e0 (.lst []) e0 = some (.lst []) := upd_same
    generalize upd H e0 (.lst []) = H0 at s0 he1 ⊢
    refine ⟨v, e0, n, ts, rfl, he1, hw.keep (Same.tups s0), ok, fun H1 l vs s1 hl hvs hcov => ?_⟩
    have s01 := Same.trans s0 s1
    have hw1 := hw.keep (Same.tups s01)
    refine ⟨l, rfl, ⟨_, lq hl⟩, ?_⟩
    refine for_it (walk_list (K := K) (a := l) (xs := vs)) (fun i σ H' => (∃ x, σ = [some v, x]) ∧ Same H1 H' ∧ ∀ j u p, j < i → vs[j]? = some u → NumsV H1 u p → 1 < p.length → ¬ HasFive (partE ts p))
      ⟨⟨_, rfl⟩, fun _ _ e => e, fun j u p h => absurd h (by omega)⟩ (fun i σ H' _ h => lq (h.2.1 _ _ hl)) (fun i x σ H' H'' hi h hx => ?_) (fun σ H' h => ?_)
    · obtain ⟨⟨x0, rfl⟩, s2, hno⟩ := h
      obtain ⟨rfl, hx⟩ := hx
      obtain ⟨p, hp, Pt⟩ := hvs x (List.mem_of_getElem? hx)
      obtain ⟨pa, rfl, po, hpo, hpa⟩ := id hp
      have uniq : ∀ p', NumsV H1 (.ref pa) p' → p' = p := fun p' hp' => by
        obtain ⟨pa', e, po', _, hpa'⟩ := hp'
        cases e
        rw [hpa] at hpa'
        have e2 : ivs p = ivs p' := by
          have := Option.some.inj hpa'
          exact HO.tup.inj (HO.frz.inj this).2
        exact (ivs_inj e2).symm
      have next : (∀ p', NumsV H1 (.ref pa) p' → 1 < p'.length → ¬ HasFive (partE ts p')) → ∀ j u p, j < i + 1 → vs[j]? = some u → NumsV H1 u p → 1 < p.length → ¬ HasFive (partE ts p) := fun g j u p' hj hu hN h1 => by
        by_cases e : j = i
        · rw [e, hx] at hu
          cases hu
          exact g p' hN h1
        · exact hno j u p' (by omega) hu hN h1
      refine ⟨.ref pa, rfl, pa, _, rfl, .inr (fq (s2 _ _ hpa)), _, 1, rfl, rfl, decide (1 < p.length), ?_, ?_⟩
      · exact congrArg V.bl (by rw [decide_eq_decide]; simp only [ivs, List.length_map]; omega)
      by_cases h1 : 1 < p.length
      · rw [decide_eq_true h1]
        refine iteT ⟨v, rfl, .ref pa, rfl, v, .ref pa, n, ts, p, rfl, hw1.keep (Same.tups s2), ok, hp.keep s2, Pt, fun H3 v' us s3 hw3 ok3 hus => ?_⟩
        have hE : aE us = partE ts p := funext fun i => funext fun j => by
          rw [Bool.eq_iff_iff, aE_iff, partE_iff, hus]
        refine ⟨v', p.length, us, rfl, hw3, ok3, part_deg Pt h1 hE, fun H4 s4 hnf => ⟨true, rfl, iteF ?_⟩, fun H4 s4 hnp => ⟨false, rfl, iteT ?_⟩⟩
        · refine ⟨⟨_, rfl⟩, Same.trans s2 (Same.trans s3 s4), next fun p' hp' _ => ?_⟩
          rw [uniq p' hp', ← hE]; exact hnf
        · refine q2 H4 (Same.trans s01 (Same.trans s2 (Same.trans s3 s4))) fun ⟨g1, g2⟩ => hnp ⟨?_, fun h3 => ?_⟩
          · rw [hE]; exact planar_part ok.lt Pt g1
          · exact g2 p Pt h3 us (nodup_srt ok3.srt) (fun t ht => (ok3.lt t ht).1) hus
      · rw [decide_eq_false h1]
        refine iteF ?_
        refine iteF ?_
        exact ⟨⟨_, rfl⟩, s2, next fun p' hp' h1' => absurd (by rw [← uniq p' hp']; exact h1') h1⟩
    · obtain ⟨⟨x0, rfl⟩, s2, hno⟩ := h
      refine q1 H' (Same.trans s01 s2) ?_
      rintro ⟨a, b, c, d, e, hn, hB⟩
      have hab : a ≠ b := by simp at hn; omega
      have ha : a < n := (web_gr ok.lt).bnd1 (hB a b hab (by simp) (by simp))
      obtain ⟨u, hu, p, hp, hap⟩ := hcov a ha
      obtain ⟨p', hp', Pt⟩ := hvs u hu
      have e1 : p' = p := by
        obtain ⟨pa, rfl, po, _, hpa⟩ := hp
        obtain ⟨pa', e, po', _, hpa'⟩ := hp'
        cases e
        rw [hpa] at hpa'
        have e2 : ivs p = ivs p' := by
          have := Option.some.inj hpa'
          exact HO.tup.inj (HO.frz.inj this).2
        exact (ivs_inj e2).symm
      subst e1
      obtain ⟨g1, g2⟩ := five_part Pt ok.lt hn hB hap
      obtain ⟨j, hj⟩ := List.getElem?_of_mem hu
      exact hno j u p' (List.getElem?_eq_some_iff.mp hj).1 hj hp g1 g2
def spBarredOf : Sp := fun vs H Q _ => ∃ (v : V) (n : Nat) (ts : List (Nat × Nat)), vs = [v] ∧ WebV H v n ts ∧ WebOk n ts ∧ Planar n (aE ts) ∧ PartsFew n ts ∧ ∀ H', Same H H' → Q .non H'
theorem k_barred_of (A : At K mg "barred_of" s_barred_of) (B : Bt mg) (C_is_drawable : Cal P w K mg base 8 "is_drawable" spIsDrawable []) : Cal P w K mg base 9 "barred_of" spBarredOf [] := by
  refine mk A sc_barred_of (fun _ _ _ _ _ _ us hl => match us, hl with | [_], _ => rfl) (fun vs H Q E h => ?_) (fun f cdv A outer s H vs Q E hr h => ?_)
  · obtain ⟨v, n, ts, rfl, _⟩ := h
    rfl
  · obtain ⟨v, n, ts, rfl, hw, ok, h1, h2, q⟩ := h
    refine ⟨_, (pss_cons (ps_if (pt_val (pe_c C_is_drawable hr (by decide) (by rfl) (pa_cons (pv 0) pa_nil)))
      (pss_one (ps_ret pe_non))
      pss_nil)
    pss_never), ?_⟩
    exact ⟨v, rfl, v, n, ts, rfl, hw, ok, fun H' s1 _ => ⟨true, rfl, iteT (q H' s1)⟩, fun H' s1 hn => absurd ⟨h1, h2⟩ hn⟩
theorem k_barred_part (A : At K mg "barred_part" s_barred_part) (B : Bt mg) (C_want_web : Cal P w K mg base 5 "want_web" spWantWeb []) (C_barred_of : Cal P w K mg base 9 "barred_of" spBarredOf []) : Cal P w K mg base 10 "barred_part" spBarredOf [] := by
  refine mk A sc_barred_part (fun _ _ _ _ _ _ us hl => match us, hl with | [_], _ => rfl) (fun vs H Q E h => ?_) (fun f cdv A outer s H vs Q E hr h => ?_)
  · obtain ⟨v, n, ts, rfl, _⟩ := h
    rfl
  · obtain ⟨v, n, ts, rfl, hw, ok, h1, h2, q⟩ := h
    refine ⟨_, (pss_cons (ps_expr (pe_c C_want_web hr (by decide) (by rfl) (pa_cons (pv 0) pa_nil)))
    (pss_one (ps_ret (pe_c C_barred_of hr (by decide) (by rfl) (pa_cons (pv 0) pa_nil))))), ?_⟩
    exact ⟨v, rfl, v, n, ts, rfl, hw, ok, fun H' s1 => ⟨v, rfl, v, n, ts, rfl, hw.keep (Same.tups s1), ok, h1, h2, fun H2 s2 => q H2 (Same.trans s1 s2)⟩⟩
theorem k_can_be_drawn (A : At K mg "can_be_drawn" s_can_be_drawn) (B : Bt mg) (C_want_web : Cal P w K mg base 5 "want_web" spWantWeb []) (C_is_drawable : Cal P w K mg base 8 "is_drawable" spIsDrawable []) : Cal P w K mg base 9 "can_be_drawn" spIsDrawable [] := by
  refine mk A sc_can_be_drawn (fun _ _ _ _ _ _ us hl => match us, hl with | [_], _ => rfl) (fun vs H Q E h => ?_) (fun f cdv A outer s H vs Q E hr h => ?_)
  · obtain ⟨v, n, ts, rfl, _⟩ := h
    rfl
  · obtain ⟨v, n, ts, rfl, hw, ok, q1, q2⟩ := h
    refine ⟨_, (pss_cons (ps_expr (pe_c C_want_web hr (by decide) (by rfl) (pa_cons (pv 0) pa_nil)))
    (pss_one (ps_ret (pe_c C_is_drawable hr (by decide) (by rfl) (pa_cons (pv 0) pa_nil))))), ?_⟩
    exact ⟨v, rfl, v, n, ts, rfl, hw, ok, fun H' s1 => ⟨v, rfl, v, n, ts, rfl, hw.keep (Same.tups s1), ok, fun H2 s2 h => q1 H2 (Same.trans s1 s2) h, fun H2 s2 h => q2 H2 (Same.trans s1 s2) h⟩⟩
end
end Wp
set_option maxHeartbeats 4000000
namespace Wp
open PySem PySem.Spec PyProof.Rows L2
/-! own rules: a tuple's slice whose object is known, list.extend by a tuple, enumerate of a tuple -/
section
variable {X : Cx}
/-- an object without a dict and slots of its own -/
def Bare (o : Obj) : Prop := o.dict = none ∧ o.slots = #[]
def rSlF (K : PySem.W.Frag) : V → Option Int → Option Int → Hp → VK → Prop := fun x lo hi H Q => ∃ a xs, x = .ref a ∧ SqT K H a xs ∧
  ¬ (HT.sIx xs.length 0 lo = 0 ∧ HT.sIx xs.length xs.length hi = xs.length) ∧ ∀ p o, H p = none → Bare o → Q (.ref p) (upd H p (.frz o (.tup (cutV xs lo hi))))
theorem sl_tupF : SlR X (rSlF X.K) := by
  intro pins s σ H x v vl vu lo hi sl Q I rx hs pl pu h
  obtain ⟨a, xs, rfl, hx, hw, q⟩ := h
  cases rx
  obtain ⟨its, r, ht, hz⟩ := I.tuple hx
  have hlen : its.toArray.size = xs.length := by rw [List.size_toArray]; exact r.length.symm
  refine ⟨"tuple", _, PyProof.Rows.slot_tuple_getitem.lookup, ht.typeIs, ?_⟩
  refine HT.getItem_tuple_cut ht hs pl pu (by rw [hlen]; exact hw) ?_ (by rw [hlen]; exact hz)
  rw [hlen]
  have hO : ∀ ob : Obj, Bare ob → ∀ h' : Heap, (∀ b o, s.heap.get? b = some o → h'.get? b = some o) → h'.get? s.heap.objs.size = some ob → ObjOk X.prog X.w (upd H s.heap.objs.size (.frz ob (.tup (cutV xs lo hi)))) h' s.heap.objs.size (.frz ob (.tup (cutV xs lo hi))) → EP X pins σ Q (.ref s.heap.objs.size) { s with heap := h' } := fun ob hb h' k e hk =>
    ⟨.ref s.heap.objs.size, _, I.laid (t' := s.toks) k (Nat.le_refl _) hk, rfl, q _ ob (I.hok.fresh (Nat.le_refl _)) hb⟩
  refine hO _ ⟨rfl, rfl⟩ _ (fun b ob q => Heap.get?_push_of_some _ q) (Heap.get?_push_size _ rfl) ?_
  exact ⟨Heap.get?_push_size _ rfl, Nat.le_trans (cutV_length xs lo hi) hz, _, (r.drop (HT.sIx xs.length 0 lo)).take (HT.sIx xs.length xs.length hi - HT.sIx xs.length 0 lo), IsTup.new _ _⟩
/-- xs.extend(t) -/
def rExtendT : V → List V → Hp → VK → Prop := fun x vs H Q => ∃ l b xs zs o, x = .ref l ∧ vs = [.ref b] ∧ H l = some (.lst xs) ∧ Bare o ∧ H b = some (.frz o (.tup zs)) ∧ xs.length + zs.length ≤ sizeLine ∧ Q .non (upd H l (.lst (xs ++ zs)))
theorem mt_extendT : MtM X "list.extend" rExtendT := by
  intro pins s σ H x vs v us Q I rx rv h
  obtain ⟨l, b, xs, zs, o, rfl, rfl, hH, hBo, hB, hz, q⟩ := h
  cases rx
  obtain ⟨u, rfl, ru⟩ := rv.one
  cases ru
  obtain ⟨z, its, n, r, hl, e⟩ := I.lstM hH
  obtain ⟨hg, z2, its2, r2, hT⟩ := I.hok b _ hB
  obtain ⟨o2, e2, hc, n2, hd⟩ := hT
  rw [hg] at e2
  cases e2
  have hl2 := r2.length
  have e2 : s.heap.get? b = some { cls := .type "tuple", dict := none, data := .seq its2.toArray n2, slots := #[] } := by
    rw [hg]
    obtain ⟨c, d, dt, sl⟩ := o
    obtain ⟨h1, h2⟩ := hBo
    simp only at hc hd h1 h2
    rw [hc, hd, h1, h2]
  have hsz : its.toArray.size + its2.toArray.size ≤ sizeLine := by rw [List.size_toArray, List.size_toArray]; omega
  have hlong : ¬ (!its.toArray.isEmpty && Builtin.List.listTooLong (its.toArray.size + its2.toArray.size)) = true := by
    rw [notLongL hsz, Bool.and_false]
    exact Bool.false_ne_true
  refine call_meets F.slot_list_extend ⟨_, e, rfl⟩ F.entry_list_extend (F.args_list_extend_2 _ _)
    (AutoSeq1.list_extend_list_tuple_0 l its.toArray n b its2.toArray n2 hlong (by rw [List.size_toArray]; omega) (by omega)) ⟨e, e2, ?_⟩
  refine ⟨.non, _, I.lset (its' := its ++ its2) hH e (by simp) (r.append r2) ?_, rfl, q⟩
  rw [List.length_append]
  omega
end
/-! enumerate(t) -/
section
open AutoSeq1 (wpAny_loadPart')
theorem meets_enumerate_newT (l : Addr) (items : Array Value) (n : Nat) (dct : Option Addr) (sl : Array (Option Value)) :
    Meets (Builtin.«enumerate.__new__» ⟨[.type "enumerate", .ref l], []⟩) (fun _ R s => s.heap.get? l = some { cls := .type "tuple", dict := dct, data := .seq items n, slots := sl } ∧
      R (.ok (.ret (.ref (s.heap.push { cls := .type "tuple_iterator", data := .fields #[.ref l, .int 0 0] }).objs.size)))
        { s with heap := (s.heap.push { cls := .type "tuple_iterator", data := .fields #[.ref l, .int 0 0] }).push { cls := .type "enumerate", data := .fields #[.none, .bool false, .ref s.heap.objs.size, rawInt 0, .none, .none] } }) :=
  .of_wp fun prog w A R s h => by
    obtain ⟨hp, g, d, tk, os⟩ := s; obtain ⟨hl, h⟩ := h
    have hsub := sub_enumerate
    have hL : Heap.IsTuple (Shared.heap ⟨hp, g, d, tk, os⟩) l items := ⟨_, hl, rfl, n, rfl⟩
    wp_walk using wpAny_loadPart' hl
    refine wpAny_stack_any fun st => wpAny_pure ?_
    split
    · rename_i c _ _ _ _ _
      cases (c == Value.type "enumerate")
      · wp_walk using wpAny_loadPart' hl, wpAny_pyIter_tuple hL
        exact ⟨_, rfl, h⟩
      · wp_walk using wpAny_loadPart' hl, wpAny_pyIter_tuple hL
        exact ⟨_, rfl, h⟩
    · wp_walk using wpAny_loadPart' hl, wpAny_pyIter_tuple hL
      exact ⟨_, rfl, h⟩
variable {prog : Program} {w : World} {A : Around} {E : Value → Shared → Prop} {s : Shared}
theorem call_enumerate_tuple {l : Addr} {items : Array Value} {Q : Value → Shared → Prop} (hL : s.heap.IsTuple l items)
    (h : ∀ h', IsEnum h' (s.heap.objs.size + 1) s.heap.objs.size 0 .none → h'.IsTupleIter s.heap.objs.size l 0 → h'.objs.size = s.heap.objs.size + 2 →
      (∀ b o, s.heap.get? b = some o → h'.get? b = some o) → Q (.ref (s.heap.objs.size + 1)) { s with heap := h' }) :
    wpAny (model prog w) A (call (.type "enumerate") [.ref l]) Q E s := by
  obtain ⟨⟨c, dct, dt, sl⟩, hl, hc, n, hd⟩ := hL
  replace hc : c = .type "tuple" := hc
  replace hd : dt = .seq items n := hd
  subst hc hd
  refine callType_new F.called_enumerate (by decide) (F.typeCall_enumerate_1 _) (F.newCall_enumerate_1 _) (fun obj => F.args_object_init_2 obj _) F.entry_enumerate_new
    (meets_enumerate_newT l items n dct sl) ⟨hl, ?_⟩
  have hz : (s.heap.push { cls := .type "tuple_iterator", data := .fields #[.ref l, .int 0 0] }).objs.size = s.heap.objs.size + 1 := Heap.size_push ..
  show _ ∧ _
  rw [hz]
  have he : IsEnum ((s.heap.push { cls := .type "tuple_iterator", data := .fields #[.ref l, .int 0 0] }).push
      { cls := .type "enumerate", data := .fields #[.none, .bool false, .ref s.heap.objs.size, rawInt 0, .none, .none] }) (s.heap.objs.size + 1) s.heap.objs.size 0 .none := by
    have := Heap.get?_push_size (s.heap.push { cls := .type "tuple_iterator", data := .fields #[.ref l, .int 0 0] })
      (o := { cls := .type "enumerate", data := .fields #[.none, .bool false, .ref s.heap.objs.size, rawInt 0, .none, .none] }) rfl
    rw [hz] at this; exact this
  refine ⟨⟨_, he, rfl⟩, h _ he ⟨_, Heap.get?_push_of_some _ (Heap.get?_push_size _ rfl), rfl, rfl⟩ (by rw [Heap.size_push, hz]) fun b o x => Heap.get?_push_of_some _ (Heap.get?_push_of_some _ x)⟩
end
theorem draws_tuple {prog : Program} {w : World} {A : Around} (hh : A.handled = none) {it l : Addr} {items : Array Value} (hne : l ≠ it) : Draws prog w A.in1 it [it, l] items.size (fun i x => items[i]? = some x) (fun i h => h.IsTupleIter it l i ∧ h.IsTuple l items) where
  live i h st := by obtain ⟨⟨o, ho, _⟩, _⟩ := st; exact ⟨o, ho⟩
  frame i h h' st k := by
    obtain ⟨⟨o, ho, r⟩, ⟨o2, ho2, r2⟩⟩ := st
    exact ⟨⟨o, k it (by simp) o ho, r⟩, ⟨o2, k l (by simp) o2 ho2, r2⟩⟩
  item i s Q E hi st hQ := by
    obtain ⟨h1, h2⟩ := st
    have hx : items[i]? = some items[i] := by simp [hi]
    exact RZ.nextOf_tuple_item h1 h2 hx fun h' a b => by
      have := hQ items[i] h' s.toks hx ⟨a, by
        obtain ⟨o2, ho2, r2⟩ := h2
        exact ⟨o2, (b.2 l hne).trans ho2, r2⟩⟩ b
      exact this
  done s Q E st hE := RZ.nextOf_tuple_end (show A.in1.handled = none from hh) st.1 st.2 (by simp) hE
theorem enum_endT {prog : Program} {w : World} {A : Around} {E : Value → Shared → Prop} {s : Shared} {e it l : Addr} {i : Nat} {items : Array Value} {old : Value} {Q : Option Value → Shared → Prop} (hh : A.handled = none)
    (he : IsEnum s.heap e it i old) (hit : s.heap.IsTupleIter it l i) (hl : s.heap.IsTuple l items) (hx : items[i]? = none)
    (hQ : ∀ h', Heap.ExtBut it s.heap h' → Q none { s with heap := h' }) : wpAny (model prog w) A (pyNext (.ref e)) Q E s := by
  have hT : s.TypeIs (.ref e) "enumerate" := ⟨_, he, rfl⟩
  unfold pyNext
  refine wpAny_bind (wpAny_attempt (wpAny_callSpecial?_slot (name := Str.ofString "__next__") hT F.slot_enumerate_next
    (wpAny_call_entry F.slot_enumerate_next hT F.entry_enumerate_next ?_ (F.args_enumerate_next_1 _))))
  show wpAny _ _ (field (.ref e) 2 >>= _) _ _ _
  refine wpAny_bind (wpAny_field he rfl (x := .ref it) rfl ?_)
  refine wpAny_bind (RZ.nextOf_tuple_end (show A.in1.handled = none from hh) hit hl hx fun h' x he' hx' => ?_)
  obtain ⟨o, ho, hc⟩ := hx'
  refine wpAny_bind (wpAny_isInstance (T := "StopIteration") (b := true) ⟨o, ho, hc⟩ isSubtype_stop ?_)
  exact wpAny_pure (hQ _ he')
/-- the tuple at a as it stands at each turn, each item in a new pair -/
def IteT (K : PySem.W.Frag) (a : Addr) : It :=
  ⟨fun i H => ∃ (xs : List V) (x : V), SqT K H a xs ∧ xs[i]? = some x, fun i H v H' => ∃ T x, v = .ref T ∧ H T = none ∧ H' = upd H T (.tup [.int (i : Nat), x]) ∧ ∀ xs, SqT K H a xs → xs[i]? = some x, fun i H => ∃ xs : List V, SqT K H a xs ∧ xs.length ≤ i⟩
theorem turn_enumT {P : Program} {w : World} {K : PySem.W.Frag} {elts : List Expr} {kk : Nat} {tpos : Pos} (a e it : Addr) :
    Turn P w K (.Tuple elts kk tpos) (IteT K a) [e, it] e (fun i h => (∃ old, IsEnum h e it ((i : Nat) : Int) old) ∧ h.IsTupleIter it a i ∧ e ≠ it ∧ a ≠ it ∧ a ≠ e) where
  mem := by simp
  obj := fun i h st b hb => by
    obtain ⟨⟨old, he⟩, ⟨o, ho, hc, hd⟩, _⟩ := st
    have e' : b = e ∨ b = it := by simpa using hb
    rcases e' with z | z
    · rw [z]; exact ⟨_, he, fun v q => nomatch q⟩
    · rw [z]; exact ⟨o, ho, fun v q => by rw [hd] at q; cases q⟩
  keep := fun i h h' st k => let ⟨⟨old, he⟩, hi, hne⟩ := st; ⟨⟨old, k e (by simp) _ he⟩, hi.at fun o q => k it (by simp) o q, hne⟩
  item := by
    intro X hP hw hK hc i pins s σ H E I hf st hg
    subst hP hw hK
    obtain ⟨⟨old, he⟩, hit, hne, hai, hae⟩ := st
    obtain ⟨xs, x, hq, hx⟩ := hg
    obtain ⟨its, rv, p, hz⟩ := I.tuple hq
    obtain ⟨u, hu, ru⟩ := rv.get hx
    have hel : e < s.heap.objs.size := Heap.lt_size he
    have hil : it < s.heap.objs.size := by obtain ⟨_, q, _⟩ := hit; exact Heap.lt_size q
    have hlt : i < its.toArray.size := by
      have := (List.getElem?_eq_some_iff.mp hu).1
      simpa using this
    refine wpAny_pyNext_enum_itemD (draws_tuple (prog := X.prog) (w := X.w) (A := X.A) (I.ok.hd hc) (items := its.toArray) hai) he ⟨hit, p⟩ hlt hne (by simp; exact ⟨hne, Ne.symm hae⟩) fun x' h' tk hPx ho hit' hT hsz hk => ?_
    have ex : x' = u := by
      have h1 : its[i]? = some x' := by simpa using hPx
      rw [hu] at h1
      exact (Option.some.inj h1).symm
    subst ex
    refine ⟨_, rfl, wpAny_letOwnedTupleGo_enum (s := { s with heap := h', toks := tk + 1 }) ho fun h'' he' sb => ?_⟩
    have hT2 : h''.get? s.heap.objs.size = some { cls := .type "tuple", data := .seq #[.int i tk, x'] } := (sb.2 _ (Nat.ne_of_gt hel)).trans hT
    have new : ObjOk X.prog X.w (upd H s.heap.objs.size (.tup [.int (i : Nat), x])) h'' s.heap.objs.size (.tup [.int (i : Nat), x]) :=
      ⟨by show 2 ≤ sizeLine; decide, [.int i tk, x'], .cons ⟨_, rfl⟩ (.cons ru .nil), ⟨_, hT2, rfl, _, rfl⟩⟩
    have I1 : Inv X pins σ (upd H s.heap.objs.size (.tup [.int (i : Nat), x])) { s with heap := h'', toks := tk + 1 } :=
      I.turnedNew (ch := [e, it]) (fun b ob hb q => (sb.2 b (fun z => hb (by simp [z]))).trans (hk b ob (fun z => hb (by simp [z])) (fun z => hb (by simp [z])) q)) hf (Nat.le_refl _) new
    refine ⟨.ref s.heap.objs.size, _, I1, rfl, ⟨_, x, rfl, I.hok.fresh (Nat.le_refl _), rfl, fun ys hy => by rw [I.tuple_inj hy hq]; exact hx⟩, ⟨⟨x', ?_⟩, hit'.1.at fun o q => (sb.2 it (Ne.symm hne)).trans q, hne, hai, hae⟩, fun b hb => ?_⟩
    · have e1 : ((i + 1 : Nat) : Int) = (i : Int) + 1 := by omega
      rw [e1]; exact he'
    · have hb' : b < s.heap.objs.size := by
        have e' : b = e ∨ b = it := by simpa using hb
        rcases e' with z | z
        · rw [z]; exact hel
        · rw [z]; exact hil
      rw [upd_ne (Nat.ne_of_lt hb')]
      exact (hf b hb).1
  done := by
    intro X hP hw hK hc i pins s σ H E I hf st hg
    subst hP hw hK
    obtain ⟨⟨old, he⟩, hit, hne, hai, hae⟩ := st
    obtain ⟨xs, hq, hx⟩ := hg
    obtain ⟨its, rv, p, hz⟩ := I.tuple hq
    obtain ⟨f0, f1, f2, f3, f4, f5⟩ := hf it (by simp)
    have hl := rv.length
    exact enum_endT (I.ok.hd hc) he hit p (by simp; omega) fun h' eb => ⟨rfl, I.turned (t' := s.toks) (fun b o hb q => eb b o hb q) f0 f1 f3 f4 f5⟩
  self := fun A i s Q E st h => let ⟨⟨_, he⟩, _⟩ := st; wpAny_pyIter_enum he h
def iEnumT (K : PySem.W.Frag) (ta : TA) : TI := fun σ H R => ta σ H fun vs H1 => ∃ a xs, vs = [.ref a] ∧ SqT K H1 a xs ∧ R (IteT K a) H1
theorem pi_enumT {X : Cx} {e : Expr} {ta : TA} {p pos tpos : Pos} {elts : List Expr} {kk : Nat} (hg : Gl X "enumerate") (hm : X.mg "enumerate" = none) (ha : PA X [e] ta) (hs : starEach [e] X.env = [(false, eval e X.env)] := by rfl) :
    PI X (.Tuple elts kk tpos) (.Call (.Name "enumerate" p) [e] [] pos) (iEnumT X.K ta) := by
  refine ⟨fun pins s σ H R I h => ?_⟩
  refine Call_ (ld_blt I hg hm boot_enumerate (PyProof.Rows.callWith_type1 (thn (ha.run pos pins s σ H _ I h) fun us s1 ⟨vs, H1, I1, r1, q1⟩ => ?_) hs rfl))
  obtain ⟨a, xs, ex, hq, q⟩ := q1
  subst ex
  cases r1 with
  | cons r rr =>
    cases rr
    cases r
    obtain ⟨its, rv, p', hz⟩ := I1.tuple hq
    have hal : a < s1.heap.objs.size := by obtain ⟨_, e, _⟩ := p'; exact Heap.lt_size e
    refine call_enumerate_tuple p' fun h' he hit hsz hk => wpAny_pyIter_enum he ?_
    have I2 : Inv X pins σ H1 { s1 with heap := h' } := I1.kept (t' := s1.toks) hk
    refine ⟨s1.heap.objs.size + 1, [s1.heap.objs.size + 1, s1.heap.objs.size], _, _, H1, rfl, I2, turn_enumT a (s1.heap.objs.size + 1) s1.heap.objs.size, ⟨⟨.none, he⟩, hit, Nat.succ_ne_self _, Nat.ne_of_lt hal, Nat.ne_of_lt (Nat.lt_succ_of_lt hal)⟩, fun b hb => ?_, q⟩
    have e' : b = s1.heap.objs.size + 1 ∨ b = s1.heap.objs.size := by simpa using hb
    have hle : s1.heap.objs.size ≤ b := by
      rcases e' with z | z
      · rw [z]; exact Nat.le_add_right _ _
      · rw [z]; exact Nat.le_refl _
    exact I1.fpOk hle (I1.hok.fresh hle)
theorem walk_enumT {K : PySem.W.Frag} {a : Addr} {xs : List V} : Walk (IteT K a) xs.length (fun H => SqT K H a xs) (YPair (fun i => some (.int (i : Nat))) (fun i => xs[i]?)) := by
  refine ⟨fun i _ hi q => ⟨xs, xs[i], q, by simp [hi]⟩, fun _ q => ⟨xs, q, Nat.le_refl _⟩, fun i H v H' _ q y => ?_⟩
  obtain ⟨T, x, h1, h2, h3, h4⟩ := y
  exact ⟨T, .int (i : Nat), x, h1, h2, h3, rfl, h4 xs q⟩
end Wp
set_option maxHeartbeats 4000000
namespace Wp
open Wb
open PySem PySem.Spec PyProof.Rows L2
open C8 (Cal pe_c pe_gc)
section
variable {P : Program} {w : World} {K : PySem.W.Frag} {mg : Str → Option Value} {base : Heap}
def spAreCorners : Sp := fun vs H Q _ => ∃ (v : V) (n : Nat) (ts : List (Nat × Nat)) (a : Addr) (l : List Nat), vs = [v, .ref a] ∧ WebV H v n ts ∧ H a = some (.tup (ivs l)) ∧ l.Nodup ∧ l.length ≤ 100 ∧ ∀ H', Same H H' → Q (.bl (decide (∀ x ∈ l, x < n))) H'
theorem k_are_corners (A : At K mg "are_corners" s_are_corners) (B : Bt mg) (C_is_list : Cal P w K mg base 1 "is_list" spIsList []) (C_is_corner : Cal P w K mg base 3 "is_corner" spIsCorner []) : Cal P w K mg base 4 "are_corners" spAreCorners [] := by
  refine mk A sc_are_corners (fun _ _ _ _ _ _ us hl => match us, hl with | [_, _], _ => rfl) (fun vs H Q E h => ?_) (fun f cdv A outer s H vs Q E hr h => ?_)
  · obtain ⟨v, n, ts, a, l, rfl, _⟩ := h
    rfl
  · obtain ⟨v, n, ts, a, l, rfl, hw, ha, hnd, hl, q⟩ := h
    refine ⟨_, (pss_one (ps_ret (pe_and (pe_c C_is_list hr (by decide) (by rfl) (pa_cons (pv 1) pa_nil)) (pe_and (pe_callB (cr_all rfl) (by rfl) B.all (by decide +kernel) (pa_cons (pe_lc (own := [("one", 2)]) rfl sc_are_corners.nd (pi_tup (pv 1)) (blkOk_by (N := ["web", "value", "one"]) (sc := defScope s_are_corners) (by decide +kernel)) (fun _ _ _ _ _ => (pg_name (i := 2) sc_are_corners.nd rfl (.inl rfl) (.inr rfl))) (fun _ _ _ _ _ => pts_nil) (fun _ _ _ _ _ => (pe_c C_is_corner hr (by decide) (by rfl) (pa_cons (pv 0) (pa_cons (pv 2) pa_nil))))) pa_nil)) (pe_one (pe_cmpR op_eq (pe_lenSetT (by rfl) B.len (by rfl) B.set (pv 1)) (pe_callB call_len_seq (by rfl) B.len (by decide +kernel) (pa_cons (pv 1) pa_nil)) (nomark _))))))), ?_⟩
    refine ⟨.ref a, rfl, a, _, rfl, ha, fun H1 s1 => ⟨true, rfl, iteT ?_⟩⟩
    refine ⟨.ref a, rfl, a, rfl, ⟨_, tq (s1 _ _ ha)⟩, fun D hD => ?_⟩
    refine lc0 (walk_tup (K := K) (a := a) (xs := ivs l)) (fun j H' => Same H1 H' ∧ H' D = some (.lst (((l.take j).map fun x => decide (x < n)).map V.bl))) ⟨same_upd hD, upd_same⟩ (fun j H' _ h => tq (h.1 _ _ (s1 _ _ ha))) (fun j x H3 H4 hj h hx => ?_) (fun H3 h => ?_)
    · obtain ⟨s3, h3⟩ := h
      obtain ⟨rfl, hx⟩ := hx
      obtain ⟨y, hy, rfl⟩ := ivs_get hx
      have hjl : j < l.length := by simpa [ivs] using hj
      refine ⟨rfl, v, rfl, iv y, rfl, v, n, y, ts, rfl, hw.keep (Same.tups (Same.trans s1 s3)), ?_⟩
      refine ⟨_, h3, by rw [List.length_map, List.length_map, List.length_take]; exact small1000 (by omega), same_list hD s3, ?_⟩
      rw [upd_same, List.take_add_one, hy]
      simp
    · obtain ⟨s3, h3⟩ := h
      have eT : l.take (ivs l).length = l := by simp [ivs]
      rw [eT] at h3
      have s13 := Same.trans s1 s3
      refine ⟨D, _, rfl, lq h3, ?_⟩
      have hall : ((l.map fun x => decide (x < n)).all id) = decide (∀ x ∈ l, x < n) := by
        rw [List.all_map, Bool.eq_iff_iff]
        simp
      rw [hall]
      by_cases hm : ∀ x ∈ l, x < n
      · have q := q H3 s13
        rw [decide_eq_true hm] at q ⊢
        refine ⟨true, rfl, iteT ?_⟩
        refine ⟨.ref a, rfl, a, l.map fun (k : Nat) => (k : Int), rfl, tq ((s13 _ _ ha).trans (by simp [ivs])), ?_, by rw [List.length_map]; omega, .ref a, rfl, a, _, rfl, .inr (tq (s13 _ _ ha)), rfl, ?_⟩
        · exact List.Pairwise.map _ (fun a b h e => h (by omega)) hnd
        · have e : decide (V.int ((l.map fun (k : Nat) => (k : Int)).length : Nat) = V.int ((ivs l).length : Nat)) = true := decide_eq_true (by simp [ivs])
          rw [e]; exact q
      · have q := q H3 s13
        rw [decide_eq_false hm] at q ⊢
        exact ⟨false, rfl, iteF q⟩
def spIsWayOf : Sp := fun vs H Q _ => ∃ (v : V) (n : Nat) (ts : List (Nat × Nat)) (a : Addr) (l : List Nat), vs = [v, .ref a] ∧ WebV H v n ts ∧ H a = some (.tup (ivs l)) ∧ l.Nodup ∧ l ≠ [] ∧ l.length ≤ 100 ∧ ∀ H', Same H H' → Q (.bl (decide ((∀ x ∈ l, x < n) ∧ ∀ q ∈ l.zip (l.drop 1), mm q ∈ ts))) H'
theorem k_is_way_of (A : At K mg "is_way_of" s_is_way_of) (B : Bt mg) (C_are_corners : Cal P w K mg base 4 "are_corners" spAreCorners []) (C_is_tied : Cal P w K mg base 2 "is_tied" spIsTied []) : Cal P w K mg base 5 "is_way_of" spIsWayOf [] := by
  refine mk A sc_is_way_of (fun _ _ _ _ _ _ us hl => match us, hl with | [_, _], _ => rfl) (fun vs H Q E h => ?_) (fun f cdv A outer s H vs Q E hr h => ?_)
  · obtain ⟨v, n, ts, a, l, rfl, _⟩ := h
    rfl
  · obtain ⟨v, n, ts, a, l, rfl, hw, ha, hnd, hne, hl, q⟩ := h
    refine ⟨_, (pss_cons (ps_if (PW.pt (pw_or (pt_not (pt_val (pe_callB call_isi (by rfl) B.isinstance (by decide +kernel) (pa_cons (pv 1) (pa_cons (pe_bltn (v := .ty "tuple") (by rfl) B.tuple (by decide +kernel) rfl) pa_nil))))) (pw_or (pt_cmpR (op_eqD hr.units) (pv 1) (pe_tup pa_nil) (nomark _)) (pw_or1 (pt_not (pt_val (pe_c C_are_corners hr (by decide) (by rfl) (pa_cons (pv 0) (pa_cons (pv 1) pa_nil)))))))))
      (pss_one (ps_ret pe_bl))
      pss_nil)
    (pss_one (ps_ret (pe_callB (cr_all rfl) (by rfl) B.all (by decide +kernel) (pa_cons (pe_lc (own := [("one", 2), ("other", 3)]) (g := (gTup K 2 (gCons (gName 2) (gCons (gName 3) gNil)))) rfl sc_is_way_of.nd (RZ.pi_zipA (by rfl) B.zip (pa_cons (pv 1) (pa_cons (pe_slice sl_tupA (pv 1) (po_some pe_int) po_none) pa_nil))) (blkOk_by (N := ["web", "value", "one", "other"]) (sc := defScope s_is_way_of) (by decide +kernel)) (fun _ _ _ _ _ => (pg_tup rfl (pgs_cons (pg_name (i := 2) sc_is_way_of.nd rfl (.inl rfl) (.inr rfl)) (pgs_cons (pg_name (i := 3) sc_is_way_of.nd rfl (.inl rfl) (.inr rfl)) pgs_nil)))) (fun _ _ _ _ _ => pts_nil) (fun _ _ _ _ _ => (pe_c C_is_tied hr (by decide) (by rfl) (pa_cons (pv 0) (pa_cons (pv 2) (pa_cons (pv 3) pa_nil)))))) pa_nil))))), ?_⟩
    refine ⟨.ref a, rfl, .ref a, .ty "tuple", _, _, true, rfl, .ty "tuple", .base (.tup ha), kit_ty (by decide +kernel), true, rfl, iteF ?_⟩
    refine ⟨.ref a, rfl, by show 0 ≤ sizeLine; omega, fun p0 hp0 => ?_⟩
    have s0 := same_upd (o := .tup []) hp0
    have hp1 : upd H p0 (.tup []) p0 = some (.tup []) := upd_same
    generalize upd H p0 (.tup []) = H0 at s0 hp1 ⊢
    refine ⟨_, .tuple [], .tup (tq (s0 _ _ ha)) (ivs_dp l), .tup (tq hp1) .nil, (ints_shaped l).2, rfl, false, ?_, iteF ?_⟩
    · cases l with
      | nil => exact absurd rfl hne
      | cons _ _ => rfl
    refine ⟨v, rfl, .ref a, rfl, v, n, ts, a, l, rfl, hw.keep (Same.tups s0), s0 _ _ ha, hnd, hl, fun H1 s1 => ?_⟩
    have s01 := Same.trans s0 s1
    by_cases hm : ∀ x ∈ l, x < n
    · rw [decide_eq_true hm]
      refine ⟨true, rfl, iteF ?_⟩
      have ha1 := s01 _ _ ha
      refine ⟨.ref a, rfl, .ref a, rfl, 1, rfl, ?_⟩
      dsimp only [tNoPart, Cx.nox]
      refine slice1 ha1 fun c H3 s3 hc => ?_
      have ha3 := s3 _ _ ha1
      have s03 := Same.trans s01 s3
      have ed : (ivs l).drop 1 = ivs (l.drop 1) := by simp [ivs]
      rw [ed] at hc
      refine ⟨a, c, ivs l, ivs (l.drop 1), rfl, .inr ⟨tq ha3, hc, fun D2 hD2 => ?_⟩⟩
      refine lc0 (walk_zipT (K := K) (a := a) (b := c) (xs := ivs l) (ys := ivs (l.drop 1)) rfl) (fun i H' => Same H3 H' ∧ H' D2 = some (.lst ((((l.zip (l.drop 1)).take i).map fun q => decide (mm q ∈ ts)).map V.bl))) ⟨same_upd hD2, upd_same⟩ (fun i H' _ h => ⟨tq (h.1 _ _ ha3), seqT h.1 hc⟩) (fun i x H4 H5 hi h4 hx => ?_) (fun H4 h4 => ?_)
      · obtain ⟨T, x1, y1, rfl, hT, rfl, e1, e2⟩ := hx
        obtain ⟨a1, g1, rfl⟩ := ivs_get e1
        obtain ⟨a2, g2, rfl⟩ := ivs_get e2
        have s5 : Same H3 (upd H4 T (.tup [iv a1, iv a2])) := h4.1.trans (same_upd hT)
        have hTt : upd H4 T (.tup [iv a1, iv a2]) T = some (.tup [iv a1, iv a2]) := upd_same
        have hD5 : upd H4 T (.tup [iv a1, iv a2]) D2 = _ := (same_upd hT) _ _ h4.2
        generalize upd H4 T (.tup [iv a1, iv a2]) = H5 at s5 hTt hD5 ⊢
        refine ⟨T, [iv a1, iv a2], rfl, tq hTt, rfl, iv a1, [iv a2], rfl, iv a2, [], rfl, rfl, rfl, v, rfl, iv a1, rfl, iv a2, rfl, v, n, a1, a2, ts, rfl, hw.keep (Same.tups (Same.trans s03 s5)), fun H6 s6 => ?_⟩
        have hzl : (l.zip (l.drop 1)).length ≤ 100 := by rw [List.length_zip]; omega
        refine ⟨_, s6 _ _ hD5, by rw [List.length_map, List.length_map, List.length_take]; exact small1000 (by omega), same_list hD2 (Same.trans s5 s6), ?_⟩
        have hz : (l.zip (l.drop 1))[i]? = some (a1, a2) := List.getElem?_zip_eq_some.mpr ⟨g1, g2⟩
        rw [upd_same, List.take_add_one, hz]
        simp
      · have eT : (l.zip (l.drop 1)).take (min (ivs l).length (ivs (l.drop 1)).length) = l.zip (l.drop 1) := List.take_of_length_le (by rw [List.length_zip]; simp [ivs])
        rw [eT] at h4
        refine ⟨D2, _, rfl, lq h4.2, ?_⟩
        have hall : (((l.zip (l.drop 1)).map fun q => decide (mm q ∈ ts)).all id) = decide ((∀ x ∈ l, x < n) ∧ ∀ q ∈ l.zip (l.drop 1), mm q ∈ ts) := by
          rw [List.all_map, Bool.eq_iff_iff]
          simp only [List.all_eq_true, decide_eq_true_eq, Function.comp, id]
          exact ⟨fun h => ⟨hm, h⟩, fun h => h.2⟩
        rw [hall]
        exact q H4 (Same.trans s03 h4.1)
    · rw [decide_eq_false hm]
      refine ⟨false, rfl, iteT ?_⟩
      have q := q H1 s01
      rw [decide_eq_false (fun h => hm h.1)] at q
      exact q
end
end Wp
set_option maxHeartbeats 4000000
namespace Wp
open PySem PySem.Spec PyProof.Rows L2
/-! own rule: zip of a list and a tuple -/
def ItzLT (K : PySem.W.Frag) (a b : Addr) : It :=
  ⟨fun i H => ∃ (xs ys : List V) (x y : V), SqL K H a xs ∧ SqT K H b ys ∧ xs[i]? = some x ∧ ys[i]? = some y,
    fun i H v H' => ∃ T x y, v = .ref T ∧ H T = none ∧ H' = upd H T (.tup [x, y]) ∧ (∀ xs, SqL K H a xs → xs[i]? = some x) ∧ ∀ ys, SqT K H b ys → ys[i]? = some y,
    fun i H => ∃ xs ys : List V, SqL K H a xs ∧ SqT K H b ys ∧ i ≤ xs.length ∧ i ≤ ys.length ∧ (i = xs.length ∨ i = ys.length)⟩
theorem turn_zipLT {P : Program} {w : World} {K : PySem.W.Frag} {elts : List Expr} {kk : Nat} {tpos : Pos} {a b z TI TO i1 i2 : Addr} (S : ZipSep2 z TI TO i1 i2 [i1, a] [i2, b]) (ha : a ≠ i1) (hb : b ≠ i2) :
    Turn P w K (.Tuple elts kk tpos) (ItzLT K a b) [z, TI, TO, i1, i2] z (fun i h => IsZip h z TI TO .none ∧ IsTupOf2 h TI (.ref i1) (.ref i2) ∧ (∃ x y, IsTupOf2 h TO x y) ∧ h.IsListIter i1 a i ∧ h.IsTupleIter i2 b i) where
  mem := by simp
  obj := fun i h st c hc => by
    obtain ⟨hz, hTI, ⟨x, y, hTO⟩, ⟨o1, e1, _, d1⟩, ⟨o2, e2, _, d2⟩⟩ := st
    have e' : c = z ∨ c = TI ∨ c = TO ∨ c = i1 ∨ c = i2 := by simpa using hc
    rcases e' with q | q | q | q | q
    · rw [q]; exact ⟨_, hz, fun v q => nomatch q⟩
    · rw [q]; exact ⟨_, hTI, fun v q => nomatch q⟩
    · rw [q]; exact ⟨_, hTO, fun v q => nomatch q⟩
    · exact ⟨o1, q ▸ e1, fun v q => by rw [d1] at q; cases q⟩
    · exact ⟨o2, q ▸ e2, fun v q => by rw [d2] at q; cases q⟩
  keep := fun i h h' st k => by
    obtain ⟨hz, hTI, ⟨x, y, hTO⟩, h1, h2⟩ := st
    exact ⟨k z (by simp) _ hz, k TI (by simp) _ hTI, ⟨x, y, k TO (by simp) _ hTO⟩, h1.at fun o q => k i1 (by simp) o q, h2.at fun o q => k i2 (by simp) o q⟩
  item := by
    intro X hP hw hK hc i pins s σ H E I hf st hg
    subst hP hw hK
    obtain ⟨hz, hTI, ⟨x0, y0, hTO⟩, h1, h2⟩ := st
    obtain ⟨xs, ys, x, y, hqx, hqy, hx, hy⟩ := hg
    obtain ⟨its, rv, p, _⟩ := I.list hqx
    obtain ⟨its2, rv2, p2, _⟩ := I.tuple hqy
    obtain ⟨u, hu, ru⟩ := rv.get hx
    obtain ⟨u2, hu2, ru2⟩ := rv2.get hy
    have hzl : z < s.heap.objs.size := Heap.lt_size hz
    have lt1 : i < its.toArray.size := by simpa using (List.getElem?_eq_some_iff.mp hu).1
    have lt2 : i < its2.toArray.size := by simpa using (List.getElem?_eq_some_iff.mp hu2).1
    refine wpAny_pyNext_zipD2_item S (Draws.list (prog := X.prog) (w := X.w) (A := X.A.in1) (I.ok.hd hc) i1 a ha its.toArray) (Draws.tuple (prog := X.prog) (w := X.w) (A := X.A.in1) (I.ok.hd hc) i2 b hb its2.toArray) hz hTI hTO ⟨h1, p.isList⟩ ⟨h2, p2⟩ lt1 lt2 fun x1 x2 h' tk hP1 hP2 z' TO' st1' st2' hT hsz hk => ?_
    have e1 : x1 = u := by
      have h1 : its[i]? = some x1 := by simpa using hP1
      rw [hu] at h1
      exact (Option.some.inj h1).symm
    have e2 : x2 = u2 := by
      have h1 : its2[i]? = some x2 := by simpa using hP2
      rw [hu2] at h1
      exact (Option.some.inj h1).symm
    subst e1
    subst e2
    refine ⟨_, rfl, wpAny_letOwnedTupleGo_zip (s := { s with heap := h', toks := tk }) z' fun h'' z'' sb => ?_⟩
    have hT2 : h''.get? s.heap.objs.size = some { cls := .type "tuple", data := .seq #[x1, x2] } := (sb.2 _ (Nat.ne_of_gt hzl)).trans hT
    have new : ObjOk X.prog X.w (upd H s.heap.objs.size (.tup [x, y])) h'' s.heap.objs.size (.tup [x, y]) :=
      ⟨by show 2 ≤ sizeLine; decide, [x1, x2], .cons ru (.cons ru2 .nil), ⟨_, hT2, rfl, _, rfl⟩⟩
    have I1 : Inv X pins σ (upd H s.heap.objs.size (.tup [x, y])) { s with heap := h'', toks := tk } :=
      I.turnedNew (t' := tk) (ch := [z, TI, TO, i1, i2]) (fun c o hb q => (sb.2 c (fun q' => hb (by simp [q']))).trans (hk c o (fun q' => hb (by simp [q'])) (fun q' => hb (by simp [q'])) (fun q' => hb (by simp [q'])) (fun q' => hb (by simp [q'])) q)) hf (Nat.le_refl _) new
    refine ⟨.ref s.heap.objs.size, _, I1, rfl, ⟨_, x, y, rfl, I.hok.fresh (Nat.le_refl _), rfl, fun l hl => by rw [I.list_inj hl hqx]; exact hx, fun l hl => by rw [I.tuple_inj hl hqy]; exact hy⟩, ⟨z'', ?_, ⟨x1, x2, ?_⟩, ?_, ?_⟩, fun c hcm => ?_⟩
    · exact (sb.2 _ S.TIz).trans (hk _ _ S.TIz S.TITO S.TIi1 S.TIi2 hTI)
    · exact (sb.2 _ S.TOz).trans TO'
    · exact st1'.1.at fun o q => (sb.2 _ (Ne.symm S.zi1)).trans q
    · exact st2'.1.at fun o q => (sb.2 _ (Ne.symm S.zi2)).trans q
    · have hlt : c < s.heap.objs.size := by
        have e' : c = z ∨ c = TI ∨ c = TO ∨ c = i1 ∨ c = i2 := by simpa using hcm
        rcases e' with q | q | q | q | q
        · exact q ▸ hzl
        · exact q ▸ Heap.lt_size hTI
        · exact q ▸ Heap.lt_size hTO
        · obtain ⟨_, e1, _⟩ := h1; exact q ▸ Heap.lt_size e1
        · obtain ⟨_, e2, _⟩ := h2; exact q ▸ Heap.lt_size e2
      rw [upd_ne (Nat.ne_of_lt hlt)]
      exact (hf c hcm).1
  done := by
    intro X hP hw hK hc i pins s σ H E I hf st hg
    subst hP hw hK
    obtain ⟨hz, hTI, ⟨x0, y0, hTO⟩, h1, h2⟩ := st
    obtain ⟨xs, ys, hqx, hqy, le1, le2, hend⟩ := hg
    obtain ⟨its, rv, p, _⟩ := I.list hqx
    obtain ⟨its2, rv2, p2, _⟩ := I.tuple hqy
    have l1 := rv.length
    have l2 := rv2.length
    refine wpAny_pyNext_zipD2_end S (Draws.list (prog := X.prog) (w := X.w) (A := X.A.in1) (I.ok.hd hc) i1 a ha its.toArray) (Draws.tuple (prog := X.prog) (w := X.w) (A := X.A.in1) (I.ok.hd hc) i2 b hb its2.toArray) hz hTI hTO ⟨h1, p.isList⟩ ⟨h2, p2⟩ (by rw [List.size_toArray]; omega) (by rw [List.size_toArray]; omega) (by rw [List.size_toArray, List.size_toArray]; omega) fun h' tk hk => ⟨rfl, I.turnedL (t' := tk) (ch := [z, TI, TO, i1, i2]) (fun c o hb q =>
      hk c o (fun q' => hb (by simp [q'])) (fun q' => hb (by simp [q'])) (fun q' => hb (by simp [q'])) (fun q' => hb (by simp [q'])) q) hf⟩
  self := fun A i s Q E st h => wpAny_pyIter_zip st.1 h
def iZipLT (K : PySem.W.Frag) (ta : TA) : TI := fun σ H R => ta σ H fun vs H1 => ∃ a b xs ys, vs = [.ref a, .ref b] ∧ SqL K H1 a xs ∧ SqT K H1 b ys ∧ R (ItzLT K a b) H1
theorem pi_zipLT {X : Cx} {e e2 : Expr} {ta : TA} {p pos tpos : Pos} {elts : List Expr} {kk : Nat} (hg : Gl X "zip") (hm : X.mg "zip" = none) (ha : PA X [e, e2] ta)
    (hs : starEach [e, e2] X.env = (false, eval e X.env) :: starEach [e2] X.env := by rfl) (hpl : (backTo pos (starEach [e2] X.env)).any (·.1) = false := by rfl) :
    PI X (.Tuple elts kk tpos) (.Call (.Name "zip" p) [e, e2] [] pos) (iZipLT X.K ta) := by
  refine ⟨fun pins s σ H R I h => ?_⟩
  refine Call_ (ld_blt I hg hm PyProof.Rows.boot_zip (PyProof.Rows.callWith_type1 (thn (ha.run pos pins s σ H _ I h) fun us s1 ⟨vs, H1, I1, r1, q1⟩ => ?_) hs hpl))
  obtain ⟨a, b, xs, ys, ex, hqx, hqy, q⟩ := q1
  subst ex
  cases r1 with
  | cons r rr =>
    cases rr with
    | cons r' rr =>
      cases rr
      cases r
      cases r'
      have fresh5 : ∀ c, c ∈ [s1.heap.objs.size + 4, s1.heap.objs.size + 2, s1.heap.objs.size + 3, s1.heap.objs.size, s1.heap.objs.size + 1] → FpOk X pins H1 c := fun c hcm => by
        have e' : c = s1.heap.objs.size + 4 ∨ c = s1.heap.objs.size + 2 ∨ c = s1.heap.objs.size + 3 ∨ c = s1.heap.objs.size ∨ c = s1.heap.objs.size + 1 := by simpa using hcm
        have hle : s1.heap.objs.size ≤ c := by
          rcases e' with z | z | z | z | z <;> (rw [z]; first | exact Nat.le_add_right _ _ | exact Nat.le_refl _)
        exact I1.fpOk hle (I1.hok.fresh hle)
      obtain ⟨its, rv, p1, _⟩ := I1.list hqx
      obtain ⟨its2, rv2, p2, _⟩ := I1.tuple hqy
      have la : a < s1.heap.objs.size := p1.lt
      have lb : b < s1.heap.objs.size := by obtain ⟨_, e, _⟩ := p2; exact Heap.lt_size e
      refine zip_begins2 (begins_list a its.toArray) (begins_tuple b its2.toArray) p1.isList p2 fun h' hz hTI hTO g1 g2 hsz hk => wpAny_pyIter_zip hz ?_
      have I2 : Inv X pins σ H1 { s1 with heap := h' } := I1.kept (t' := s1.toks) hk
      exact ⟨s1.heap.objs.size + 4, [s1.heap.objs.size + 4, s1.heap.objs.size + 2, s1.heap.objs.size + 3, s1.heap.objs.size, s1.heap.objs.size + 1], _, _, H1, rfl, I2,
        turn_zipLT (zip_sep2 (fp1 := [a]) (fp2 := [b]) (by simpa using la) (by simpa using lb)) (Nat.ne_of_lt la) (Nat.ne_of_lt (Nat.lt_succ_of_lt lb)), ⟨hz, hTI, ⟨_, _, hTO⟩, ⟨_, g1, rfl, rfl⟩, ⟨_, g2, rfl, rfl⟩⟩, fresh5, q⟩
theorem walk_zipLT {K : PySem.W.Frag} {a b : Addr} {xs ys : List V} {n : Nat} (hn : n = min xs.length ys.length) : Walk (ItzLT K a b) n (fun H => SqL K H a xs ∧ SqT K H b ys) (YPair (fun i => xs[i]?) (fun i => ys[i]?)) := by
  subst hn
  refine ⟨fun i _ hi q => ?_, fun _ q => ⟨xs, ys, q.1, q.2, by omega, by omega, by omega⟩, fun i H v H' _ q y => ?_⟩
  · have h1 : i < xs.length := by omega
    have h2 : i < ys.length := by omega
    exact ⟨xs, ys, xs[i], ys[i], q.1, q.2, by simp [h1], by simp [h2]⟩
  · obtain ⟨T, x, z, h1, h2, h3, h4, h5⟩ := y
    exact ⟨T, x, z, h1, h2, h3, h4 xs q.1, h5 ys q.2⟩
end Wp
set_option maxHeartbeats 4000000
namespace Wp
open Wb
open PySem PySem.Spec PyProof.Rows L2
open C8 (Cal pe_c pe_gc)
theorem cut_whole (xs : List V) {lo hi : Option Int} (h : HT.sIx xs.length 0 lo = 0 ∧ HT.sIx xs.length xs.length hi = xs.length) : cutV xs lo hi = xs := by
  unfold cutV
  rw [h.1, h.2]; simp
/-- a tuple's slice, whichever object it is -/
theorem sliceG {K : PySem.W.Frag} {H : Hp} {p : Addr} {vs : List V} {lo hi : Option Int} {Q : VK} (hp : SqT K H p vs) (h : ∀ c H3, Same H H3 → SqT K H3 c (cutV vs lo hi) → Q (.ref c) H3) : rSlA K (.ref p) lo hi H Q :=
  ⟨p, vs, rfl, hp, fun hw => h p H (fun _ _ e => e) (by rw [cut_whole vs hw]; exact hp), fun _ c hc => h c _ (same_upd hc) (tq upd_same)⟩
section
variable {P : Program} {w : World} {K : PySem.W.Frag} {mg : Str → Option Value} {base : Heap}
def h56 (five : Bool) : List Nat := if five = true then [0, 1, 2, 3, 4] else [0, 1, 2, 3, 4, 5]
def w56 (five : Bool) : Str := if five = true then "five" else "wells"
def spAreHeads : Sp := fun vs H Q _ => ∃ (v : V) (n : Nat) (ts : List (Nat × Nat)) (a : Addr) (five : Bool), vs = [v, .str (w56 five), .ref a] ∧ WebV H v n ts ∧ H a = some (.tup (ivs (h56 five))) ∧ ∀ H', Same H H' → Q (.bl (decide ((h56 five).length ≤ n))) H'
theorem k_are_heads (A : At K mg "are_heads" s_are_heads) (B : Bt mg) (Gv : Gc mg) (C_is_way_of : Cal P w K mg base 5 "is_way_of" spIsWayOf []) : Cal P w K mg base 6 "are_heads" spAreHeads [] := by
  refine mk A sc_are_heads (fun _ _ _ _ _ _ us hl => match us, hl with | [_, _, _], _ => rfl) (fun vs H Q E h => ?_) (fun f cdv A outer s H vs Q E hr h => ?_)
  · obtain ⟨v, n, ts, a, five, rfl, _⟩ := h
    rfl
  · obtain ⟨v, n, ts, a, five, rfl, hw, ha, q⟩ := h
    refine ⟨_, (pss_cons (ps_set (i := 3) sc_are_heads.nd rfl (.inl rfl) (pe_ifExp (pt_cmpR op_eq (pv 1) (pe_gc (by rfl) Gv.five) (nomark _)) pe_int pe_int))
    (pss_cons (ps_if (PW.pt (pw_or (pt_not (pt_val (pe_callB call_isi (by rfl) B.isinstance (by decide +kernel) (pa_cons (pv 2) (pa_cons (pe_bltn (v := .ty "tuple") (by rfl) B.tuple (by decide +kernel) rfl) pa_nil))))) (pw_or (pt_cmpR op_ne (pe_callB call_len_seq (by rfl) B.len (by decide +kernel) (pa_cons (pv 2) pa_nil)) (pv 3) (nomark _)) (pw_or1 (pt_not (pt_val (pe_callB (cr_all rfl) (by rfl) B.all (by decide +kernel) (pa_cons (pe_lc (own := [("one", 7)]) rfl sc_are_heads.nd (pi_tup (pv 2)) (blkOk_by (N := ["web", "word", "value", "many", "houses", "wells", "is_rising", "one", "other"]) (sc := defScope s_are_heads) (by decide +kernel)) (fun _ _ _ _ _ => (pg_name (i := 7) sc_are_heads.nd rfl (.inl rfl) (.inr rfl))) (fun _ _ _ _ _ => pts_nil) (fun _ _ _ _ _ => (pe_c C_is_way_of hr (by decide) (by rfl) (pa_cons (pv 0) (pa_cons (pe_tup (pa_cons (pv 7) pa_nil)) pa_nil))))) pa_nil))))))))
      (pss_one (ps_ret pe_bl))
      pss_nil)
    (pss_cons (ps_if (pt_cmpR op_eq (pv 1) (pe_gc (by rfl) Gv.five) (nomark _))
      (pss_one (ps_ret (pe_callB (cr_all rfl) (by rfl) B.all (by decide +kernel) (pa_cons (pe_lc (own := [("one", 7), ("other", 8)]) (g := (gTup K 2 (gCons (gName 7) (gCons (gName 8) gNil)))) rfl sc_are_heads.nd (RZ.pi_zipA (by rfl) B.zip (pa_cons (pv 2) (pa_cons (pe_slice sl_tupA (pv 2) (po_some pe_int) po_none) pa_nil))) (blkOk_by (N := ["web", "word", "value", "many", "houses", "wells", "is_rising", "one", "other"]) (sc := defScope s_are_heads) (by decide +kernel)) (fun _ _ _ _ _ => (pg_tup rfl (pgs_cons (pg_name (i := 7) sc_are_heads.nd rfl (.inl rfl) (.inr rfl)) (pgs_cons (pg_name (i := 8) sc_are_heads.nd rfl (.inl rfl) (.inr rfl)) pgs_nil)))) (fun _ _ _ _ _ => pts_nil) (fun _ _ _ _ _ => (pe_cmpR op_lt (pv 7) (pv 8) (nomark _)))) pa_nil))))
      pss_nil)
    (pss_cons (ps_asg (pe_tup (pa_cons (pe_slice sl_tupA (pv 2) po_none (po_some pe_int)) (pa_cons (pe_slice sl_tupA (pv 2) (po_some pe_int) po_none) pa_nil))) (pg_tup rfl (pgs_cons (pg_name (i := 4) sc_are_heads.nd rfl (.inl rfl)) (pgs_cons (pg_name (i := 5) sc_are_heads.nd rfl (.inr rfl)) pgs_nil))))
    (pss_cons (ps_set (i := 6) sc_are_heads.nd rfl (.inl rfl) (pe_and (pe_chain op_lt op_lt (pe_ix ix_tup (pv 4) pe_int (fun _ _ => rfl)) (pe_ix ix_tup (pv 4) pe_int (fun _ _ => rfl)) (pe_ix ix_tup (pv 4) pe_int (fun _ _ => rfl))) (pe_and (pe_chain op_lt op_lt (pe_ix ix_tup (pv 5) pe_int (fun _ _ => rfl)) (pe_ix ix_tup (pv 5) pe_int (fun _ _ => rfl)) (pe_ix ix_tup (pv 5) pe_int (fun _ _ => rfl))) (pe_one (pe_cmpR op_lt (pe_ix ix_tup (pv 4) pe_int (fun _ _ => rfl)) (pe_ix ix_tup (pv 5) pe_int (fun _ _ => rfl)) (nomark _))))))
    (pss_one (ps_ret (pe_and (pv 6) (pe_one (pe_not (pe_callB (cr_any rfl) (by rfl) B.any (by decide +kernel) (pa_cons (pe_lc (own := [("one", 7)]) rfl sc_are_heads.nd (pi_tup (pv 4)) (blkOk_by (N := ["web", "word", "value", "many", "houses", "wells", "is_rising", "one", "other"]) (sc := defScope s_are_heads) (by decide +kernel)) (fun _ _ _ _ _ => (pg_name (i := 7) sc_are_heads.nd rfl (.inl rfl) (.inr rfl))) (fun _ _ _ _ _ => pts_nil) (fun _ _ _ _ _ => (pe_cmpR (r := rIn K false) op_in_seq (pv 7) (pv 5) (by with_unfolding_all rfl)))) pa_nil)))))))))))), ?_⟩
    have hl5 : (h56 five).length ≤ 6 := by cases five <;> decide
    have hix : ∀ (i x : Nat), (h56 five)[i]? = some x → x = i := fun i x h => by
      have hi := (List.getElem?_eq_some_iff.mp h).1
      cases five
      · have hi : i < 6 := hi
        have : i = 0 ∨ i = 1 ∨ i = 2 ∨ i = 3 ∨ i = 4 ∨ i = 5 := by omega
        rcases this with rfl | rfl | rfl | rfl | rfl | rfl <;> exact (Option.some.inj h).symm
      · have hi : i < 5 := hi
        have : i = 0 ∨ i = 1 ∨ i = 2 ∨ i = 3 ∨ i = 4 := by omega
        rcases this with rfl | rfl | rfl | rfl | rfl <;> exact (Option.some.inj h).symm
    have hlt : (∀ x ∈ h56 five, x < n) ↔ (h56 five).length ≤ n := by
      constructor
      · intro h
        refine Classical.byContradiction fun hn => ?_
        have hn' : n < (h56 five).length := by omega
        have h1 : (h56 five)[n]? = some (h56 five)[n] := List.getElem?_eq_getElem hn'
        have h2 := hix _ _ h1
        have h3 := h _ (List.getElem_mem hn')
        omega
      · intro h x hx
        obtain ⟨i, hi⟩ := List.getElem?_of_mem hx
        have := hix i x hi
        have := (List.getElem?_eq_some_iff.mp hi).1
        omega
    generalize hk : decide ((h56 five).length ≤ n) = kk at q
    have hkk : decide (∀ x ∈ h56 five, x < n) = kk := by rw [← hk, decide_eq_decide]; exact hlt
    cases five
    rotate_left
    · refine ⟨_, rfl, rfl, _, rfl, iteT ?_⟩
      refine ⟨.ref a, rfl, .ref a, .ty "tuple", _, _, true, rfl, .ty "tuple", .base (.tup ha), kit_ty (by decide +kernel), true, rfl, iteF ?_⟩
      refine ⟨.ref a, rfl, a, _, rfl, .inr (tq ha), _, rfl, rfl, _, rfl, iteF ?_⟩
      refine ⟨.ref a, rfl, a, rfl, ⟨_, tq ha⟩, fun D hD => ?_⟩
      refine lc0 (walk_tup (K := K) (a := a) (xs := ivs (h56 true))) (fun i H' => Same H H' ∧ H' D = some (.lst ((((h56 true).take i).map fun x => decide (x < n)).map V.bl))) ⟨same_upd hD, upd_same⟩ (fun i H' _ h => tq (h.1 _ _ ha)) (fun i x H3 H4 hi h hx => ?_) (fun H3 h => ?_)
      · obtain ⟨s3, h3⟩ := h
        obtain ⟨rfl, hx⟩ := hx
        obtain ⟨y, hy, rfl⟩ := ivs_get hx
        refine ⟨rfl, v, rfl, iv y, rfl, by show 1 ≤ sizeLine; decide, fun t ht => ?_⟩
        have s4 := same_upd (o := .tup [iv y]) ht
        have ht4 : upd H4 t (.tup [iv y]) t = some (.tup (ivs [y])) := upd_same
        generalize upd H4 t (.tup [iv y]) = H5 at s4 ht4 ⊢
        refine ⟨v, n, ts, t, [y], rfl, hw.keep (Same.tups (Same.trans s3 s4)), ht4, by simp, by simp, by simp, fun H6 s6 => ?_⟩
        refine ⟨_, s6 _ _ (s4 _ _ h3), by rw [List.length_map, List.length_map, List.length_take]; exact small1000 (by omega), same_list hD (Same.trans s3 (Same.trans s4 s6)), ?_⟩
        rw [upd_same, List.take_add_one, hy]
        simp
      obtain ⟨s3, h3⟩ := h
      refine ⟨D, _, rfl, lq h3, ?_⟩
      have hall : ∀ l : List Nat, ((l.map fun x => decide (x < n)).all id) = decide (∀ x ∈ l, x < n) := fun l => by
        rw [List.all_map, Bool.eq_iff_iff]
        simp
      rw [hall, show (h56 true).take (ivs (h56 true)).length = h56 true from rfl, hkk]
      cases kk
      · refine ⟨false, rfl, iteT ?_⟩
        exact q H3 s3
      refine ⟨true, rfl, iteF ?_⟩
      refine ⟨_, rfl, rfl, _, rfl, iteT ?_⟩
      have ha3 := s3 _ _ ha
      refine ⟨.ref a, rfl, .ref a, rfl, 1, rfl, ?_⟩
      dsimp only [tNoPart, Cx.nox]
      refine slice1 ha3 fun c H4 s4 hc => ?_
      have ha4 := s4 _ _ ha3
      refine ⟨a, c, _, _, rfl, .inr ⟨tq ha4, hc, fun D2 hD2 => ?_⟩⟩
      refine lc0 (walk_zipT (K := K) (a := a) (b := c) (xs := ivs (h56 true)) (ys := (ivs (h56 true)).drop 1) rfl) (fun i H' => Same H4 H' ∧ H' D2 = some (.lst (List.replicate i (V.bl true)))) ⟨same_upd hD2, upd_same⟩ (fun i H' _ h => ⟨tq (h.1 _ _ ha4), seqT h.1 hc⟩) (fun i x H5 H6 hi h5 hx => ?_) (fun H5 h5 => ?_)
      · obtain ⟨T, x1, y1, rfl, hT, rfl, e1, e2⟩ := hx
        have e2 : (ivs (h56 true))[i + 1]? = some y1 := by
          have e2' : ((ivs (h56 true)).drop 1)[i]? = some y1 := e2
          rw [List.getElem?_drop, Nat.add_comm] at e2'
          exact e2'
        obtain ⟨a1, g1, rfl⟩ := ivs_get e1
        obtain ⟨a2, g2, rfl⟩ := ivs_get e2
        have g1 := hix _ _ g1
        have g2 := hix _ _ g2
        refine ⟨T, [iv a1, iv a2], rfl, tq upd_same, rfl, iv a1, [iv a2], rfl, iv a2, [], rfl, rfl, rfl, iv a1, rfl, iv a2, rfl, a1, a2, rfl, rfl, _, by rw [upd_ne (ne_of_none h5.2 hT)]; exact h5.2, by rw [List.length_replicate]; exact small1000 (by simp [h56, ivs] at hi; omega), same_list hD2 (h5.1.trans (same_upd hT)), ?_⟩
        have e : decide ((a1 : Int) < (a2 : Int)) = true := decide_eq_true (by omega)
        rw [upd_same]
        show some (HO.lst (List.replicate i (V.bl true) ++ [V.bl (decide ((a1 : Int) < (a2 : Int)))])) = _
        rw [e]; simp [List.replicate_succ']
      · refine ⟨D2, List.replicate (min (ivs (h56 true)).length ((ivs (h56 true)).drop 1).length) true, rfl, lq (by rw [List.map_replicate]; exact h5.2), ?_⟩
        have e : (List.replicate (min (ivs (h56 true)).length ((ivs (h56 true)).drop 1).length) true).all id = true := by simp
        rw [e]
        exact q H5 (s3.trans (s4.trans h5.1))
    · refine ⟨_, rfl, rfl, _, rfl, iteF ?_⟩
      refine ⟨.ref a, rfl, .ref a, .ty "tuple", _, _, true, rfl, .ty "tuple", .base (.tup ha), kit_ty (by decide +kernel), true, rfl, iteF ?_⟩
      refine ⟨.ref a, rfl, a, _, rfl, .inr (tq ha), _, rfl, rfl, _, rfl, iteF ?_⟩
      refine ⟨.ref a, rfl, a, rfl, ⟨_, tq ha⟩, fun D hD => ?_⟩
      refine lc0 (walk_tup (K := K) (a := a) (xs := ivs (h56 false))) (fun i H' => Same H H' ∧ H' D = some (.lst ((((h56 false).take i).map fun x => decide (x < n)).map V.bl))) ⟨same_upd hD, upd_same⟩ (fun i H' _ h => tq (h.1 _ _ ha)) (fun i x H3 H4 hi h hx => ?_) (fun H3 h => ?_)
      · obtain ⟨s3, h3⟩ := h
        obtain ⟨rfl, hx⟩ := hx
        obtain ⟨y, hy, rfl⟩ := ivs_get hx
        refine ⟨rfl, v, rfl, iv y, rfl, by show 1 ≤ sizeLine; decide, fun t ht => ?_⟩
        have s4 := same_upd (o := .tup [iv y]) ht
        have ht4 : upd H4 t (.tup [iv y]) t = some (.tup (ivs [y])) := upd_same
        generalize upd H4 t (.tup [iv y]) = H5 at s4 ht4 ⊢
        refine ⟨v, n, ts, t, [y], rfl, hw.keep (Same.tups (Same.trans s3 s4)), ht4, by simp, by simp, by simp, fun H6 s6 => ?_⟩
        refine ⟨_, s6 _ _ (s4 _ _ h3), by rw [List.length_map, List.length_map, List.length_take]; exact small1000 (by omega), same_list hD (Same.trans s3 (Same.trans s4 s6)), ?_⟩
        rw [upd_same, List.take_add_one, hy]
        simp
      obtain ⟨s3, h3⟩ := h
      refine ⟨D, _, rfl, lq h3, ?_⟩
      have hall : ∀ l : List Nat, ((l.map fun x => decide (x < n)).all id) = decide (∀ x ∈ l, x < n) := fun l => by
        rw [List.all_map, Bool.eq_iff_iff]
        simp
      rw [hall, show (h56 false).take (ivs (h56 false)).length = h56 false from rfl, hkk]
      cases kk
      · refine ⟨false, rfl, iteT ?_⟩
        exact q H3 s3
      refine ⟨true, rfl, iteF ?_⟩
      refine ⟨_, rfl, rfl, _, rfl, iteF ?_⟩
      have ha3 := s3 _ _ ha
      refine ⟨.ref a, rfl, ?_⟩
      dsimp only [tNoPart, Cx.nox]
      refine ⟨3, rfl, ?_⟩
      refine sliceG (tq ha3) fun c1 H4 s4 hc1 => ?_
      have hc1 : SqT K H4 c1 (ivs [0, 1, 2]) := hc1
      have ha4 := s4 _ _ ha3
      refine ⟨.ref a, rfl, 3, rfl, ?_⟩
      dsimp only [tNoPart, Cx.nox]
      refine sliceG (tq ha4) fun c2 H5 s5 hc2 => ?_
      have hc2 : SqT K H5 c2 (ivs [3, 4, 5]) := hc2
      have hc1 := seqT s5 hc1
      refine ⟨by show 2 ≤ sizeLine; decide, fun t ht => ?_⟩
      have s6 := same_upd (o := .tup [.ref c1, .ref c2]) ht
      have ht6 : upd H5 t (.tup [.ref c1, .ref c2]) t = some (.tup [.ref c1, .ref c2]) := upd_same
      generalize upd H5 t (.tup [.ref c1, .ref c2]) = H6 at s6 ht6 ⊢
      have hc1 := seqT s6 hc1
      have hc2 := seqT s6 hc2
      refine ⟨t, _, rfl, tq ht6, rfl, .ref c1, _, rfl, .ref c2, [], rfl, rfl, ?_⟩
      refine ⟨.ref c1, rfl, c1, _, 0, iv 0, rfl, rfl, hc1, atI_nat (j := 0) rfl, .ref c1, rfl, c1, _, 1, iv 1, rfl, rfl, hc1, atI_nat (j := 1) rfl, _, _, rfl, rfl, true, rfl, iteT ⟨.ref c1, rfl, c1, _, 2, iv 2, rfl, rfl, hc1, atI_nat (j := 2) rfl, _, _, rfl, rfl, true, rfl, iteT ?_⟩⟩
      refine ⟨.ref c2, rfl, c2, _, 0, iv 3, rfl, rfl, hc2, atI_nat (j := 0) rfl, .ref c2, rfl, c2, _, 1, iv 4, rfl, rfl, hc2, atI_nat (j := 1) rfl, _, _, rfl, rfl, true, rfl, iteT ⟨.ref c2, rfl, c2, _, 2, iv 5, rfl, rfl, hc2, atI_nat (j := 2) rfl, _, _, rfl, rfl, true, rfl, iteT ?_⟩⟩
      refine ⟨.ref c1, rfl, c1, _, 0, iv 0, rfl, rfl, hc1, atI_nat (j := 0) rfl, .ref c2, rfl, c2, _, 0, iv 3, rfl, rfl, hc2, atI_nat (j := 0) rfl, _, _, rfl, rfl, ?_⟩
      refine ⟨.bl true, rfl, true, rfl, iteT ?_⟩
      refine ⟨.ref c1, rfl, c1, rfl, ⟨_, hc1⟩, fun D3 hD3 => ?_⟩
      refine lc0 (walk_tup (K := K) (a := c1) (xs := ivs [0, 1, 2])) (fun i H' => Same H6 H' ∧ H' D3 = some (.lst (List.replicate i (V.bl false)))) ⟨same_upd hD3, upd_same⟩ (fun i H' _ h => seqT h.1 hc1) (fun i x H7 H8 hi h hx => ?_) (fun H7 h => ?_)
      · obtain ⟨s7, h7⟩ := h
        obtain ⟨rfl, hx⟩ := hx
        obtain ⟨y, hy, rfl⟩ := ivs_get hx
        refine ⟨rfl, iv y, rfl, .ref c2, rfl, c2, _, rfl, .inr (seqT s7 hc2), rfl, flat_ivs _, ?_⟩
        have e : inV (iv y) (ivs [3, 4, 5]) = false := by
          rw [inV_ivs]
          have : y ∈ [0, 1, 2] := List.mem_of_getElem? hy
          simp at this
          rcases this with rfl | rfl | rfl <;> rfl
        refine ⟨_, h7, by rw [List.length_replicate]; exact small1000 (by simp [ivs] at hi; omega), same_list hD3 s7, ?_⟩
        rw [upd_same]
        show some (HO.lst (List.replicate i (V.bl false) ++ [V.bl (inV (iv y) (ivs [3, 4, 5]))])) = _
        rw [e]; simp [List.replicate_succ']
      · refine ⟨D3, List.replicate 3 false, rfl, lq (by rw [List.map_replicate]; exact h.2), ?_⟩
        refine ⟨_, rfl, ?_⟩
        exact q H7 (s3.trans (s4.trans (s5.trans (s6.trans h.1))))
end
end Wp
set_option maxHeartbeats 4000000
namespace Wp
open Wb
open PySem PySem.Spec PyProof.Rows L2
open C8 (Cal pe_c pe_gc)
def pr56 (five : Bool) (i : Nat) : List (Nat × Nat) := ((h56 five).drop (if five = true then i + 1 else 3)).map fun o => (i, o)
def acc56 (five : Bool) (i : Nat) : List (Nat × Nat) := (List.range i).flatMap (pr56 five)
theorem acc56_succ (five : Bool) (i : Nat) : acc56 five (i + 1) = acc56 five i ++ pr56 five i := by
  unfold acc56
  rw [List.range_succ, List.flatMap_append]
  simp
def P56 (five : Bool) : List (Nat × Nat) := if five = true then [(0, 1), (0, 2), (0, 3), (0, 4), (1, 2), (1, 3), (1, 4), (2, 3), (2, 4), (3, 4)] else [(0, 3), (0, 4), (0, 5), (1, 3), (1, 4), (1, 5), (2, 3), (2, 4), (2, 5)]
theorem pr56_len (five : Bool) (i : Nat) : (pr56 five i).length ≤ 6 := by
  unfold pr56
  rw [List.length_map, List.length_drop]
  have : (h56 five).length ≤ 6 := by cases five <;> decide
  omega
theorem acc56_len (five : Bool) (i : Nat) : (acc56 five i).length ≤ 6 * i := by
  induction i with
  | zero => exact Nat.le_refl _
  | succ k ih =>
    rw [acc56_succ, List.length_append]
    have := pr56_len five k
    omega
theorem seqT_keepL {K : PySem.W.Frag} {H : Hp} {a D : Addr} {xs l : List V} {o : HO} (h : SqT K H a xs) (hD : H D = some (.lst l)) : SqT K (upd H D o) a xs := by
  rcases h with (h | ⟨ob, h⟩) | h
  · exact .inl (.inl (by rw [upd_ne (fun e => by rw [e, hD] at h; cases h)]; exact h))
  · exact .inl (.inr ⟨ob, by rw [upd_ne (fun e => by rw [e, hD] at h; cases h)]; exact h⟩)
  · exact .inr h
section
variable {P : Program} {w : World} {K : PySem.W.Frag} {mg : Str → Option Value} {base : Heap}
def spPairsOfHeads : Sp := fun vs H Q _ => ∃ (a : Addr) (five : Bool), vs = [.str (w56 five), .ref a] ∧ H a = some (.tup (ivs (h56 five))) ∧ ∀ H' l xs, Same H H' → H' l = some (.lst xs) → Paired (TieV H') xs (P56 five) → Q (.ref l) H'
theorem k_pairs_of_heads (A : At K mg "pairs_of_heads" s_pairs_of_heads) (B : Bt mg) (Gv : Gc mg) : Cal P w K mg base 1 "pairs_of_heads" spPairsOfHeads [] := by
  refine mk A sc_pairs_of_heads (fun _ _ _ _ _ _ us hl => match us, hl with | [_, _], _ => rfl) (fun vs H Q E h => ?_) (fun f cdv A outer s H vs Q E hr h => ?_)
  · obtain ⟨a, five, rfl, _⟩ := h
    rfl
  · obtain ⟨a, five, rfl, ha, q⟩ := h
    refine ⟨_, (pss_cons (ps_set (i := 2) sc_pairs_of_heads.nd rfl (.inl rfl) (pe_lst pa_nil))
    (pss_cons (ps_for PassesOwn.never rfl (pi_enumT (by rfl) B.enumerate (pa_cons (pe_ifExp (pt_cmpR op_eq (pv 0) (pe_gc (by rfl) Gv.five) (nomark _)) (pv 1) (pe_slice sl_tupA (pv 1) po_none (po_some pe_int))) pa_nil)) (pg_tup rfl (pgs_cons (pg_name (i := 3) sc_pairs_of_heads.nd rfl (.inl rfl)) (pgs_cons (pg_name (i := 4) sc_pairs_of_heads.nd rfl (.inr rfl)) pgs_nil)))
      (pss_one (ps_expr (pe_bm PySem.F.plainAttrs_list PySem.F.slot_list_extend PySem.F.type_list_extend mt_extend (pv 2) (pa_cons (pe_lc (own := [("other", 5)]) rfl sc_pairs_of_heads.nd (pi_tup (pe_ifExp (pt_cmpR op_eq (pv 0) (pe_gc (by rfl) Gv.five) (nomark _)) (pe_slice sl_tupA (pv 1) (po_some (pe_op op_add (pv 3) pe_int)) po_none) (pe_slice sl_tupA (pv 1) (po_some pe_int) po_none))) (blkOk_by (N := ["word", "heads", "found", "place", "one", "other"]) (sc := defScope s_pairs_of_heads) (by decide +kernel)) (fun _ _ _ _ _ => (pg_name (i := 5) sc_pairs_of_heads.nd rfl (.inl rfl) (.inr rfl))) (fun _ _ _ _ _ => pts_nil) (fun _ _ _ _ _ => (pe_tup (pa_cons (pv 4) (pa_cons (pv 5) pa_nil))))) pa_nil)))))
    (pss_one (ps_ret (pv 2))))), ?_⟩
    refine ⟨by show 0 ≤ sizeLine; omega, fun D hD => ?_⟩
    have s0 := same_upd (o := .lst []) hD
    have hD0 : upd H D (.lst []) D = some (.lst []) := upd_same
    generalize upd H D (.lst []) = H0 at s0 hD0 ⊢
    have ha0 := s0 _ _ ha
    cases five
    rotate_left
    · refine ⟨_, rfl, rfl, _, rfl, iteT ?_⟩
      refine ⟨.ref a, rfl, a, _, rfl, tq ha0, ?_⟩
      have hsq : SqT K H0 a (ivs (h56 true)) := tq ha0
      refine for_it (walk_enumT (K := K) (a := a) (xs := ivs (h56 true))) (fun i σ H' => (∃ x3 x4, σ = [some (.str (w56 true)), some (.ref a), some (.ref D), x3, x4, none]) ∧ Same H H' ∧ SqT K H' a (ivs (h56 true)) ∧ ∃ xs, H' D = some (.lst xs) ∧ Paired (TieV H') xs (acc56 true i))
        ⟨⟨_, _, rfl⟩, s0, hsq, [], hD0, .nil⟩ (fun i σ H' _ h => h.2.2.1) (fun i x σ H3 H4 hi h hx => ?_) (fun σ H3 h => ?_)
      · obtain ⟨⟨x3, x4, rfl⟩, s3, hsq3, xs, hD3, hps⟩ := h
        obtain ⟨pp, x1, v, rfl, hpp, rfl, e1, e2⟩ := hx
        cases e1
        obtain ⟨c', hc', rfl⟩ := ivs_get e2
        have hi3 : i < 6 := by simp [ivs, h56] at hi; omega
        have hci : c' = i := by
          have : i = 0 ∨ i = 1 ∨ i = 2 ∨ i = 3 ∨ i = 4 := by simp [ivs, h56] at hi; omega
          rcases this with rfl | rfl | rfl | rfl | rfl <;> first | exact (Option.some.inj hc').symm | cases hc'
        subst hci
        have s4 := same_upd (o := .tup [.int (c' : Nat), iv c']) hpp
        have hpt : upd H3 pp (.tup [.int (c' : Nat), iv c']) pp = some (.tup [.int (c' : Nat), iv c']) := upd_same
        generalize upd H3 pp (.tup [.int (c' : Nat), iv c']) = H4 at s4 hpt ⊢
        have hD4 := s4 _ _ hD3
        have s34 := Same.trans s3 s4
        have ha4 := s34 _ _ ha
        refine ⟨pp, _, rfl, tq hpt, rfl, iv c', _, rfl, iv c', [], rfl, rfl, ?_⟩
        refine ⟨.ref D, rfl, .inl ⟨rfl, _, lq hD4⟩, ?_⟩
        refine ⟨_, rfl, rfl, _, rfl, iteT ?_⟩
        refine ⟨.ref a, rfl, iv c', rfl, c', 1, rfl, rfl, (c' : Int) + 1, rfl, ?_⟩
        dsimp only [tNoPart, Cx.nox]
        refine sliceG (tq ha4) fun c2 H5 s5 hc2 => ?_
        have e0 : cutV (ivs (h56 true)) (some ((c' : Int) + 1)) none = ivs ((h56 true).drop (c' + 1)) := by
          have := cut_from (ivs (h56 true)) (c' + 1)
          rw [show ((c' + 1 : Nat) : Int) = (c' : Int) + 1 by omega] at this
          rw [this]; simp [ivs]
        rw [e0] at hc2
        refine ⟨c2, rfl, ⟨_, hc2⟩, fun D2 hD2 => ?_⟩
        have hD5 := s5 _ _ hD4
        refine lc0 (walk_tup (K := K) (a := c2) (xs := ivs ((h56 true).drop (c' + 1)))) (fun j H' => Same H5 H' ∧ ∃ zs, H' D2 = some (.lst zs) ∧ Paired (TieV H') zs ((pr56 true c').take j)) ⟨same_upd hD2, [], upd_same, .nil⟩ (fun j H' _ h => seqT h.1 hc2) (fun j x H6 H7 hj h hx => ?_) (fun H6 h => ?_)
        · obtain ⟨s6, zs, hz6, hzp⟩ := h
          obtain ⟨rfl, hx⟩ := hx
          obtain ⟨y, hy, rfl⟩ := ivs_get hx
          have hpr : (pr56 true c')[j]? = some (c', y) := by
            show (((h56 true).drop (c' + 1)).map fun o => (c', o))[j]? = _
            rw [List.getElem?_map, hy]; rfl
          refine ⟨rfl, iv c', rfl, iv y, rfl, by show 2 ≤ sizeLine; decide, fun t ht => ?_⟩
          have s7 := same_upd (o := .tup [iv c', iv y]) ht
          have ht7 : TieV (upd H7 t (.tup [iv c', iv y])) (.ref t) (c', y) := ⟨t, rfl, upd_same⟩
          generalize upd H7 t (.tup [iv c', iv y]) = H8 at s7 ht7 ⊢
          have hz8 := s7 _ _ hz6
          have hzl := paired_len hzp
          have hprl := pr56_len true c'
          rw [List.length_take] at hzl
          refine ⟨zs, hz8, small1000 (by omega), same_list hD2 (Same.trans s6 s7), zs ++ [.ref t], upd_same, ?_⟩
          rw [List.take_add_one, hpr]
          exact paired_snoc (paired_mono (fun _ _ r => (r.keep (Same.tups s7)).keepL hz8) hzp) (ht7.keepL hz8)
        · obtain ⟨s6, zs, hz6, hzp⟩ := h
          have e1 : (pr56 true c').take (ivs ((h56 true).drop (c' + 1))).length = pr56 true c' := List.take_of_length_le (by simp [pr56, ivs])
          rw [e1] at hzp
          have hD6 := s6 _ _ hD5
          have hxl := paired_len hps
          have hzl := paired_len hzp
          have hprl := pr56_len true c'
          have hal := acc56_len true c'
          refine ⟨D, D2, xs, zs, rfl, rfl, hD6, hz6, by rw [sizeLine_eq]; omega, ?_⟩
          refine ⟨⟨_, _, rfl⟩, same_list hD (Same.trans s34 (Same.trans s5 s6)), seqT_keepL (seqT (Same.trans s4 (Same.trans s5 s6)) hsq3) hD6, xs ++ zs, upd_same, ?_⟩
          rw [acc56_succ]
          exact paired_app (paired_mono (fun _ _ r => (r.keep (Same.tups (Same.trans s4 (Same.trans s5 s6)))).keepL hD6) hps) (paired_mono (fun _ _ r => r.keepL hD6) hzp)
      · obtain ⟨⟨x3, x4, rfl⟩, s3, hsq3, xs, hD3, hps⟩ := h
        exact ⟨.ref D, rfl, q _ D xs s3 hD3 hps⟩
    · refine ⟨_, rfl, rfl, _, rfl, iteF ?_⟩
      refine ⟨.ref a, rfl, 3, rfl, ?_⟩
      refine sliceG (tq ha0) fun c H1 s1 hc => ?_
      have hsq : SqT K H1 c (ivs [0, 1, 2]) := hc
      refine ⟨c, _, rfl, hsq, ?_⟩
      refine for_it (walk_enumT (K := K) (a := c) (xs := ivs [0, 1, 2])) (fun i σ H' => (∃ x3 x4, σ = [some (.str (w56 false)), some (.ref a), some (.ref D), x3, x4, none]) ∧ Same H H' ∧ SqT K H' c (ivs [0, 1, 2]) ∧ ∃ xs, H' D = some (.lst xs) ∧ Paired (TieV H') xs (acc56 false i))
        ⟨⟨_, _, rfl⟩, Same.trans s0 s1, hsq, [], s1 _ _ hD0, .nil⟩ (fun i σ H' _ h => h.2.2.1) (fun i x σ H3 H4 hi h hx => ?_) (fun σ H3 h => ?_)
      · obtain ⟨⟨x3, x4, rfl⟩, s3, hsq3, xs, hD3, hps⟩ := h
        obtain ⟨pp, x1, v, rfl, hpp, rfl, e1, e2⟩ := hx
        cases e1
        obtain ⟨c', hc', rfl⟩ := ivs_get e2
        have hi3 : i < 6 := by simp [ivs, h56] at hi; omega
        have hci : c' = i := by
          have : i = 0 ∨ i = 1 ∨ i = 2 ∨ i = 3 ∨ i = 4 := by simp [ivs, h56] at hi; omega
          rcases this with rfl | rfl | rfl | rfl | rfl <;> first | exact (Option.some.inj hc').symm | cases hc'
        subst hci
        have s4 := same_upd (o := .tup [.int (c' : Nat), iv c']) hpp
        have hpt : upd H3 pp (.tup [.int (c' : Nat), iv c']) pp = some (.tup [.int (c' : Nat), iv c']) := upd_same
        generalize upd H3 pp (.tup [.int (c' : Nat), iv c']) = H4 at s4 hpt ⊢
        have hD4 := s4 _ _ hD3
        have s34 := Same.trans s3 s4
        have ha4 := s34 _ _ ha
        refine ⟨pp, _, rfl, tq hpt, rfl, iv c', _, rfl, iv c', [], rfl, rfl, ?_⟩
        refine ⟨.ref D, rfl, .inl ⟨rfl, _, lq hD4⟩, ?_⟩
        refine ⟨_, rfl, rfl, _, rfl, iteF ?_⟩
        refine ⟨.ref a, rfl, 3, rfl, ?_⟩
        dsimp only [tNoPart, Cx.nox]
        refine sliceG (tq ha4) fun c2 H5 s5 hc2 => ?_
        have hc2 : SqT K H5 c2 (ivs ((h56 false).drop 3)) := hc2
        refine ⟨c2, rfl, ⟨_, hc2⟩, fun D2 hD2 => ?_⟩
        have hD5 := s5 _ _ hD4
        refine lc0 (walk_tup (K := K) (a := c2) (xs := ivs ((h56 false).drop 3))) (fun j H' => Same H5 H' ∧ ∃ zs, H' D2 = some (.lst zs) ∧ Paired (TieV H') zs ((pr56 false c').take j)) ⟨same_upd hD2, [], upd_same, .nil⟩ (fun j H' _ h => seqT h.1 hc2) (fun j x H6 H7 hj h hx => ?_) (fun H6 h => ?_)
        · obtain ⟨s6, zs, hz6, hzp⟩ := h
          obtain ⟨rfl, hx⟩ := hx
          obtain ⟨y, hy, rfl⟩ := ivs_get hx
          have hpr : (pr56 false c')[j]? = some (c', y) := by
            show (((h56 false).drop 3).map fun o => (c', o))[j]? = _
            rw [List.getElem?_map, hy]; rfl
          refine ⟨rfl, iv c', rfl, iv y, rfl, by show 2 ≤ sizeLine; decide, fun t ht => ?_⟩
          have s7 := same_upd (o := .tup [iv c', iv y]) ht
          have ht7 : TieV (upd H7 t (.tup [iv c', iv y])) (.ref t) (c', y) := ⟨t, rfl, upd_same⟩
          generalize upd H7 t (.tup [iv c', iv y]) = H8 at s7 ht7 ⊢
          have hz8 := s7 _ _ hz6
          have hzl := paired_len hzp
          have hprl := pr56_len false c'
          rw [List.length_take] at hzl
          refine ⟨zs, hz8, small1000 (by omega), same_list hD2 (Same.trans s6 s7), zs ++ [.ref t], upd_same, ?_⟩
          rw [List.take_add_one, hpr]
          exact paired_snoc (paired_mono (fun _ _ r => (r.keep (Same.tups s7)).keepL hz8) hzp) (ht7.keepL hz8)
        · obtain ⟨s6, zs, hz6, hzp⟩ := h
          have e1 : (pr56 false c').take (ivs ((h56 false).drop 3)).length = pr56 false c' := List.take_of_length_le (by simp [pr56, ivs])
          rw [e1] at hzp
          have hD6 := s6 _ _ hD5
          have hxl := paired_len hps
          have hzl := paired_len hzp
          have hprl := pr56_len false c'
          have hal := acc56_len false c'
          refine ⟨D, D2, xs, zs, rfl, rfl, hD6, hz6, by rw [sizeLine_eq]; omega, ?_⟩
          refine ⟨⟨_, _, rfl⟩, same_list hD (Same.trans s34 (Same.trans s5 s6)), seqT_keepL (seqT (Same.trans s4 (Same.trans s5 s6)) hsq3) hD6, xs ++ zs, upd_same, ?_⟩
          rw [acc56_succ]
          exact paired_app (paired_mono (fun _ _ r => (r.keep (Same.tups (Same.trans s4 (Same.trans s5 s6)))).keepL hD6) hps) (paired_mono (fun _ _ r => r.keepL hD6) hzp)
      · obtain ⟨⟨x3, x4, rfl⟩, s3, hsq3, xs, hD3, hps⟩ := h
        exact ⟨.ref D, rfl, q _ D xs s3 hD3 hps⟩
end
end Wp
set_option maxHeartbeats 4000000
namespace Wp
open Wb
open PySem PySem.Spec PyProof.Rows L2
open C8 (Cal pe_c pe_gc)
section
variable {P : Program} {w : World} {K : PySem.W.Frag} {mg : Str → Option Value} {base : Heap}
def spAreWays : Sp := fun vs H Q _ => ∃ (v : V) (n : Nat) (ts : List (Nat × Nat)) (pa ha wa : Addr) (pxs wv : List V) (ps : List (Nat × Nat)) (hs : List Nat), vs = [v, .ref pa, .ref ha, .ref wa] ∧ WebV H v n ts ∧ WebOk n ts ∧ H pa = some (.lst pxs) ∧ Paired (TieV H) pxs ps ∧ H ha = some (.tup (ivs hs)) ∧ H wa = some (.tup wv) ∧
  ps.length ≤ 100 ∧ hs.length ≤ 100 ∧ (∀ q ∈ ps, q.1 < q.2) ∧ (wv.length ≠ ps.length ∨ (Paired (TieV H) wv ps ∧ ∃ q ∈ ps, q ∉ ts)) ∧ ∀ H', Same H H' → Q (.bl false) H'
theorem k_are_ways (A : At K mg "are_ways" s_are_ways) (B : Bt mg) (C_is_way_of : Cal P w K mg base 5 "is_way_of" spIsWayOf []) : Cal P w K mg base 6 "are_ways" spAreWays [] := by
  refine mk A sc_are_ways (fun _ _ _ _ _ _ us hl => match us, hl with | [_, _, _, _], _ => rfl) (fun vs H Q E h => ?_) (fun f cdv A outer s H vs Q E hr h => ?_)
  · obtain ⟨v, n, ts, pa, ha, wa, pxs, wv, ps, hs, rfl, _⟩ := h
    rfl
  · obtain ⟨v, n, ts, pa, ha, wa, pxs, wv, ps, hs, rfl, hw, ok, hpa, hps, hha, hwa, hpl, hhl, hlt, hbad, q⟩ := h
    refine ⟨_, (pss_cons (ps_if (PW.pt (pw_or (pt_not (pt_val (pe_callB call_isi (by rfl) B.isinstance (by decide +kernel) (pa_cons (pv 3) (pa_cons (pe_bltn (v := .ty "tuple") (by rfl) B.tuple (by decide +kernel) rfl) pa_nil))))) (pw_or1 (pt_cmpR op_ne (pe_callB call_len_seq (by rfl) B.len (by decide +kernel) (pa_cons (pv 3) pa_nil)) (pe_callB call_len_seq (by rfl) B.len (by decide +kernel) (pa_cons (pv 1) pa_nil)) (nomark _)))))
      (pss_one (ps_ret pe_bl))
      pss_nil)
    (pss_cons (ps_set (i := 4) sc_are_ways.nd rfl (.inr rfl) (pe_callTy call_list_of (by rfl) B.list (by decide +kernel) (pa_cons (pv 2) pa_nil)))
    (pss_cons (ps_for PassesOwn.never rfl (pi_zipLT (by rfl) B.zip (pa_cons (pv 1) (pa_cons (pv 3) pa_nil))) (pg_tup rfl (pgs_cons (pg_tup rfl (pgs_cons (pg_name (i := 5) sc_are_ways.nd rfl (.inl rfl)) (pgs_cons (pg_name (i := 6) sc_are_ways.nd rfl (.inl rfl)) pgs_nil))) (pgs_cons (pg_name (i := 7) sc_are_ways.nd rfl (.inl rfl)) pgs_nil)))
      (pss_cons (ps_if (PW.pt (pw_or (pt_not (pt_val (pe_c C_is_way_of hr (by decide) (by rfl) (pa_cons (pv 0) (pa_cons (pv 7) pa_nil))))) (pw_or (pt_cmpR op_lt (pe_callB call_len_seq (by rfl) B.len (by decide +kernel) (pa_cons (pv 7) pa_nil)) pe_int (nomark _)) (pw_or (pt_cmpR op_ne (pe_ix ix_tup (pv 7) pe_int (fun _ _ => rfl)) (pv 5) (nomark _)) (pw_or1 (pt_cmpR op_ne (pe_ix ix_tup (pv 7) (pe_un un_neg pe_int) (fun _ _ => rfl)) (pv 6) (nomark _)))))))
        (pss_one (ps_ret pe_bl))
        pss_nil)
      (pss_cons (ps_if (pt_val (pe_callB (cr_any rfl) (by rfl) B.any (by decide +kernel) (pa_cons (pe_lc (own := [("corner", 8)]) rfl sc_are_ways.nd (pi_tup (pe_slice sl_tupF (pv 7) (po_some pe_int) (po_some (pe_un un_neg pe_int)))) (blkOk_by (N := ["web", "pairs", "heads", "value", "met", "one", "other", "way", "corner"]) (sc := defScope s_are_ways) (by decide +kernel)) (fun _ _ _ _ _ => (pg_name (i := 8) sc_are_ways.nd rfl (.inl rfl) (.inr rfl))) (fun _ _ _ _ _ => pts_nil) (fun _ _ _ _ _ => (pe_cmpR (r := rIn K false) op_in_seq (pv 8) (pv 4) (by with_unfolding_all rfl)))) pa_nil)))
        (pss_one (ps_ret pe_bl))
        pss_nil)
      (pss_one (ps_expr (pe_bm PySem.F.plainAttrs_list PySem.F.slot_list_extend PySem.F.type_list_extend mt_extendT (pv 4) (pa_cons (pe_slice sl_tupF (pv 7) (po_some pe_int) (po_some (pe_un un_neg pe_int))) pa_nil)))))))
    (pss_one (ps_ret pe_bl))))), ?_⟩
    have hxl := paired_len hps
    refine ⟨.ref wa, rfl, .ref wa, .ty "tuple", _, _, true, rfl, .ty "tuple", .base (.tup hwa), kit_ty (by decide +kernel), true, rfl, iteF ?_⟩
    refine ⟨.ref wa, rfl, wa, _, rfl, .inr (tq hwa), .ref pa, rfl, pa, _, rfl, .inl (lq hpa), rfl, decide (wv.length ≠ ps.length), ?_, ?_⟩
    · refine congrArg V.bl ?_
      rw [Bool.eq_iff_iff]
      simp only [Bool.not_eq_true', decide_eq_false_iff_not, decide_eq_true_eq, hxl]
      constructor
      · intro h e; exact h (by rw [e])
      · intro h e; exact h (by have := V.int.inj e; omega)
    by_cases hne : wv.length ≠ ps.length
    · rw [decide_eq_true hne]
      exact iteT (q H fun _ _ e => e)
    rw [decide_eq_false hne]
    refine iteF ?_
    obtain ⟨hwp, q0, hq0, hq0n⟩ := hbad.resolve_left hne
    refine ⟨.ref ha, rfl, ha, _, rfl, .inr (tq hha), fun M hM => ?_⟩
    refine ⟨.ref pa, rfl, .ref wa, rfl, pa, wa, _, _, rfl, lq (same_upd hM _ _ hpa), tq (same_upd hM _ _ hwa), ?_⟩
    refine for_it (walk_zipLT (K := K) (a := pa) (b := wa) (xs := pxs) (ys := wv) (n := ps.length) (by omega)) (fun i σ H' => (∃ x5 x6 x7, σ = [some v, some (.ref pa), some (.ref ha), some (.ref wa), some (.ref M), x5, x6, x7, none]) ∧ Same H H' ∧ H' M = some (.lst (ivs hs)) ∧ ∀ j t, j < i → ps[j]? = some t → t ∈ ts)
      ⟨⟨_, _, _, rfl⟩, same_upd hM, upd_same, fun j t h => absurd h (by omega)⟩ (fun i σ H' _ h => ⟨lq (h.2.1 _ _ hpa), tq (h.2.1 _ _ hwa)⟩) (fun i x σ H1 H2 hi h hx => ?_) (fun σ H1 h => ?_)
    · obtain ⟨⟨x5, x6, x7, rfl⟩, s1, hM1, hall⟩ := h
      obtain ⟨T, v1, v2, rfl, hT, rfl, e1, e2⟩ := hx
      obtain ⟨t, ht, r1⟩ := paired_get hps e1
      obtain ⟨t', ht', r2⟩ := paired_get hwp e2
      rw [ht] at ht'
      cases ht'
      obtain ⟨p1, rfl, hp1⟩ := r1.keep (Same.tups s1)
      obtain ⟨p2, rfl, hp2⟩ := r2.keep (Same.tups s1)
      have s2 := same_upd (o := .tup [.ref p1, .ref p2]) hT
      have hp1 := s2 _ _ hp1
      have hp2 := s2 _ _ hp2
      have hT2 : upd H1 T (.tup [.ref p1, .ref p2]) T = some (.tup [.ref p1, .ref p2]) := upd_same
      generalize upd H1 T (.tup [.ref p1, .ref p2]) = H2 at s2 hT2 hp1 hp2 ⊢
      have s12 := Same.trans s1 s2
      have htlt := hlt t (List.mem_of_getElem? ht)
      refine ⟨T, _, rfl, tq hT2, rfl, .ref p1, _, rfl, ?_⟩
      refine ⟨p1, _, rfl, tq hp1, rfl, iv t.1, _, rfl, iv t.2, [], rfl, rfl, ?_⟩
      refine ⟨.ref p2, [], rfl, rfl, ?_⟩
      have hp2' : H2 p2 = some (.tup (ivs [t.1, t.2])) := hp2
      refine ⟨v, rfl, .ref p2, rfl, v, n, ts, p2, [t.1, t.2], rfl, hw.keep (Same.tups s12), hp2', by simp; omega, by simp, by simp, fun H3 s3 => ?_⟩
      have hmm : mm (t.1, t.2) = t := by
        simp only [mm]
        exact Prod.ext (by show min t.1 t.2 = t.1; omega) (by show max t.1 t.2 = t.2; omega)
      have hr2 : decide ((∀ x ∈ [t.1, t.2], x < n) ∧ ∀ q ∈ [t.1, t.2].zip ([t.1, t.2].drop 1), mm q ∈ ts) = decide (t ∈ ts) := by
        rw [decide_eq_decide]
        constructor
        · rintro ⟨_, h⟩
          have := h (t.1, t.2) (by simp)
          rw [hmm] at this; exact this
        · intro h
          have := ok.lt t h
          refine ⟨fun x hx => ?_, fun q hq => ?_⟩
          · simp at hx; omega
          · simp at hq; rw [hq, hmm]; exact h
      rw [hr2]
      have s13 := Same.trans s12 s3
      have hp3 := s3 _ _ hp2
      by_cases hm : t ∈ ts
      · rw [decide_eq_true hm]
        refine ⟨true, rfl, iteF ?_⟩
        refine ⟨.ref p2, rfl, p2, _, rfl, .inr (tq hp3), _, _, rfl, rfl, _, rfl, iteF ?_⟩
        refine ⟨.ref p2, rfl, p2, _, 0, iv t.1, rfl, rfl, tq hp3, atI_nat (j := 0) rfl, iv t.1, rfl, rfl, false, congrArg V.bl (by simp), iteF ?_⟩
        refine ⟨.ref p2, rfl, 1, rfl, p2, _, -1, iv t.2, rfl, rfl, tq hp3, rfl, iv t.2, rfl, rfl, false, congrArg V.bl (by simp), iteF ?_⟩
        have hcut : cutV [iv t.1, iv t.2] (some 1) (some (-1)) = [] := rfl
        have hwh : ¬ (HT.sIx [iv t.1, iv t.2].length 0 (some 1) = 0 ∧ HT.sIx [iv t.1, iv t.2].length [iv t.1, iv t.2].length (some (-1)) = [iv t.1, iv t.2].length) := fun h => absurd h.1 (by show ¬ HT.sIx 2 0 (some 1) = 0; decide)
        refine ⟨.ref p2, rfl, 1, rfl, 1, rfl, -1, rfl, p2, _, rfl, tq hp3, hwh, fun c o hc hb => ?_⟩
        rw [hcut]
        have s4 := same_upd (o := .frz o (.tup [])) hc
        have hc4 : upd H3 c (.frz o (.tup [])) c = some (.frz o (.tup [])) := upd_same
        generalize upd H3 c (.frz o (.tup [])) = H4 at s4 hc4 ⊢
        refine ⟨c, rfl, ⟨_, fq hc4⟩, fun D hD => ?_⟩
        refine lc0 (walk_tup (K := K) (a := c) (xs := [])) (fun i H' => Same H4 H' ∧ H' D = some (.lst [])) ⟨same_upd hD, upd_same⟩ (fun i H' _ h => fq (h.1 _ _ hc4)) (fun i x H7 H8 hi h hx => absurd hi (by simp)) (fun H5 h => ?_)
        obtain ⟨s5, hD5⟩ := h
        refine ⟨D, [], rfl, lq hD5, false, rfl, iteF ?_⟩
        have s15 := Same.trans s3 (Same.trans s4 s5)
        have hM5 := s15 _ _ (s2 _ _ hM1)
        refine ⟨.ref M, rfl, .inl ⟨rfl, _, lq hM5⟩, .ref p2, rfl, 1, rfl, 1, rfl, -1, rfl, p2, _, rfl, tq (s5 _ _ (s4 _ _ hp3)), hwh, fun c2 o2 hc2 hb2 => ?_⟩
        rw [hcut]
        have s6 := same_upd (o := .frz o2 (.tup [])) hc2
        have hc6 : upd H5 c2 (.frz o2 (.tup [])) c2 = some (.frz o2 (.tup [])) := upd_same
        generalize upd H5 c2 (.frz o2 (.tup [])) = H6 at s6 hc6 ⊢
        refine ⟨M, c2, _, [], o2, rfl, rfl, s6 _ _ hM5, hb2, hc6, by rw [sizeLine_eq]; simp [ivs]; omega, ?_⟩
        refine ⟨⟨_, _, _, rfl⟩, same_list hM (Same.trans s12 (Same.trans s15 s6)), by rw [upd_same]; simp, fun j t' hj ht' => ?_⟩
        by_cases e : j = i
        · rw [e, ht] at ht'
          cases ht'
          exact hm
        · exact hall j t' (by omega) ht'
      · rw [decide_eq_false hm]
        refine ⟨false, rfl, iteT ?_⟩
        exact q H3 s13
    · obtain ⟨_, _, _, hall⟩ := h
      obtain ⟨j, hj⟩ := List.getElem?_of_mem hq0
      exact absurd (hall j q0 (List.getElem?_eq_some_iff.mp hj).1 hj) hq0n
def spIsBarred : Sp := fun vs H Q _ => ∃ (v : V) (n : Nat) (ts : List (Nat × Nat)) (a ha wa : Addr) (wv : List V) (five : Bool), vs = [v, .ref a] ∧ WebV H v n ts ∧ WebOk n ts ∧ H a = some (.tup [.str "barred", .str (w56 five), .ref ha, .ref wa]) ∧ H ha = some (.tup (ivs (h56 five))) ∧ H wa = some (.tup wv) ∧
  (wv.length ≠ (P56 five).length ∨ (Paired (TieV H) wv (P56 five) ∧ ∃ q ∈ P56 five, q ∉ ts)) ∧ ∀ H', Same H H' → Q (.bl false) H'
theorem k_is_barred_value (A : At K mg "is_barred_value" s_is_barred_value) (B : Bt mg) (Gv : Gc mg) (C_are_heads : Cal P w K mg base 6 "are_heads" spAreHeads []) (C_pairs_of_heads : Cal P w K mg base 1 "pairs_of_heads" spPairsOfHeads []) (C_are_ways : Cal P w K mg base 6 "are_ways" spAreWays []) : Cal P w K mg base 7 "is_barred_value" spIsBarred [] := by
  refine mk A sc_is_barred_value (fun _ _ _ _ _ _ us hl => match us, hl with | [_, _], _ => rfl) (fun vs H Q E h => ?_) (fun f cdv A outer s H vs Q E hr h => ?_)
  · obtain ⟨v, n, ts, a, ha, wa, wv, five, rfl, _⟩ := h
    rfl
  · obtain ⟨v, n, ts, a, ha, wa, wv, five, rfl, hw, ok, hap, hha, hwa, hbad, q⟩ := h
    refine ⟨_, (pss_cons (ps_if (PW.pt (pw_or (pt_not (pt_val (pe_callB call_isi (by rfl) B.isinstance (by decide +kernel) (pa_cons (pv 1) (pa_cons (pe_bltn (v := .ty "tuple") (by rfl) B.tuple (by decide +kernel) rfl) pa_nil))))) (pw_or (pt_cmpR op_ne (pe_callB call_len_seq (by rfl) B.len (by decide +kernel) (pa_cons (pv 1) pa_nil)) pe_int (nomark _)) (pw_or (pt_not (pt_val (pe_callB call_isi (by rfl) B.isinstance (by decide +kernel) (pa_cons (pe_ix ix_tup (pv 1) pe_int (fun _ _ => rfl)) (pa_cons (pe_bltn (v := .ty "str") (by rfl) B.str (by decide +kernel) rfl) pa_nil))))) (pw_or1 (pt_cmpR op_ne (pe_ix ix_tup (pv 1) pe_int (fun _ _ => rfl)) (pe_gc (by rfl) Gv.barred) (nomark _)))))))
      (pss_one (ps_ret pe_bl))
      pss_nil)
    (pss_cons (ps_if (PW.pt (pw_or (pt_not (pt_val (pe_callB call_isi (by rfl) B.isinstance (by decide +kernel) (pa_cons (pe_ix ix_tup (pv 1) pe_int (fun _ _ => rfl)) (pa_cons (pe_bltn (v := .ty "str") (by rfl) B.str (by decide +kernel) rfl) pa_nil))))) (pw_or (pt_cmpR op_notIn_seq (pe_ix ix_tup (pv 1) pe_int (fun _ _ => rfl)) (pe_tup (pa_cons (pe_gc (by rfl) Gv.five) (pa_cons (pe_gc (by rfl) Gv.wells) pa_nil))) (by with_unfolding_all rfl)) (pw_or1 (pt_not (pt_val (pe_c C_are_heads hr (by decide) (by rfl) (pa_cons (pv 0) (pa_cons (pe_ix ix_tup (pv 1) pe_int (fun _ _ => rfl)) (pa_cons (pe_ix ix_tup (pv 1) pe_int (fun _ _ => rfl)) pa_nil))))))))))
      (pss_one (ps_ret pe_bl))
      pss_nil)
    (pss_one (ps_ret (pe_c C_are_ways hr (by decide) (by rfl) (pa_cons (pv 0) (pa_cons (pe_c C_pairs_of_heads hr (by decide) (by rfl) (pa_cons (pe_ix ix_tup (pv 1) pe_int (fun _ _ => rfl)) (pa_cons (pe_ix ix_tup (pv 1) pe_int (fun _ _ => rfl)) pa_nil))) (pa_cons (pe_ix ix_tup (pv 1) pe_int (fun _ _ => rfl)) (pa_cons (pe_ix ix_tup (pv 1) pe_int (fun _ _ => rfl)) pa_nil))))))))), ?_⟩
    refine ⟨.ref a, rfl, .ref a, .ty "tuple", _, _, true, rfl, .ty "tuple", .base (.tup hap), kit_ty (by decide +kernel), true, rfl, iteF ?_⟩
    refine ⟨.ref a, rfl, a, _, rfl, .inr (tq hap), rfl, _, rfl, iteF ?_⟩
    refine ⟨.ref a, rfl, a, _, 0, .str "barred", rfl, rfl, tq hap, atI_nat (j := 0) rfl, .str "barred", .ty "str", _, _, true, rfl, .ty "str", .base (.str _), kit_ty (by decide +kernel), true, rfl, iteF ?_⟩
    refine ⟨.ref a, rfl, a, _, 0, .str "barred", rfl, rfl, tq hap, atI_nat (j := 0) rfl, rfl, _, rfl, iteF ?_⟩
    refine ⟨.ref a, rfl, a, _, 1, .str (w56 five), rfl, rfl, tq hap, atI_nat (j := 1) rfl, .str (w56 five), .ty "str", _, _, true, rfl, .ty "str", .base (.str _), kit_ty (by decide +kernel), true, rfl, iteF ?_⟩
    refine ⟨.ref a, rfl, a, _, 1, .str (w56 five), rfl, rfl, tq hap, atI_nat (j := 1) rfl, by show 2 ≤ sizeLine; decide, fun t ht => ?_⟩
    have s1 := same_upd (o := .tup [.str "five", .str "wells"]) ht
    have ht1 : upd H t (.tup [.str "five", .str "wells"]) t = some (.tup [.str "five", .str "wells"]) := upd_same
    generalize upd H t (.tup [.str "five", .str "wells"]) = H1 at s1 ht1 ⊢
    have hap1 := s1 _ _ hap
    refine ⟨t, _, rfl, .inr (tq ht1), rfl, rfl, false, ?_, iteF ?_⟩
    · cases five <;> rfl
    refine ⟨v, rfl, .ref a, rfl, a, _, 1, .str (w56 five), rfl, rfl, tq hap1, atI_nat (j := 1) rfl, .ref a, rfl, a, _, 2, .ref ha, rfl, rfl, tq hap1, atI_nat (j := 2) rfl, ?_⟩
    refine ⟨v, n, ts, ha, five, rfl, hw.keep (Same.tups s1), s1 _ _ hha, fun H2 s2 => ?_⟩
    have s12 := Same.trans s1 s2
    by_cases hn : (h56 five).length ≤ n
    · rw [decide_eq_true hn]
      refine ⟨true, rfl, iteF ?_⟩
      have hap2 := s2 _ _ hap1
      refine ⟨v, rfl, .ref a, rfl, a, _, 1, .str (w56 five), rfl, rfl, tq hap2, atI_nat (j := 1) rfl, .ref a, rfl, a, _, 2, .ref ha, rfl, rfl, tq hap2, atI_nat (j := 2) rfl, ?_⟩
      refine ⟨ha, five, rfl, s12 _ _ hha, fun H3 l xs s3 hl hxs => ?_⟩
      have hap3 := s3 _ _ hap2
      have s13 := Same.trans s12 s3
      refine ⟨.ref a, rfl, a, _, 2, .ref ha, rfl, rfl, tq hap3, atI_nat (j := 2) rfl, .ref a, rfl, a, _, 3, .ref wa, rfl, rfl, tq hap3, atI_nat (j := 3) rfl, ?_⟩
      refine ⟨v, n, ts, l, ha, wa, xs, wv, P56 five, h56 five, rfl, hw.keep (Same.tups s13), ok, hl, hxs, s13 _ _ hha, s13 _ _ hwa, by cases five <;> decide, by cases five <;> decide, by cases five <;> decide, ?_, fun H4 s4 => q H4 (Same.trans s13 s4)⟩
      exact hbad.imp id fun h => ⟨paired_mono (fun _ _ r => r.keep (Same.tups s13)) h.1, h.2⟩
    · rw [decide_eq_false hn]
      refine ⟨false, rfl, iteT ?_⟩
      exact q H2 s12
theorem k_is_barred (A : At K mg "is_barred" s_is_barred) (B : Bt mg) (C_want_web : Cal P w K mg base 5 "want_web" spWantWeb []) (C_is_barred_value : Cal P w K mg base 7 "is_barred_value" spIsBarred []) : Cal P w K mg base 8 "is_barred" spIsBarred [] := by
  refine mk A sc_is_barred (fun _ _ _ _ _ _ us hl => match us, hl with | [_, _], _ => rfl) (fun vs H Q E h => ?_) (fun f cdv A outer s H vs Q E hr h => ?_)
  · obtain ⟨v, n, ts, a, ha, wa, wv, five, rfl, _⟩ := h
    rfl
  · obtain ⟨v, n, ts, a, ha, wa, wv, five, rfl, hw, ok, hap, hha, hwa, hbad, q⟩ := h
    refine ⟨_, (pss_cons (ps_expr (pe_c C_want_web hr (by decide) (by rfl) (pa_cons (pv 0) pa_nil)))
    (pss_one (ps_ret (pe_c C_is_barred_value hr (by decide) (by rfl) (pa_cons (pv 0) (pa_cons (pv 1) pa_nil)))))), ?_⟩
    exact ⟨v, rfl, v, n, ts, rfl, hw, ok, fun H1 s1 => ⟨v, rfl, .ref a, rfl, v, n, ts, a, ha, wa, wv, five, rfl, hw.keep (Same.tups s1), ok, s1 _ _ hap, s1 _ _ hha, s1 _ _ hwa, hbad.imp id fun h => ⟨paired_mono (fun _ _ r => r.keep (Same.tups s1)) h.1, h.2⟩, fun H2 s2 => q H2 (Same.trans s1 s2)⟩⟩
end
end Wp
set_option maxHeartbeats 4000000
namespace Wp
open Wb
open PySem PySem.Spec PyProof.Rows L2
open C8 (Cal pe_c pe_gc)
/-- the pot of numbers -/
def PotV (H : Hp) (a : Addr) : Prop := ∃ x y : Int, 0 ≤ x ∧ 0 ≤ y ∧ y ≤ 2147483353 ∧ H a = some (.lst [.int x, .int y])
theorem PotV.keep {H H' : Hp} {a : Addr} (h : PotV H a) (g : Same H H') : PotV H' a := by
  obtain ⟨x, y, h1, h2, h3, h4⟩ := h
  exact ⟨x, y, h1, h2, h3, g _ _ h4⟩
section
variable {P : Program} {w : World} {K : PySem.W.Frag} {mg : Str → Option Value} {base : Heap}
def spLawPot (K : PySem.W.Frag) : Sp := fun vs H Q _ => ∃ (s : Addr) (ns : List Int), vs = [.ref s, .int 0] ∧ SqL K H s (ns.map V.int) ∧ ∀ H' l, Same H H' → PotV H' l → Q (.ref l) H'
theorem k_law_pot (A : At K mg "_law_pot" s_law_pot) (B : Bt mg) : Cal P w K mg base 1 "_law_pot" (spLawPot K) [] := by
  refine mk A sc_law_pot (fun _ _ _ _ _ _ us hl => match us, hl with | [_, _], _ => rfl) (fun vs H Q E h => ?_) (fun f cdv A outer s H vs Q E hr h => ?_)
  · obtain ⟨s, ns, rfl, _⟩ := h
    rfl
  · obtain ⟨sa, ns, rfl, hs, q⟩ := h
    refine ⟨_, (pss_cons (ps_set (i := 2) sc_law_pot.nd rfl (.inl rfl) (pe_ifExp (pt_cmpR op_lt (pv 1) (pe_callB call_len_seq (by rfl) B.len (by decide +kernel) (pa_cons (pv 0) pa_nil)) (nomark _)) (pe_callB call_abs (by rfl) B.abs (by decide +kernel) (pa_cons (pe_ix ix_list (pv 0) (pv 1) (fun _ _ => rfl)) pa_nil)) (pe_op op_add (pe_op op_mul pe_int (pv 1)) pe_int)))
    (pss_one (ps_ret (pe_lst (pa_cons (pe_callB (call_max2 rfl) (by rfl) B.max (by decide +kernel) (pa_cons pe_int (pa_cons (pe_op op_sub (pv 2) (pe_op op_pow pe_int pe_int)) pa_nil))) (pa_cons (pe_op op_add (pe_op op_mod (pe_callTy call_int1 (by rfl) B.int (by decide +kernel) (pa_cons (pe_op op_add (pe_op op_add (pe_op op_mul (pe_op op_mod (pe_callTy call_int1 (by rfl) B.int (by decide +kernel) (pa_cons (pv 2) pa_nil)) pe_int) pe_int) (pe_op op_mul pe_int (pv 1))) pe_int) pa_nil)) pe_int) pe_int) pa_nil)))))), ?_⟩
    have fin : ∀ c : Int, 0 ≤ c → ∀ p, H p = none → PotV (upd H p (.lst [.int (if c - 10 ^ 18 > 0 then c - 10 ^ 18 else 0), .int (((c % 2147483323 * 40813 + 7331 * 0) + 409) % 2147483353 + 1)])) p := fun c hc p hp => by
      refine ⟨_, _, ?_, ?_, ?_, upd_same⟩
      · split <;> omega
      · have := Int.emod_nonneg ((c % 2147483323 * 40813 + 7331 * 0) + 409) (b := 2147483353) (by decide); omega
      · have := Int.emod_lt_of_pos ((c % 2147483323 * 40813 + 7331 * 0) + 409) (b := 2147483353) (by decide); omega
    by_cases hn : 0 < ns.length
    · refine ⟨.int 0, rfl, .ref sa, rfl, sa, _, rfl, .inl hs, 0, _, rfl, rfl, true, ?_, iteT ?_⟩
      · exact congrArg V.bl (decide_eq_true (by rw [List.length_map]; omega))
      · have hg : (ns.map V.int)[0]? = some (.int ns[0]) := by simp [hn]
        refine ⟨.ref sa, rfl, .int 0, rfl, sa, _, 0, .int ns[0], rfl, rfl, hs, atI_nat hg, _, rfl, ?_⟩
        refine ⟨.int _, rfl, 10, 18, rfl, rfl, ⟨by decide, by decide, by decide⟩, _, _, rfl, rfl, 0, _, rfl, ?_⟩
        refine ⟨.int _, rfl, .inl ⟨_, rfl, _, 2147483323, rfl, rfl, by show (0 : Int) < 2147483323; decide, _, 40813, rfl, rfl, .inr ⟨by decide, by decide⟩, .int 0, rfl, 7331, 0, rfl, rfl, .inl ⟨by decide, by decide⟩, _, _, rfl, rfl, _, 409, rfl, rfl, .inl ⟨_, rfl, _, 2147483353, rfl, rfl, by show (0 : Int) < 2147483353; decide, _, 1, rfl, rfl, by show 2 ≤ sizeLine; decide, fun p hp => ?_⟩⟩⟩
        refine q _ p (same_upd hp) (fin _ ?_ p hp)
        · split <;> omega
    · refine ⟨.int 0, rfl, .ref sa, rfl, sa, _, rfl, .inl hs, 0, _, rfl, rfl, false, ?_, iteF ?_⟩
      · exact congrArg V.bl (decide_eq_false (by rw [List.length_map]; omega))
      · refine ⟨.int 0, rfl, 641, 0, rfl, rfl, .inl ⟨by decide, by decide⟩, _, 487, rfl, rfl, ?_⟩
        refine ⟨.int _, rfl, 10, 18, rfl, rfl, ⟨by decide, by decide, by decide⟩, _, _, rfl, rfl, 0, _, rfl, ?_⟩
        refine ⟨.int _, rfl, .inl ⟨_, rfl, _, 2147483323, rfl, rfl, by show (0 : Int) < 2147483323; decide, _, 40813, rfl, rfl, .inr ⟨by decide, by decide⟩, .int 0, rfl, 7331, 0, rfl, rfl, .inl ⟨by decide, by decide⟩, _, _, rfl, rfl, _, 409, rfl, rfl, .inl ⟨_, rfl, _, 2147483353, rfl, rfl, by show (0 : Int) < 2147483353; decide, _, 1, rfl, rfl, by show 2 ≤ sizeLine; decide, fun p hp => ?_⟩⟩⟩
        refine q _ p (same_upd hp) (fin _ ?_ p hp)
        · decide
def spLawDraw : Sp := fun vs H Q _ => ∃ (a : Addr) (n : Nat), vs = [.ref a, iv n] ∧ 0 < n ∧ n ≤ 1000 ∧ PotV H a ∧ ∀ H' d, SameX a H H' → PotV H' a → d < n → Q (iv d) H'
theorem k_law_draw (A : At K mg "_law_draw" s_law_draw) (B : Bt mg) : Cal P w K mg base 1 "_law_draw" spLawDraw [] := by
  refine mk A sc_law_draw (fun _ _ _ _ _ _ us hl => match us, hl with | [_, _], _ => rfl) (fun vs H Q E h => ?_) (fun f cdv A outer s H vs Q E hr h => ?_)
  · obtain ⟨a, n, rfl, _⟩ := h
    rfl
  · obtain ⟨a, n, rfl, hn, hn2, ⟨x, y, hx, hy, hy2, ha⟩, q⟩ := h
    refine ⟨_, (pss_cons (ps_if (pt_cmpR op_gt (pe_ix ix_list (pv 0) pe_int (fun _ _ => rfl)) pe_int (nomark _))
      (pss_cons (ps_asg (pe_callB call_divmodW (by rfl) B.divmod (by decide +kernel) (pa_cons (pe_ix ix_list (pv 0) pe_int (fun _ _ => rfl)) (pa_cons (pv 1) pa_nil))) (pg_tup rfl (pgs_cons (pg_sub (pv 0) pe_int set_list) (pgs_cons (pg_name (i := 2) sc_law_draw.nd rfl (.inl rfl)) pgs_nil))))
      (pss_one (ps_ret (pv 2))))
      pss_nil)
    (pss_cons (ps_asg (pe_op op_mod (pe_callTy call_int1 (by rfl) B.int (by decide +kernel) (pa_cons (pe_op op_add (pe_op op_mul (pe_ix ix_list (pv 0) pe_int (fun _ _ => rfl)) pe_int) pe_int) pa_nil)) pe_int) (pg_sub (pv 0) pe_int set_list))
    (pss_one (ps_ret (pe_op op_mod (pe_callTy call_int1 (by rfl) B.int (by decide +kernel) (pa_cons (pe_op op_fdiv (pe_op op_mod (pe_callTy call_int1 (by rfl) B.int (by decide +kernel) (pa_cons (pe_op op_mul (pe_ix ix_list (pv 0) pe_int (fun _ _ => rfl)) (pe_ix ix_list (pv 0) pe_int (fun _ _ => rfl))) pa_nil)) pe_int) pe_int) pa_nil)) (pv 1)))))), ?_⟩
    refine ⟨.ref a, rfl, a, _, 0, .int x, rfl, rfl, lq ha, atI_nat (j := 0) rfl, _, _, rfl, rfl, decide (x > 0), rfl, ?_⟩
    by_cases hx0 : x > 0
    · rw [decide_eq_true hx0]
      refine iteT ⟨.ref a, rfl, a, _, 0, .int x, rfl, rfl, lq ha, atI_nat (j := 0) rfl, iv n, rfl, x, n, rfl, ⟨by omega, ?_⟩, fun p hp => ?_⟩
      · unfold Builtin.divisionGoesByPylong
        have hl : (n : Int).natAbs.log2 < 10 := by
          rw [Nat.log2_lt (by omega)]; omega
        have hl2 : n.log2 < 10 := by rw [Nat.log2_lt (by omega)]; omega
        have h0 : ((n : Int) == 0) = false := by simp; omega
        simp only [h0]
        have : decide ((n : Int).natAbs.log2 / 30 + 1 > 300) = false := decide_eq_false (by omega)
        simp [this]
        intro h
        omega
      · have hap : a ≠ p := fun e => by rw [← e, ha] at hp; cases hp
        have hd : ((x % (n : Int)).toNat : Int) = x % (n : Int) := Int.toNat_of_nonneg (Int.emod_nonneg _ (by omega))
        refine ⟨p, _, rfl, tq upd_same, rfl, .int (x / n), _, rfl, .ref a, rfl, a, _, 0, 0, rfl, rfl, by rw [upd_ne hap]; exact ha, rfl, .int (x % n), [], rfl, rfl, ?_⟩
        refine ⟨.int (x % n), rfl, ?_⟩
        rw [← hd]
        refine q _ _ (SameX.put (Same.x (same_upd hp))) ⟨x / n, y, Int.ediv_nonneg hx (by omega), hy, hy2, upd_same⟩ ?_
        have := Int.emod_lt_of_pos x (b := (n : Int)) (by omega)
        omega
    · rw [decide_eq_false hx0]
      refine iteF ?_
      refine ⟨.ref a, rfl, a, _, 1, .int y, rfl, rfl, lq ha, atI_nat (j := 1) rfl, y, 38281, rfl, rfl, .inr ⟨by decide, by decide⟩, _, 20143, rfl, rfl, .inl ⟨_, rfl, _, 2147483353, rfl, rfl, by show (0 : Int) < 2147483353; decide, .ref a, rfl, a, _, 1, 1, rfl, rfl, ha, rfl, ?_⟩⟩
      dsimp only
      have hy1 := Int.emod_nonneg (y * 38281 + 20143) (b := 2147483353) (by decide)
      have hy3 := Int.emod_lt_of_pos (y * 38281 + 20143) (b := 2147483353) (by decide)
      generalize (y * 38281 + 20143) % 2147483353 = z at hy1 hy3
      have sx : SameX a H (upd H a (.lst (List.set [V.int x, V.int y] 1 (V.int z)))) := SameX.put fun _ _ _ e => e
      have ha1 : upd H a (.lst (List.set [V.int x, V.int y] 1 (V.int z))) a = some (.lst [.int x, .int z]) := upd_same
      generalize upd H a (.lst (List.set [V.int x, V.int y] 1 (V.int z))) = H1 at sx ha1 ⊢
      refine ⟨.ref a, rfl, a, _, 1, .int z, rfl, rfl, lq ha1, atI_nat (j := 1) rfl, .ref a, rfl, a, _, 1, .int z, rfl, rfl, lq ha1, atI_nat (j := 1) rfl, z, z, rfl, rfl, .inl ⟨by omega, by omega⟩, .inl ⟨_, rfl, _, 2147483323, rfl, rfl, by show (0 : Int) < 2147483323; decide, _, 37, rfl, rfl, ⟨by decide, by decide⟩, .inl ⟨_, rfl, iv n, rfl, _, n, rfl, rfl, by show (0 : Int) < n; omega, ?_⟩⟩⟩
      have hm := Int.emod_nonneg (z * z % 2147483323 / 37) (b := (n : Int)) (by omega)
      have hm2 := Int.emod_lt_of_pos (z * z % 2147483323 / 37) (b := (n : Int)) (by omega)
      show Q (.int (z * z % 2147483323 / 37 % (n : Int))) H1
      generalize z * z % 2147483323 / 37 % (n : Int) = d at hm hm2 ⊢
      have hd : ((d.toNat : Nat) : Int) = d := Int.toNat_of_nonneg hm
      rw [← hd]
      exact q H1 d.toNat sx ⟨x, z, hx, hy1, by omega, ha1⟩ (by omega)
end
end Wp
set_option maxHeartbeats 4000000
namespace Wp
open Wb
open PySem PySem.Spec PyProof.Rows L2
open C8 (Cal pe_c pe_gc)
theorem erase_perm {α : Type} {l : List α} {k : Nat} (hk : k < l.length) : (l[k] :: l.eraseIdx k).Perm l := by
  have h : l = l.take k ++ l[k] :: l.drop (k + 1) := by rw [← List.drop_eq_getElem_cons hk, List.take_append_drop]
  rw [List.eraseIdx_eq_take_drop_succ]
  exact List.perm_middle.symm.trans (by rw [← h])
section
variable {P : Program} {w : World} {K : PySem.W.Frag} {mg : Str → Option Value} {base : Heap}
def spLawPick : Sp := fun vs H Q _ => ∃ (a b : Addr) (xs : List V), vs = [.ref a, .ref b] ∧ PotV H a ∧ H b = some (.lst xs) ∧ b ≠ a ∧ xs ≠ [] ∧ xs.length ≤ 100 ∧ ∀ H' x, SameX a H H' → PotV H' a → x ∈ xs → Q x H'
theorem k_law_pick (A : At K mg "_law_pick" s_law_pick) (B : Bt mg) (C_law_draw : Cal P w K mg base 1 "_law_draw" spLawDraw []) : Cal P w K mg base 2 "_law_pick" spLawPick [] := by
  refine mk A sc_law_pick (fun _ _ _ _ _ _ us hl => match us, hl with | [_, _], _ => rfl) (fun vs H Q E h => ?_) (fun f cdv A outer s H vs Q E hr h => ?_)
  · obtain ⟨a, b, xs, rfl, _⟩ := h
    rfl
  · obtain ⟨a, b, xs, rfl, hp, hb, hba, hne, hl, q⟩ := h
    refine ⟨_, (pss_one (ps_ret (pe_ix ix_list (pv 1) (pe_c C_law_draw hr (by decide) (by rfl) (pa_cons (pv 0) (pa_cons (pe_callB call_len_seq (by rfl) B.len (by decide +kernel) (pa_cons (pv 1) pa_nil)) pa_nil))) (fun _ _ => rfl)))), ?_⟩
    have hpos : 0 < xs.length := List.length_pos_iff.mpr hne
    refine ⟨.ref b, rfl, .ref a, rfl, .ref b, rfl, b, _, rfl, .inl (lq hb), a, xs.length, rfl, hpos, by omega, hp, fun H1 d sx hp1 hd => ?_⟩
    have hx : xs[d]? = some xs[d] := List.getElem?_eq_getElem hd
    exact ⟨b, _, d, xs[d], rfl, rfl, lq (sx _ _ hba hb), atI_nat hx, q H1 _ sx hp1 (List.mem_of_getElem? hx)⟩
def spLawMixed (K : PySem.W.Frag) : Sp := fun vs H Q _ => ∃ (a b : Addr) (xs : List V), vs = [.ref a, .ref b] ∧ PotV H a ∧ H b = some (.lst xs) ∧ b ≠ a ∧ xs.length ≤ 100 ∧
  (∀ H' p q ys (Q' : VK), SameX a H H' → H' p = some (.lst ys) → (∀ y ∈ ys, y ∈ xs) → H' q = some (.lst []) → Q' (.bl (decide (ys ≠ []))) H' → rNeD K (.ref p) (.ref q) H' Q') ∧
  ∀ H' l ys, SameX a H H' → PotV H' a → H l = none → H' l = some (.lst ys) → ys.Perm xs → Q (.ref l) H'
theorem k_law_mixed (A : At K mg "_law_mixed" s_law_mixed) (B : Bt mg) (C_law_draw : Cal P w K mg base 1 "_law_draw" spLawDraw []) : Cal P w K mg base 2 "_law_mixed" (spLawMixed K) [] := by
  refine mk A sc_law_mixed (fun _ _ _ _ _ _ us hl => match us, hl with | [_, _], _ => rfl) (fun vs H Q E h => ?_) (fun f cdv A outer s H vs Q E hr h => ?_)
  · obtain ⟨a, b, xs, rfl, _⟩ := h
    rfl
  · obtain ⟨a, b, xs, rfl, hp, hb, hba, hl, hD, q⟩ := h
    refine ⟨_, (pss_cons (ps_par (i := 2) (j := 3) rfl sc_law_mixed.nd rfl rfl (by decide) rfl rfl (pa_cons (pe_callTy call_list_of (by rfl) B.list (by decide +kernel) (pa_cons (pv 1) pa_nil)) (pa_cons (pe_lst pa_nil) pa_nil)) rfl)
    (pss_cons (ps_while PassesOwn.never (pt_cmpR (op_neD hr.units) (pv 2) (pe_lst pa_nil) (nomark _))
      (pss_one (ps_expr (pe_bm PySem.F.plainAttrs_list PySem.F.slot_list_append PySem.F.type_list_append mt_append (pv 3) (pa_cons (pe_bm PySem.F.plainAttrs_list PySem.F.slot_list_pop PySem.F.type_list_pop mt_popAt (pv 2) (pa_cons (pe_op op_mod (pe_c C_law_draw hr (by decide) (by rfl) (pa_cons (pv 0) (pa_cons pe_int pa_nil))) (pe_callB call_len_seq (by rfl) B.len (by decide +kernel) (pa_cons (pv 2) pa_nil))) pa_nil)) pa_nil)))))
    (pss_one (ps_ret (pv 3))))), ?_⟩
    refine ⟨.ref b, rfl, b, _, rfl, .inl (lq hb), fun Lf hLf => ?_⟩
    have s1 := same_upd (o := .lst xs) hLf
    have hL1 : upd H Lf (.lst xs) Lf = some (.lst xs) := upd_same
    generalize upd H Lf (.lst xs) = H1 at s1 hL1 ⊢
    refine ⟨by show 0 ≤ sizeLine; omega, fun F hF => ?_⟩
    have s2 := same_upd (o := .lst []) hF
    have hF2 : upd H1 F (.lst []) F = some (.lst []) := upd_same
    generalize upd H1 F (.lst []) = H2 at s2 hF2 ⊢
    have hFH : H F = none := none_of_same s1 hF
    have hLF : Lf ≠ F := fun e => by rw [← e, hL1] at hF; cases hF
    refine ⟨_, _, rfl, ?_⟩
    refine ⟨fun m σ H' => ∃ ys zs, σ = [some (.ref a), some (.ref b), some (.ref Lf), some (.ref F)] ∧ m = ys.length ∧ SameX a H H' ∧ PotV H' a ∧ H' Lf = some (.lst ys) ∧ H' F = some (.lst zs) ∧ (ys ++ zs).Perm xs,
      ⟨_, xs, [], rfl, rfl, Same.x (Same.trans s1 s2), hp.keep (Same.trans s1 s2), s2 _ _ hL1, hF2, by simp⟩, fun m σ H' h => ?_⟩
    obtain ⟨ys, zs, rfl, rfl, sx, hp3, hL3, hF3, hperm⟩ := h
    have aL : Lf ≠ a := fun e => by obtain ⟨_, _, _, _, _, h⟩ := hp; rw [← e, hLf] at h; cases h
    have aF : F ≠ a := fun e => by obtain ⟨_, _, _, _, _, h⟩ := hp; rw [← e, hFH] at h; cases h
    refine ⟨.ref Lf, rfl, by show 0 ≤ sizeLine; omega, fun q0 hq0 => ?_⟩
    have s4 := same_upd (o := .lst []) hq0
    have hq4 : upd H' q0 (.lst []) q0 = some (.lst []) := upd_same
    generalize upd H' q0 (.lst []) = H4 at s4 hq4 ⊢
    have sx4 := SameX.trans sx (Same.x s4)
    have hL4 := s4 _ _ hL3
    have hF4 := s4 _ _ hF3
    refine hD H4 Lf q0 ys _ sx4 hL4 (fun y hy => hperm.mem_iff.mp (List.mem_append_left _ hy)) hq4 ?_
    have hlen := hperm.length_eq
    rw [List.length_append] at hlen
    cases hys : ys with
    | nil =>
      rw [decide_eq_false (by simp)]
      refine ⟨false, rfl, iteF ?_⟩
      rw [hys] at hperm
      exact ⟨.ref F, rfl, q H4 F zs sx4 (hp3.keep s4) hFH hF4 (by simpa using hperm)⟩
    | cons y0 yr =>
      rw [decide_eq_true (by simp)]
      refine ⟨true, rfl, iteT ⟨_, fun _ _ h => h, ?_⟩⟩
      rw [← hys]
      have hpos : 0 < ys.length := by rw [hys]; simp
      refine ⟨.ref F, rfl, .inl ⟨rfl, _, lq hF4⟩, .ref Lf, rfl, .inl ⟨rfl, _, lq hL4⟩, .ref a, rfl, a, 60, rfl, by omega, by omega, hp3.keep s4, fun H5 d sx5 hp5 hd => ?_⟩
      have hL5 := sx5 _ _ aL hL4
      have hF5 := sx5 _ _ aF hF4
      have hk : d % ys.length < ys.length := Nat.mod_lt _ hpos
      have hx : ys[d % ys.length]? = some ys[d % ys.length] := List.getElem?_eq_getElem hk
      generalize hkk : d % ys.length = k at hk hx
      have hmod : (d : Int) % (ys.length : Nat) = (k : Nat) := by rw [← hkk]; exact (Int.natCast_emod d ys.length).symm
      refine ⟨.ref Lf, rfl, Lf, _, rfl, .inl (lq hL5), d, ys.length, rfl, rfl, by show (0 : Int) < ys.length; omega, ?_⟩
      refine ⟨Lf, ys, k, k, ys[k], rfl, congrArg (fun z => [V.int z]) hmod, hL5, by omega, by omega, by simp [seqIndex?]; omega, hx, ?_⟩
      have sx6 : SameX a H (upd H5 Lf (.lst (ys.eraseIdx k))) := SameX.new (SameX.trans sx4 sx5) hLf
      have hL6 : upd H5 Lf (.lst (ys.eraseIdx k)) Lf = some (.lst (ys.eraseIdx k)) := upd_same
      have hF6 : upd H5 Lf (.lst (ys.eraseIdx k)) F = some (.lst zs) := by rw [upd_ne (Ne.symm hLF)]; exact hF5
      have hp6 : PotV (upd H5 Lf (.lst (ys.eraseIdx k))) a := by
        obtain ⟨x, y, h1, h2, h3, h4⟩ := hp5
        exact ⟨x, y, h1, h2, h3, by rw [upd_ne (Ne.symm aL)]; exact h4⟩
      generalize upd H5 Lf (.lst (ys.eraseIdx k)) = H6 at sx6 hL6 hF6 hp6 ⊢
      refine ⟨F, zs, ys[k], rfl, rfl, hF6, small1000 (by omega), ?_⟩
      have hel : (ys.eraseIdx k).length + 1 = ys.length := by rw [List.length_eraseIdx_of_lt hk]; omega
      refine ⟨(ys.eraseIdx k).length, by omega, ys.eraseIdx k, zs ++ [ys[k]], rfl, rfl, SameX.new sx6 hFH, ?_, by rw [upd_ne hLF]; exact hL6, upd_same, ?_⟩
      · obtain ⟨x, y, h1, h2, h3, h4⟩ := hp6
        exact ⟨x, y, h1, h2, h3, by rw [upd_ne (Ne.symm aF)]; exact h4⟩
      · refine List.Perm.trans ?_ hperm
        have e := erase_perm hk
        refine List.Perm.trans ?_ (List.Perm.append_right zs e)
        have : (ys.eraseIdx k ++ (zs ++ [ys[k]])).Perm ([ys[k]] ++ (ys.eraseIdx k ++ zs)) := by
          rw [← List.append_assoc]; exact List.perm_append_comm
        exact this
theorem k_law_tie (A : At K mg "_law_tie" s_law_tie) (B : Bt mg) : Cal P w K mg base 1 "_law_tie" spTieOf [] := by
  refine mk A sc_law_tie (fun _ _ _ _ _ _ us hl => match us, hl with | [_, _], _ => rfl) (fun vs H Q E h => ?_) (fun f cdv A outer s H vs Q E hr h => ?_)
  · obtain ⟨a, b, rfl, _⟩ := h
    rfl
  · obtain ⟨a, b, rfl, q⟩ := h
    refine ⟨_, (pss_one (ps_ret (pe_tup (pa_cons (pe_callB (call_min2 rfl) (by rfl) B.min (by decide +kernel) (pa_cons (pv 0) (pa_cons (pv 1) pa_nil))) (pa_cons (pe_callB (call_max2 rfl) (by rfl) B.max (by decide +kernel) (pa_cons (pv 0) (pa_cons (pv 1) pa_nil))) pa_nil))))), ?_⟩
    refine ⟨.int a, rfl, .int b, rfl, a, b, rfl, .int a, rfl, .int b, rfl, a, b, rfl, (by show 2 ≤ sizeLine; decide), fun p hp => ?_⟩
    have e1 : (if (b : Int) < a then (b : Int) else a) = ((min a b : Nat) : Int) := by split <;> omega
    have e2 : (if (b : Int) > a then (b : Int) else a) = ((max a b : Nat) : Int) := by split <;> omega
    rw [e1, e2]
    exact q p hp
def spLawWeb : Sp := fun vs H Q _ => ∃ (n : Nat) (l : Addr) (xs : List V) (ps : List (Nat × Nat)), vs = [iv n, .ref l] ∧ H l = some (.lst xs) ∧ Paired (TieV H) xs ps ∧ ps.length ≤ 500 ∧
  ∀ H' v ts, Same H H' → WebV H' v n ts → ts.Pairwise ltT → (∀ t, t ∈ ts ↔ t ∈ ps) → Q v H'
theorem k_law_web (A : At K mg "_law_web" s_law_web) (B : Bt mg) : Cal P w K mg base 1 "_law_web" spLawWeb [] := by
  refine mk A sc_law_web (fun _ _ _ _ _ _ us hl => match us, hl with | [_, _], _ => rfl) (fun vs H Q E h => ?_) (fun f cdv A outer s H vs Q E hr h => ?_)
  · obtain ⟨n, l, xs, ps, rfl, _⟩ := h
    rfl
  · obtain ⟨n, l, xs, ps, rfl, hl, hps, hlen, q⟩ := h
    refine ⟨_, (pss_cons (ps_set (i := 2) sc_law_web.nd rfl (.inl rfl) (pe_lst pa_nil))
    (pss_cons (ps_for PassesOwn.never rfl (pi_list (pv 1)) (pg_name (i := 3) sc_law_web.nd rfl (.inl rfl))
      (pss_one (ps_if (pt_cmpR (op_notInD (u65 hr)) (pv 3) (pv 2) (by with_unfolding_all rfl))
        (pss_one (ps_expr (pe_bm PySem.F.plainAttrs_list PySem.F.slot_list_append PySem.F.type_list_append mt_append (pv 2) (pa_cons (pv 3) pa_nil))))
        pss_nil)))
    (pss_one (ps_ret (pe_tup (pa_cons pe_str (pa_cons (pv 0) (pa_cons (pe_callTy call_tuple_of (by rfl) B.tuple (by decide +kernel) (pa_cons (pe_callB cr_sortedPO (by rfl) B.sorted (by decide +kernel) (pa_cons (pv 2) pa_nil)) pa_nil)) pa_nil)))))))), ?_⟩
    refine ⟨by show 0 ≤ sizeLine; omega, fun F hF => ?_⟩
    have s1 := same_upd (o := .lst []) hF
    refine ⟨.ref l, rfl, l, rfl, ⟨_, lq (s1 _ _ hl)⟩, ?_⟩
    refine for_it (walk_list (K := K) (a := l) (xs := xs)) (fun i σ H' => (∃ x, σ = [some (iv n), some (.ref l), some (.ref F), x]) ∧ Same H H' ∧ ∃ ys us, H' F = some (.lst ys) ∧ Paired (TieV H') ys us ∧ us.Nodup ∧ us.length ≤ i ∧ ∀ t, t ∈ us ↔ t ∈ ps.take i)
      ⟨⟨none, rfl⟩, s1, [], [], upd_same, .nil, List.nodup_nil, Nat.le_refl 0, fun t => by simp⟩ (fun i σ H' _ h => lq (h.2.1 _ _ hl)) (fun i x σ H' H'' hi h hx => ?_) (fun σ H' h => ?_)
    · obtain ⟨⟨x0, rfl⟩, s2, ys, us, hF2, hus, hnd, hul, hm⟩ := h
      obtain ⟨rfl, hx⟩ := hx
      obtain ⟨t, ht, r⟩ := paired_get hps hx
      have r2 : TieV H'' x t := r.keep (Same.tups s2)
      have hlp : i < ps.length := (List.getElem?_eq_some_iff.mp ht).1
      have etake : ∀ z, z ∈ ps.take (i + 1) ↔ z ∈ ps.take i ∨ z = t := fun z => by
        rw [List.take_add_one, ht]; simp
      refine ⟨x, rfl, .ref F, rfl, ?_⟩
      refine notIn_tiesL r2 hF2 hus ?_
      by_cases h : t ∈ us
      · rw [decide_eq_true h]
        refine ⟨false, rfl, iteF ?_⟩
        exact ⟨⟨_, rfl⟩, s2, ys, us, hF2, hus, hnd, by omega, fun z => by
          rw [hm, etake]
          exact ⟨.inl, fun h' => h'.elim id fun e => by rw [e]; exact (hm t).mp h⟩⟩
      · rw [decide_eq_false h]
        refine ⟨true, rfl, iteT ?_⟩
        have hyl := paired_len hus
        refine ⟨.ref F, rfl, .inl ⟨rfl, _, lq hF2⟩, x, rfl, F, ys, x, rfl, rfl, hF2, small1000 (by omega), ?_⟩
        refine ⟨⟨_, rfl⟩, same_list hF s2, ys ++ [x], us ++ [t], upd_same, paired_snoc (paired_mono (fun _ _ r => r.keepL hF2) hus) (r2.keepL hF2), nd_snoc hnd h, by simp; omega, fun z => ?_⟩
        rw [etake, List.mem_append, hm]; simp
    · obtain ⟨⟨x0, rfl⟩, s2, ys, us, hF2, hus, hnd, hul, hm⟩ := h
      have e : ps.take xs.length = ps := by rw [paired_len hps, List.take_length]
      rw [e] at hm
      refine ⟨iv n, rfl, .ref F, rfl, F, _, kk H', rfl, lq hF2, fun x hx => ?_, fun zs l3 hs hst h3 => ?_⟩
      · obtain ⟨u, _, ⟨t, rfl, ht⟩⟩ := paired_mem hus hx
        refine ⟨t, rfl, ?_⟩
        rw [ht, kk_tie ⟨t, rfl, ht⟩]
      · obtain ⟨vs, P2, hperm, hlt⟩ := sorted_ties hus hnd hs hst.perm
        have s4 := same_upd (o := .lst zs) h3
        refine ⟨l3, zs, rfl, .inl ⟨lq upd_same, fun l4 h4 => ?_⟩⟩
        have s5 := same_upd (o := .tup zs) h4
        refine ⟨by show 3 ≤ sizeLine; decide, fun l5 h5 => ?_⟩
        have s6 := same_upd (o := .tup [.str "web", iv n, .ref l4]) h5
        refine q _ _ vs ?_ ⟨l5, l4, zs, rfl, upd_same, s6 _ _ upd_same, paired_mono (fun _ _ r => r.keep (Same.tups (Same.trans s4 (Same.trans s5 s6)))) P2⟩ hlt fun t => ?_
        · exact Same.trans s2 (Same.trans s4 (Same.trans s5 s6))
        · rw [hperm.mem_iff, hm]
def spLawRenamed : Sp := fun vs H Q _ => ∃ (v : V) (b : Addr) (n : Nat) (ts : List (Nat × Nat)) (g : List Nat), vs = [v, .ref b] ∧ WebV H v n ts ∧ H b = some (.lst (ivs g)) ∧ ts.length ≤ 400 ∧ (∀ t ∈ ts, t.1 < g.length ∧ t.2 < g.length) ∧
  ∀ H' v' us, Same H H' → WebV H' v' n us → us.Pairwise ltT → (∀ t, t ∈ us ↔ ∃ q ∈ ts, ∃ x y, g[q.1]? = some x ∧ g[q.2]? = some y ∧ t = mm (x, y)) → Q v' H'
theorem k_law_renamed (A : At K mg "_law_renamed" s_law_renamed) (B : Bt mg) (C_law_tie : Cal P w K mg base 1 "_law_tie" spTieOf []) (C_law_web : Cal P w K mg base 1 "_law_web" spLawWeb []) : Cal P w K mg base 2 "_law_renamed" spLawRenamed [] := by
  refine mk A sc_law_renamed (fun _ _ _ _ _ _ us hl => match us, hl with | [_, _], _ => rfl) (fun vs H Q E h => ?_) (fun f cdv A outer s H vs Q E hr h => ?_)
  · obtain ⟨v, b, n, ts, g, rfl, _⟩ := h
    rfl
  · obtain ⟨v, b, n, ts, g, rfl, ⟨wp, tp, vs, rfl, hp, ht, hts⟩, hb, htl, hlt, q⟩ := h
    refine ⟨_, (pss_one (ps_ret (pe_c C_law_web hr (by decide) (by rfl) (pa_cons (pe_ix ix_tup (pv 0) pe_int (fun _ _ => rfl)) (pa_cons (pe_lc (own := [("_law_one", 2), ("_law_other", 3)]) (g := (gTup K 2 (gCons (gName 2) (gCons (gName 3) gNil)))) rfl sc_law_renamed.nd (pi_tup (pe_ix ix_tup (pv 0) pe_int (fun _ _ => rfl))) (blkOk_by (N := ["_law_web_here", "_law_names", "_law_one", "_law_other"]) (sc := defScope s_law_renamed) (by decide +kernel)) (fun _ _ _ _ _ => (pg_tup rfl (pgs_cons (pg_name (i := 2) sc_law_renamed.nd rfl (.inl rfl) (.inr rfl)) (pgs_cons (pg_name (i := 3) sc_law_renamed.nd rfl (.inl rfl) (.inr rfl)) pgs_nil)))) (fun _ _ _ _ _ => pts_nil) (fun _ _ _ _ _ => (pe_c C_law_tie hr (by decide) (by rfl) (pa_cons (pe_ix (r := rIxL K) ix_list (pv 1) (pv 2) (fun _ _ => rfl)) (pa_cons (pe_ix (r := rIxL K) ix_list (pv 1) (pv 3) (fun _ _ => rfl)) pa_nil))))) pa_nil))))), ?_⟩
    have hvl := paired_len hts
    refine ⟨.ref wp, rfl, wp, _, 1, iv n, rfl, rfl, tq hp, atI_nat (j := 1) rfl, .ref wp, rfl, wp, _, 2, .ref tp, rfl, rfl, tq hp, atI_nat (j := 2) rfl, tp, rfl, ⟨_, tq ht⟩, fun D hD => ?_⟩
    refine lc0 (walk_tup (K := K) (a := tp) (xs := vs)) (fun i H' => Same H H' ∧ ∃ xs ps, H' D = some (.lst xs) ∧ Paired (TieV H') xs ps ∧ ps.length = i ∧ ∀ t, t ∈ ps ↔ ∃ q ∈ ts.take i, ∃ x y, g[q.1]? = some x ∧ g[q.2]? = some y ∧ t = mm (x, y))
      ⟨same_upd hD, [], [], upd_same, .nil, rfl, by simp⟩ (fun i H' _ h => tq (h.1 _ _ ht)) (fun i x H' H'' hi h hx => ?_) (fun H' h => ?_)
    · obtain ⟨s1, xs, ps, hxs, hps, hpl, hm⟩ := h
      obtain ⟨rfl, hx⟩ := hx
      obtain ⟨t, ht', r⟩ := paired_get hts hx
      obtain ⟨pp, rfl, hpp⟩ := r.keep (Same.tups s1)
      obtain ⟨l1, l2⟩ := hlt t (List.mem_of_getElem? ht')
      have hil := (List.getElem?_eq_some_iff.mp ht').1
      have g1 : g[t.1]? = some g[t.1] := List.getElem?_eq_getElem l1
      have g2 : g[t.2]? = some g[t.2] := List.getElem?_eq_getElem l2
      generalize g[t.1] = y1 at g1
      generalize g[t.2] = y2 at g2
      have k1 : (ivs g)[t.1]? = some (iv y1) := by simp [ivs, g1]
      have k2 : (ivs g)[t.2]? = some (iv y2) := by simp [ivs, g2]
      have hb1 := s1 _ _ hb
      refine ⟨pp, _, rfl, tq hpp, rfl, iv t.1, _, rfl, iv t.2, [], rfl, rfl, rfl, ?_⟩
      refine ⟨.ref b, rfl, iv t.1, rfl, b, _, t.1, iv y1, rfl, rfl, lq hb1, atI_nat k1, .ref b, rfl, iv t.2, rfl, b, _, t.2, iv y2, rfl, rfl, lq hb1, atI_nat k2, y1, y2, rfl, fun z hz => ?_⟩
      have s2 := same_upd (o := .tup [.int (min y1 y2 : Nat), .int (max y1 y2 : Nat)]) hz
      have hz2 : TieV (upd H'' z (.tup [.int (min y1 y2 : Nat), .int (max y1 y2 : Nat)])) (.ref z) (mm (y1, y2)) := ⟨z, rfl, upd_same⟩
      generalize upd H'' z (.tup [.int (min y1 y2 : Nat), .int (max y1 y2 : Nat)]) = H2 at s2 hz2 ⊢
      have hxl := paired_len hps
      refine ⟨xs, s2 _ _ hxs, small1000 (by omega), same_list hD (Same.trans s1 s2), xs ++ [.ref z], ps ++ [mm (y1, y2)], upd_same, paired_snoc (paired_mono (fun _ _ r => (r.keep (Same.tups s2)).keepL (s2 _ _ hxs)) hps) (hz2.keepL (s2 _ _ hxs)), by simp [hpl], fun u => ?_⟩
      rw [List.mem_append, hm, List.take_add_one, ht']
      simp only [Option.toList, List.mem_append, List.mem_singleton]
      constructor
      · rintro (⟨q, h1, h2⟩ | h)
        · exact ⟨q, .inl h1, h2⟩
        · exact ⟨t, .inr rfl, y1, y2, g1, g2, h⟩
      · rintro ⟨q, h1 | h1, x', y', h2, h3, h4⟩
        · exact .inl ⟨q, h1, x', y', h2, h3, h4⟩
        · rw [h1] at h2 h3
          rw [g1] at h2
          rw [g2] at h3
          cases h2
          cases h3
          exact .inr h4
    · obtain ⟨s1, xs, ps, hxs, hps, hpl, hm⟩ := h
      rw [hvl, List.take_length] at hm
      exact ⟨n, D, xs, ps, rfl, hxs, hps, by omega, fun H2 v' us s2 hw hs hu => q H2 v' us (Same.trans s1 s2) hw hs fun t => (hu t).trans (hm t)⟩
end
end Wp
set_option maxHeartbeats 4000000
namespace Wp
open Wb
open PySem PySem.Spec PyProof.Rows L2
/-! the law's rings of three -/
def tl (t : Tri) : List Nat := [t.1, t.2.1, t.2.2]
def TriV (H : Hp) (v : V) (t : Tri) : Prop := ∃ p, v = .ref p ∧ H p = some (.tup (ivs (tl t)))
theorem TriV.keep {H H' : Hp} {v : V} {t : Tri} (h : TriV H v t) (g : Same H H') : TriV H' v t := by
  obtain ⟨p, e, h⟩ := h
  exact ⟨p, e, g _ _ h⟩
theorem TriV.keepP {H H' : Hp} {a : Addr} {v : V} {t : Tri} (h : TriV H v t) (hp : PotV H a) (g : SameX a H H') : TriV H' v t := by
  obtain ⟨p, e, h⟩ := h
  obtain ⟨_, _, _, _, _, ha⟩ := hp
  exact ⟨p, e, g _ _ (fun z => by rw [z, ha] at h; cases h) h⟩
theorem TriV.keepL {H : Hp} {D : Addr} {v : V} {t : Tri} {xs : List V} {o : HO} (h : TriV H v t) (hd : H D = some (.lst xs)) : TriV (upd H D o) v t := by
  obtain ⟨p, e, h⟩ := h
  exact ⟨p, e, by rw [upd_ne (fun z => by rw [z, hd] at h; cases h)]; exact h⟩
theorem paired_erase {α β : Type} {R : α → β → Prop} {xs : List α} {ys : List β} (k : Nat) (h : Paired R xs ys) : Paired R (xs.eraseIdx k) (ys.eraseIdx k) := by
  rw [List.eraseIdx_eq_take_drop_succ, List.eraseIdx_eq_take_drop_succ]
  exact paired_app (paired_take k h) (paired_drop (k + 1) h)
def triD (t : Tri) : PyData := .tuple ((tl t).map fun (k : Nat) => .int (k : Int))
theorem tris_dp {K : PySem.W.Frag} {H : Hp} : ∀ {vs : List V} {L : List Tri}, Paired (TriV H) vs L → DpAll K H vs (L.map triD)
  | _, _, .nil => .nil
  | _, _, .cons ⟨p, e, h⟩ g => .cons (by rw [e]; exact .tup (tq h) (ivs_dp _)) (tris_dp g)
theorem triD_lay : ∀ L : List Tri, PyData.canLayAll0 (L.map triD) = true
  | [] => rfl
  | t :: L => by
    have : PyData.canLayAll0 ((t :: L).map triD) = (PyData.canLay0 (triD t) && PyData.canLayAll0 (L.map triD)) := rfl
    rw [this, triD_lay L]
    rfl
theorem triD_dep : ∀ L : List Tri, PyData.depthAll (L.map triD) ≤ 1
  | [] => Nat.zero_le _
  | t :: L => by
    have : PyData.depthAll ((t :: L).map triD) = max 1 (PyData.depthAll (L.map triD)) := rfl
    rw [this]
    have := triD_dep L
    omega
theorem eq_nil_tris {K : PySem.W.Frag} {H : Hp} {a p : Addr} {vs : List V} {L : List Tri} {Q : VK} (ha : H a = some (.lst vs)) (hs : Paired (TriV H) vs L) (hp : H p = some (.lst [])) (q : Q (.bl (decide (L = []))) H) : rEqD K (.ref a) (.ref p) H Q := by
  refine ⟨_, .list [], .lst (lq ha) (tris_dp hs), .lst (lq hp) .nil, ?_, rfl, ?_⟩
  · have h1 := triD_lay L
    have h2 := triD_dep L
    have : SeqAt.shaped (.list (L.map triD)) = (PyData.canLayAll0 (L.map triD) && decide (PyData.depthAll (L.map triD) + 1 ≤ 64)) := rfl
    rw [this, h1, decide_eq_true (by omega)]; rfl
  · have e : PyData.eqv (.list (L.map triD)) (.list []) = decide (L = []) := by
      cases L with
      | nil => rfl
      | cons x l => rfl
    rw [e]; exact q
theorem td_mem {t : Tri} {u v : Nat} (h : td t u v = true) : u ∈ tl t ∧ v ∈ tl t := by
  obtain ⟨a, b, c⟩ := t
  rcases td_iff.mp h with ⟨rfl, rfl⟩ | ⟨rfl, rfl⟩ | ⟨rfl, rfl⟩ <;> simp [tl]
theorem td_of {t : Tri} {u v : Nat} (hu : u ∈ tl t) (hv : v ∈ tl t) (huv : u ≠ v) : td t u v = true ∨ td t v u = true := by
  obtain ⟨a, b, c⟩ := t
  simp only [tl, List.mem_cons, List.not_mem_nil, or_false] at hu hv
  rw [td_iff, td_iff]
  rcases hu with rfl | rfl | rfl <;> rcases hv with rfl | rfl | rfl <;> simp_all
section
variable {n : Nat} {B : E2} {L : List Tri} {a b c : Nat}
/-- the other ring at a tie -/
theorem far_ring (M : MInv n B L) (ht : (a, b, c) ∈ L) {s : Tri} (hs : s ∈ L) (ha : a ∈ tl s) (hb : b ∈ tl s) (hc : c ∉ tl s) :
    ∃ d, (tl s).filter (fun x => !decide (x ∈ [a, b])) = [d] ∧ (∀ u v, td s u v = td (b, a, d) u v) ∧ d ∈ tl s ∧ d ≠ a ∧ d ≠ b ∧ d ≠ c ∧ d < n ∧ 4 ≤ n ∧ ∀ r ∈ L, (a ∈ tl r ∧ b ∈ tl r) ↔ r = (a, b, c) ∨ r = s := by
  obtain ⟨ab, bc, ca⟩ := M.nd a b c ht
  obtain ⟨la, lb, lc⟩ := M.lt a b c ht
  have tab : td (a, b, c) a b = true := td_iff.mpr (.inl ⟨rfl, rfl⟩)
  have hba : td s b a = true := by
    rcases td_of ha hb ab with h | h
    · have := M.uniq s (a, b, c) a b hs ht h tab
      rw [this] at hc
      exact absurd (by simp [tl]) hc
    · exact h
  have two : ∀ r ∈ L, (a ∈ tl r ∧ b ∈ tl r) ↔ r = (a, b, c) ∨ r = s := fun r hr => by
    constructor
    · rintro ⟨h1, h2⟩
      rcases td_of h1 h2 ab with h | h
      · exact .inl (M.uniq r (a, b, c) a b hr ht h tab)
      · exact .inr (M.uniq r s b a hr hs h hba)
    · rintro (rfl | rfl)
      · simp [tl]
      · exact ⟨ha, hb⟩
  have fin : ∀ d, d ≠ a → d ≠ b → d ∈ tl s → d < n → (∀ u v, td s u v = td (b, a, d) u v) → (tl s).filter (fun x => !decide (x ∈ [a, b])) = [d] →
      ∃ d, (tl s).filter (fun x => !decide (x ∈ [a, b])) = [d] ∧ (∀ u v, td s u v = td (b, a, d) u v) ∧ d ∈ tl s ∧ d ≠ a ∧ d ≠ b ∧ d ≠ c ∧ d < n ∧ 4 ≤ n ∧ ∀ r ∈ L, (a ∈ tl r ∧ b ∈ tl r) ↔ r = (a, b, c) ∨ r = s := fun d h1 h2 h3 h4 h5 h6 => by
    have h7 : d ≠ c := fun e => hc (e ▸ h3)
    have h8 : 4 ≤ n := by
      have := length_of (ks := [a, b, c, d]) (n := n) (by simp; omega) (by
        intro x hx
        simp at hx
        rcases hx with rfl | rfl | rfl | rfl <;> assumption)
      simpa using this
    exact ⟨d, h6, h5, h3, h1, h2, h7, h4, h8, two⟩
  obtain ⟨x, y, z⟩ := s
  obtain ⟨xy, yz, zx⟩ := M.nd x y z hs
  obtain ⟨lx, ly, lz⟩ := M.lt x y z hs
  rcases td_iff.mp hba with ⟨rfl, rfl⟩ | ⟨rfl, rfl⟩ | ⟨rfl, rfl⟩
  · refine fin z (Ne.symm yz) zx (by simp [tl]) lz (fun u v => rfl) ?_
    simp [tl, List.filter, zx, Ne.symm yz]
  · refine fin x zx.symm xy (by simp [tl]) lx (fun u v => ?_) ?_
    · rw [Bool.eq_iff_iff, td_iff, td_iff]; omega
    · simp [tl, List.filter, xy, Ne.symm zx]
  · refine fin y (Ne.symm xy) yz (by simp [tl]) ly (fun u v => ?_) ?_
    · rw [Bool.eq_iff_iff, td_iff, td_iff]; omega
    · simp [tl, List.filter, yz, Ne.symm xy]
theorem exch_list (M : MInv n B L) {s : Tri} (two : ∀ r ∈ L, (a ∈ tl r ∧ b ∈ tl r) ↔ r = (a, b, c) ∨ r = s) : L.filter (fun r => !(decide (a ∈ tl r) && decide (b ∈ tl r))) = L.filter (fun r => decide (r ≠ (a, b, c) ∧ r ≠ s)) := by
  refine List.filter_congr fun r hr => ?_
  rw [Bool.eq_iff_iff]
  have := two r hr
  simp only [Bool.not_eq_true', Bool.and_eq_false_iff, decide_eq_false_iff_not, decide_eq_true_eq, ne_eq]
  constructor
  · intro h
    refine ⟨fun e => ?_, fun e => ?_⟩
    · have := this.mpr (.inl e); exact h.elim (fun h => h this.1) fun h => h this.2
    · have := this.mpr (.inr e); exact h.elim (fun h => h this.1) fun h => h this.2
  · rintro ⟨h1, h2⟩
    by_cases h : a ∈ tl r
    · exact .inr fun h' => (this.mp ⟨h, h'⟩).elim h1 h2
    · exact .inl h
end
end Wp
set_option maxHeartbeats 4000000
namespace Wp
open Wb
open PySem PySem.Spec PyProof.Rows L2
open C8 (Cal pe_c pe_gc)
theorem PotV.upd {H : Hp} {a l : Addr} {o : HO} (h : PotV H a) (hl : l ≠ a) : PotV (upd H l o) a := by
  obtain ⟨x, y, h1, h2, h3, h4⟩ := h
  exact ⟨x, y, h1, h2, h3, by rw [upd_ne (Ne.symm hl)]; exact h4⟩
theorem PotV.ne {H : Hp} {a l : Addr} (h : PotV H a) (hl : H l = none) : l ≠ a := fun e => by
  obtain ⟨_, _, _, _, _, h⟩ := h
  rw [← e, hl] at h; cases h
section
variable {P : Program} {w : World} {K : PySem.W.Frag} {mg : Str → Option Value} {base : Heap}
def spLawGrown : Sp := fun vs H Q _ => ∃ (a : Addr) (n : Nat), vs = [.ref a, iv n] ∧ 3 ≤ n ∧ n ≤ 20 ∧ PotV H a ∧
  ∀ H' l xs L B, SameX a H H' → PotV H' a → l ≠ a → H' l = some (.lst xs) → Paired (TriV H') xs L → MInv n B L → MC n B → L.length + 4 = 2 * n → Q (.ref l) H'
theorem k_law_grown (A : At K mg "_law_grown" s_law_grown) (B : Bt mg) (C_law_draw : Cal P w K mg base 1 "_law_draw" spLawDraw []) : Cal P w K mg base 2 "_law_grown" spLawGrown [] := by
  refine mk A sc_law_grown (fun _ _ _ _ _ _ us hl => match us, hl with | [_, _], _ => rfl) (fun vs H Q E h => ?_) (fun f cdv A outer s H vs Q E hr h => ?_)
  · obtain ⟨a, n, rfl, _⟩ := h
    rfl
  · obtain ⟨a, n, rfl, hn3, hn7, hp, q⟩ := h
    refine ⟨_, (pss_cons (ps_set (i := 2) sc_law_grown.nd rfl (.inl rfl) (pe_lst (pa_cons (pe_tup (pa_cons pe_int (pa_cons pe_int (pa_cons pe_int pa_nil)))) (pa_cons (pe_tup (pa_cons pe_int (pa_cons pe_int (pa_cons pe_int pa_nil)))) pa_nil))))
    (pss_cons (ps_for PassesOwn.never rfl (pi_range2 (by rfl) B.range (pa_cons pe_int (pa_cons (pv 1) pa_nil))) (pg_name (i := 3) sc_law_grown.nd rfl (.inl rfl))
      (pss_cons (ps_asg (pe_bm PySem.F.plainAttrs_list PySem.F.slot_list_pop PySem.F.type_list_pop mt_popAt (pv 2) (pa_cons (pe_op op_mod (pe_c C_law_draw hr (by decide) (by rfl) (pa_cons (pv 0) (pa_cons pe_int pa_nil))) (pe_callB call_len_seq (by rfl) B.len (by decide +kernel) (pa_cons (pv 2) pa_nil))) pa_nil)) (pg_tup rfl (pgs_cons (pg_name (i := 4) sc_law_grown.nd rfl (.inl rfl)) (pgs_cons (pg_name (i := 5) sc_law_grown.nd rfl (.inl rfl)) (pgs_cons (pg_name (i := 6) sc_law_grown.nd rfl (.inl rfl)) pgs_nil)))))
      (pss_one (ps_set (i := 2) sc_law_grown.nd rfl (.inl rfl) (pe_op op_cat (pv 2) (pe_lst (pa_cons (pe_tup (pa_cons (pv 4) (pa_cons (pv 5) (pa_cons (pv 3) pa_nil)))) (pa_cons (pe_tup (pa_cons (pv 5) (pa_cons (pv 6) (pa_cons (pv 3) pa_nil)))) (pa_cons (pe_tup (pa_cons (pv 6) (pa_cons (pv 4) (pa_cons (pv 3) pa_nil)))) pa_nil)))))))))
    (pss_one (ps_ret (pv 2))))), ?_⟩
    refine ⟨by show 3 ≤ sizeLine; decide, fun t1 ht1 => ?_⟩
    have s1 := same_upd (o := .tup [.int 0, .int 1, .int 2]) ht1
    have e1 : TriV (upd H t1 (.tup [.int 0, .int 1, .int 2])) (.ref t1) (0, 1, 2) := ⟨t1, rfl, upd_same⟩
    generalize upd H t1 (.tup [.int 0, .int 1, .int 2]) = H1 at s1 e1 ⊢
    refine ⟨by show 3 ≤ sizeLine; decide, fun t2 ht2 => ?_⟩
    have s2 := same_upd (o := .tup [.int 0, .int 2, .int 1]) ht2
    have e2 : TriV (upd H1 t2 (.tup [.int 0, .int 2, .int 1])) (.ref t2) (0, 2, 1) := ⟨t2, rfl, upd_same⟩
    generalize upd H1 t2 (.tup [.int 0, .int 2, .int 1]) = H2 at s2 e2 ⊢
    refine ⟨by show 2 ≤ sizeLine; decide, fun l0 hl0 => ?_⟩
    have s3 := same_upd (o := .lst [.ref t1, .ref t2]) hl0
    have e3 : upd H2 l0 (.lst [.ref t1, .ref t2]) l0 = some (.lst [.ref t1, .ref t2]) := upd_same
    have s13 := Same.trans s1 (Same.trans s2 s3)
    have hl0H : H l0 = none := none_of_same (Same.trans s1 s2) hl0
    have e4 : Paired (TriV (upd H2 l0 (.lst [.ref t1, .ref t2]))) [.ref t1, .ref t2] [(0, 1, 2), (0, 2, 1)] := .cons (e1.keep (Same.trans s2 s3)) (.cons (e2.keep s3) .nil)
    generalize upd H2 l0 (.lst [.ref t1, .ref t2]) = H3 at s3 e3 e4 s13 ⊢
    refine ⟨iv n, rfl, 3, n, rfl, ⟨by omega, by omega, by omega, by omega⟩, ?_⟩
    refine for_it walk_range (fun i σ H' => ∃ l x3 x4 x5 x6 xs L B, σ = [some (.ref a), some (iv n), some (.ref l), x3, x4, x5, x6] ∧ SameX a H H' ∧ PotV H' a ∧ H l = none ∧ H' l = some (.lst xs) ∧ Paired (TriV H') xs L ∧ MInv (3 + i) B L ∧ MC (3 + i) B ∧ L.length = 2 + 2 * i)
      ⟨l0, _, _, _, _, _, _, B3, rfl, Same.x s13, hp.keep s13, hl0H, e3, e4, MInv.three.1, MInv.three.2, rfl⟩ (fun i σ H' _ h => trivial) (fun i x σ H' H'' hi h hx => ?_) (fun σ H' h => ?_)
    · obtain ⟨l, x3, x4, x5, x6, xs, L, Bg, rfl, sx, hp', hlH, hl', hxs, M, C, hLl⟩ := h
      obtain ⟨rfl, hxe⟩ := hx
      have hxe : x = iv (3 + i) := by rw [hxe]; exact congrArg V.int (by omega)
      subst hxe
      have hi' : i < n - 3 := by omega
      have hla := hp.ne hlH
      have hxl := paired_len hxs
      have hpos : 0 < xs.length := by omega
      refine ⟨.ref l, rfl, .inl ⟨rfl, _, lq hl'⟩, .ref a, rfl, a, 60, rfl, by omega, by omega, hp', fun H5 d sx5 hp5 hd => ?_⟩
      have hl5 := sx5 _ _ hla hl'
      have hxs5 : Paired (TriV H5) xs L := paired_mono (fun _ _ r => r.keepP hp' sx5) hxs
      have hk : d % xs.length < xs.length := Nat.mod_lt _ hpos
      have hx : xs[d % xs.length]? = some xs[d % xs.length] := List.getElem?_eq_getElem hk
      generalize hkk : d % xs.length = k at hk hx
      have hmod : (d : Int) % (xs.length : Nat) = (k : Nat) := by rw [← hkk]; exact (Int.natCast_emod d xs.length).symm
      obtain ⟨t, ht, p, ep, hpt⟩ := paired_get hxs5 hx
      refine ⟨.ref l, rfl, l, _, rfl, .inl (lq hl5), d, xs.length, rfl, rfl, by show (0 : Int) < xs.length; omega, ?_⟩
      refine ⟨l, xs, k, k, xs[k], rfl, congrArg (fun z => [V.int z]) hmod, hl5, by omega, by omega, by simp [seqIndex?]; omega, hx, ?_⟩
      rw [ep]
      obtain ⟨o1, o2, o3⟩ := t
      have sx6 : SameX a H (upd H5 l (.lst (xs.eraseIdx k))) := SameX.new (SameX.trans sx sx5) hlH
      have hl6 : upd H5 l (.lst (xs.eraseIdx k)) l = some (.lst (xs.eraseIdx k)) := upd_same
      have hp6 : PotV (upd H5 l (.lst (xs.eraseIdx k))) a := hp5.upd hla
      have hpt6 : upd H5 l (.lst (xs.eraseIdx k)) p = some (.tup [iv o1, iv o2, iv o3]) := by rw [upd_ne (fun z => by rw [z, hl5] at hpt; cases hpt)]; exact hpt
      have hxs6 : Paired (TriV (upd H5 l (.lst (xs.eraseIdx k)))) (xs.eraseIdx k) (L.eraseIdx k) := paired_erase k (paired_mono (fun _ _ r => r.keepL hl5) hxs5)
      generalize upd H5 l (.lst (xs.eraseIdx k)) = H6 at sx6 hl6 hp6 hpt6 hxs6 ⊢
      refine ⟨p, _, rfl, tq hpt6, rfl, iv o1, _, rfl, iv o2, _, rfl, iv o3, [], rfl, rfl, ?_⟩
      refine ⟨.ref l, rfl, iv o1, rfl, iv o2, rfl, iv (3 + i), rfl, by show 3 ≤ sizeLine; decide, fun z1 hz1 => ?_⟩
      have r1 := same_upd (o := .tup [iv o1, iv o2, iv (3 + i)]) hz1
      have d1 : TriV (upd H6 z1 (.tup [iv o1, iv o2, iv (3 + i)])) (.ref z1) (o1, o2, 3 + i) := ⟨z1, rfl, upd_same⟩
      generalize upd H6 z1 (.tup [iv o1, iv o2, iv (3 + i)]) = H7 at r1 d1 ⊢
      refine ⟨iv o2, rfl, iv o3, rfl, iv (3 + i), rfl, by show 3 ≤ sizeLine; decide, fun z2 hz2 => ?_⟩
      have r2 := same_upd (o := .tup [iv o2, iv o3, iv (3 + i)]) hz2
      have d2 : TriV (upd H7 z2 (.tup [iv o2, iv o3, iv (3 + i)])) (.ref z2) (o2, o3, 3 + i) := ⟨z2, rfl, upd_same⟩
      generalize upd H7 z2 (.tup [iv o2, iv o3, iv (3 + i)]) = H8 at r2 d2 ⊢
      refine ⟨iv o3, rfl, iv o1, rfl, iv (3 + i), rfl, by show 3 ≤ sizeLine; decide, fun z3 hz3 => ?_⟩
      have r3 := same_upd (o := .tup [iv o3, iv o1, iv (3 + i)]) hz3
      have d3 : TriV (upd H8 z3 (.tup [iv o3, iv o1, iv (3 + i)])) (.ref z3) (o3, o1, 3 + i) := ⟨z3, rfl, upd_same⟩
      generalize upd H8 z3 (.tup [iv o3, iv o1, iv (3 + i)]) = H9 at r3 d3 ⊢
      refine ⟨by show 3 ≤ sizeLine; decide, fun z4 hz4 => ?_⟩
      have r4 := same_upd (o := .lst [.ref z1, .ref z2, .ref z3]) hz4
      have d4 : upd H9 z4 (.lst [.ref z1, .ref z2, .ref z3]) z4 = some (.lst [.ref z1, .ref z2, .ref z3]) := upd_same
      have r14 := Same.trans r1 (Same.trans r2 (Same.trans r3 r4))
      have d123 : Paired (TriV (upd H9 z4 (.lst [.ref z1, .ref z2, .ref z3]))) [.ref z1, .ref z2, .ref z3] [(o1, o2, 3 + i), (o2, o3, 3 + i), (o3, o1, 3 + i)] := .cons (d1.keep (Same.trans r2 (Same.trans r3 r4))) (.cons (d2.keep (Same.trans r3 r4)) (.cons (d3.keep r4) .nil))
      generalize upd H9 z4 (.lst [.ref z1, .ref z2, .ref z3]) = H10 at r4 d4 r14 d123 ⊢
      have hel : (xs.eraseIdx k).length + 1 = xs.length := by rw [List.length_eraseIdx_of_lt hk]; omega
      refine ⟨l, z4, _, _, rfl, rfl, r14 _ _ hl6, d4, by rw [sizeLine_eq]; simp; omega, fun z5 hz5 => ?_⟩
      have r5 := same_upd (o := .lst (xs.eraseIdx k ++ [.ref z1, .ref z2, .ref z3])) hz5
      have hkL : k < L.length := by omega
      have eL : L = L.take k ++ (o1, o2, o3) :: L.drop (k + 1) := by
        have : L[k] = (o1, o2, o3) := by
          rw [List.getElem?_eq_getElem hkL] at ht
          exact Option.some.inj ht
        rw [← this, ← List.drop_eq_getElem_cons hkL, List.take_append_drop]
      have M2 : MInv (3 + i) Bg (L.take k ++ (o1, o2, o3) :: L.drop (k + 1)) := by rw [← eL]; exact M
      have hm : (o1, o2, o3) ∈ L.take k ++ (o1, o2, o3) :: L.drop (k + 1) := by simp
      obtain ⟨n1, n2, n3⟩ := M2.nd o1 o2 o3 hm
      obtain ⟨l1, l2, l3⟩ := M2.lt o1 o2 o3 hm
      have MG := M2.grow
      have CG := MC.grow M.gr C (by omega) n1 n2 n3 l1 l2 l3
      have eA : 3 + (i + 1) = 3 + i + 1 := by omega
      refine ⟨z5, _, _, _, _, _, L.take k ++ L.drop (k + 1) ++ [(o1, o2, 3 + i), (o2, o3, 3 + i), (o3, o1, 3 + i)], _, rfl, SameX.trans sx6 (Same.x (Same.trans r14 r5)), hp6.keep (Same.trans r14 r5), ?_, upd_same, ?_, by rw [eA]; exact MG, by rw [eA]; exact CG, ?_⟩
      · cases e : H z5 with
        | none => rfl
        | some o =>
          by_cases hza : z5 = a
          · obtain ⟨_, _, _, _, _, h⟩ := (hp6.keep r14)
            rw [← hza, hz5] at h; cases h
          · have := r14 _ _ (sx6 _ _ hza e)
            rw [hz5] at this; cases this
      · rw [← List.eraseIdx_eq_take_drop_succ]
        exact paired_app (paired_mono (fun _ _ r => r.keep (Same.trans r14 r5)) hxs6) (paired_mono (fun _ _ r => r.keep r5) d123)
      · simp only [List.length_append, List.length_take, List.length_drop, List.length_cons, List.length_nil]
        omega
    · obtain ⟨l, x3, x4, x5, x6, xs, L, Bg, rfl, sx, hp', hlH, hl', hxs, M, C, hLl⟩ := h
      have e : 3 + ((n : Int) - 3).toNat = n := by omega
      rw [e] at M C
      exact ⟨.ref l, rfl, q H' l xs L Bg sx hp' (hp.ne hlH) hl' hxs M C (by omega)⟩
end
end Wp
set_option maxHeartbeats 4000000
namespace Wp
open Wb
open PySem PySem.Spec PyProof.Rows L2
open C8 (Cal pe_c pe_gc)
section
variable {P : Program} {w : World} {K : PySem.W.Frag} {mg : Str → Option Value} {base : Heap}
def spLawExchanged : Sp := fun vs H Q _ => ∃ (a l : Addr) (n : Nat) (xs : List V) (L : List Tri) (B : E2), vs = [.ref a, .ref l] ∧ PotV H a ∧ l ≠ a ∧ H l = some (.lst xs) ∧ Paired (TriV H) xs L ∧ MInv n B L ∧ MC n B ∧ 0 < L.length ∧ L.length ≤ 100 ∧
  ∀ H' l' xs' L' B', SameX a H H' → PotV H' a → l' ≠ a → H' l' = some (.lst xs') → Paired (TriV H') xs' L' → MInv n B' L' → MC n B' → 0 < L'.length → L'.length ≤ L.length + 2 → Q (.ref l') H'
theorem k_law_exchanged (A : At K mg "_law_exchanged" s_law_exchanged) (B : Bt mg) (C_law_draw : Cal P w K mg base 1 "_law_draw" spLawDraw []) : Cal P w K mg base 2 "_law_exchanged" spLawExchanged [] := by
  refine mk A sc_law_exchanged (fun _ _ _ _ _ _ us hl => match us, hl with | [_, _], _ => rfl) (fun vs H Q E h => ?_) (fun f cdv A outer s H vs Q E hr h => ?_)
  · obtain ⟨a, l, n, xs, L, Bg, rfl, _⟩ := h
    rfl
  · obtain ⟨a, l, n, xs, L, Bg, rfl, hp, hla, hl, hxs, M, C, hL0, hLl, q⟩ := h
    refine ⟨_, (pss_cons (ps_asg (pe_ix ix_list (pv 1) (pe_op op_mod (pe_c C_law_draw hr (by decide) (by rfl) (pa_cons (pv 0) (pa_cons pe_int pa_nil))) (pe_callB call_len_seq (by rfl) B.len (by decide +kernel) (pa_cons (pv 1) pa_nil))) (fun _ _ => rfl)) (pg_tup rfl (pgs_cons (pg_name (i := 2) sc_law_exchanged.nd rfl (.inr rfl)) (pgs_cons (pg_name (i := 3) sc_law_exchanged.nd rfl (.inr rfl)) (pgs_cons (pg_name (i := 4) sc_law_exchanged.nd rfl (.inr rfl)) pgs_nil)))))
    (pss_cons (ps_setLc (i := 5) (own := [("_law_ring", 8)]) rfl sc_law_exchanged.nd rfl rfl (sw_true rfl rfl rfl (by decide +kernel)) (pi_list (pv 1)) (blkOk_by (N := ["_law_pot_here", "_law_rings", "_law_one", "_law_other", "_law_third", "_law_far", "_law_last", "_law_left", "_law_ring", "_law_corner"]) (sc := defScope s_law_exchanged) (by decide +kernel)) (fun _ _ _ _ _ => (pg_name (i := 8) sc_law_exchanged.nd rfl (.inl rfl) (.inr rfl))) (fun _ _ _ _ _ => (pts_one (PW.pt (pw_and (pt_cmpR (r := rIn K false) op_in_seq (pv 2) (pv 8) (by with_unfolding_all rfl)) (pw_and (pt_cmpR (r := rIn K false) op_in_seq (pv 3) (pv 8) (by with_unfolding_all rfl)) (pw_and1 (pt_cmpR (r := rIn K true) op_notIn_seq (pv 4) (pv 8) (by with_unfolding_all rfl)))))))) (fun _ _ _ _ _ => (pv 8)))
    (pss_cons (ps_if (pt_cmpR (op_eqD hr.units) (pv 5) (pe_lst pa_nil) (nomark _))
      (pss_one (ps_ret (pv 1)))
      pss_nil)
    (pss_cons (ps_set (i := 6) sc_law_exchanged.nd rfl (.inr rfl) (pe_ix ix_list (pe_lc (own := [("_law_corner", 9)]) rfl sc_law_exchanged.nd (pi_tup (pe_ix ix_list (pv 5) pe_int (fun _ _ => rfl))) (blkOk_by (N := ["_law_pot_here", "_law_rings", "_law_one", "_law_other", "_law_third", "_law_far", "_law_last", "_law_left", "_law_ring", "_law_corner"]) (sc := defScope s_law_exchanged) (by decide +kernel)) (fun _ _ _ _ _ => (pg_name (i := 9) sc_law_exchanged.nd rfl (.inl rfl) (.inr rfl))) (fun _ _ _ _ _ => (pts_one (pt_cmpR (r := rIn K true) op_notIn_seq (pv 9) (pe_tup (pa_cons (pv 2) (pa_cons (pv 3) pa_nil))) (by with_unfolding_all rfl)))) (fun _ _ _ _ _ => (pv 9))) pe_int (fun _ _ => rfl)))
    (pss_cons (ps_if (pt_val (pe_callB (cr_any rfl) (by rfl) B.any (by decide +kernel) (pa_cons (pe_lc (own := [("_law_ring", 8)]) rfl sc_law_exchanged.nd (pi_list (pv 1)) (blkOk_by (N := ["_law_pot_here", "_law_rings", "_law_one", "_law_other", "_law_third", "_law_far", "_law_last", "_law_left", "_law_ring", "_law_corner"]) (sc := defScope s_law_exchanged) (by decide +kernel)) (fun _ _ _ _ _ => (pg_name (i := 8) sc_law_exchanged.nd rfl (.inl rfl) (.inr rfl))) (fun _ _ _ _ _ => pts_nil) (fun _ _ _ _ _ => (pe_and (pe_cmpR (r := rIn K false) op_in_seq (pv 4) (pv 8) (by with_unfolding_all rfl)) (pe_one (pe_cmpR (r := rIn K false) op_in_seq (pv 6) (pv 8) (by with_unfolding_all rfl)))))) pa_nil)))
      (pss_one (ps_ret (pv 1)))
      pss_nil)
    (pss_cons (ps_setLc (i := 7) (own := [("_law_ring", 8)]) rfl sc_law_exchanged.nd rfl rfl (sw_true rfl rfl rfl (by decide +kernel)) (pi_list (pv 1)) (blkOk_by (N := ["_law_pot_here", "_law_rings", "_law_one", "_law_other", "_law_third", "_law_far", "_law_last", "_law_left", "_law_ring", "_law_corner"]) (sc := defScope s_law_exchanged) (by decide +kernel)) (fun _ _ _ _ _ => (pg_name (i := 8) sc_law_exchanged.nd rfl (.inl rfl) (.inr rfl))) (fun _ _ _ _ _ => (pts_one (pt_not (PW.pt (pw_and (pt_cmpR (r := rIn K false) op_in_seq (pv 2) (pv 8) (by with_unfolding_all rfl)) (pw_and1 (pt_cmpR (r := rIn K false) op_in_seq (pv 3) (pv 8) (by with_unfolding_all rfl)))))))) (fun _ _ _ _ _ => (pv 8)))
    (pss_one (ps_ret (pe_op op_cat (pv 7) (pe_lst (pa_cons (pe_tup (pa_cons (pv 2) (pa_cons (pv 6) (pa_cons (pv 4) pa_nil)))) (pa_cons (pe_tup (pa_cons (pv 6) (pa_cons (pv 3) (pa_cons (pv 4) pa_nil)))) pa_nil)))))))))))), ?_⟩
    have hxl := paired_len hxs
    have hpos : 0 < xs.length := by omega
    refine ⟨.ref l, rfl, .ref a, rfl, a, 60, rfl, by omega, by omega, hp, fun H1 d0 sx1 hp1 hd => ?_⟩
    have hl1 := sx1 _ _ hla hl
    have hxs1 : Paired (TriV H1) xs L := paired_mono (fun _ _ r => r.keepP hp sx1) hxs
    have hk : d0 % xs.length < xs.length := Nat.mod_lt _ hpos
    have hx : xs[d0 % xs.length]? = some xs[d0 % xs.length] := List.getElem?_eq_getElem hk
    generalize hkk : d0 % xs.length = k at hk hx
    have hmod : (d0 : Int) % (xs.length : Nat) = (k : Nat) := by rw [← hkk]; exact (Int.natCast_emod d0 xs.length).symm
    obtain ⟨t, ht, p, ep, hpt⟩ := paired_get hxs1 hx
    obtain ⟨oa, ob, oc⟩ := t
    have htm : (oa, ob, oc) ∈ L := List.mem_of_getElem? ht
    refine ⟨.ref l, rfl, l, _, rfl, .inl (lq hl1), d0, xs.length, rfl, rfl, by show (0 : Int) < xs.length; omega, l, xs, (d0 : Int) % (xs.length : Nat), xs[k], rfl, rfl, lq hl1, by rw [hmod]; exact atI_nat hx, ?_⟩
    rw [ep]
    refine ⟨p, _, rfl, tq hpt, rfl, iv oa, _, rfl, iv ob, _, rfl, iv oc, [], rfl, rfl, ?_⟩
    -- the rings with both, without the third
    refine ⟨.ref l, rfl, l, rfl, ⟨_, lq hl1⟩, fun D hD => ?_⟩
    have hDa := hp1.ne hD
    let f1 : Tri → Bool := fun r => decide (oa ∈ tl r) && (decide (ob ∈ tl r) && !decide (oc ∈ tl r))
    refine lc_it (walk_list (K := K) (a := l) (xs := xs)) (fun i H' => Same H1 H' ∧ ∃ zs, H' D = some (.lst zs) ∧ Paired (TriV H') zs ((L.take i).filter f1)) ⟨same_upd hD, [], upd_same, .nil⟩ (fun i H' _ h => lq (h.1 _ _ hl1)) (fun i x H' H'' hi h hx => ?_) (fun H2 h => ?_)
    · obtain ⟨s2, zs, hz, hzp⟩ := h
      obtain ⟨rfl, hx⟩ := hx
      obtain ⟨r, hr, pr, rfl, hpr0⟩ := paired_get hxs1 hx
      have hpr := s2 _ _ hpr0
      have hzl := paired_len hzp
      have hfl := List.length_filter_le f1 (L.take i)
      rw [List.length_take] at hfl
      have estep : (L.take (i + 1)).filter f1 = (L.take i).filter f1 ++ (if f1 r = true then [r] else []) := by
        rw [List.take_add_one, hr, List.filter_append]
        congr 1
        show List.filter f1 [r] = _
        by_cases h : f1 r = true
        · rw [List.filter_cons_of_pos h, if_pos h]; rfl
        · rw [List.filter_cons_of_neg h, if_neg h]; rfl
      have keep0 : f1 r = false → Same H1 H'' ∧ ∃ zs, H'' D = some (.lst zs) ∧ Paired (TriV H'') zs ((L.take (i + 1)).filter f1) := fun h => by
        refine ⟨s2, zs, hz, ?_⟩
        rw [estep, if_neg (by rw [h]; simp), List.append_nil]
        exact hzp
      refine ⟨rfl, iv oa, rfl, .ref pr, rfl, pr, _, rfl, .inr (tq hpr), rfl, flat_ivs _, ?_⟩
      rw [inV_ivs]
      by_cases h1 : oa ∈ tl r
      · rw [decide_eq_true h1]
        refine ⟨true, rfl, iteT ?_⟩
        refine ⟨iv ob, rfl, .ref pr, rfl, pr, _, rfl, .inr (tq hpr), rfl, flat_ivs _, ?_⟩
        rw [inV_ivs]
        by_cases h2 : ob ∈ tl r
        · rw [decide_eq_true h2]
          refine ⟨true, rfl, iteT ?_⟩
          refine ⟨iv oc, rfl, .ref pr, rfl, pr, _, rfl, .inr (tq hpr), rfl, flat_ivs _, ?_⟩
          rw [inV_ivs]
          by_cases h3 : oc ∈ tl r
          · rw [decide_eq_true h3]
            refine ⟨false, rfl, iteF ?_⟩
            exact keep0 (by simp [f1, h1, h2, h3])
          · rw [decide_eq_false h3]
            refine ⟨true, rfl, iteT ?_⟩
            have hf : f1 r = true := by simp [f1, h1, h2, h3]
            refine ⟨.ref pr, rfl, zs, hz, small1000 (by omega), same_list hD s2, zs ++ [.ref pr], upd_same, ?_⟩
            rw [estep, if_pos hf]
            exact paired_snoc (paired_mono (fun _ _ r => r.keepL hz) hzp) (TriV.keepL ⟨pr, rfl, hpr⟩ hz)
        · rw [decide_eq_false h2]
          refine ⟨false, rfl, iteF ?_⟩
          refine iteF ?_
          exact keep0 (by simp [f1, h1, h2])
      · rw [decide_eq_false h1]
        refine ⟨false, rfl, iteF ?_⟩
        refine iteF ?_
        exact keep0 (by simp [f1, h1])
    · obtain ⟨s2, zs, hz, hzp⟩ := h
      rw [hxl, List.take_length] at hzp
      have hl2 := s2 _ _ hl1
      have hp2 := hp1.keep s2
      have sx2 := SameX.trans sx1 (Same.x s2)
      have hxs2 : Paired (TriV H2) xs L := paired_mono (fun _ _ r => r.keep s2) hxs1
      refine ⟨.ref D, rfl, by show 0 ≤ sizeLine; omega, fun q0 hq0 => ?_⟩
      have s3 := same_upd (o := .lst []) hq0
      have hq3 : upd H2 q0 (.lst []) q0 = some (.lst []) := upd_same
      generalize upd H2 q0 (.lst []) = H3 at s3 hq3 ⊢
      have hxs3 : Paired (TriV H3) xs L := paired_mono (fun _ _ r => r.keep s3) hxs2
      have sx3 := SameX.trans sx2 (Same.x s3)
      refine eq_nil_tris (s3 _ _ hz) (paired_mono (fun _ _ r => r.keep s3) hzp) hq3 ?_
      cases hfar : L.filter f1 with
      | nil =>
        rw [decide_eq_true rfl]
        refine ⟨true, rfl, iteT ?_⟩
        exact ⟨.ref l, rfl, q H3 l xs L Bg sx3 (hp2.keep s3) hla (s3 _ _ hl2) hxs3 M C hL0 (by omega)⟩
      | cons s far =>
        rw [decide_eq_false (by simp)]
        refine ⟨false, rfl, iteF ?_⟩
        rw [hfar] at hzp
        have hsf : s ∈ L.filter f1 := by rw [hfar]; simp
        obtain ⟨hsL, hs1⟩ := List.mem_filter.mp hsf
        simp only [f1, Bool.and_eq_true, decide_eq_true_eq, Bool.not_eq_true', decide_eq_false_iff_not] at hs1
        obtain ⟨d, hdf, hsd, hds, hda, hdb, hdc, hdn, hn4, two⟩ := far_ring M htm hsL hs1.1 hs1.2.1 hs1.2.2
        obtain ⟨z0, zr, rfl, ⟨ps, rfl, hps⟩, _⟩ : ∃ z0 zr, zs = z0 :: zr ∧ TriV H2 z0 s ∧ Paired (TriV H2) zr far := by
          cases hzp with
          | cons r h => exact ⟨_, _, rfl, r, h⟩
        have hps3 := s3 _ _ hps
        -- the last corner
        refine ⟨.ref D, rfl, D, _, 0, .ref ps, rfl, rfl, lq (s3 _ _ hz), atI_nat (j := 0) rfl, ps, rfl, ⟨_, tq hps3⟩, fun D2 hD2 => ?_⟩
        refine lc_it (walk_tup (K := K) (a := ps) (xs := ivs (tl s))) (fun i H' => Same H3 H' ∧ H' D2 = some (.lst (ivs (((tl s).take i).filter fun x => !decide (x ∈ [oa, ob]))))) ⟨same_upd hD2, upd_same⟩ (fun i H' _ h => tq (h.1 _ _ hps3)) (fun i x H' H'' hi h hx => ?_) (fun H4 h => ?_)
        · obtain ⟨s4, hz4⟩ := h
          obtain ⟨rfl, hx⟩ := hx
          obtain ⟨y, hy, rfl⟩ := ivs_get hx
          have hi3 : i < 3 := by simpa [ivs, tl] using hi
          have hfl := List.length_filter_le (fun x => !decide (x ∈ [oa, ob])) ((tl s).take i)
          rw [List.length_take] at hfl
          have estep : ((tl s).take (i + 1)).filter (fun x => !decide (x ∈ [oa, ob])) = ((tl s).take i).filter (fun x => !decide (x ∈ [oa, ob])) ++ (if y ∈ [oa, ob] then [] else [y]) := by
            rw [List.take_add_one, hy, List.filter_append]
            congr 1
            show List.filter (fun x => !decide (x ∈ [oa, ob])) [y] = _
            by_cases h : y ∈ [oa, ob]
            · rw [List.filter_cons_of_neg (by rw [decide_eq_true h]; simp), if_pos h]; rfl
            · rw [List.filter_cons_of_pos (by rw [decide_eq_false h]; rfl), if_neg h]; rfl
          refine ⟨rfl, iv y, rfl, iv oa, rfl, iv ob, rfl, by show 2 ≤ sizeLine; decide, fun t5 ht5 => ?_⟩
          have s5 := same_upd (o := .tup [iv oa, iv ob]) ht5
          have ht6 : upd H'' t5 (.tup [iv oa, iv ob]) t5 = some (.tup (ivs [oa, ob])) := upd_same
          generalize upd H'' t5 (.tup [iv oa, iv ob]) = H5 at s5 ht6 ⊢
          have hz5 := s5 _ _ hz4
          refine ⟨t5, _, rfl, .inr (tq ht6), rfl, flat_ivs _, ?_⟩
          rw [inV_ivs]
          by_cases h : y ∈ [oa, ob]
          · rw [decide_eq_true h]
            refine ⟨false, rfl, iteF ?_⟩
            refine ⟨Same.trans s4 s5, ?_⟩
            rw [estep, if_pos h, List.append_nil]; exact hz5
          · rw [decide_eq_false h]
            refine ⟨true, rfl, iteT ?_⟩
            refine ⟨iv y, rfl, _, hz5, by simp only [ivs, List.length_map]; exact small1000 (by omega), same_list hD2 (Same.trans s4 s5), ?_⟩
            rw [upd_same, estep, if_neg h]; simp [ivs]
        · obtain ⟨s4, hz4⟩ := h
          have e4 : ((tl s).take (ivs (tl s)).length).filter (fun x => !decide (x ∈ [oa, ob])) = [d] := by
            rw [show (tl s).take (ivs (tl s)).length = tl s from List.take_of_length_le (by simp [ivs])]
            exact hdf
          rw [e4] at hz4
          refine ⟨D2, _, 0, iv d, rfl, rfl, lq hz4, atI_nat (j := 0) rfl, ?_⟩
          have s34 := Same.trans s3 s4
          have hl4 := s34 _ _ hl2
          have hxs4 : Paired (TriV H4) xs L := paired_mono (fun _ _ r => r.keep s34) hxs2
          have hp4 := hp2.keep s34
          have sx4 := SameX.trans sx2 (Same.x s34)
          -- are third and last tied
          refine ⟨.ref l, rfl, l, rfl, ⟨_, lq hl4⟩, fun D3 hD3 => ?_⟩
          let f2 : Tri → Bool := fun r => decide (oc ∈ tl r) && decide (d ∈ tl r)
          refine lc0 (walk_list (K := K) (a := l) (xs := xs)) (fun i H' => Same H4 H' ∧ H' D3 = some (.lst (((L.take i).map f2).map V.bl))) ⟨same_upd hD3, upd_same⟩ (fun i H' _ h => lq (h.1 _ _ hl4)) (fun i x H' H'' hi h hx => ?_) (fun H5 h => ?_)
          · obtain ⟨s5, hz5⟩ := h
            obtain ⟨rfl, hx⟩ := hx
            obtain ⟨r, hr, pr, rfl, hpr0⟩ := paired_get hxs4 hx
            have hpr := s5 _ _ hpr0
            have hil := (List.getElem?_eq_some_iff.mp hr).1
            have fin : ∀ b, f2 r = b → ∃ acc, H'' D3 = some (.lst acc) ∧ acc.length < sizeLine ∧ Same H4 (upd H'' D3 (.lst (acc ++ [V.bl b]))) ∧ upd H'' D3 (.lst (acc ++ [V.bl b])) D3 = some (.lst (((L.take (i + 1)).map f2).map V.bl)) := fun b hb => by
              refine ⟨_, hz5, by rw [List.length_map, List.length_map, List.length_take]; exact small1000 (by omega), same_list hD3 s5, ?_⟩
              rw [upd_same, List.take_add_one, hr, ← hb]; simp
            refine ⟨rfl, iv oc, rfl, .ref pr, rfl, pr, _, rfl, .inr (tq hpr), rfl, flat_ivs _, ?_⟩
            rw [inV_ivs]
            by_cases h1 : oc ∈ tl r
            · rw [decide_eq_true h1]
              refine ⟨true, rfl, iteT ?_⟩
              refine ⟨iv d, rfl, .ref pr, rfl, pr, _, rfl, .inr (tq hpr), rfl, flat_ivs _, ?_⟩
              rw [inV_ivs]
              exact fin _ (by simp [f2, h1])
            · rw [decide_eq_false h1]
              refine ⟨false, rfl, iteF ?_⟩
              exact fin _ (by simp [f2, h1])
          · obtain ⟨s5, hz5⟩ := h
            rw [hxl, List.take_length] at hz5
            refine ⟨D3, _, rfl, lq hz5, ?_⟩
            have hl5 := s5 _ _ hl4
            have hxs5 : Paired (TriV H5) xs L := paired_mono (fun _ _ r => r.keep s5) hxs4
            have hp5 := hp4.keep s5
            have sx5 := SameX.trans sx4 (Same.x s5)
            by_cases hany : (L.map f2).any id = true
            · rw [hany]
              refine ⟨true, rfl, iteT ?_⟩
              exact ⟨.ref l, rfl, q H5 l xs L Bg sx5 hp5 hla hl5 hxs5 M C hL0 (by omega)⟩
            · have hany : (L.map f2).any id = false := by simpa using hany
              rw [hany]
              refine ⟨false, rfl, iteF ?_⟩
              have hcd : Bg oc d = false := by
                cases e : Bg oc d with
                | false => rfl
                | true =>
                  obtain ⟨r, hr, hd⟩ := (M.iff oc d).mp e
                  have := td_mem hd
                  rw [List.any_map, List.any_eq_false] at hany
                  have := hany r hr
                  simp [f2] at this
                  exact absurd (td_mem hd).2 (this (td_mem hd).1)
              -- the others
              refine ⟨.ref l, rfl, l, rfl, ⟨_, lq hl5⟩, fun D4 hD4 => ?_⟩
              let f3 : Tri → Bool := fun r => !(decide (oa ∈ tl r) && decide (ob ∈ tl r))
              refine lc_it (walk_list (K := K) (a := l) (xs := xs)) (fun i H' => Same H5 H' ∧ ∃ zs, H' D4 = some (.lst zs) ∧ Paired (TriV H') zs ((L.take i).filter f3)) ⟨same_upd hD4, [], upd_same, .nil⟩ (fun i H' _ h => lq (h.1 _ _ hl5)) (fun i x H' H'' hi h hx => ?_) (fun H6 h => ?_)
              · obtain ⟨s6, zs, hz, hzp⟩ := h
                obtain ⟨rfl, hx⟩ := hx
                obtain ⟨r, hr, pr, rfl, hpr0⟩ := paired_get hxs5 hx
                have hpr := s6 _ _ hpr0
                have hzl := paired_len hzp
                have hfl := List.length_filter_le f3 (L.take i)
                rw [List.length_take] at hfl
                have estep : (L.take (i + 1)).filter f3 = (L.take i).filter f3 ++ (if f3 r = true then [r] else []) := by
                  rw [List.take_add_one, hr, List.filter_append]
                  congr 1
                  show List.filter f3 [r] = _
                  by_cases h : f3 r = true
                  · rw [List.filter_cons_of_pos h, if_pos h]; rfl
                  · rw [List.filter_cons_of_neg h, if_neg h]; rfl
                have keep1 : f3 r = true → ∃ acc, H'' D4 = some (.lst acc) ∧ acc.length < sizeLine ∧ Same H5 (upd H'' D4 (.lst (acc ++ [V.ref pr]))) ∧ ∃ zs, upd H'' D4 (.lst (acc ++ [V.ref pr])) D4 = some (.lst zs) ∧ Paired (TriV (upd H'' D4 (.lst (acc ++ [V.ref pr])))) zs ((L.take (i + 1)).filter f3) := fun hf => by
                  refine ⟨zs, hz, small1000 (by omega), same_list hD4 s6, zs ++ [.ref pr], upd_same, ?_⟩
                  rw [estep, if_pos hf]
                  exact paired_snoc (paired_mono (fun _ _ r => r.keepL hz) hzp) (TriV.keepL ⟨pr, rfl, hpr⟩ hz)
                refine ⟨rfl, iv oa, rfl, .ref pr, rfl, pr, _, rfl, .inr (tq hpr), rfl, flat_ivs _, ?_⟩
                rw [inV_ivs]
                by_cases h1 : oa ∈ tl r
                · rw [decide_eq_true h1]
                  refine ⟨true, rfl, iteT ?_⟩
                  refine ⟨iv ob, rfl, .ref pr, rfl, pr, _, rfl, .inr (tq hpr), rfl, flat_ivs _, ?_⟩
                  rw [inV_ivs]
                  by_cases h2 : ob ∈ tl r
                  · rw [decide_eq_true h2]
                    refine ⟨true, rfl, iteF ?_⟩
                    refine ⟨s6, zs, hz, ?_⟩
                    rw [estep, if_neg (by simp [f3, h1, h2]), List.append_nil]
                    exact hzp
                  · rw [decide_eq_false h2]
                    refine ⟨false, rfl, iteT ?_⟩
                    exact ⟨.ref pr, rfl, keep1 (by simp [f3, h1, h2])⟩
                · rw [decide_eq_false h1]
                  refine ⟨false, rfl, iteF ?_⟩
                  refine iteT ?_
                  exact ⟨.ref pr, rfl, keep1 (by simp [f3, h1])⟩
              · obtain ⟨s6, zs, hz, hzp⟩ := h
                rw [hxl, List.take_length] at hzp
                obtain ⟨B', M', C'⟩ := M.swap C hn4 htm hsL hsd hda hdb hdc hcd hdn
                rw [show L.filter f3 = L.filter (fun r => decide (r ≠ (oa, ob, oc) ∧ r ≠ s)) from exch_list M two] at hzp
                have hp6 := hp5.keep s6
                have sx6 := SameX.trans sx5 (Same.x s6)
                refine ⟨.ref D4, rfl, iv oa, rfl, iv d, rfl, iv oc, rfl, by show 3 ≤ sizeLine; decide, fun z1 hz1 => ?_⟩
                have r1 := same_upd (o := .tup [iv oa, iv d, iv oc]) hz1
                have d1 : TriV (upd H6 z1 (.tup [iv oa, iv d, iv oc])) (.ref z1) (oa, d, oc) := ⟨z1, rfl, upd_same⟩
                generalize upd H6 z1 (.tup [iv oa, iv d, iv oc]) = H7 at r1 d1 ⊢
                refine ⟨iv d, rfl, iv ob, rfl, iv oc, rfl, by show 3 ≤ sizeLine; decide, fun z2 hz2 => ?_⟩
                have r2 := same_upd (o := .tup [iv d, iv ob, iv oc]) hz2
                have d2 : TriV (upd H7 z2 (.tup [iv d, iv ob, iv oc])) (.ref z2) (d, ob, oc) := ⟨z2, rfl, upd_same⟩
                generalize upd H7 z2 (.tup [iv d, iv ob, iv oc]) = H8 at r2 d2 ⊢
                refine ⟨by show 2 ≤ sizeLine; decide, fun z4 hz4 => ?_⟩
                have r4 := same_upd (o := .lst [.ref z1, .ref z2]) hz4
                have d4 : upd H8 z4 (.lst [.ref z1, .ref z2]) z4 = some (.lst [.ref z1, .ref z2]) := upd_same
                have r14 := Same.trans r1 (Same.trans r2 r4)
                have d12 : Paired (TriV (upd H8 z4 (.lst [.ref z1, .ref z2]))) [.ref z1, .ref z2] [(oa, d, oc), (d, ob, oc)] := .cons (d1.keep (Same.trans r2 r4)) (.cons (d2.keep r4) .nil)
                generalize upd H8 z4 (.lst [.ref z1, .ref z2]) = H9 at r4 d4 r14 d12 ⊢
                have hzl := paired_len hzp
                have hfl := List.length_filter_le (fun r => decide (r ≠ (oa, ob, oc) ∧ r ≠ s)) L
                refine ⟨D4, z4, _, _, rfl, rfl, r14 _ _ hz, d4, by rw [sizeLine_eq]; simp; omega, fun z5 hz5 => ?_⟩
                have r5 := same_upd (o := .lst (zs ++ [.ref z1, .ref z2])) hz5
                have hp9 := hp6.keep r14
                refine q _ z5 _ _ B' (SameX.trans sx6 (Same.x (Same.trans r14 r5))) (hp9.keep r5) (hp9.ne hz5) upd_same ?_ M' C' (by simp) (by rw [List.length_append]; simp only [List.length_cons, List.length_nil]; omega)
                exact paired_app (paired_mono (fun _ _ r => r.keep (Same.trans r14 r5)) hzp) (paired_mono (fun _ _ r => r.keep r5) d12)
end
end Wp
set_option maxHeartbeats 4000000
namespace Wp
open Wb
open PySem PySem.Spec PyProof.Rows L2
open C8 (Cal pe_c pe_gc)
def st3 (r : Tri) (j : Nat) : Nat × Nat := if j = 0 then (r.2.2, r.1) else if j = 1 then (r.1, r.2.1) else (r.2.1, r.2.2)
theorem st3_td {r : Tri} {u v : Nat} : td r u v = true ↔ ∃ j, j < 3 ∧ st3 r j = (u, v) := by
  obtain ⟨a, b, c⟩ := r
  rw [td_iff]
  constructor
  · rintro (⟨rfl, rfl⟩ | ⟨rfl, rfl⟩ | ⟨rfl, rfl⟩)
    · exact ⟨1, by omega, rfl⟩
    · exact ⟨2, by omega, rfl⟩
    · exact ⟨0, by omega, rfl⟩
  · rintro ⟨j, hj, e⟩
    have : j = 0 ∨ j = 1 ∨ j = 2 := by omega
    rcases this with rfl | rfl | rfl
    · have e : (c, a) = (u, v) := e
      cases e; exact .inr (.inr ⟨rfl, rfl⟩)
    · have e : (a, b) = (u, v) := e
      cases e; exact .inl ⟨rfl, rfl⟩
    · have e : (b, c) = (u, v) := e
      cases e; exact .inr (.inl ⟨rfl, rfl⟩)
theorem st3_at (r : Tri) {j : Nat} (hj : j < 3) : atI (ivs (tl r)) ((j : Int) - 1) = some (iv (st3 r j).1) ∧ (ivs (tl r))[j]? = some (iv (st3 r j).2) := by
  have : j = 0 ∨ j = 1 ∨ j = 2 := by omega
  rcases this with rfl | rfl | rfl <;> exact ⟨rfl, rfl⟩
section
variable {P : Program} {w : World} {K : PySem.W.Frag} {mg : Str → Option Value} {base : Heap}
def spLawTies : Sp := fun vs H Q _ => ∃ (l : Addr) (xs : List V) (L : List Tri), vs = [.ref l] ∧ H l = some (.lst xs) ∧ Paired (TriV H) xs L ∧ L.length ≤ 100 ∧
  ∀ H' f ys us, Same H H' → H f = none → H' f = some (.lst ys) → Paired (TieV H') ys us → us.Nodup → (∀ t, t ∈ us ↔ ∃ r ∈ L, ∃ u v, td r u v = true ∧ t = mm (u, v)) → Q (.ref f) H'
theorem k_law_ties (A : At K mg "_law_ties" s_law_ties) (B : Bt mg) (C_law_tie : Cal P w K mg base 1 "_law_tie" spTieOf []) : Cal P w K mg base 2 "_law_ties" spLawTies [] := by
  refine mk A sc_law_ties (fun _ _ _ _ _ _ us hl => match us, hl with | [_], _ => rfl) (fun vs H Q E h => ?_) (fun f cdv A outer s H vs Q E hr h => ?_)
  · obtain ⟨l, xs, L, rfl, _⟩ := h
    rfl
  · obtain ⟨l, xs, L, rfl, hl, hxs, hLl, q⟩ := h
    refine ⟨_, (pss_cons (ps_set (i := 1) sc_law_ties.nd rfl (.inl rfl) (pe_lst pa_nil))
    (pss_cons (ps_for PassesOwn.never rfl (pi_list (pv 0)) (pg_name (i := 2) sc_law_ties.nd rfl (.inl rfl))
      (pss_one (ps_for PassesOwn.never rfl (pi_range1 (by rfl) B.range (pa_cons pe_int pa_nil)) (pg_name (i := 3) sc_law_ties.nd rfl (.inl rfl))
        (pss_one (ps_if (pt_cmpR (op_notInD (u65 hr)) (pe_c C_law_tie hr (by decide) (by rfl) (pa_cons (pe_ix ix_tup (pv 2) (pe_op op_sub (pv 3) pe_int) (fun _ _ => rfl)) (pa_cons (pe_ix ix_tup (pv 2) (pv 3) (fun _ _ => rfl)) pa_nil))) (pv 1) (by with_unfolding_all rfl))
          (pss_one (ps_expr (pe_bm PySem.F.plainAttrs_list PySem.F.slot_list_append PySem.F.type_list_append mt_append (pv 1) (pa_cons (pe_c C_law_tie hr (by decide) (by rfl) (pa_cons (pe_ix ix_tup (pv 2) (pe_op op_sub (pv 3) pe_int) (fun _ _ => rfl)) (pa_cons (pe_ix ix_tup (pv 2) (pv 3) (fun _ _ => rfl)) pa_nil))) pa_nil))))
          pss_nil)))))
    (pss_one (ps_ret (pv 1))))), ?_⟩
    refine ⟨by show 0 ≤ sizeLine; omega, fun F hF => ?_⟩
    have s1 := same_upd (o := .lst []) hF
    have hF1 : upd H F (.lst []) F = some (.lst []) := upd_same
    generalize upd H F (.lst []) = H1 at s1 hF1 ⊢
    refine ⟨.ref l, rfl, l, rfl, ⟨_, lq (s1 _ _ hl)⟩, ?_⟩
    refine for_it (walk_list (K := K) (a := l) (xs := xs)) (fun i σ H' => (∃ x2 x3, σ = [some (.ref l), some (.ref F), x2, x3]) ∧ Same H H' ∧ ∃ ys us, H' F = some (.lst ys) ∧ Paired (TieV H') ys us ∧ us.Nodup ∧ us.length ≤ 3 * i ∧ ∀ t, t ∈ us ↔ ∃ r ∈ L.take i, ∃ j, j < 3 ∧ t = mm (st3 r j))
      ⟨⟨_, _, rfl⟩, s1, [], [], hF1, .nil, List.nodup_nil, Nat.le_refl 0, fun t => by simp⟩ (fun i σ H' _ h => lq (h.2.1 _ _ hl)) (fun i x σ H2 H3 hi h hx => ?_) (fun σ H2 h => ?_)
    · obtain ⟨⟨x2, x3, rfl⟩, s2, ys, us, hF2, hus, hnd, hul, hm⟩ := h
      obtain ⟨rfl, hx⟩ := hx
      obtain ⟨r, hr, pr, rfl, hpr0⟩ := paired_get hxs hx
      have hil := (List.getElem?_eq_some_iff.mp hr).1
      have etake : ∀ z, z ∈ L.take (i + 1) ↔ z ∈ L.take i ∨ z = r := fun z => by
        rw [List.take_add_one, hr]; simp
      refine ⟨3, rfl, by decide, by decide, ?_⟩
      refine for_it walk_range (fun j σ H' => (∃ x3, σ = [some (.ref l), some (.ref F), some (.ref pr), x3]) ∧ Same H H' ∧ ∃ ys us, H' F = some (.lst ys) ∧ Paired (TieV H') ys us ∧ us.Nodup ∧ us.length ≤ 3 * i + j ∧ ∀ t, t ∈ us ↔ (∃ r ∈ L.take i, ∃ j, j < 3 ∧ t = mm (st3 r j)) ∨ ∃ k, k < j ∧ t = mm (st3 r k))
        ⟨⟨_, rfl⟩, s2, ys, us, hF2, hus, hnd, hul, fun t => by rw [hm]; simp⟩ (fun j σ H' _ h => trivial) (fun j x σ H4 H5 hj h hx => ?_) (fun σ H4 h => ?_)
      · obtain ⟨⟨x3, rfl⟩, s4, ys, us, hF4, hus, hnd, hul, hm⟩ := h
        obtain ⟨rfl, hxe⟩ := hx
        have hxe : x = iv j := by rw [hxe]; exact congrArg V.int (by omega)
        subst hxe
        have hj3 : j < 3 := hj
        obtain ⟨g1, g2⟩ := st3_at r hj3
        generalize hst : st3 r j = uv at g1 g2
        obtain ⟨u, v⟩ := uv
        have hpr := s4 _ _ hpr0
        have step : ∀ z, (∃ k, k < j + 1 ∧ z = mm (st3 r k)) ↔ (∃ k, k < j ∧ z = mm (st3 r k)) ∨ z = mm (u, v) := fun z => by
          constructor
          · rintro ⟨k, h1, h2⟩
            by_cases e : k = j
            · rw [e, hst] at h2; exact .inr h2
            · exact .inl ⟨k, by omega, h2⟩
          · rintro (⟨k, h1, h2⟩ | h)
            · exact ⟨k, by omega, h2⟩
            · exact ⟨j, by omega, by rw [hst]; exact h⟩
        refine ⟨.ref pr, rfl, iv j, rfl, j, 1, rfl, rfl, pr, _, (j : Int) - 1, iv u, rfl, rfl, tq hpr, g1, .ref pr, rfl, iv j, rfl, pr, _, j, iv v, rfl, rfl, tq hpr, atI_nat g2, u, v, rfl, fun z hz => ?_⟩
        have s5 := same_upd (o := .tup [.int (min u v : Nat), .int (max u v : Nat)]) hz
        have hz5 : TieV (upd H5 z (.tup [.int (min u v : Nat), .int (max u v : Nat)])) (.ref z) (mm (u, v)) := ⟨z, rfl, upd_same⟩
        generalize upd H5 z (.tup [.int (min u v : Nat), .int (max u v : Nat)]) = H6 at s5 hz5 ⊢
        have hF6 := s5 _ _ hF4
        have hus6 : Paired (TieV H6) ys us := paired_mono (fun _ _ r => r.keep (Same.tups s5)) hus
        refine ⟨.ref F, rfl, ?_⟩
        refine notIn_tiesL hz5 hF6 hus6 ?_
        by_cases h : mm (u, v) ∈ us
        · rw [decide_eq_true h]
          refine ⟨false, rfl, iteF ?_⟩
          refine ⟨⟨_, rfl⟩, Same.trans s4 s5, ys, us, hF6, hus6, hnd, by omega, fun t => ?_⟩
          rw [hm, step]
          constructor
          · rintro (h' | h')
            · exact .inl h'
            · exact .inr (.inl h')
          · rintro (h' | h' | h')
            · exact .inl h'
            · exact .inr h'
            · rw [h']; exact (hm _).mp h
        · rw [decide_eq_false h]
          refine ⟨true, rfl, iteT ?_⟩
          have hpr6 := s5 _ _ hpr
          refine ⟨.ref F, rfl, .inl ⟨rfl, _, lq hF6⟩, .ref pr, rfl, iv j, rfl, j, 1, rfl, rfl, pr, _, (j : Int) - 1, iv u, rfl, rfl, tq hpr6, g1, .ref pr, rfl, iv j, rfl, pr, _, j, iv v, rfl, rfl, tq hpr6, atI_nat g2, u, v, rfl, fun z' hz' => ?_⟩
          have s7 := same_upd (o := .tup [.int (min u v : Nat), .int (max u v : Nat)]) hz'
          have hz7 : TieV (upd H6 z' (.tup [.int (min u v : Nat), .int (max u v : Nat)])) (.ref z') (mm (u, v)) := ⟨z', rfl, upd_same⟩
          generalize upd H6 z' (.tup [.int (min u v : Nat), .int (max u v : Nat)]) = H7 at s7 hz7 ⊢
          have hF7 := s7 _ _ hF6
          have hyl := paired_len hus
          refine ⟨F, ys, .ref z', rfl, rfl, hF7, small1000 (by omega), ?_⟩
          refine ⟨⟨_, rfl⟩, same_list hF (Same.trans s4 (Same.trans s5 s7)), ys ++ [.ref z'], us ++ [mm (u, v)], upd_same, paired_snoc (paired_mono (fun _ _ r => (r.keep (Same.tups s7)).keepL hF7) hus6) (hz7.keepL hF7), nd_snoc hnd h, by simp; omega, fun t => ?_⟩
          rw [List.mem_append, hm, step, List.mem_singleton, or_assoc]
      · obtain ⟨⟨x3, rfl⟩, s4, ys, us, hF4, hus, hnd, hul, hm⟩ := h
        refine ⟨⟨_, _, rfl⟩, s4, ys, us, hF4, hus, hnd, by omega, fun t => ?_⟩
        rw [hm]
        constructor
        · rintro (⟨r', h1, h2⟩ | ⟨k, h1, h2⟩)
          · exact ⟨r', (etake r').mpr (.inl h1), h2⟩
          · exact ⟨r, (etake r).mpr (.inr rfl), k, h1, h2⟩
        · rintro ⟨r', h1, h2⟩
          rcases (etake r').mp h1 with h | h
          · exact .inl ⟨r', h, h2⟩
          · rw [h] at h2; exact .inr h2
    · obtain ⟨⟨x2, x3, rfl⟩, s2, ys, us, hF2, hus, hnd, hul, hm⟩ := h
      rw [paired_len hxs, List.take_length] at hm
      refine ⟨.ref F, rfl, q H2 F ys us s2 hF hF2 hus hnd fun t => ?_⟩
      rw [hm]
      constructor
      · rintro ⟨r, h1, j, h2, h3⟩
        exact ⟨r, h1, (st3 r j).1, (st3 r j).2, st3_td.mpr ⟨j, h2, rfl⟩, h3⟩
      · rintro ⟨r, h1, u, v, h2, h3⟩
        obtain ⟨j, h4, h5⟩ := st3_td.mp h2
        exact ⟨r, h1, j, h4, by rw [h5]; exact h3⟩
end
end Wp
set_option maxHeartbeats 4000000
namespace Wp
open Wb
open PySem PySem.Spec PyProof.Rows L2
open C8 (Cal pe_c pe_gc)
/-! own rule: a call by the parameters' names alone -/
structure CalK (P : Program) (w : World) (K : PySem.W.Frag) (mg : Str → Option Value) (base : Heap) (k : Nat) (x : Str) (sp : Sp) (ks : List Str) : Prop where
  ex : ∃ (f : Addr) (fd : FuncData) (ps : List Str) (g : List Value → List Value → List Value) (gV : List V → List V → List V), FnOk P w K mg base CX0 k f fd ps sp ∧ mg x = some (.ref f) ∧ PySem.W.keepIn K (.ref f) = true ∧ KBinds K fd ps ks g gV ∧ ∀ zs, gV [] zs = zs
theorem pe_cK0 {X : Cx} {k j : Nat} {x : Str} {sp : Sp} {ks : List Str} {p pos : Pos} {kws : List Keyword} {tk : TA} (c : CalK X.prog X.w X.K X.mg X.base k x sp ks) (hr : Room j X.A) (hk : k ≤ j) (hg : Gl X x) (hkw : PK X kws tk)
    (hall : (backToKw pos (keywordEach kws X.env)).all (·.1.isSome) = true := by rfl) (hks : (backToKw pos (keywordEach kws X.env)).filterMap (·.1) = ks := by rfl) (hdb : (x == ("__debug__" : Str)) = false := by decide)
    (hpl : ((backTo pos (starEach [] X.env)).any (·.1) || (backToKw pos (keywordEach kws X.env)).any (·.1.isNone)) = false := by rfl) :
    PE X (.Call (.Name x p) [] kws pos) (fun σ H Q => tk σ H fun zs H2 => sp zs H2 Q E0) := by
  obtain ⟨f, fd, ps, g, gV, F, hm, hkp, hb, hgV⟩ := c.ex
  refine ⟨fun pins s σ H Q I h => ?_⟩
  refine wpAny_Call_Name_kw (ld_glob I hg hm ?_ hdb)
  refine PySem.W.callWith_KW0 (h₀ := X.base) I.ok.mod.kin hkp hall (thn (hkw.run pos pins s σ H _ I h) fun ws s2 ⟨zs, H2, I2, rz, q2⟩ => ⟨I2.kIn, ?_⟩) hpl
  rw [hks]
  have q3 : sp (gV [] zs) H2 Q E0 := by rw [hgV]; exact q2
  exact run_fnk F (hr.mono hk) hb pass0 I2 .nil rz q3
def gKw {α : Type} : List α → List α → List α
  | [], ws => ws
  | _ :: _, _ => []
section
variable {P : Program} {w : World} {K : PySem.W.Frag} {mg : Str → Option Value} {base : Heap}
theorem k_barred_partK (A : At K mg "barred_part" s_barred_part) (B : Bt mg) (C_want_web : Cal P w K mg base 5 "want_web" spWantWeb []) (C_barred_of : Cal P w K mg base 9 "barred_of" spBarredOf []) : CalK P w K mg base 10 "barred_part" spBarredOf ["web"] := by
  obtain ⟨f, fd, F, gm⟩ := A.ex
  refine ⟨f, fd, ["web"], gKw, gKw, F.ok sc_barred_part (fun vs H Q E h => ?_) (fun cdv A outer s H vs Q E hr h => ?_), gm, F.kp, ⟨fun s us ws _ hl => ?_, fun r rz => ?_⟩, fun _ => rfl⟩
  · obtain ⟨v, n, ts, rfl, _⟩ := h
    rfl
  · obtain ⟨v, n, ts, rfl, hw, ok, h1, h2, q⟩ := h
    refine ⟨_, (pss_cons (ps_expr (pe_c C_want_web hr (by decide) (by rfl) (pa_cons (pv 0) pa_nil)))
    (pss_one (ps_ret (pe_c C_barred_of hr (by decide) (by rfl) (pa_cons (pv 0) pa_nil))))), ?_⟩
    exact ⟨v, rfl, v, n, ts, rfl, hw, ok, fun H' s1 => ⟨v, rfl, v, n, ts, rfl, hw.keep (Same.tups s1), ok, h1, h2, fun H2 s2 => q H2 (Same.trans s1 s2)⟩⟩
  · obtain ⟨oc, od, kV, doc, pm, an, cdv, ct, osl, rfl, _, _⟩ := F.ex
    match us, ws, hl with
    | [], [u], _ => exact BindsTo.of_eq rfl
  · cases r with
    | nil => exact rz
    | cons _ _ => exact .nil
end
end Wp
set_option maxHeartbeats 4000000
namespace Wp
open Wb
open PySem PySem.Spec PyProof.Rows L2
/-! the plain law of the law's webs -/
theorem gr_wide {n m : Nat} {B : E2} (G : Gr n B) (h : n ≤ m) : Gr m B :=
  ⟨G.sym, G.irr, fun u v e => by have := G.bnd u v e; omega⟩
theorem planar_wide {n : Nat} {B : E2} (G : Gr n B) (h : Planar n B) : ∀ k, Planar (n + k) B
  | 0 => h
  | k + 1 => by
    obtain ⟨α, fc, P⟩ := planar_wide G h k
    exact ⟨α, fc, P.wider (gr_wide G (Nat.le_add_right n k))⟩
def br (n : Nat) (B : E2) : E2 := fun u v => B u v || edge n (n + 1) u v
theorem br_iff {n : Nat} {B : E2} {u v : Nat} : br n B u v = true ↔ B u v = true ∨ (u = n ∧ v = n + 1) ∨ (u = n + 1 ∧ v = n) := by
  unfold br
  rw [Bool.or_eq_true, edge_iff]
theorem br_gr {n : Nat} {B : E2} (G : Gr n B) : Gr (n + 2) (br n B) where
  sym u v := by simp only [br]; rw [G.sym u v, edge_sym n (n + 1) u v]
  irr u := by
    cases e : br n B u u with
    | false => rfl
    | true =>
      rcases br_iff.mp e with h | h | h
      · rw [G.irr] at h; cases h
      · omega
      · omega
  bnd u v e := by
    rcases br_iff.mp e with h | h | h
    · have := G.bnd u v h; omega
    · omega
    · omega
theorem planar_br {n : Nat} {B : E2} (G : Gr n B) (h : Planar n B) : Planar (n + 2) (br n B) := by
  obtain ⟨α, fc, P⟩ := h
  have Bn : ∀ u v, n ≤ u ∨ n ≤ v → B u v = false := fun u v h => by
    cases e : B u v with
    | false => rfl
    | true => have := G.bnd u v e; omega
  let f' : Nat → Nat → α := fun u v => if n ≤ u ∨ n ≤ v then fc 0 0 else fc u v
  have f1 : ∀ (T : α → Bool) u v, n ≤ u ∨ n ≤ v → Wb.dl f' T u v = false := fun T u v h => by
    simp only [Wb.dl, f']
    rw [if_pos h, if_pos (Or.symm h)]; simp
  have f2 : ∀ (T : α → Bool) u v, u < n → v < n → Wb.dl f' T u v = Wb.dl fc T u v := fun T u v h1 h2 => by
    simp only [Wb.dl, f']
    rw [if_neg (by omega), if_neg (by omega)]
  refine ⟨α, f', fun T u => ?_, fun x hx => ?_⟩
  · by_cases hu : n ≤ u
    · exact par_zero fun v _ => by rw [f1 T u v (.inl hu)]; simp
    · have e1 : ∀ v, n ≤ v → (br n B u v && Wb.dl f' T u v) = false := fun v hv => by rw [f1 T u v (.inr hv)]; simp
      show ((par (fun v => br n B u v && Wb.dl f' T u v) n ^^ (br n B u n && Wb.dl f' T u n)) ^^ (br n B u (n + 1) && Wb.dl f' T u (n + 1))) = false
      rw [e1 n (Nat.le_refl n), e1 (n + 1) (by omega), Bool.xor_false, Bool.xor_false, ← P.even T u]
      refine par_congr fun v hv => ?_
      rw [f2 T u v (by omega) hv]
      congr 1
      rw [Bool.eq_iff_iff, br_iff]
      exact ⟨fun h => h.elim id fun h => by omega, .inl⟩
  · have z : x n (n + 1) = false := by
      have h := hx.even n
      unfold dv at h
      rw [par_one (a := n + 1) (by omega) fun i hi hne => ?_] at h
      · exact h
      · cases e : x n i with
        | false => rfl
        | true =>
          rcases br_iff.mp (hx.sub n i e) with h | h | h
          · rw [Bn n i (.inl (Nat.le_refl n))] at h; cases h
          · omega
          · omega
    have z2 : ∀ u v, x u v = true → B u v = true := fun u v e => by
      rcases br_iff.mp (hx.sub u v e) with h | ⟨rfl, rfl⟩ | ⟨rfl, rfl⟩
      · exact h
      · rw [z] at e; cases e
      · rw [hx.sym, z] at e; cases e
    have z3 : ∀ u v, n ≤ u ∨ n ≤ v → x u v = false := fun u v h => by
      cases e : x u v with
      | false => rfl
      | true => have := z2 u v e; rw [Bn u v h] at this; cases this
    obtain ⟨T, hT⟩ := P.pot x ⟨hx.sym, z2, fun u => by
      have h := hx.even u
      have h : ((par (x u) n ^^ x u n) ^^ x u (n + 1)) = false := h
      rw [z3 u n (.inr (Nat.le_refl n)), z3 u (n + 1) (.inr (by omega))] at h
      simpa [dv] using h⟩
    refine ⟨T, fun u v e => ?_⟩
    rcases br_iff.mp e with h | ⟨rfl, rfl⟩ | ⟨rfl, rfl⟩
    · have hb := G.bnd u v h
      rw [hT u v h, f2 T u v hb.1 hb.2]
    · rw [f1 T _ _ (.inl (Nat.le_refl _)), z]
    · rw [f1 T _ _ (.inr (Nat.le_refl _)), hx.sym, z]
structure LawG (n more : Nat) (B : E2) (ls : List (Nat × Nat)) (g : List Nat) : Prop where
  G : Gr n B
  P : Planar n B
  lo : 3 ≤ n
  hi : n ≤ 7
  le : n ≤ more
  m20 : more ≤ 20
  ls : ∀ t ∈ ls, t.1 < t.2 ∧ t.2 < more ∧ (B t.1 t.2 = true ∨ t = (n, n + 1))
  g : g.Perm (List.range more)
section
variable {n more : Nat} {B : E2} {ls : List (Nat × Nat)} {g : List Nat} {ts : List (Nat × Nat)}
theorem LawG.nd (h : LawG n more B ls g) : g.Nodup := h.g.nodup_iff.mpr List.nodup_range
theorem LawG.len (h : LawG n more B ls g) : g.length = more := by rw [h.g.length_eq, List.length_range]
theorem LawG.mem (h : LawG n more B ls g) {x : Nat} : x ∈ g ↔ x < more := by rw [h.g.mem_iff, List.mem_range]
theorem LawG.inv (h : LawG n more B ls g) : ∃ inv : Nat → Nat, (∀ i, i < more → inv i < more ∧ g[inv i]? = some i) ∧ (∀ k i, g[k]? = some i → inv i = k) := by
  have ex : ∀ i, ∃ k, i < more → g[k]? = some i := fun i => by
    by_cases hi : i < more
    · obtain ⟨k, hk⟩ := List.getElem?_of_mem (h.mem.mpr hi)
      exact ⟨k, fun _ => hk⟩
    · exact ⟨0, fun e => absurd e hi⟩
  obtain ⟨inv, hinv⟩ := Classical.axiomOfChoice ex
  refine ⟨inv, fun i hi => ⟨?_, hinv i hi⟩, fun k i hk => ?_⟩
  · have := (List.getElem?_eq_some_iff.mp (hinv i hi)).1
    rw [h.len] at this; exact this
  · have hi := h.mem.mp (List.mem_of_getElem? hk)
    exact idx_uniq h.nd (hinv i hi) hk
theorem LawG.planar_ls (h : LawG n more B ls g) : Planar more (aE ls) := by
  have hg : Gr more (aE ls) := web_gr fun t ht => ⟨(h.ls t ht).1, (h.ls t ht).2.1⟩
  by_cases hm : n + 2 ≤ more
  · obtain ⟨k, rfl⟩ : ∃ k, more = n + 2 + k := ⟨more - (n + 2), by omega⟩
    obtain ⟨α, fc, P⟩ := planar_wide (br_gr h.G) (planar_br h.G h.P) k
    obtain ⟨fc', P'⟩ := P.restrict (gr_wide (br_gr h.G) (by omega)) hg.sym fun u v e => by
      rw [br_iff]
      rcases aE_iff.mp e with e | e
      · rcases (h.ls _ e).2.2 with h1 | h1
        · exact .inl h1
        · cases h1; exact .inr (.inl ⟨rfl, rfl⟩)
      · rcases (h.ls _ e).2.2 with h1 | h1
        · exact .inl (h.G.symm h1)
        · cases h1; exact .inr (.inr ⟨rfl, rfl⟩)
    exact ⟨α, fc', P'⟩
  · obtain ⟨k, rfl⟩ : ∃ k, more = n + k := ⟨more - n, by have := h.le; omega⟩
    obtain ⟨α, fc, P⟩ := planar_wide h.G h.P k
    obtain ⟨fc', P'⟩ := P.restrict (gr_wide h.G (by omega)) hg.sym fun u v e => by
      rcases aE_iff.mp e with e | e
      · obtain ⟨h1, h2, h3 | h3⟩ := h.ls _ e
        · exact h3
        · cases h3; simp at h2; omega
      · obtain ⟨h1, h2, h3 | h3⟩ := h.ls _ e
        · exact h.G.symm h3
        · cases h3; simp at h2; omega
    exact ⟨α, fc', P'⟩
variable (h : LawG n more B ls g) (hts : ∀ t, t ∈ ts ↔ ∃ q ∈ ls, ∃ x y, g[q.1]? = some x ∧ g[q.2]? = some y ∧ t = mm (x, y))
include h hts
theorem LawG.adj {inv : Nat → Nat} (hi1 : ∀ i, i < more → inv i < more ∧ g[inv i]? = some i) (hi2 : ∀ k i, g[k]? = some i → inv i = k) {i j : Nat} : adj ts i j ↔ (i < more ∧ j < more) ∧ adj ls (inv i) (inv j) := by
  have key : ∀ i j, (i, j) ∈ ts → (i < more ∧ j < more) ∧ Wp.adj ls (inv i) (inv j) := fun i j hij => by
    obtain ⟨q, hq, x, y, hx, hy, e⟩ := (hts _).mp hij
    have hxm := h.mem.mp (List.mem_of_getElem? hx)
    have hym := h.mem.mp (List.mem_of_getElem? hy)
    simp only [mm, Prod.mk.injEq] at e
    by_cases hxy : x ≤ y
    · have e1 : i = x := by omega
      have e2 : j = y := by omega
      rw [e1, e2, hi2 _ _ hx, hi2 _ _ hy]
      exact ⟨⟨hxm, hym⟩, .inl hq⟩
    · have e1 : i = y := by omega
      have e2 : j = x := by omega
      rw [e1, e2, hi2 _ _ hx, hi2 _ _ hy]
      exact ⟨⟨hym, hxm⟩, .inr hq⟩
  constructor
  · rintro (e | e)
    · exact key i j e
    · have := key j i e
      exact ⟨this.1.symm, adj_symm this.2⟩
  · rintro ⟨⟨h1, h2⟩, e⟩
    have g1 := (hi1 i h1).2
    have g2 := (hi1 j h2).2
    have fin : ∀ a b, (a, b) ∈ ls → ∀ x y, g[a]? = some x → g[b]? = some y → Wp.adj ts x y := fun a b hab x y hx hy => by
      have : mm (x, y) ∈ ts := (hts _).mpr ⟨(a, b), hab, x, y, hx, hy, rfl⟩
      by_cases hxy : x ≤ y
      · have e : mm (x, y) = (x, y) := by simp only [mm, Prod.mk.injEq]; omega
        rw [e] at this; exact .inl this
      · have e : mm (x, y) = (y, x) := by simp only [mm, Prod.mk.injEq]; omega
        rw [e] at this; exact .inr this
    rcases e with e | e
    · exact fin _ _ e _ _ g1 g2
    · exact adj_symm (fin _ _ e _ _ g2 g1)
theorem LawG.lt : ∀ t ∈ ts, t.1 < t.2 ∧ t.2 < more := fun t ht => by
  obtain ⟨q, hq, x, y, hx, hy, e⟩ := (hts _).mp ht
  have hxm := h.mem.mp (List.mem_of_getElem? hx)
  have hym := h.mem.mp (List.mem_of_getElem? hy)
  have hxy : x ≠ y := fun e => by
    have := idx_uniq h.nd hx (e ▸ hy)
    have := (h.ls q hq).1
    omega
  rw [e]
  simp only [mm]
  omega
theorem LawG.planar : Planar more (aE ts) := by
  obtain ⟨inv, hi1, hi2⟩ := h.inv
  obtain ⟨α, fc, P⟩ := h.planar_ls
  have hg : Gr more (aE ls) := web_gr fun t ht => ⟨(h.ls t ht).1, (h.ls t ht).2.1⟩
  refine ⟨α, _, P.rename hg (k := more) (g := inv) (fun j hj => (hi1 j hj).1) (fun i j hi hj e => ?_) (web_gr (h.lt hts)) (fun i j hi hj => ?_) fun u v e => ?_⟩
  · have h1 := (hi1 i hi).2
    have h2 := (hi1 j hj).2
    rw [e, h2] at h1
    exact (Option.some.inj h1).symm
  · rw [Bool.eq_iff_iff, aE_iff, aE_iff, h.adj hts hi1 hi2]
    exact ⟨fun h => h.2, fun h => ⟨⟨hi, hj⟩, h⟩⟩
  · have hu := hg.bnd1 e
    have hu' : u < g.length := by rw [h.len]; exact hu
    have hx : g[u]? = some g[u] := List.getElem?_eq_getElem hu'
    exact ⟨g[u], h.mem.mp (List.mem_of_getElem? hx), hi2 _ _ hx⟩
end
end Wp
set_option maxHeartbeats 4000000
namespace Wp
open Wb
open PySem PySem.Spec PyProof.Rows L2
/-! counts -/
theorem nodup_map {α β : Type} {f : α → β} {l : List α} (h : l.Nodup) (hf : ∀ a ∈ l, ∀ b ∈ l, f a = f b → a = b) : (l.map f).Nodup := by
  induction l with
  | nil => simp
  | cons x l ih =>
    have hn := List.nodup_cons.mp h
    rw [List.map_cons, List.nodup_cons]
    refine ⟨fun hm => ?_, ih hn.2 fun a ha b hb => hf a (.tail _ ha) b (.tail _ hb)⟩
    obtain ⟨y, hy, e⟩ := List.mem_map.mp hm
    have := hf y (.tail _ hy) x (by simp) e
    rw [this] at hy
    exact hn.1 hy
theorem tot_darts {n : Nat} {B : E2} {D : List (Nat × Nat)} (nd : D.Nodup) (hD : ∀ u v, (u, v) ∈ D ↔ u < n ∧ v < n ∧ B u v = true) : ∀ k, k ≤ n → tot n B k = (D.filter fun t => decide (t.1 < k)).length
  | 0, _ => by
    show 0 = _
    rw [List.filter_eq_nil_iff.mpr (by simp)]; rfl
  | k + 1, hk => by
    have ih := tot_darts nd hD k (by omega)
    obtain ⟨l, h1, h2, h3⟩ := cnt_some (f := B k) (n := n)
    have e1 : (D.filter fun t => decide (t.1 = k)).length = cnt (B k) n := by
      rw [← h2]
      have p : ((D.filter fun t => decide (t.1 = k)).map Prod.snd).Perm l := by
        refine (List.perm_ext_iff_of_nodup (nodup_map (nd.filter _) fun a ha b hb e => ?_) h1).mpr fun x => ?_
        · have ha := (List.mem_filter.mp ha).2
          have hb := (List.mem_filter.mp hb).2
          simp at ha hb
          exact Prod.ext (ha.trans hb.symm) e
        · rw [h3, List.mem_map]
          constructor
          · rintro ⟨⟨u, v⟩, h4, rfl⟩
            have h5 := List.mem_filter.mp h4
            have h6 : u = k := by simpa using h5.2
            have h7 := (hD _ _).mp h5.1
            rw [h6] at h7
            exact ⟨h7.2.1, h7.2.2⟩
          · rintro ⟨h4, h5⟩
            exact ⟨(k, x), List.mem_filter.mpr ⟨(hD _ _).mpr ⟨by omega, h4, h5⟩, by simp⟩, rfl⟩
      have := p.length_eq
      rw [List.length_map] at this
      exact this
    have e2 : ∀ D : List (Nat × Nat), (D.filter fun t => decide (t.1 < k + 1)).length = (D.filter fun t => decide (t.1 < k)).length + (D.filter fun t => decide (t.1 = k)).length := fun D => by
      induction D with
      | nil => rfl
      | cons t D ih =>
        by_cases a : t.1 < k
        · rw [List.filter_cons_of_pos (by simp; omega), List.filter_cons_of_pos (by simpa using a), List.filter_cons_of_neg (by simp; omega), List.length_cons, List.length_cons, ih]; omega
        · by_cases b : t.1 = k
          · rw [List.filter_cons_of_pos (by simp; omega), List.filter_cons_of_neg (by simpa using a), List.filter_cons_of_pos (by simpa using b), List.length_cons, List.length_cons, ih]; omega
          · rw [List.filter_cons_of_neg (by simp; omega), List.filter_cons_of_neg (by simpa using a), List.filter_cons_of_neg (by simpa using b), ih]
    show tot n B k + cnt (B k) n = _
    rw [ih, e2, e1]
/-- how many ties -/
theorem tot_ties {n : Nat} {B : E2} (G : Gr n B) {F : List (Nat × Nat)} (nd : F.Nodup) (hF : ∀ t, t ∈ F ↔ t.1 < t.2 ∧ B t.1 t.2 = true) : tot n B n = 2 * F.length := by
  have nd2 : (F ++ F.map fun t => (t.2, t.1)).Nodup := by
    rw [List.nodup_append]
    refine ⟨nd, nodup_map nd fun a _ b _ e => ?_, fun x hx y hy e => ?_⟩
    · have e1 := congrArg Prod.fst e
      have e2 := congrArg Prod.snd e
      exact Prod.ext e2 e1
    · obtain ⟨z, hz, rfl⟩ := List.mem_map.mp hy
      have h1 := ((hF _).mp hx).1
      have h2 := ((hF _).mp hz).1
      rw [e] at h1
      simp at h1; omega
  rw [tot_darts nd2 (fun u v => ?_) n (Nat.le_refl n)]
  · rw [List.filter_eq_self.mpr fun t ht => ?_, List.length_append, List.length_map]
    · omega
    · simp only [decide_eq_true_eq]
      rcases List.mem_append.mp ht with h | h
      · exact G.bnd1 ((hF _).mp h).2
      · obtain ⟨z, hz, rfl⟩ := List.mem_map.mp h
        exact G.bnd2 ((hF _).mp hz).2
  · rw [List.mem_append, hF, List.mem_map]
    constructor
    · rintro (⟨h1, h2⟩ | ⟨z, hz, e⟩)
      · exact ⟨G.bnd1 h2, G.bnd2 h2, h2⟩
      · have hz := (hF _).mp hz
        have e1 := congrArg Prod.fst e
        have e2 := congrArg Prod.snd e
        simp only at e1 e2
        rw [← e1, ← e2]
        exact ⟨G.bnd2 hz.2, G.bnd1 hz.2, G.symm hz.2⟩
    · rintro ⟨_, _, h⟩
      by_cases hl : u < v
      · exact .inl ⟨hl, h⟩
      · have := G.ne h
        exact .inr ⟨(v, u), (hF _).mpr ⟨by simp; omega, G.symm h⟩, rfl⟩
theorem mm_inj {a b c d : Nat} (h : mm (a, b) = mm (c, d)) : (a = c ∧ b = d) ∨ (a = d ∧ b = c) := by
  simp only [mm, Prod.mk.injEq] at h
  omega
theorem pairs_le {us : List (Nat × Nat)} (nd : us.Nodup) {P : List (Nat × Nat)} (h : ∀ t ∈ us, t ∈ P) : us.length ≤ P.length := nd_sub_len nd h
theorem P56_mem (u : Nat) (hu : u < 5) (w : Nat) (hw : w < 5) (h : u < w) : (u, w) ∈ P56 true := by
  have h1 : u = 0 ∨ u = 1 ∨ u = 2 ∨ u = 3 := by omega
  have h2 : w = 1 ∨ w = 2 ∨ w = 3 ∨ w = 4 := by omega
  rcases h1 with rfl | rfl | rfl | rfl <;> rcases h2 with rfl | rfl | rfl | rfl <;> first | (exfalso; omega) | decide
theorem P4_mem (u : Nat) (w : Nat) (hw : w < 4) (h : u < w) : (u, w) ∈ [(0, 1), (0, 2), (0, 3), (1, 2), (1, 3), (2, 3)] := by
  have h1 : u = 0 ∨ u = 1 ∨ u = 2 := by omega
  have h2 : w = 1 ∨ w = 2 ∨ w = 3 := by omega
  rcases h1 with rfl | rfl | rfl <;> rcases h2 with rfl | rfl | rfl <;> first | (exfalso; omega) | decide
theorem P3_mem (u : Nat) (w : Nat) (hw : w < 3) (h : u < w) : (u, w) ∈ [(0, 1), (0, 2), (1, 2)] := by
  have h1 : u = 0 ∨ u = 1 := by omega
  have h2 : w = 1 ∨ w = 2 := by omega
  rcases h1 with rfl | rfl <;> rcases h2 with rfl | rfl <;> first | (exfalso; omega) | decide
/-- few ties in each part of the law's webs -/
theorem LawG.few {n more : Nat} {B : E2} {ls : List (Nat × Nat)} {g : List Nat} {ts : List (Nat × Nat)} (h : LawG n more B ls g) (hts : ∀ t, t ∈ ts ↔ ∃ q ∈ ls, ∃ x y, g[q.1]? = some x ∧ g[q.2]? = some y ∧ t = mm (x, y))
    (C : MC n B) {F : List (Nat × Nat)} (nd : F.Nodup) (hF : ∀ t, t ∈ F ↔ t.1 < t.2 ∧ B t.1 t.2 = true) : PartsFew more ts := fun p Pt h3 us und ult hus => by
  obtain ⟨inv, hi1, hi2⟩ := h.inv
  have hadj := fun i j => h.adj hts hi1 hi2 (i := i) (j := j)
  have hT := tot_ties h.G nd hF
  have hC := C.t
  have invj : ∀ i j, i < more → j < more → inv i = inv j → i = j := fun i j hi hj e => by
    have h1 := (hi1 i hi).2
    rw [e, (hi1 j hj).2] at h1
    exact (Option.some.inj h1).symm
  have old : ∀ u v, Wp.adj ls u v → (B u v = true) ∨ (u = n ∧ v = n + 1) ∨ (u = n + 1 ∧ v = n) := fun u v e => by
    rcases e with e | e
    · rcases (h.ls _ e).2.2 with h1 | h1
      · exact .inl h1
      · cases h1; exact .inr (.inl ⟨rfl, rfl⟩)
    · rcases (h.ls _ e).2.2 with h1 | h1
      · exact .inl (h.G.symm h1)
      · cases h1; exact .inr (.inr ⟨rfl, rfl⟩)
  -- all corners of the part are old ones
  have hS : ∀ x ∈ p, inv x < n := fun x hx => by
    refine Classical.byContradiction fun hn => ?_
    obtain ⟨y, hy⟩ := Pt.deg (by omega) x hx
    have hxn : inv x = n ∨ inv x = n + 1 := by
      rcases old _ _ ((hadj x y).mp hy).2 with h1 | h1 | h1
      · have := h.G.bnd1 h1; omega
      · exact .inl h1.1
      · exact .inr h1.1
    obtain ⟨c, hc, hcl⟩ := Pt.con
    have key := hcl (fun z => (inv z = n ∨ inv z = n + 1) ↔ (inv c = n ∨ inv c = n + 1)) Iff.rfl fun a b ha hab => by
      have := ((hadj a b).mp hab).2
      rw [← ha]
      rcases old _ _ this with h1 | h1 | h1
      · have h2 := h.G.bnd _ _ h1
        constructor <;> intro h3 <;> omega
      · constructor <;> intro h3 <;> omega
      · constructor <;> intro h3 <;> omega
    have hcn := (key x hx).mp hxn
    have := nd_sub_len (l := p.map inv) (m := [n, n + 1]) (nodup_map Pt.nd fun a ha b hb e => invj a b (Pt.lt a ha) (Pt.lt b hb) e) fun z hz => by
      obtain ⟨w, hw, rfl⟩ := List.mem_map.mp hz
      have := (key w hw).mpr hcn
      simpa using this
    rw [List.length_map] at this
    simp at this
    omega
  have pnd : (p.map inv).Nodup := nodup_map Pt.nd fun a ha b hb e => invj a b (Pt.lt a ha) (Pt.lt b hb) e
  have hpn : p.length ≤ n := by
    have := length_of pnd fun x hx => by
      obtain ⟨w, hw, rfl⟩ := List.mem_map.mp hx
      exact hS w hw
    rwa [List.length_map] at this
  have huk : ∀ t ∈ us, t.1 < t.2 ∧ t.2 < p.length := fun t ht => by
    refine ⟨ult t ht, ?_⟩
    obtain ⟨x, y, h1, h2, _⟩ := (hus t.1 t.2).mp (.inl ht)
    exact (List.getElem?_eq_some_iff.mp h2).1
  let φ : Nat × Nat → Nat × Nat := fun t => mm (inv (p.getD t.1 0), inv (p.getD t.2 0))
  have at_ : ∀ t ∈ us, ∃ x y, p[t.1]? = some x ∧ p[t.2]? = some y ∧ x ∈ p ∧ y ∈ p ∧ B (inv x) (inv y) = true ∧ φ t = mm (inv x, inv y) := fun t ht => by
    obtain ⟨x, y, h1, h2, h4⟩ := (hus t.1 t.2).mp (.inl ht)
    have hx := List.mem_of_getElem? h1
    have hy := List.mem_of_getElem? h2
    refine ⟨x, y, h1, h2, hx, hy, ?_, ?_⟩
    · rcases old _ _ ((hadj x y).mp h4).2 with h5 | h5 | h5
      · exact h5
      · have := hS x hx; omega
      · have := hS x hx; omega
    · simp only [φ, List.getD_eq_getElem?_getD, h1, h2, Option.getD_some]
  have mF : ∀ u v, B u v = true → mm (u, v) ∈ F := fun u v e => by
    rw [hF]
    have hne := h.G.ne e
    by_cases hl : u ≤ v
    · have e2 : mm (u, v) = (u, v) := by simp only [mm, Prod.mk.injEq]; omega
      rw [e2]; exact ⟨by simp; omega, e⟩
    · have e2 : mm (u, v) = (v, u) := by simp only [mm, Prod.mk.injEq]; omega
      rw [e2]; exact ⟨by simp; omega, h.G.symm e⟩
  have φnd : (us.map φ).Nodup := nodup_map und fun s hs t ht e => by
    obtain ⟨x, y, h1, h2, h4, h5, _, h6⟩ := at_ s hs
    obtain ⟨x', y', h1', h2', h4', h5', _, h6'⟩ := at_ t ht
    rw [h6, h6'] at e
    rcases mm_inj e with ⟨e1, e2⟩ | ⟨e1, e2⟩
    · have e1 := invj _ _ (Pt.lt _ h4) (Pt.lt _ h4') e1
      have e2 := invj _ _ (Pt.lt _ h5) (Pt.lt _ h5') e2
      rw [← e1] at h1'
      rw [← e2] at h2'
      exact Prod.ext (idx_uniq Pt.nd h1 h1') (idx_uniq Pt.nd h2 h2')
    · have e1 := invj _ _ (Pt.lt _ h4) (Pt.lt _ h5') e1
      have e2 := invj _ _ (Pt.lt _ h5) (Pt.lt _ h4') e2
      rw [← e1] at h2'
      rw [← e2] at h1'
      have a1 := idx_uniq Pt.nd h1 h2'
      have a2 := idx_uniq Pt.nd h2 h1'
      have := ult s hs
      have := ult t ht
      omega
  have φF : ∀ z ∈ us.map φ, z ∈ F := fun z hz => by
    obtain ⟨t, ht, rfl⟩ := List.mem_map.mp hz
    obtain ⟨x, y, _, _, _, _, hB, e⟩ := at_ t ht
    rw [e]; exact mF _ _ hB
  have hn7 := h.hi
  by_cases hk : p.length = n
  · have := pairs_le φnd φF
    rw [List.length_map] at this
    omega
  by_cases hk1 : p.length + 1 = n
  · obtain ⟨v, hv, hvn⟩ : ∃ v, v < n ∧ v ∉ p.map inv := Classical.byContradiction fun hno => by
      have := nd_sub_len (l := List.range n) (m := p.map inv) List.nodup_range fun v hv => Classical.byContradiction fun hm => hno ⟨v, List.mem_range.mp hv, hm⟩
      rw [List.length_range, List.length_map] at this
      omega
    obtain ⟨l, l1, l2, l3⟩ := cnt_some (f := B v) (n := n)
    have hd3 := C.d3 (by omega) v hv
    have nd2 : (us.map φ ++ l.map fun x => mm (v, x)).Nodup := by
      rw [List.nodup_append]
      refine ⟨φnd, nodup_map l1 fun a ha b hb e => ?_, fun x hx y hy e => ?_⟩
      · have ha := h.G.ne ((l3 a).mp ha).2
        rcases mm_inj e with ⟨_, e⟩ | ⟨_, e⟩
        · exact e
        · exact absurd e.symm ha
      · obtain ⟨t, ht, rfl⟩ := List.mem_map.mp hx
        obtain ⟨z, hz, rfl⟩ := List.mem_map.mp hy
        obtain ⟨x, y, _, _, hxp, hyp, _, e2⟩ := at_ t ht
        rw [e2] at e
        rcases mm_inj e with ⟨e, _⟩ | ⟨_, e⟩
        · exact hvn (List.mem_map.mpr ⟨x, hxp, e⟩)
        · exact hvn (List.mem_map.mpr ⟨y, hyp, e⟩)
    have := pairs_le nd2 fun z hz => by
      rcases List.mem_append.mp hz with h1 | h1
      · exact φF z h1
      · obtain ⟨x, hx, rfl⟩ := List.mem_map.mp h1
        exact mF v x ((l3 x).mp hx).2
    rw [List.length_append, List.length_map, List.length_map] at this
    omega
  have h345 : p.length = 3 ∨ p.length = 4 ∨ p.length = 5 := by omega
  rcases h345 with hl | hl | hl
  · have := pairs_le und (P := [(0, 1), (0, 2), (1, 2)]) fun t ht => by
      have := huk t ht
      rw [hl] at this
      exact P3_mem t.1 t.2 this.2 this.1
    rw [hl]
    simpa using this
  · have := pairs_le und (P := [(0, 1), (0, 2), (0, 3), (1, 2), (1, 3), (2, 3)]) fun t ht => by
      have := huk t ht
      rw [hl] at this
      exact P4_mem t.1 t.2 this.2 this.1
    rw [hl]
    simpa using this
  · have sub : ∀ t ∈ us, t ∈ P56 true := fun t ht => by
      have := huk t ht
      rw [hl] at this
      exact P56_mem t.1 (by omega) t.2 this.2 this.1
    rw [hl]
    by_cases hall : ∀ z ∈ P56 true, z ∈ us
    · exfalso
      obtain ⟨α, fc, P⟩ := planar_part (h.lt hts) Pt (h.planar hts)
      refine no_five (part_gr (h.lt hts) Pt) P (v := 0) (a := 1) (b := 2) (c := 3) (d := 4) (by decide) fun u w huw hu hw => ?_
      refine partE_iff.mpr ((hus u w).mp ?_)
      have hu5 : u < 5 := by simp at hu; omega
      have hw5 : w < 5 := by simp at hw; omega
      by_cases hlt : u < w
      · exact .inl (hall _ (P56_mem u hu5 w hw5 hlt))
      · exact .inr (hall _ (P56_mem w hw5 u hu5 (by omega)))
    · obtain ⟨z, hz, hzu⟩ : ∃ z, z ∈ P56 true ∧ z ∉ us := Classical.byContradiction fun hno => hall fun z hz => Classical.byContradiction fun hm => hno ⟨z, hz, hm⟩
      have := nd_sub_len (l := us) (m := (P56 true).erase z) und fun t ht => (List.mem_erase_of_ne (fun e : t = z => hzu (by rw [← e]; exact ht))).mpr (sub t ht)
      rw [List.length_erase_of_mem hz] at this
      simpa [P56] using this
end Wp
set_option maxHeartbeats 4000000
namespace Wp
open Wb
open PySem PySem.Spec PyProof.Rows L2
theorem pe_weak {X : Cx} {e : Expr} {te te2 : TE} (h : PE X e te) (hw : ∀ σ H Q, te2 σ H Q → te σ H Q) : PE X e te2 := ⟨fun pins s σ H Q I h' => h.run pins s σ H Q I (hw σ H Q h')⟩
theorem paired_perm {α β : Type} {R : α → β → Prop} {xs ys : List α} (p : xs.Perm ys) : ∀ {us : List β}, Paired R xs us → ∃ vs, Paired R ys vs ∧ vs.Perm us := by
  induction p with
  | nil =>
    intro us h
    cases h
    exact ⟨[], .nil, .refl _⟩
  | cons x _ ih =>
    intro us h
    cases h with
    | cons r h =>
      obtain ⟨vs, h1, h2⟩ := ih h
      exact ⟨_ :: vs, .cons r h1, h2.cons _⟩
  | swap x y l =>
    intro us h
    cases h with
    | cons r h =>
      cases h with
      | cons r' h => exact ⟨_, .cons r' (.cons r h), .swap _ _ _⟩
  | trans _ _ ih1 ih2 =>
    intro us h
    obtain ⟨vs, h1, h2⟩ := ih1 h
    obtain ⟨ws, h3, h4⟩ := ih2 h1
    exact ⟨ws, h3, h4.trans h2⟩
theorem paired_ivs : ∀ l : List Nat, Paired (fun v k => v = iv k) (ivs l) l
  | [] => .nil
  | k :: l => .cons rfl (paired_ivs l)
theorem ivs_paired : ∀ {xs : List V} {l : List Nat}, Paired (fun v k => v = iv k) xs l → xs = ivs l
  | _, _, .nil => rfl
  | _, _, .cons r h => by rw [ivs_paired h, r]; rfl
theorem ivs_perm {xs : List V} {l : List Nat} (p : xs.Perm (ivs l)) : ∃ g, xs = ivs g ∧ g.Perm l := by
  obtain ⟨g, h1, h2⟩ := paired_perm p.symm (paired_ivs l)
  exact ⟨g, ivs_paired h1, h2⟩
theorem TieV.keepP {H H' : Hp} {a : Addr} {v : V} {t : Nat × Nat} (h : TieV H v t) (hp : PotV H a) (g : SameX a H H') : TieV H' v t := by
  obtain ⟨p, e, h⟩ := h
  obtain ⟨_, _, _, _, _, ha⟩ := hp
  exact ⟨p, e, g _ _ (fun z => by rw [z, ha] at h; cases h) h⟩
theorem WebV.keepP {H H' : Hp} {a : Addr} {v : V} {n : Nat} {ts : List (Nat × Nat)} (h : WebV H v n ts) (hp : PotV H a) (g : SameX a H H') : WebV H' v n ts := by
  obtain ⟨p, t, vs, e, h1, h2, h3⟩ := h
  obtain ⟨_, _, _, _, _, ha⟩ := id hp
  exact ⟨p, t, vs, e, g _ _ (fun z => by rw [z, ha] at h1; cases h1) h1, g _ _ (fun z => by rw [z, ha] at h2; cases h2) h2, paired_mono (fun _ _ r => r.keepP hp g) h3⟩
/-- `!= []` of ties, of numbers -/
theorem neD_ties {K : PySem.W.Frag} {H : Hp} {p q : Addr} {ys : List V} {Q : VK} (hp : H p = some (.lst ys)) (hy : ∀ y ∈ ys, ∃ t, TieV H y t) (hq : H q = some (.lst [])) (h : Q (.bl (decide (ys ≠ []))) H) : rNeD K (.ref p) (.ref q) H Q := by
  obtain ⟨ts, hts⟩ := paired_of_mem hy
  refine ne_nil_ties hp hts hq ?_
  have e : decide (ts ≠ []) = decide (ys ≠ []) := by
    rw [decide_eq_decide]
    have := paired_len hts
    cases ts <;> cases ys <;> simp_all
  rw [e]; exact h
theorem neD_nats {K : PySem.W.Frag} {H : Hp} {p q : Addr} {ys : List V} {Q : VK} (hp : H p = some (.lst ys)) (hy : ∀ y ∈ ys, ∃ k : Nat, y = iv k) (hq : H q = some (.lst [])) (h : Q (.bl (decide (ys ≠ []))) H) : rNeD K (.ref p) (.ref q) H Q := by
  obtain ⟨l, hl⟩ := paired_of_mem hy
  have e := ivs_paired hl
  subst e
  refine ne_nil_ints hp hq ?_
  have e : decide (l ≠ []) = decide (ivs l ≠ []) := by
    rw [decide_eq_decide]
    cases l <;> simp [ivs]
  rw [e]; exact h
theorem rgV_range (n : Nat) : rgV 0 (n : Int) = ivs (List.range n) := by
  unfold rgV ivs
  rw [show ((n : Int) - 0).toNat = n by omega]
  refine List.map_congr_left fun i _ => ?_
  exact congrArg V.int (by omega)
theorem LawG.ok {n more : Nat} {B : E2} {ls : List (Nat × Nat)} {g : List Nat} {ts : List (Nat × Nat)} (h : LawG n more B ls g) (hts : ∀ t, t ∈ ts ↔ ∃ q ∈ ls, ∃ x y, g[q.1]? = some x ∧ g[q.2]? = some y ∧ t = mm (x, y)) (hs : ts.Pairwise ltT) (hl : ls.length ≤ 45) : WebOk more ts ∧ ts.length ≤ 45 := by
  have hlen : ts.length ≤ ls.length := by
    have := nd_sub_len (m := ls.map fun q => mm (g.getD q.1 0, g.getD q.2 0)) (nodup_srt hs) fun t ht => by
      obtain ⟨q, hq, x, y, hx, hy, e⟩ := (hts t).mp ht
      refine List.mem_map.mpr ⟨q, hq, ?_⟩
      simp only [List.getD_eq_getElem?_getD, hx, hy, Option.getD_some]
      exact e.symm
    rwa [List.length_map] at this
  have h1 := h.lo
  have h2 := h.le
  exact ⟨⟨by omega, h.m20, by omega, h.lt hts, hs⟩, by omega⟩
/-- five corners not all tied -/
theorem not_all_five {n : Nat} {ts : List (Nat × Nat)} (hlt : ∀ t ∈ ts, t.1 < t.2 ∧ t.2 < n) (h : Planar n (aE ts)) : ∃ q ∈ P56 true, q ∉ ts := by
  refine Classical.byContradiction fun hno => ?_
  have hall : ∀ q ∈ P56 true, q ∈ ts := fun q hq => Classical.byContradiction fun hm => hno ⟨q, hq, hm⟩
  obtain ⟨α, fc, P⟩ := h
  refine no_five (web_gr hlt) P (v := 0) (a := 1) (b := 2) (c := 3) (d := 4) (by decide) fun u w huw hu hw => aE_iff.mpr ?_
  have hu5 : u < 5 := by simp at hu; omega
  have hw5 : w < 5 := by simp at hw; omega
  by_cases hl : u < w
  · exact .inl (hall _ (P56_mem u hu5 w hw5 hl))
  · exact .inr (hall _ (P56_mem w hw5 u hu5 (by omega)))
theorem has_five {ts : List (Nat × Nat)} (h : ∀ q ∈ P56 true, q ∈ ts) : HasFive (aE ts) := by
  refine ⟨0, 1, 2, 3, 4, by decide, fun u w huw hu hw => aE_iff.mpr ?_⟩
  have hu5 : u < 5 := by simp at hu; omega
  have hw5 : w < 5 := by simp at hw; omega
  by_cases hl : u < w
  · exact .inl (h _ (P56_mem u hu5 w hw5 hl))
  · exact .inr (h _ (P56_mem w hw5 u hu5 (by omega)))
theorem planar_no_five {n : Nat} {B : E2} (G : Gr n B) (h : Planar n B) : ¬ HasFive B := by
  rintro ⟨v, a, b, c, d, h1, h2⟩
  obtain ⟨α, fc, P⟩ := h
  exact no_five G P h1 h2
end Wp
set_option maxHeartbeats 4000000
namespace Wp
open Wb
open PySem PySem.Spec PyProof.Rows L2
open C8 (Cal pe_c pe_gc)
/-- a part beside: none, or one tie -/
def tBeside : TE := fun σ H Q => ∃ (a : Addr) (n : Nat), σ[0]? = some (some (.ref a)) ∧ σ[1]? = some (some (iv n)) ∧ PotV H a ∧ ∀ H' bl ys bs, SameX a H H' → PotV H' a → bl ≠ a → H' bl = some (.lst ys) → Paired (TieV H') ys bs → (bs = [] ∨ bs = [(n, n + 1)]) → Q (.ref bl) H'
/-- a paper that is none -/
def BarV (H : Hp) (p : Addr) (us : List (Nat × Nat)) : Prop := ∃ (ha wa : Addr) (wv : List V) (five : Bool), H p = some (.tup [.str "barred", .str (w56 five), .ref ha, .ref wa]) ∧ H ha = some (.tup (ivs (h56 five))) ∧ H wa = some (.tup wv) ∧ (wv.length ≠ (P56 five).length ∨ (Paired (TieV H) wv (P56 five) ∧ ∃ q ∈ P56 five, q ∉ us))
section
variable {P : Program} {w : World} {K : PySem.W.Frag} {mg : Str → Option Value} {base : Heap}
def spLawRight : Sp := fun vs H Q _ => ∃ (a : Addr), vs = [.ref a] ∧ PotV H a ∧ ∀ H', Q (.bl true) H'
theorem k_law_right (A : At K mg "_law_right" s_law_right) (B : Bt mg) (C_law_draw : Cal P w K mg base 1 "_law_draw" spLawDraw []) (C_law_grown : Cal P w K mg base 2 "_law_grown" spLawGrown []) (C_law_exchanged : Cal P w K mg base 2 "_law_exchanged" spLawExchanged []) (C_law_ties : Cal P w K mg base 2 "_law_ties" spLawTies [])
    (C_law_mixed : Cal P w K mg base 2 "_law_mixed" (spLawMixed K) []) (C_law_pick : Cal P w K mg base 2 "_law_pick" spLawPick []) (C_law_web : Cal P w K mg base 1 "_law_web" spLawWeb []) (C_law_renamed : Cal P w K mg base 2 "_law_renamed" spLawRenamed [])
    (C_can_be_drawn : Cal P w K mg base 9 "can_be_drawn" spIsDrawable []) (C_barred_partK : CalK P w K mg base 10 "barred_part" spBarredOf ["web"]) (C_is_barred : Cal P w K mg base 8 "is_barred" spIsBarred []) : Cal P w K mg base 11 "_law_right" spLawRight [] := by
  refine mk A sc_law_right (fun _ _ _ _ _ _ us hl => match us, hl with | [_], _ => rfl) (fun vs H Q E h => ?_) (fun f cdv A outer s H vs Q E hr h => ?_)
  · obtain ⟨a, rfl, _⟩ := h
    rfl
  · obtain ⟨a, rfl, hp, q⟩ := h
    refine ⟨_, (pss_cons (ps_set (i := 1) sc_law_right.nd rfl (.inl rfl) (pe_op op_add pe_int (pe_c C_law_draw hr (by decide) (by rfl) (pa_cons (pv 0) (pa_cons pe_int pa_nil)))))
    (pss_cons (ps_set (i := 2) sc_law_right.nd rfl (.inl rfl) (pe_c C_law_grown hr (by decide) (by rfl) (pa_cons (pv 0) (pa_cons (pv 1) pa_nil))))
    (pss_cons (ps_for PassesOwn.never rfl (pi_range1 (by rfl) B.range (pa_cons (pe_c C_law_draw hr (by decide) (by rfl) (pa_cons (pv 0) (pa_cons pe_int pa_nil))) pa_nil)) (pg_name (i := 3) sc_law_right.nd rfl (.inl rfl))
      (pss_one (ps_set (i := 2) sc_law_right.nd rfl (.inl rfl) (pe_c C_law_exchanged hr (by decide) (by rfl) (pa_cons (pv 0) (pa_cons (pv 2) pa_nil))))))
    (pss_cons (ps_set (i := 4) sc_law_right.nd rfl (.inl rfl) (pe_c C_law_mixed hr (by decide) (by rfl) (pa_cons (pv 0) (pa_cons (pe_c C_law_ties hr (by decide) (by rfl) (pa_cons (pv 2) pa_nil)) pa_nil))))
    (pss_cons (ps_set (i := 5) sc_law_right.nd rfl (.inl rfl) (pe_slice sl_list (pv 4) (po_some (pe_c C_law_pick hr (by decide) (by rfl) (pa_cons (pv 0) (pa_cons (pe_lst (pa_cons pe_int (pa_cons pe_int (pa_cons pe_int (pa_cons pe_int (pa_cons pe_int (pa_cons (pe_callB call_len_seq (by rfl) B.len (by decide +kernel) (pa_cons (pv 4) pa_nil)) pa_nil))))))) pa_nil)))) po_none))
    (pss_cons (ps_set (i := 6) sc_law_right.nd rfl (.inl rfl) (pe_weak (te2 := tBeside) (pe_ifExp (pt_cmpR op_eq (pe_c C_law_draw hr (by decide) (by rfl) (pa_cons (pv 0) (pa_cons pe_int pa_nil))) pe_int (nomark _)) (pe_lst (pa_cons (pe_tup (pa_cons (pv 1) (pa_cons (pe_op op_add (pv 1) pe_int) pa_nil))) pa_nil)) (pe_lst pa_nil)) (fun σ H Q h => ?_)))
    (pss_cons (ps_set (i := 7) sc_law_right.nd rfl (.inl rfl) (pe_op op_add (pe_op op_add (pv 1) (pe_op op_mul pe_int (pe_callB call_len_seq (by rfl) B.len (by decide +kernel) (pa_cons (pv 6) pa_nil)))) (pe_c C_law_draw hr (by decide) (by rfl) (pa_cons (pv 0) (pa_cons pe_int pa_nil)))))
    (pss_cons (ps_set (i := 8) sc_law_right.nd rfl (.inl rfl) (pe_c C_law_mixed hr (by decide) (by rfl) (pa_cons (pv 0) (pa_cons (pe_listRg rfl (by rfl) B.list (prg_1 (by rfl) B.range (pv 7))) pa_nil))))
    (pss_cons (ps_set (i := 9) sc_law_right.nd rfl (.inr rfl) (pe_c C_law_renamed hr (by decide) (by rfl) (pa_cons (pe_c C_law_web hr (by decide) (by rfl) (pa_cons (pv 7) (pa_cons (pe_op op_cat (pv 5) (pv 6)) pa_nil))) (pa_cons (pv 8) pa_nil))))
    (pss_cons (ps_if (PW.pt (pw_or (pt_cmpR op_isnot_bl (pe_c C_can_be_drawn hr (by decide) (by rfl) (pa_cons (pv 9) pa_nil)) pe_bl (nomark _)) (pw_or1 (pt_cmpR op_notN (pe_cK0 C_barred_partK hr (by decide) (by rfl) (pk_cons (pv 9) pk_nil)) pe_non (nomark _)))))
      (pss_one (ps_ret pe_bl))
      pss_nil)
    (pss_cons (ps_set (i := 10) sc_law_right.nd rfl (.inl rfl) (pe_tupRg rfl (by rfl) B.tuple (prg_1 (by rfl) B.range pe_int)))
    (pss_cons (ps_setLc (i := 11) (own := [("_law_at", 14), ("_law_late", 15)]) (g := (gTup K 2 (gCons (gName 14) (gCons (gName 15) gNil)))) rfl sc_law_right.nd rfl rfl (sw_true rfl rfl rfl (by decide +kernel)) (pi_list (pe_lst (pa_cons (pe_tup (pa_cons pe_int (pa_cons pe_int pa_nil))) (pa_cons (pe_tup (pa_cons pe_int (pa_cons pe_int pa_nil))) (pa_cons (pe_tup (pa_cons pe_int (pa_cons pe_int pa_nil))) (pa_cons (pe_tup (pa_cons pe_int (pa_cons pe_int pa_nil))) (pa_cons (pe_tup (pa_cons pe_int (pa_cons pe_int pa_nil))) (pa_cons (pe_tup (pa_cons pe_int (pa_cons pe_int pa_nil))) (pa_cons (pe_tup (pa_cons pe_int (pa_cons pe_int pa_nil))) (pa_cons (pe_tup (pa_cons pe_int (pa_cons pe_int pa_nil))) (pa_cons (pe_tup (pa_cons pe_int (pa_cons pe_int pa_nil))) (pa_cons (pe_tup (pa_cons pe_int (pa_cons pe_int pa_nil))) pa_nil)))))))))))) (blkOk_by (N := ["_law_pot_here", "_law_many", "_law_rings", "_law_turn", "_law_ties_here", "_law_left", "_law_beside", "_law_more", "_law_names", "_law_web_here", "_law_heads", "_law_pairs", "_law_papers", "_law_full", "_law_at", "_law_late", "_law_paper"]) (sc := defScope s_law_right) (by decide +kernel)) (fun _ _ _ _ _ => (pg_tup rfl (pgs_cons (pg_name (i := 14) sc_law_right.nd rfl (.inl rfl) (.inr rfl)) (pgs_cons (pg_name (i := 15) sc_law_right.nd rfl (.inl rfl) (.inr rfl)) pgs_nil)))) (fun _ _ _ _ _ => pts_nil) (fun _ _ _ _ _ => (pe_tup (pa_cons (pv 14) (pa_cons (pv 15) pa_nil)))))
    (pss_cons (ps_set (i := 12) sc_law_right.nd rfl (.inl rfl) (pe_lst (pa_cons (pe_tup (pa_cons pe_str (pa_cons pe_str (pa_cons (pv 10) (pa_cons (pe_callTy call_tuple_of (by rfl) B.tuple (by decide +kernel) (pa_cons (pv 11) pa_nil)) pa_nil))))) (pa_cons (pe_tup (pa_cons pe_str (pa_cons pe_str (pa_cons (pv 10) (pa_cons (pe_tup pa_nil) pa_nil))))) (pa_cons (pe_tup (pa_cons pe_str (pa_cons pe_str (pa_cons (pe_tup (pa_cons pe_int (pa_cons pe_int (pa_cons pe_int (pa_cons pe_int (pa_cons pe_int (pa_cons pe_int pa_nil))))))) (pa_cons (pe_tup pa_nil) pa_nil))))) pa_nil)))))
    (pss_cons (ps_if (pt_val (pe_callB (cr_any rfl) (by rfl) B.any (by decide +kernel) (pa_cons (pe_lc (own := [("_law_paper", 16)]) rfl sc_law_right.nd (pi_list (pv 12)) (blkOk_by (N := ["_law_pot_here", "_law_many", "_law_rings", "_law_turn", "_law_ties_here", "_law_left", "_law_beside", "_law_more", "_law_names", "_law_web_here", "_law_heads", "_law_pairs", "_law_papers", "_law_full", "_law_at", "_law_late", "_law_paper"]) (sc := defScope s_law_right) (by decide +kernel)) (fun _ _ _ _ _ => (pg_name (i := 16) sc_law_right.nd rfl (.inl rfl) (.inr rfl))) (fun _ _ _ _ _ => pts_nil) (fun _ _ _ _ _ => (pe_c C_is_barred hr (by decide) (by rfl) (pa_cons (pv 9) (pa_cons (pv 16) pa_nil))))) pa_nil)))
      (pss_one (ps_ret pe_bl))
      pss_nil)
    (pss_cons (ps_set (i := 13) sc_law_right.nd rfl (.inl rfl) (pe_c C_law_renamed hr (by decide) (by rfl) (pa_cons (pe_c C_law_web hr (by decide) (by rfl) (pa_cons (pv 7) (pa_cons (pe_op op_cat (pv 4) (pv 6)) pa_nil))) (pa_cons (pv 8) pa_nil))))
    (pss_cons (ps_if (pt_cmpR op_isnot_bl (pe_c C_can_be_drawn hr (by decide) (by rfl) (pa_cons (pv 13) pa_nil)) pe_bl (nomark _))
      (pss_one (ps_ret pe_bl))
      pss_nil)
    (pss_one (ps_ret (pe_or (pe_cmpR op_lt (pv 7) pe_int (nomark _)) (pe_one (pe_cmpR op_is_bl (pe_c C_can_be_drawn hr (by decide) (by rfl) (pa_cons (pe_c C_law_web hr (by decide) (by rfl) (pa_cons (pv 7) (pa_cons (pe_op op_cat (pe_callTy call_list_of (by rfl) B.list (by decide +kernel) (pa_cons (pe_ix ix_tup (pv 9) pe_int (fun _ _ => rfl)) pa_nil)) (pv 11)) pa_nil))) pa_nil)) pe_bl (nomark _)))))))))))))))))))))), ?_⟩
    · obtain ⟨a, n, h0, h1, hp, q⟩ := h
      refine ⟨.ref a, h0, a, 3, rfl, by omega, by omega, hp, fun H1 d sx hp1 hd => ?_⟩
      refine ⟨rfl, decide (d = 0), congrArg V.bl ?_, ?_⟩
      · rw [Bool.eq_iff_iff, decide_eq_true_eq, decide_eq_true_eq]
        constructor
        · intro e; have := V.int.inj e; omega
        · intro e; rw [e]; rfl
      by_cases h3 : d = 0
      · rw [decide_eq_true h3]
        refine iteT ⟨iv n, h1, iv n, h1, n, 1, rfl, rfl, by show 2 ≤ sizeLine; decide, fun t ht => ?_⟩
        have s2 := same_upd (o := .tup [iv n, iv (n + 1)]) ht
        have ht2 : TieV (upd H1 t (.tup [iv n, iv (n + 1)])) (.ref t) (n, n + 1) := ⟨t, rfl, upd_same⟩
        refine ⟨by show 1 ≤ sizeLine; decide, fun l hl => ?_⟩
        have s3 := same_upd (o := .lst [.ref t]) hl
        exact q _ l [.ref t] [(n, n + 1)] (SameX.trans sx (Same.x (Same.trans s2 s3))) (hp1.keep (Same.trans s2 s3)) ((hp1.keep s2).ne hl) upd_same (.cons (ht2.keep (Same.tups s3)) .nil) (.inr rfl)
      · rw [decide_eq_false h3]
        refine iteF ⟨by show 0 ≤ sizeLine; omega, fun l hl => ?_⟩
        exact q _ l [] [] (SameX.trans sx (Same.x (same_upd hl))) (hp1.keep (same_upd hl)) (hp1.ne hl) upd_same .nil (.inl rfl)
    refine ⟨.ref a, rfl, a, 5, rfl, by omega, by omega, hp, fun H1 d1 sx1 hp1 hd1 => ⟨3, d1, rfl, rfl, ?_⟩⟩
    obtain ⟨n, hn⟩ : ∃ n, n = 3 + d1 := ⟨_, rfl⟩
    have en : iv n = V.int (3 + (d1 : Int)) := congrArg V.int (by omega)
    refine ⟨.ref a, rfl, iv (3 + d1), rfl, a, 3 + d1, rfl, by omega, by omega, hp1, fun H2 l2 xs2 L2 B2 sx2 hp2 hl2a hl2 hxs2 M2 C2 hL2 => ?_⟩
    rw [← hn] at M2 C2 hL2
    have sx12 := SameX.trans sx1 sx2
    refine ⟨.ref a, rfl, a, 3, rfl, by omega, by omega, hp2, fun H3 d3 sx3 hp3 hd3 => ⟨d3, rfl, by omega, by omega, ?_⟩⟩
    rw [Int.toNat_natCast]
    refine for_it walk_range (fun i σ H' => (∃ x3 l xs L B, σ = [some (.ref a), some (iv (3 + d1)), some (.ref l), x3, none, none, none, none, none, none, none, none, none, none, none, none, none] ∧ PotV H' a ∧ l ≠ a ∧ H' l = some (.lst xs) ∧ Paired (TriV H') xs L ∧ MInv n B L ∧ MC n B ∧ 0 < L.length ∧ L.length ≤ 2 * n + 2 * i))
      ⟨none, l2, xs2, L2, B2, rfl, hp3, hl2a, sx3 _ _ hl2a hl2, paired_mono (fun _ _ r => r.keepP hp2 sx3) hxs2, M2, C2, by omega, by omega⟩ (fun i σ H' _ h => trivial) (fun i x σ H' H'' hi h hx => ?_) (fun σ H4 h => ?_)
    · obtain ⟨x3, l, xs, L, Bg, rfl, hp', hla, hl, hxs, M, C, hL0, hLl⟩ := h
      obtain ⟨rfl, _⟩ := hx
      refine ⟨.ref a, rfl, .ref l, rfl, a, l, n, xs, L, Bg, rfl, hp', hla, hl, hxs, M, C, hL0, by omega, fun H5 l' xs' L' B' sx5 hp5 hla' hl' hxs' M' C' hL0' hLl' => ?_⟩
      exact ⟨_, l', xs', L', B', rfl, hp5, hla', hl', hxs', M', C', hL0', by omega⟩
    · obtain ⟨x3, l, xs, L, Bg, rfl, hp4, hla, hl, hxs, M, C, hL0, hLl⟩ := h
      refine ⟨.ref a, rfl, .ref l, rfl, l, xs, L, rfl, hl, hxs, by omega, fun H5 fl ys us s5 hfl hfl5 hys hund hum => ?_⟩
      have hp5 := hp4.keep s5
      have hF : ∀ t, t ∈ us ↔ t.1 < t.2 ∧ Bg t.1 t.2 = true := fun t => by
        rw [hum]
        constructor
        · rintro ⟨r, hr, u, v, htd, rfl⟩
          have hB := (M.iff u v).mpr ⟨r, hr, htd⟩
          have hne := M.gr.ne hB
          by_cases hle : u ≤ v
          · have e2 : mm (u, v) = (u, v) := by simp only [mm, Prod.mk.injEq]; omega
            rw [e2]; exact ⟨by simp; omega, hB⟩
          · have e2 : mm (u, v) = (v, u) := by simp only [mm, Prod.mk.injEq]; omega
            rw [e2]; exact ⟨by simp; omega, M.gr.symm hB⟩
        · rintro ⟨h1, h2⟩
          obtain ⟨r, hr, htd⟩ := (M.iff _ _).mp h2
          refine ⟨r, hr, _, _, htd, ?_⟩
          simp only [mm]
          exact Prod.ext (by show t.1 = min t.1 t.2; omega) (by show t.2 = max t.1 t.2; omega)
      have hTot := tot_ties M.gr hund hF
      have hCt := C.t
      have hyl := paired_len hys
      refine ⟨a, fl, ys, rfl, hp5, hfl5, hp4.ne hfl, by omega, fun H' p q ys' Q' sx h1 h2 h3 h4 => neD_ties h1 (fun y hy => by
        obtain ⟨t, _, r⟩ := paired_mem hys (h2 y hy)
        exact ⟨t, r.keepP hp5 sx⟩) h3 h4, fun H6 lm zs sx6 hp6 hlm hlm6 hperm => ?_⟩
      obtain ⟨ms, hms5, hmp⟩ := paired_perm hperm.symm hys
      have hms6 : Paired (TieV H6) zs ms := paired_mono (fun _ _ r => r.keepP hp5 sx6) hms5
      have hlma := hp5.ne hlm
      have hml := hmp.length_eq
      have hzl := paired_len hms6
      have hmm : ∀ t, t ∈ ms ↔ t ∈ us := fun t => hmp.mem_iff
      -- left out
      refine ⟨.ref lm, rfl, .ref a, rfl, .ref lm, rfl, lm, _, rfl, .inl (lq hlm6), by show 6 ≤ sizeLine; decide, fun q1 hq1 => ?_⟩
      have s7 := same_upd (o := .lst [.int 0, .int 0, .int 1, .int 3, .int 5, .int (zs.length : Nat)]) hq1
      refine ⟨a, q1, _, rfl, hp6.keep s7, upd_same, hp6.ne hq1, by simp, by simp, fun H8 x sx8 hp8 hx => ?_⟩
      have hp7 := hp6.keep s7
      have hlm8 := sx8 _ _ hlma (s7 _ _ hlm6)
      have hms8 : Paired (TieV H8) zs ms := paired_mono (fun _ _ r => (r.keep (Same.tups s7)).keepP hp7 sx8) hms6
      obtain ⟨k, rfl⟩ : ∃ k : Nat, x = iv k := by
        simp only [List.mem_cons, List.not_mem_nil, or_false] at hx
        rcases hx with rfl | rfl | rfl | rfl | rfl | rfl
        · exact ⟨0, rfl⟩
        · exact ⟨0, rfl⟩
        · exact ⟨1, rfl⟩
        · exact ⟨3, rfl⟩
        · exact ⟨5, rfl⟩
        · exact ⟨_, rfl⟩
      refine ⟨(k : Int), rfl, lm, zs, rfl, lq hlm8, fun c hc => ?_⟩
      rw [cut_from]
      have s9 := same_upd (o := .lst (zs.drop k)) hc
      have hc9 : upd H8 c (.lst (zs.drop k)) c = some (.lst (zs.drop k)) := upd_same
      have hca := hp8.ne hc
      generalize upd H8 c (.lst (zs.drop k)) = H9 at s9 hc9 ⊢
      have hp9 := hp8.keep s9
      have hlm9 := s9 _ _ hlm8
      have hms9 : Paired (TieV H9) zs ms := paired_mono (fun _ _ r => r.keep (Same.tups s9)) hms8
      -- beside
      refine ⟨a, 3 + d1, rfl, rfl, hp9, fun H10 bl bys bs sx10 hp10 hbla hbl hbp hbs => ?_⟩
      have hbyl := paired_len hbp
      rw [← hn] at hbs
      refine ⟨iv (3 + d1), rfl, .ref bl, rfl, bl, _, rfl, .inl (lq hbl), 2, _, rfl, rfl, .inl ⟨by decide, by decide⟩, _, _, rfl, rfl, .ref a, rfl, a, 2, rfl, by omega, by omega, hp10, fun H11 d11 sx11 hp11 hd11 => ⟨_, _, rfl, rfl, ?_⟩⟩
      obtain ⟨mo, hmo⟩ : ∃ mo, mo = 3 + d1 + 2 * bys.length + d11 := ⟨_, rfl⟩
      have hbs1 : bs.length ≤ 1 := by rcases hbs with rfl | rfl <;> simp
      have hmo10 : mo ≤ 10 := by omega
      -- names
      refine ⟨.ref a, rfl, iv (3 + d1 + 2 * bys.length + d11), rfl, ((3 + d1 + 2 * bys.length + d11 : Nat) : Int), rfl, RgOk.of_le (by omega) (by omega) (by omega) (by omega), fun q2 hq2 => ?_⟩
      rw [← hmo, rgV_range]
      have s12 := same_upd (o := .lst (ivs (List.range mo))) hq2
      have hq12 : upd H11 q2 (.lst (ivs (List.range mo))) q2 = some (.lst (ivs (List.range mo))) := upd_same
      have hq2a := hp11.ne hq2
      generalize upd H11 q2 (.lst (ivs (List.range mo))) = H12 at s12 hq12 ⊢
      have hp12 := hp11.keep s12
      refine ⟨a, q2, _, rfl, hp12, hq12, hq2a, by simp [ivs]; omega, fun H' p q ys' Q' sx h1 h2 h3 h4 => neD_nats h1 (fun y hy => by
        obtain ⟨k', _, rfl⟩ := List.mem_map.mp (h2 y hy)
        exact ⟨k', rfl⟩) h3 h4, fun H13 lg gs sx13 hp13 hlg hlg13 hgp => ?_⟩
      obtain ⟨g, rfl, hg⟩ := ivs_perm hgp
      have hca13 : H13 c = some (.lst (zs.drop k)) := sx13 _ _ hca (s12 _ _ (sx11 _ _ hca (sx10 _ _ hca hc9)))
      have hbl13 : H13 bl = some (.lst bys) := sx13 _ _ hbla (s12 _ _ (sx11 _ _ hbla hbl))
      have hlm13 : H13 lm = some (.lst zs) := sx13 _ _ hlma (s12 _ _ (sx11 _ _ hlma (sx10 _ _ hlma hlm9)))
      have hms13 : Paired (TieV H13) zs ms := paired_mono (fun _ _ r => (((r.keepP hp9 sx10).keepP hp10 sx11).keep (Same.tups s12)).keepP hp12 sx13) hms9
      have hbs13 : Paired (TieV H13) bys bs := paired_mono (fun _ _ r => ((r.keepP hp10 sx11).keep (Same.tups s12)).keepP hp12 sx13) hbp
      have lawg : ∀ ts : List (Nat × Nat), (∀ t ∈ ts, t ∈ us ∨ t ∈ bs) → LawG n mo Bg ts g := fun ts h =>
        ⟨M.gr, ⟨_, _, M.plane⟩, by omega, by omega, by omega, by omega, fun t ht => by
          rcases h t ht with h1 | h1
          · obtain ⟨h2, h3⟩ := (hF t).mp h1
            have := M.gr.bnd2 h3
            exact ⟨h2, by omega, .inl h3⟩
          · rcases hbs with h2 | h2
            · rw [h2] at h1; cases h1
            · rw [h2] at h1 hbyl
              simp at h1 hbyl
              rw [h1]
              exact ⟨by simp, by simp; omega, .inr rfl⟩, hg⟩
      -- the web
      refine ⟨iv (3 + d1 + 2 * bys.length + d11), rfl, .ref c, rfl, .ref bl, rfl, c, bl, _, _, rfl, rfl, hca13, hbl13, by rw [sizeLine_eq, List.length_drop]; omega, fun q3 hq3 => ?_⟩
      have s14 := same_upd (o := .lst (zs.drop k ++ bys)) hq3
      refine ⟨3 + d1 + 2 * bys.length + d11, q3, _, ms.drop k ++ bs, rfl, upd_same, paired_mono (fun _ _ r => r.keep (Same.tups s14)) (paired_app (paired_drop k hms13) hbs13), by rw [List.length_append, List.length_drop]; omega, fun H15 v1 ts1 s15 hw1 hs1 hm1 => ?_⟩
      rw [← hmo] at hw1
      have s1315 := Same.trans s14 s15
      have L1 := lawg ts1 fun t ht => by
        rcases List.mem_append.mp ((hm1 t).mp ht) with h1 | h1
        · exact .inl ((hmm t).mp (List.mem_of_mem_drop h1))
        · exact .inr h1
      have hts1 : ts1.length ≤ 45 := by
        have := nd_sub_len (nodup_srt hs1) fun t ht => (hm1 t).mp ht
        rw [List.length_append, List.length_drop] at this
        omega
      have hgl := L1.len
      refine ⟨.ref lg, rfl, v1, lg, mo, ts1, g, rfl, hw1, s1315 _ _ hlg13, by omega, fun t ht => by have := L1.ls t ht; omega, fun H16 v2 us2 s16 hw2 hs2 hm2 => ?_⟩
      obtain ⟨ok2, hl2b⟩ := L1.ok hm2 hs2 hts1
      have Pl2 := L1.planar hm2
      have Fw2 := L1.few hm2 C hund hF
      have s1316 := Same.trans s1315 s16
      refine ⟨v2, rfl, v2, mo, us2, rfl, hw2, ok2, fun H17 s17 _ => ?_, fun H17 s17 hn => absurd ⟨Pl2, Fw2⟩ hn⟩
      refine ⟨true, true, rfl, rfl, false, rfl, iteF ?_⟩
      refine ⟨v2, rfl, v2, mo, us2, rfl, hw2.keep (Same.tups s17), ok2, Pl2, Fw2, fun H18 s18 => ?_⟩
      refine ⟨rfl, false, rfl, iteF ?_⟩
      have s1618 := Same.trans s17 s18
      have s1318 := Same.trans s1316 s1618
      -- heads
      refine ⟨5, rfl, RgOk.of_le (by omega) (by omega) (by omega) (by omega), fun h0 hh0 => ?_⟩
      have s18b := same_upd (o := .tup (rgV 0 5)) hh0
      have hh1 : upd H18 h0 (.tup (rgV 0 5)) h0 = some (.tup (ivs [0, 1, 2, 3, 4])) := upd_same
      generalize upd H18 h0 (.tup (rgV 0 5)) = H18b at s18b hh1 ⊢
      -- pairs
      refine ⟨by show 2 ≤ sizeLine; decide, fun t1 ht1 => ?_⟩
      have r1 := same_upd (o := .tup [.int 0, .int 1]) ht1
      have e1 : TieV (upd H18b t1 (.tup [.int 0, .int 1])) (.ref t1) (0, 1) := ⟨t1, rfl, upd_same⟩
      generalize upd H18b t1 (.tup [.int 0, .int 1]) = G1 at r1 e1 ⊢
      refine ⟨by show 2 ≤ sizeLine; decide, fun t2 ht2 => ?_⟩
      have r2 := same_upd (o := .tup [.int 0, .int 2]) ht2
      have e2 : TieV (upd G1 t2 (.tup [.int 0, .int 2])) (.ref t2) (0, 2) := ⟨t2, rfl, upd_same⟩
      generalize upd G1 t2 (.tup [.int 0, .int 2]) = G2 at r2 e2 ⊢
      refine ⟨by show 2 ≤ sizeLine; decide, fun t3 ht3 => ?_⟩
      have r3 := same_upd (o := .tup [.int 0, .int 3]) ht3
      have e3 : TieV (upd G2 t3 (.tup [.int 0, .int 3])) (.ref t3) (0, 3) := ⟨t3, rfl, upd_same⟩
      generalize upd G2 t3 (.tup [.int 0, .int 3]) = G3 at r3 e3 ⊢
      refine ⟨by show 2 ≤ sizeLine; decide, fun t4 ht4 => ?_⟩
      have r4 := same_upd (o := .tup [.int 0, .int 4]) ht4
      have e4 : TieV (upd G3 t4 (.tup [.int 0, .int 4])) (.ref t4) (0, 4) := ⟨t4, rfl, upd_same⟩
      generalize upd G3 t4 (.tup [.int 0, .int 4]) = G4 at r4 e4 ⊢
      refine ⟨by show 2 ≤ sizeLine; decide, fun t5 ht5 => ?_⟩
      have r5 := same_upd (o := .tup [.int 1, .int 2]) ht5
      have e5 : TieV (upd G4 t5 (.tup [.int 1, .int 2])) (.ref t5) (1, 2) := ⟨t5, rfl, upd_same⟩
      generalize upd G4 t5 (.tup [.int 1, .int 2]) = G5 at r5 e5 ⊢
      refine ⟨by show 2 ≤ sizeLine; decide, fun t6 ht6 => ?_⟩
      have r6 := same_upd (o := .tup [.int 1, .int 3]) ht6
      have e6 : TieV (upd G5 t6 (.tup [.int 1, .int 3])) (.ref t6) (1, 3) := ⟨t6, rfl, upd_same⟩
      generalize upd G5 t6 (.tup [.int 1, .int 3]) = G6 at r6 e6 ⊢
      refine ⟨by show 2 ≤ sizeLine; decide, fun t7 ht7 => ?_⟩
      have r7 := same_upd (o := .tup [.int 1, .int 4]) ht7
      have e7 : TieV (upd G6 t7 (.tup [.int 1, .int 4])) (.ref t7) (1, 4) := ⟨t7, rfl, upd_same⟩
      generalize upd G6 t7 (.tup [.int 1, .int 4]) = G7 at r7 e7 ⊢
      refine ⟨by show 2 ≤ sizeLine; decide, fun t8 ht8 => ?_⟩
      have r8 := same_upd (o := .tup [.int 2, .int 3]) ht8
      have e8 : TieV (upd G7 t8 (.tup [.int 2, .int 3])) (.ref t8) (2, 3) := ⟨t8, rfl, upd_same⟩
      generalize upd G7 t8 (.tup [.int 2, .int 3]) = G8 at r8 e8 ⊢
      refine ⟨by show 2 ≤ sizeLine; decide, fun t9 ht9 => ?_⟩
      have r9 := same_upd (o := .tup [.int 2, .int 4]) ht9
      have e9 : TieV (upd G8 t9 (.tup [.int 2, .int 4])) (.ref t9) (2, 4) := ⟨t9, rfl, upd_same⟩
      generalize upd G8 t9 (.tup [.int 2, .int 4]) = G9 at r9 e9 ⊢
      refine ⟨by show 2 ≤ sizeLine; decide, fun t10 ht10 => ?_⟩
      have r10 := same_upd (o := .tup [.int 3, .int 4]) ht10
      have e10 : TieV (upd G9 t10 (.tup [.int 3, .int 4])) (.ref t10) (3, 4) := ⟨t10, rfl, upd_same⟩
      generalize upd G9 t10 (.tup [.int 3, .int 4]) = G10 at r10 e10 ⊢
      refine ⟨by show 10 ≤ sizeLine; decide, fun l10 hl10 => ?_⟩
      have rl := same_upd (o := .lst [.ref t1, .ref t2, .ref t3, .ref t4, .ref t5, .ref t6, .ref t7, .ref t8, .ref t9, .ref t10]) hl10
      have hl10' : upd G10 l10 (.lst [.ref t1, .ref t2, .ref t3, .ref t4, .ref t5, .ref t6, .ref t7, .ref t8, .ref t9, .ref t10]) l10 = some (.lst [.ref t1, .ref t2, .ref t3, .ref t4, .ref t5, .ref t6, .ref t7, .ref t8, .ref t9, .ref t10]) := upd_same
      have hP10 : Paired (TieV (upd G10 l10 (.lst [.ref t1, .ref t2, .ref t3, .ref t4, .ref t5, .ref t6, .ref t7, .ref t8, .ref t9, .ref t10]))) [.ref t1, .ref t2, .ref t3, .ref t4, .ref t5, .ref t6, .ref t7, .ref t8, .ref t9, .ref t10] (P56 true) := .cons (e1.keep (Same.tups (Same.trans r2 (Same.trans r3 (Same.trans r4 (Same.trans r5 (Same.trans r6 (Same.trans r7 (Same.trans r8 (Same.trans r9 (Same.trans r10 rl))))))))))) (.cons (e2.keep (Same.tups (Same.trans r3 (Same.trans r4 (Same.trans r5 (Same.trans r6 (Same.trans r7 (Same.trans r8 (Same.trans r9 (Same.trans r10 rl)))))))))) (.cons (e3.keep (Same.tups (Same.trans r4 (Same.trans r5 (Same.trans r6 (Same.trans r7 (Same.trans r8 (Same.trans r9 (Same.trans r10 rl))))))))) (.cons (e4.keep (Same.tups (Same.trans r5 (Same.trans r6 (Same.trans r7 (Same.trans r8 (Same.trans r9 (Same.trans r10 rl)))))))) (.cons (e5.keep (Same.tups (Same.trans r6 (Same.trans r7 (Same.trans r8 (Same.trans r9 (Same.trans r10 rl))))))) (.cons (e6.keep (Same.tups (Same.trans r7 (Same.trans r8 (Same.trans r9 (Same.trans r10 rl)))))) (.cons (e7.keep (Same.tups (Same.trans r8 (Same.trans r9 (Same.trans r10 rl))))) (.cons (e8.keep (Same.tups (Same.trans r9 (Same.trans r10 rl)))) (.cons (e9.keep (Same.tups (Same.trans r10 rl))) (.cons (e10.keep (Same.tups rl)) (.nil))))))))))
      have r1l := (Same.trans r1 (Same.trans r2 (Same.trans r3 (Same.trans r4 (Same.trans r5 (Same.trans r6 (Same.trans r7 (Same.trans r8 (Same.trans r9 (Same.trans r10 rl))))))))))
      generalize upd G10 l10 (.lst [.ref t1, .ref t2, .ref t3, .ref t4, .ref t5, .ref t6, .ref t7, .ref t8, .ref t9, .ref t10]) = H19 at rl hl10' hP10 r1l ⊢
      generalize hxsl : [V.ref t1, .ref t2, .ref t3, .ref t4, .ref t5, .ref t6, .ref t7, .ref t8, .ref t9, .ref t10] = xs10 at hl10' hP10
      have hx10 : xs10.length = 10 := by rw [← hxsl]; rfl
      clear hxsl
      refine ⟨l10, rfl, ⟨_, lq hl10'⟩, fun D hD => ?_⟩
      refine lc0 (walk_list (K := K) (a := l10) (xs := xs10)) (fun i H' => Same H19 H' ∧ ∃ zs, H' D = some (.lst zs) ∧ Paired (TieV H') zs ((P56 true).take i)) ⟨same_upd hD, [], upd_same, .nil⟩ (fun i H' _ h => lq (h.1 _ _ hl10')) (fun i x H' H'' hi h hx => ?_) (fun H20 h => ?_)
      · obtain ⟨s20, zs', hz, hzp⟩ := h
        obtain ⟨rfl, hx⟩ := hx
        obtain ⟨t, ht, r⟩ := paired_get hP10 hx
        obtain ⟨pp, rfl, hpp⟩ := r.keep (Same.tups s20)
        have hzl' := paired_len hzp
        rw [List.length_take] at hzl'
        refine ⟨pp, _, rfl, tq hpp, rfl, iv t.1, _, rfl, iv t.2, [], rfl, rfl, rfl, iv t.1, rfl, iv t.2, rfl, by show 2 ≤ sizeLine; decide, fun z hz' => ?_⟩
        have sz := same_upd (o := .tup [iv t.1, iv t.2]) hz'
        have hzt : TieV (upd H'' z (.tup [iv t.1, iv t.2])) (.ref z) t := ⟨z, rfl, upd_same⟩
        generalize upd H'' z (.tup [iv t.1, iv t.2]) = H21 at sz hzt ⊢
        have hz2 := sz _ _ hz
        refine ⟨zs', hz2, small1000 (by omega), same_list hD (Same.trans s20 sz), zs' ++ [.ref z], upd_same, ?_⟩
        rw [List.take_add_one, ht]
        exact paired_snoc (paired_mono (fun _ _ r => (r.keep (Same.tups sz)).keepL hz2) hzp) (hzt.keepL hz2)
      · obtain ⟨s20, zs', hz, hzp⟩ := h
        rw [hx10, show (P56 true).take 10 = P56 true from rfl] at hzp
        have s1820 := Same.trans s18b (Same.trans r1l s20)
        have hh20 := s20 _ _ (r1l _ _ hh1)
        -- papers
        refine ⟨.ref h0, rfl, .ref D, rfl, D, _, rfl, .inl ⟨lq hz, fun w1 hw1' => ?_⟩⟩
        have a1 := same_upd (o := .tup zs') hw1'
        have b1 : upd H20 w1 (.tup zs') w1 = some (.tup zs') := upd_same
        generalize upd H20 w1 (.tup zs') = A1 at a1 b1 ⊢
        refine ⟨by show 4 ≤ sizeLine; decide, fun p1 hp1' => ?_⟩
        have a2 := same_upd (o := .tup [.str "barred", .str "five", .ref h0, .ref w1]) hp1'
        have b2 : upd A1 p1 (.tup [.str "barred", .str "five", .ref h0, .ref w1]) p1 = some (.tup [.str "barred", .str "five", .ref h0, .ref w1]) := upd_same
        generalize upd A1 p1 (.tup [.str "barred", .str "five", .ref h0, .ref w1]) = A2 at a2 b2 ⊢
        refine ⟨.ref h0, rfl, by show 0 ≤ sizeLine; omega, fun w2 hw2' => ?_⟩
        have a3 := same_upd (o := .tup []) hw2'
        have b3 : upd A2 w2 (.tup []) w2 = some (.tup []) := upd_same
        generalize upd A2 w2 (.tup []) = A3 at a3 b3 ⊢
        refine ⟨by show 4 ≤ sizeLine; decide, fun p2 hp2' => ?_⟩
        have a4 := same_upd (o := .tup [.str "barred", .str "five", .ref h0, .ref w2]) hp2'
        have b4 : upd A3 p2 (.tup [.str "barred", .str "five", .ref h0, .ref w2]) p2 = some (.tup [.str "barred", .str "five", .ref h0, .ref w2]) := upd_same
        generalize upd A3 p2 (.tup [.str "barred", .str "five", .ref h0, .ref w2]) = A4 at a4 b4 ⊢
        refine ⟨by show 6 ≤ sizeLine; decide, fun h3 hh3 => ?_⟩
        have a5 := same_upd (o := .tup [.int 0, .int 1, .int 2, .int 3, .int 4, .int 5]) hh3
        have b5 : upd A4 h3 (.tup [.int 0, .int 1, .int 2, .int 3, .int 4, .int 5]) h3 = some (.tup (ivs [0, 1, 2, 3, 4, 5])) := upd_same
        generalize upd A4 h3 (.tup [.int 0, .int 1, .int 2, .int 3, .int 4, .int 5]) = A5 at a5 b5 ⊢
        refine ⟨by show 0 ≤ sizeLine; omega, fun w3 hw3' => ?_⟩
        have a6 := same_upd (o := .tup []) hw3'
        have b6 : upd A5 w3 (.tup []) w3 = some (.tup []) := upd_same
        generalize upd A5 w3 (.tup []) = A6 at a6 b6 ⊢
        refine ⟨by show 4 ≤ sizeLine; decide, fun p3 hp3' => ?_⟩
        have a7 := same_upd (o := .tup [.str "barred", .str "wells", .ref h3, .ref w3]) hp3'
        have b7 : upd A6 p3 (.tup [.str "barred", .str "wells", .ref h3, .ref w3]) p3 = some (.tup [.str "barred", .str "wells", .ref h3, .ref w3]) := upd_same
        generalize upd A6 p3 (.tup [.str "barred", .str "wells", .ref h3, .ref w3]) = A7 at a7 b7 ⊢
        refine ⟨by show 3 ≤ sizeLine; decide, fun pl hpl => ?_⟩
        have a8 := same_upd (o := .lst [.ref p1, .ref p2, .ref p3]) hpl
        have b8 : upd A7 pl (.lst [.ref p1, .ref p2, .ref p3]) pl = some (.lst [.ref p1, .ref p2, .ref p3]) := upd_same
        generalize upd A7 pl (.lst [.ref p1, .ref p2, .ref p3]) = A8 at a8 b8 ⊢
        have a78 := Same.trans a7 a8
        have a68 := Same.trans a6 a78
        have a58 := Same.trans a5 a68
        have a48 := Same.trans a4 a58
        have a38 := Same.trans a3 a48
        have a28 := Same.trans a2 a38
        have a18 := Same.trans a1 a28
        have v1' : BarV A8 p1 us2 := ⟨h0, w1, zs', true, a38 _ _ b2, a18 _ _ hh20, a28 _ _ b1, .inr ⟨paired_mono (fun _ _ r => r.keep (Same.tups a18)) hzp, not_all_five ok2.lt Pl2⟩⟩
        have v2' : BarV A8 p2 us2 := ⟨h0, w2, [], true, a58 _ _ b4, a18 _ _ hh20, a48 _ _ b3, .inl (by decide)⟩
        have v3' : BarV A8 p3 us2 := ⟨h3, w3, [], false, a8 _ _ b7, a68 _ _ b5, a78 _ _ b6, .inl (by decide)⟩
        have s16A := Same.trans s1618 (Same.trans s1820 a18)
        have hw2A := hw2.keep (Same.tups s16A)
        refine ⟨.ref pl, rfl, pl, rfl, ⟨_, lq b8⟩, fun D2 hD2 => ?_⟩
        refine lc0 (walk_list (K := K) (a := pl) (xs := [.ref p1, .ref p2, .ref p3])) (fun i H' => Same A8 H' ∧ H' D2 = some (.lst (List.replicate i (V.bl false)))) ⟨same_upd hD2, upd_same⟩ (fun i H' _ h => lq (h.1 _ _ b8)) (fun i x H' H'' hi h hx => ?_) (fun H21 h => ?_)
        · obtain ⟨s21, hz21⟩ := h
          obtain ⟨rfl, hx⟩ := hx
          obtain ⟨p, rfl, ha, wa, wv, five, c1, c2, c3, c4⟩ : ∃ p, x = .ref p ∧ BarV A8 p us2 := by
            have := List.mem_of_getElem? hx
            simp only [List.mem_cons, List.not_mem_nil, or_false] at this
            rcases this with rfl | rfl | rfl
            · exact ⟨p1, rfl, v1'⟩
            · exact ⟨p2, rfl, v2'⟩
            · exact ⟨p3, rfl, v3'⟩
          refine ⟨rfl, v2, rfl, .ref p, rfl, v2, mo, us2, p, ha, wa, wv, five, rfl, hw2A.keep (Same.tups s21), ok2, s21 _ _ c1, s21 _ _ c2, s21 _ _ c3, c4.imp id fun h => ⟨paired_mono (fun _ _ r => r.keep (Same.tups s21)) h.1, h.2⟩, fun H22 s22 => ?_⟩
          refine ⟨_, s22 _ _ hz21, by rw [List.length_replicate]; exact small1000 (by simp at hi; omega), same_list hD2 (Same.trans s21 s22), ?_⟩
          rw [upd_same]; simp [List.replicate_succ']
        · obtain ⟨s21, hz21⟩ := h
          refine ⟨D2, List.replicate 3 false, rfl, lq (by rw [List.map_replicate]; exact hz21), false, rfl, iteF ?_⟩
          have s16B := Same.trans s16A s21
          have s13B := Same.trans s1316 s16B
          -- nothing left out
          refine ⟨iv (3 + d1 + 2 * bys.length + d11), rfl, .ref lm, rfl, .ref bl, rfl, lm, bl, _, _, rfl, rfl, s13B _ _ hlm13, s13B _ _ hbl13, by rw [sizeLine_eq]; omega, fun q4 hq4 => ?_⟩
          have s22 := same_upd (o := .lst (zs ++ bys)) hq4
          refine ⟨3 + d1 + 2 * bys.length + d11, q4, _, ms ++ bs, rfl, upd_same, paired_mono (fun _ _ r => r.keep (Same.tups (Same.trans s13B s22))) (paired_app hms13 hbs13), by rw [List.length_append]; omega, fun H23 v3 ts3 s23 hw3 hs3 hm3 => ?_⟩
          rw [← hmo] at hw3
          have L3 := lawg ts3 fun t ht => by
            rcases List.mem_append.mp ((hm3 t).mp ht) with h1 | h1
            · exact .inl ((hmm t).mp h1)
            · exact .inr h1
          have hts3 : ts3.length ≤ 45 := by
            have := nd_sub_len (nodup_srt hs3) fun t ht => (hm3 t).mp ht
            rw [List.length_append] at this
            omega
          have s2223 := Same.trans s22 s23
          refine ⟨.ref lg, rfl, v3, lg, mo, ts3, g, rfl, hw3, s2223 _ _ (s13B _ _ hlg13), by omega, fun t ht => by have := L3.ls t ht; omega, fun H24 v4 us4 s24 hw4 hs4 hm4 => ?_⟩
          obtain ⟨ok4, hl4b⟩ := L3.ok hm4 hs4 hts3
          refine ⟨v4, rfl, v4, mo, us4, rfl, hw4, ok4, fun H25 s25 _ => ?_, fun H25 s25 hn => absurd ⟨L3.planar hm4, L3.few hm4 C hund hF⟩ hn⟩
          refine ⟨true, true, rfl, rfl, false, rfl, iteF ?_⟩
          have s16C := Same.trans s16B (Same.trans s2223 (Same.trans s24 s25))
          have hw2C := hw2.keep (Same.tups s16C)
          have hD20 : H25 D = some (.lst zs') := Same.trans a18 (Same.trans s21 (Same.trans s2223 (Same.trans s24 s25))) _ _ hz
          have hzp25 : Paired (TieV H25) zs' (P56 true) := paired_mono (fun _ _ r => r.keep (Same.tups (Same.trans a18 (Same.trans s21 (Same.trans s2223 (Same.trans s24 s25)))))) hzp
          obtain ⟨wp, tp, wvs, rfl, hwp, htp, hwts⟩ := id hw2C
          -- the last web
          refine ⟨iv (3 + d1 + 2 * bys.length + d11), rfl, _, 5, rfl, rfl, decide (mo < 5), ?_, ?_⟩
          · exact congrArg V.bl (by rw [decide_eq_decide, hmo]; omega)
          by_cases h5 : mo < 5
          · rw [decide_eq_true h5]
            exact iteT (q _)
          · rw [decide_eq_false h5]
            refine iteF ?_
            refine ⟨iv (3 + d1 + 2 * bys.length + d11), rfl, .ref wp, rfl, wp, _, 2, .ref tp, rfl, rfl, tq hwp, atI_nat (j := 2) rfl, tp, _, rfl, .inr (tq htp), fun l5 hl5 => ?_⟩
            have s26 := same_upd (o := .lst wvs) hl5
            have hl5' : upd H25 l5 (.lst wvs) l5 = some (.lst wvs) := upd_same
            generalize upd H25 l5 (.lst wvs) = H26 at s26 hl5' ⊢
            have hwl := paired_len hwts
            have hzl := paired_len hzp25
            have hP10l : (P56 true).length = 10 := rfl
            refine ⟨.ref D, rfl, l5, D, _, _, rfl, rfl, hl5', s26 _ _ hD20, by rw [sizeLine_eq]; omega, fun q5 hq5 => ?_⟩
            have s27 := same_upd (o := .lst (wvs ++ zs')) hq5
            refine ⟨3 + d1 + 2 * bys.length + d11, q5, _, us2 ++ P56 true, rfl, upd_same, paired_mono (fun _ _ r => r.keep (Same.tups (Same.trans s26 s27))) (paired_app hwts hzp25), by rw [List.length_append]; omega, fun H28 v5 ts5 s28 hw5 hs5 hm5 => ?_⟩
            rw [← hmo] at hw5
            have hlt5 : ∀ t ∈ ts5, t.1 < t.2 ∧ t.2 < mo := fun t ht => by
              rcases List.mem_append.mp ((hm5 t).mp ht) with h1 | h1
              · exact ok2.lt t h1
              · have : ∀ t ∈ P56 true, t.1 < t.2 ∧ t.2 < 5 := by decide
                have := this t h1
                omega
            have hl5 : ts5.length ≤ 60 := by
              have := nd_sub_len (nodup_srt hs5) fun t ht => (hm5 t).mp ht
              rw [List.length_append] at this
              omega
            refine ⟨v5, mo, ts5, rfl, hw5, ⟨by omega, by omega, hl5, hlt5, hs5⟩, fun H29 s29 hn => absurd (has_five fun t ht => (hm5 t).mpr (List.mem_append_right _ ht)) hn, fun H29 s29 _ => ?_⟩
            exact ⟨false, false, rfl, rfl, q _⟩
end
end Wp
set_option maxHeartbeats 4000000
namespace Wp
open Wb
open PySem PySem.Spec PyProof.Rows L2
open C8 (Cal pe_c pe_gc)
def spLaw (K : PySem.W.Frag) : Sp := fun vs H Q _ => ∃ (s : Addr) (ns : List Int), vs = [.ref s] ∧ SqL K H s (ns.map V.int) ∧ ∀ H', Q (.bl true) H'
section
variable {P : Program} {w : World} {K : PySem.W.Frag} {mg : Str → Option Value} {base : Heap}
theorem ok_law {f : Addr} {fd : FuncData} (F : Fun K "law" "law" s_law f fd) (C_law_pot : Cal P w K mg base 1 "_law_pot" (spLawPot K) []) (C_law_right : Cal P w K mg base 11 "_law_right" spLawRight []) : FnOk P w K mg base CX0 12 f fd ["_law_script"] (spLaw K) := by
  refine F.ok sc_law (fun vs H Q E h => ?_) (fun cdv A outer s H vs Q E hr h => ?_)
  · obtain ⟨s, ns, rfl, _⟩ := h
    rfl
  · obtain ⟨sa, ns, rfl, hs, q⟩ := h
    refine ⟨_, (pss_one (ps_ret (pe_c C_law_right hr (by decide) (by rfl) (pa_cons (pe_c C_law_pot hr (by decide) (by rfl) (pa_cons (pv 0) (pa_cons pe_int pa_nil))) pa_nil)))), ?_⟩
    exact ⟨.ref sa, rfl, sa, ns, rfl, hs, fun H1 l s1 hp => ⟨l, rfl, hp, fun H2 => q H2⟩⟩
/-- all defs of the text where the top has left them -/
structure Ats (K : PySem.W.Frag) (mg : Str → Option Value) : Prop where
  a_is_integer : At K mg "is_integer" s_is_integer
  a_is_count : At K mg "is_count" s_is_count
  a_is_list : At K mg "is_list" s_is_list
  a_tie_of : At K mg "tie_of" s_tie_of
  a_is_tie : At K mg "is_tie" s_is_tie
  a_is_many : At K mg "is_many" s_is_many
  a_is_web_value : At K mg "is_web_value" s_is_web_value
  a_web_of_ties : At K mg "web_of_ties" s_web_of_ties
  a_neighbours_of : At K mg "neighbours_of" s_neighbours_of
  a_is_tied : At K mg "is_tied" s_is_tied
  a_part_from : At K mg "part_from" s_part_from
  a_parts_of_web : At K mg "parts_of_web" s_parts_of_web
  a_near_by : At K mg "near_by" s_near_by
  a_ring_steps : At K mg "ring_steps" s_ring_steps
  a_way_back : At K mg "way_back" s_way_back
  a_way_through : At K mg "way_through" s_way_through
  a_piece_from : At K mg "piece_from" s_piece_from
  a_pieces_left : At K mg "pieces_left" s_pieces_left
  a_ring_parted : At K mg "ring_parted" s_ring_parted
  a_put_in : At K mg "put_in" s_put_in
  a_first_ring : At K mg "first_ring" s_first_ring
  a_rings_for : At K mg "rings_for" s_rings_for
  a_block_rings : At K mg "block_rings" s_block_rings
  a_part_numbers : At K mg "part_numbers" s_part_numbers
  a_heads_of : At K mg "heads_of" s_heads_of
  a_blocks_of : At K mg "blocks_of" s_blocks_of
  a_round_through : At K mg "round_through" s_round_through
  a_is_corner : At K mg "is_corner" s_is_corner
  a_want_web : At K mg "want_web" s_want_web
  a_round_from_least : At K mg "round_from_least" s_round_from_least
  a_following_by : At K mg "following_by" s_following_by
  a_map_drawn : At K mg "map_drawn" s_map_drawn
  a_part_as_web : At K mg "part_as_web" s_part_as_web
  a_is_part_drawable : At K mg "is_part_drawable" s_is_part_drawable
  a_is_drawable : At K mg "is_drawable" s_is_drawable
  a_barred_of : At K mg "barred_of" s_barred_of
  a_barred_part : At K mg "barred_part" s_barred_part
  a_can_be_drawn : At K mg "can_be_drawn" s_can_be_drawn
  a_are_corners : At K mg "are_corners" s_are_corners
  a_is_way_of : At K mg "is_way_of" s_is_way_of
  a_are_heads : At K mg "are_heads" s_are_heads
  a_pairs_of_heads : At K mg "pairs_of_heads" s_pairs_of_heads
  a_are_ways : At K mg "are_ways" s_are_ways
  a_is_barred_value : At K mg "is_barred_value" s_is_barred_value
  a_is_barred : At K mg "is_barred" s_is_barred
  a_law_pot : At K mg "_law_pot" s_law_pot
  a_law_draw : At K mg "_law_draw" s_law_draw
  a_law_pick : At K mg "_law_pick" s_law_pick
  a_law_mixed : At K mg "_law_mixed" s_law_mixed
  a_law_tie : At K mg "_law_tie" s_law_tie
  a_law_web : At K mg "_law_web" s_law_web
  a_law_renamed : At K mg "_law_renamed" s_law_renamed
  a_law_grown : At K mg "_law_grown" s_law_grown
  a_law_exchanged : At K mg "_law_exchanged" s_law_exchanged
  a_law_ties : At K mg "_law_ties" s_law_ties
  a_law_right : At K mg "_law_right" s_law_right
theorem law_all (T : Ats K mg) (B : Bt mg) (Gv : Gc mg) : Cal P w K mg base 1 "_law_pot" (spLawPot K) [] ∧ Cal P w K mg base 11 "_law_right" spLawRight [] := by
  obtain ⟨A_is_integer, A_is_count, A_is_list, A_tie_of, A_is_tie, A_is_many, A_is_web_value, A_web_of_ties, A_neighbours_of, A_is_tied, A_part_from, A_parts_of_web, A_near_by, A_ring_steps, A_way_back, A_way_through, A_piece_from, A_pieces_left, A_ring_parted, A_put_in, A_first_ring, A_rings_for, A_block_rings, A_part_numbers, A_heads_of, A_blocks_of, A_round_through, A_is_corner, A_want_web, A_round_from_least, A_following_by, A_map_drawn, A_part_as_web, A_is_part_drawable, A_is_drawable, A_barred_of, A_barred_part, A_can_be_drawn, A_are_corners, A_is_way_of, A_are_heads, A_pairs_of_heads, A_are_ways, A_is_barred_value, A_is_barred, A_law_pot, A_law_draw, A_law_pick, A_law_mixed, A_law_tie, A_law_web, A_law_renamed, A_law_grown, A_law_exchanged, A_law_ties, A_law_right⟩ := T
  have C_is_integer := k_is_integer (P := P) (w := w) (base := base) A_is_integer B
  have C_is_count := k_is_count (P := P) (w := w) (base := base) A_is_count B C_is_integer
  have C_is_list := k_is_list (P := P) (w := w) (base := base) A_is_list B
  have C_tie_of := k_tie_of (P := P) (w := w) (base := base) A_tie_of B
  have C_is_tie := k_is_tie (P := P) (w := w) (base := base) A_is_tie B C_is_count
  have C_is_many := k_is_many (P := P) (w := w) (base := base) A_is_many B Gv C_is_count
  have C_is_web_value := k_is_web_value (P := P) (w := w) (base := base) A_is_web_value B Gv C_is_many C_is_tie
  have C_web_of_ties := k_web_of_ties (P := P) (w := w) (base := base) A_web_of_ties B Gv C_tie_of
  have C_neighbours_of := k_neighbours_of (P := P) (w := w) (base := base) A_neighbours_of B
  have C_is_tied := k_is_tied (P := P) (w := w) (base := base) A_is_tied B C_tie_of
  have C_part_from := k_part_from (P := P) (w := w) (base := base) A_part_from B
  have C_parts_of_web := k_parts_of_web (P := P) (w := w) (base := base) A_parts_of_web B C_neighbours_of C_part_from
  have C_near_byL := k_near_byL (P := P) (w := w) (base := base) A_near_by B
  have C_near_byT := k_near_byT (P := P) (w := w) (base := base) A_near_by B
  have C_ring_steps := k_ring_steps (P := P) (w := w) (base := base) A_ring_steps B
  have C_way_back := k_way_back (P := P) (w := w) (base := base) A_way_back B
  have C_way_through := k_way_through (P := P) (w := w) (base := base) A_way_through B C_way_back
  have C_piece_from := k_piece_from (P := P) (w := w) (base := base) A_piece_from B C_tie_of C_near_byL C_way_through
  have C_pieces_left := k_pieces_left (P := P) (w := w) (base := base) A_pieces_left B C_near_byL C_piece_from
  have C_ring_parted := k_ring_parted (P := P) (w := w) (base := base) A_ring_parted B
  have C_put_in := k_put_in (P := P) (w := w) (base := base) A_put_in B C_tie_of C_ring_steps C_ring_parted
  have C_first_ring := k_first_ring (P := P) (w := w) (base := base) A_first_ring B C_near_byT C_way_through
  have C_rings_for := k_rings_for (P := P) (w := w) (base := base) A_rings_for B
  have C_block_rings := k_block_rings (P := P) (w := w) (base := base) A_block_rings B C_tie_of C_ring_steps C_first_ring C_pieces_left C_rings_for C_put_in
  have C_part_numbers := k_part_numbers (P := P) (w := w) (base := base) A_part_numbers B
  have C_heads_of := k_heads_of (P := P) (w := w) (base := base) A_heads_of B
  have C_blocks_of := k_blocks_of (P := P) (w := w) (base := base) A_blocks_of B C_tie_of C_neighbours_of C_part_numbers C_heads_of
  have C_round_through := k_round_through (P := P) (w := w) (base := base) A_round_through B
  have C_is_corner := k_is_corner (P := P) (w := w) (base := base) A_is_corner B C_is_count
  have C_want_web := k_want_web (P := P) (w := w) (base := base) A_want_web B C_is_web_value
  have C_round_from_least := k_round_from_least (P := P) (w := w) (base := base) A_round_from_least B
  have C_following_by := k_following_by (P := P) (w := w) (base := base) A_following_by B
  have C_map_drawn := k_map_drawn (P := P) (w := w) (base := base) A_map_drawn B C_blocks_of C_block_rings C_near_byT C_following_by C_round_through C_round_from_least
  have C_part_as_web := k_part_as_web (P := P) (w := w) (base := base) A_part_as_web B C_web_of_ties
  have C_is_part_drawable := k_is_part_drawable (P := P) (w := w) (base := base) A_is_part_drawable B C_map_drawn
  have C_is_drawable := k_is_drawable (P := P) (w := w) (base := base) A_is_drawable B C_parts_of_web C_part_as_web C_is_part_drawable
  have C_barred_of := k_barred_of (P := P) (w := w) (base := base) A_barred_of B C_is_drawable
  have C_barred_part := k_barred_part (P := P) (w := w) (base := base) A_barred_part B C_want_web C_barred_of
  have C_can_be_drawn := k_can_be_drawn (P := P) (w := w) (base := base) A_can_be_drawn B C_want_web C_is_drawable
  have C_are_corners := k_are_corners (P := P) (w := w) (base := base) A_are_corners B C_is_list C_is_corner
  have C_is_way_of := k_is_way_of (P := P) (w := w) (base := base) A_is_way_of B C_are_corners C_is_tied
  have C_are_heads := k_are_heads (P := P) (w := w) (base := base) A_are_heads B Gv C_is_way_of
  have C_pairs_of_heads := k_pairs_of_heads (P := P) (w := w) (base := base) A_pairs_of_heads B Gv
  have C_are_ways := k_are_ways (P := P) (w := w) (base := base) A_are_ways B C_is_way_of
  have C_is_barred_value := k_is_barred_value (P := P) (w := w) (base := base) A_is_barred_value B Gv C_are_heads C_pairs_of_heads C_are_ways
  have C_is_barred := k_is_barred (P := P) (w := w) (base := base) A_is_barred B C_want_web C_is_barred_value
  have C_law_pot := k_law_pot (P := P) (w := w) (base := base) A_law_pot B
  have C_law_draw := k_law_draw (P := P) (w := w) (base := base) A_law_draw B
  have C_law_pick := k_law_pick (P := P) (w := w) (base := base) A_law_pick B C_law_draw
  have C_law_mixed := k_law_mixed (P := P) (w := w) (base := base) A_law_mixed B C_law_draw
  have C_law_tie := k_law_tie (P := P) (w := w) (base := base) A_law_tie B
  have C_law_web := k_law_web (P := P) (w := w) (base := base) A_law_web B
  have C_law_renamed := k_law_renamed (P := P) (w := w) (base := base) A_law_renamed B C_law_tie C_law_web
  have C_law_grown := k_law_grown (P := P) (w := w) (base := base) A_law_grown B C_law_draw
  have C_law_exchanged := k_law_exchanged (P := P) (w := w) (base := base) A_law_exchanged B C_law_draw
  have C_law_ties := k_law_ties (P := P) (w := w) (base := base) A_law_ties B C_law_tie
  have C_barred_partK := k_barred_partK (P := P) (w := w) (base := base) A_barred_part B C_want_web C_barred_of
  have C_law_right := k_law_right (P := P) (w := w) (base := base) A_law_right B C_law_draw C_law_grown C_law_exchanged C_law_ties C_law_mixed C_law_pick C_law_web C_law_renamed C_can_be_drawn C_barred_partK C_is_barred
  exact ⟨C_law_pot, C_law_right⟩
end
end Wp
set_option maxHeartbeats 8000000
namespace Wp
open PySem PySem.Spec PyProof.Rows L2
theorem at_mk {K : PySem.W.Frag} {h : Heap} {mg : Str → Option Value} {x : Str} {st : Stmt} {f : Addr} {od an : Option Addr} {sl : Array (Option Value)} {oc kV dc pm cd ct : Value} (X : K.In h) (G : h.Ns mainGlobals mg)
    (a : PySem.W.nsIn K mainGlobals x = some (some (.ref f))) (l : K.lookup f = some ⟨oc, od, .func (PySem.W.fnOf x x (defArgs st) (defBody st) (defScope st) .none kV dc pm an cd ct), sl⟩) (c : PySem.W.codeIn K cd x = true) (k : PySem.W.keepIn K (.ref f) = true) : At K mg x st :=
  ⟨f, _, fun_mk l c k, PySem.W.mg_of X G a⟩
theorem all_mk {l : PySem.W.OpenLaw} {w : World} {K : PySem.W.Frag} {h : Heap} {mg : Str → Option Value} {fa : Addr} (X : K.In h) (G : h.Ns mainGlobals mg) (hfa : mg "law" = some (.ref fa))
    {od1 an1 od2 an2 od3 an3 od4 an4 od5 an5 od6 an6 od7 an7 od8 an8 od9 an9 od10 an10 od11 an11 od12 an12 od13 an13 od14 an14 od15 an15 od16 an16 od17 an17 od18 an18 od19 an19 od20 an20 od21 an21 od22 an22 od23 an23 od24 an24 od25 an25 od26 an26 od27 an27 od28 an28 od29 an29 od30 an30 od31 an31 od32 an32 od33 an33 od34 an34 od35 an35 od36 an36 od37 an37 od38 an38 od39 an39 od40 an40 od41 an41 od42 an42 od43 an43 od44 an44 od45 an45 od46 an46 od47 an47 od48 an48 od49 an49 od50 an50 od51 an51 od52 an52 od53 an53 od54 an54 od55 an55 od56 an56 od57 an57 : Option Addr} {sl1 sl2 sl3 sl4 sl5 sl6 sl7 sl8 sl9 sl10 sl11 sl12 sl13 sl14 sl15 sl16 sl17 sl18 sl19 sl20 sl21 sl22 sl23 sl24 sl25 sl26 sl27 sl28 sl29 sl30 sl31 sl32 sl33 sl34 sl35 sl36 sl37 sl38 sl39 sl40 sl41 sl42 sl43 sl44 sl45 sl46 sl47 sl48 sl49 sl50 sl51 sl52 sl53 sl54 sl55 sl56 sl57 : Array (Option Value)} {oc1 kV1 dc1 pm1 cd1 ct1 oc2 kV2 dc2 pm2 cd2 ct2 oc3 kV3 dc3 pm3 cd3 ct3 oc4 kV4 dc4 pm4 cd4 ct4 oc5 kV5 dc5 pm5 cd5 ct5 oc6 kV6 dc6 pm6 cd6 ct6 oc7 kV7 dc7 pm7 cd7 ct7 oc8 kV8 dc8 pm8 cd8 ct8 oc9 kV9 dc9 pm9 cd9 ct9 oc10 kV10 dc10 pm10 cd10 ct10 oc11 kV11 dc11 pm11 cd11 ct11 oc12 kV12 dc12 pm12 cd12 ct12 oc13 kV13 dc13 pm13 cd13 ct13 oc14 kV14 dc14 pm14 cd14 ct14 oc15 kV15 dc15 pm15 cd15 ct15 oc16 kV16 dc16 pm16 cd16 ct16 oc17 kV17 dc17 pm17 cd17 ct17 oc18 kV18 dc18 pm18 cd18 ct18 oc19 kV19 dc19 pm19 cd19 ct19 oc20 kV20 dc20 pm20 cd20 ct20 oc21 kV21 dc21 pm21 cd21 ct21 oc22 kV22 dc22 pm22 cd22 ct22 oc23 kV23 dc23 pm23 cd23 ct23 oc24 kV24 dc24 pm24 cd24 ct24 oc25 kV25 dc25 pm25 cd25 ct25 oc26 kV26 dc26 pm26 cd26 ct26 oc27 kV27 dc27 pm27 cd27 ct27 oc28 kV28 dc28 pm28 cd28 ct28 oc29 kV29 dc29 pm29 cd29 ct29 oc30 kV30 dc30 pm30 cd30 ct30 oc31 kV31 dc31 pm31 cd31 ct31 oc32 kV32 dc32 pm32 cd32 ct32 oc33 kV33 dc33 pm33 cd33 ct33 oc34 kV34 dc34 pm34 cd34 ct34 oc35 kV35 dc35 pm35 cd35 ct35 oc36 kV36 dc36 pm36 cd36 ct36 oc37 kV37 dc37 pm37 cd37 ct37 oc38 kV38 dc38 pm38 cd38 ct38 oc39 kV39 dc39 pm39 cd39 ct39 oc40 kV40 dc40 pm40 cd40 ct40 oc41 kV41 dc41 pm41 cd41 ct41 oc42 kV42 dc42 pm42 cd42 ct42 oc43 kV43 dc43 pm43 cd43 ct43 oc44 kV44 dc44 pm44 cd44 ct44 oc45 kV45 dc45 pm45 cd45 ct45 oc46 kV46 dc46 pm46 cd46 ct46 oc47 kV47 dc47 pm47 cd47 ct47 oc48 kV48 dc48 pm48 cd48 ct48 oc49 kV49 dc49 pm49 cd49 ct49 oc50 kV50 dc50 pm50 cd50 ct50 oc51 kV51 dc51 pm51 cd51 ct51 oc52 kV52 dc52 pm52 cd52 ct52 oc53 kV53 dc53 pm53 cd53 ct53 oc54 kV54 dc54 pm54 cd54 ct54 oc55 kV55 dc55 pm55 cd55 ct55 oc56 kV56 dc56 pm56 cd56 ct56 oc57 kV57 dc57 pm57 cd57 ct57 : Value} {f1 f2 f3 f4 f5 f6 f7 f8 f9 f10 f11 f12 f13 f14 f15 f16 f17 f18 f19 f20 f21 f22 f23 f24 f25 f26 f27 f28 f29 f30 f31 f32 f33 f34 f35 f36 f37 f38 f39 f40 f41 f42 f43 f44 f45 f46 f47 f48 f49 f50 f51 f52 f53 f54 f55 f56 f57 : Addr} {y1 y2 y3 y4 y5 y6 : Tok}
    (a1 : PySem.W.nsIn K mainGlobals "is_integer" = some (some (.ref f1))) (l1 : K.lookup f1 = some ⟨oc1, od1, .func (PySem.W.fnOf "is_integer" "is_integer" (defArgs s_is_integer) (defBody s_is_integer) (defScope s_is_integer) .none kV1 dc1 pm1 an1 cd1 ct1), sl1⟩) (c1 : PySem.W.codeIn K cd1 "is_integer" = true) (k1 : PySem.W.keepIn K (.ref f1) = true)
    (a2 : PySem.W.nsIn K mainGlobals "is_count" = some (some (.ref f2))) (l2 : K.lookup f2 = some ⟨oc2, od2, .func (PySem.W.fnOf "is_count" "is_count" (defArgs s_is_count) (defBody s_is_count) (defScope s_is_count) .none kV2 dc2 pm2 an2 cd2 ct2), sl2⟩) (c2 : PySem.W.codeIn K cd2 "is_count" = true) (k2 : PySem.W.keepIn K (.ref f2) = true)
    (a3 : PySem.W.nsIn K mainGlobals "is_list" = some (some (.ref f3))) (l3 : K.lookup f3 = some ⟨oc3, od3, .func (PySem.W.fnOf "is_list" "is_list" (defArgs s_is_list) (defBody s_is_list) (defScope s_is_list) .none kV3 dc3 pm3 an3 cd3 ct3), sl3⟩) (c3 : PySem.W.codeIn K cd3 "is_list" = true) (k3 : PySem.W.keepIn K (.ref f3) = true)
    (a4 : PySem.W.nsIn K mainGlobals "tie_of" = some (some (.ref f4))) (l4 : K.lookup f4 = some ⟨oc4, od4, .func (PySem.W.fnOf "tie_of" "tie_of" (defArgs s_tie_of) (defBody s_tie_of) (defScope s_tie_of) .none kV4 dc4 pm4 an4 cd4 ct4), sl4⟩) (c4 : PySem.W.codeIn K cd4 "tie_of" = true) (k4 : PySem.W.keepIn K (.ref f4) = true)
    (a5 : PySem.W.nsIn K mainGlobals "is_tie" = some (some (.ref f5))) (l5 : K.lookup f5 = some ⟨oc5, od5, .func (PySem.W.fnOf "is_tie" "is_tie" (defArgs s_is_tie) (defBody s_is_tie) (defScope s_is_tie) .none kV5 dc5 pm5 an5 cd5 ct5), sl5⟩) (c5 : PySem.W.codeIn K cd5 "is_tie" = true) (k5 : PySem.W.keepIn K (.ref f5) = true)
    (a6 : PySem.W.nsIn K mainGlobals "is_many" = some (some (.ref f6))) (l6 : K.lookup f6 = some ⟨oc6, od6, .func (PySem.W.fnOf "is_many" "is_many" (defArgs s_is_many) (defBody s_is_many) (defScope s_is_many) .none kV6 dc6 pm6 an6 cd6 ct6), sl6⟩) (c6 : PySem.W.codeIn K cd6 "is_many" = true) (k6 : PySem.W.keepIn K (.ref f6) = true)
    (a7 : PySem.W.nsIn K mainGlobals "is_web_value" = some (some (.ref f7))) (l7 : K.lookup f7 = some ⟨oc7, od7, .func (PySem.W.fnOf "is_web_value" "is_web_value" (defArgs s_is_web_value) (defBody s_is_web_value) (defScope s_is_web_value) .none kV7 dc7 pm7 an7 cd7 ct7), sl7⟩) (c7 : PySem.W.codeIn K cd7 "is_web_value" = true) (k7 : PySem.W.keepIn K (.ref f7) = true)
    (a8 : PySem.W.nsIn K mainGlobals "web_of_ties" = some (some (.ref f8))) (l8 : K.lookup f8 = some ⟨oc8, od8, .func (PySem.W.fnOf "web_of_ties" "web_of_ties" (defArgs s_web_of_ties) (defBody s_web_of_ties) (defScope s_web_of_ties) .none kV8 dc8 pm8 an8 cd8 ct8), sl8⟩) (c8 : PySem.W.codeIn K cd8 "web_of_ties" = true) (k8 : PySem.W.keepIn K (.ref f8) = true)
    (a9 : PySem.W.nsIn K mainGlobals "neighbours_of" = some (some (.ref f9))) (l9 : K.lookup f9 = some ⟨oc9, od9, .func (PySem.W.fnOf "neighbours_of" "neighbours_of" (defArgs s_neighbours_of) (defBody s_neighbours_of) (defScope s_neighbours_of) .none kV9 dc9 pm9 an9 cd9 ct9), sl9⟩) (c9 : PySem.W.codeIn K cd9 "neighbours_of" = true) (k9 : PySem.W.keepIn K (.ref f9) = true)
    (a10 : PySem.W.nsIn K mainGlobals "is_tied" = some (some (.ref f10))) (l10 : K.lookup f10 = some ⟨oc10, od10, .func (PySem.W.fnOf "is_tied" "is_tied" (defArgs s_is_tied) (defBody s_is_tied) (defScope s_is_tied) .none kV10 dc10 pm10 an10 cd10 ct10), sl10⟩) (c10 : PySem.W.codeIn K cd10 "is_tied" = true) (k10 : PySem.W.keepIn K (.ref f10) = true)
    (a11 : PySem.W.nsIn K mainGlobals "part_from" = some (some (.ref f11))) (l11 : K.lookup f11 = some ⟨oc11, od11, .func (PySem.W.fnOf "part_from" "part_from" (defArgs s_part_from) (defBody s_part_from) (defScope s_part_from) .none kV11 dc11 pm11 an11 cd11 ct11), sl11⟩) (c11 : PySem.W.codeIn K cd11 "part_from" = true) (k11 : PySem.W.keepIn K (.ref f11) = true)
    (a12 : PySem.W.nsIn K mainGlobals "parts_of_web" = some (some (.ref f12))) (l12 : K.lookup f12 = some ⟨oc12, od12, .func (PySem.W.fnOf "parts_of_web" "parts_of_web" (defArgs s_parts_of_web) (defBody s_parts_of_web) (defScope s_parts_of_web) .none kV12 dc12 pm12 an12 cd12 ct12), sl12⟩) (c12 : PySem.W.codeIn K cd12 "parts_of_web" = true) (k12 : PySem.W.keepIn K (.ref f12) = true)
    (a13 : PySem.W.nsIn K mainGlobals "near_by" = some (some (.ref f13))) (l13 : K.lookup f13 = some ⟨oc13, od13, .func (PySem.W.fnOf "near_by" "near_by" (defArgs s_near_by) (defBody s_near_by) (defScope s_near_by) .none kV13 dc13 pm13 an13 cd13 ct13), sl13⟩) (c13 : PySem.W.codeIn K cd13 "near_by" = true) (k13 : PySem.W.keepIn K (.ref f13) = true)
    (a14 : PySem.W.nsIn K mainGlobals "ring_steps" = some (some (.ref f14))) (l14 : K.lookup f14 = some ⟨oc14, od14, .func (PySem.W.fnOf "ring_steps" "ring_steps" (defArgs s_ring_steps) (defBody s_ring_steps) (defScope s_ring_steps) .none kV14 dc14 pm14 an14 cd14 ct14), sl14⟩) (c14 : PySem.W.codeIn K cd14 "ring_steps" = true) (k14 : PySem.W.keepIn K (.ref f14) = true)
    (a15 : PySem.W.nsIn K mainGlobals "way_back" = some (some (.ref f15))) (l15 : K.lookup f15 = some ⟨oc15, od15, .func (PySem.W.fnOf "way_back" "way_back" (defArgs s_way_back) (defBody s_way_back) (defScope s_way_back) .none kV15 dc15 pm15 an15 cd15 ct15), sl15⟩) (c15 : PySem.W.codeIn K cd15 "way_back" = true) (k15 : PySem.W.keepIn K (.ref f15) = true)
    (a16 : PySem.W.nsIn K mainGlobals "way_through" = some (some (.ref f16))) (l16 : K.lookup f16 = some ⟨oc16, od16, .func (PySem.W.fnOf "way_through" "way_through" (defArgs s_way_through) (defBody s_way_through) (defScope s_way_through) .none kV16 dc16 pm16 an16 cd16 ct16), sl16⟩) (c16 : PySem.W.codeIn K cd16 "way_through" = true) (k16 : PySem.W.keepIn K (.ref f16) = true)
    (a17 : PySem.W.nsIn K mainGlobals "piece_from" = some (some (.ref f17))) (l17 : K.lookup f17 = some ⟨oc17, od17, .func (PySem.W.fnOf "piece_from" "piece_from" (defArgs s_piece_from) (defBody s_piece_from) (defScope s_piece_from) .none kV17 dc17 pm17 an17 cd17 ct17), sl17⟩) (c17 : PySem.W.codeIn K cd17 "piece_from" = true) (k17 : PySem.W.keepIn K (.ref f17) = true)
    (a18 : PySem.W.nsIn K mainGlobals "pieces_left" = some (some (.ref f18))) (l18 : K.lookup f18 = some ⟨oc18, od18, .func (PySem.W.fnOf "pieces_left" "pieces_left" (defArgs s_pieces_left) (defBody s_pieces_left) (defScope s_pieces_left) .none kV18 dc18 pm18 an18 cd18 ct18), sl18⟩) (c18 : PySem.W.codeIn K cd18 "pieces_left" = true) (k18 : PySem.W.keepIn K (.ref f18) = true)
    (a19 : PySem.W.nsIn K mainGlobals "ring_parted" = some (some (.ref f19))) (l19 : K.lookup f19 = some ⟨oc19, od19, .func (PySem.W.fnOf "ring_parted" "ring_parted" (defArgs s_ring_parted) (defBody s_ring_parted) (defScope s_ring_parted) .none kV19 dc19 pm19 an19 cd19 ct19), sl19⟩) (c19 : PySem.W.codeIn K cd19 "ring_parted" = true) (k19 : PySem.W.keepIn K (.ref f19) = true)
    (a20 : PySem.W.nsIn K mainGlobals "put_in" = some (some (.ref f20))) (l20 : K.lookup f20 = some ⟨oc20, od20, .func (PySem.W.fnOf "put_in" "put_in" (defArgs s_put_in) (defBody s_put_in) (defScope s_put_in) .none kV20 dc20 pm20 an20 cd20 ct20), sl20⟩) (c20 : PySem.W.codeIn K cd20 "put_in" = true) (k20 : PySem.W.keepIn K (.ref f20) = true)
    (a21 : PySem.W.nsIn K mainGlobals "first_ring" = some (some (.ref f21))) (l21 : K.lookup f21 = some ⟨oc21, od21, .func (PySem.W.fnOf "first_ring" "first_ring" (defArgs s_first_ring) (defBody s_first_ring) (defScope s_first_ring) .none kV21 dc21 pm21 an21 cd21 ct21), sl21⟩) (c21 : PySem.W.codeIn K cd21 "first_ring" = true) (k21 : PySem.W.keepIn K (.ref f21) = true)
    (a22 : PySem.W.nsIn K mainGlobals "rings_for" = some (some (.ref f22))) (l22 : K.lookup f22 = some ⟨oc22, od22, .func (PySem.W.fnOf "rings_for" "rings_for" (defArgs s_rings_for) (defBody s_rings_for) (defScope s_rings_for) .none kV22 dc22 pm22 an22 cd22 ct22), sl22⟩) (c22 : PySem.W.codeIn K cd22 "rings_for" = true) (k22 : PySem.W.keepIn K (.ref f22) = true)
    (a23 : PySem.W.nsIn K mainGlobals "block_rings" = some (some (.ref f23))) (l23 : K.lookup f23 = some ⟨oc23, od23, .func (PySem.W.fnOf "block_rings" "block_rings" (defArgs s_block_rings) (defBody s_block_rings) (defScope s_block_rings) .none kV23 dc23 pm23 an23 cd23 ct23), sl23⟩) (c23 : PySem.W.codeIn K cd23 "block_rings" = true) (k23 : PySem.W.keepIn K (.ref f23) = true)
    (a24 : PySem.W.nsIn K mainGlobals "part_numbers" = some (some (.ref f24))) (l24 : K.lookup f24 = some ⟨oc24, od24, .func (PySem.W.fnOf "part_numbers" "part_numbers" (defArgs s_part_numbers) (defBody s_part_numbers) (defScope s_part_numbers) .none kV24 dc24 pm24 an24 cd24 ct24), sl24⟩) (c24 : PySem.W.codeIn K cd24 "part_numbers" = true) (k24 : PySem.W.keepIn K (.ref f24) = true)
    (a25 : PySem.W.nsIn K mainGlobals "heads_of" = some (some (.ref f25))) (l25 : K.lookup f25 = some ⟨oc25, od25, .func (PySem.W.fnOf "heads_of" "heads_of" (defArgs s_heads_of) (defBody s_heads_of) (defScope s_heads_of) .none kV25 dc25 pm25 an25 cd25 ct25), sl25⟩) (c25 : PySem.W.codeIn K cd25 "heads_of" = true) (k25 : PySem.W.keepIn K (.ref f25) = true)
    (a26 : PySem.W.nsIn K mainGlobals "blocks_of" = some (some (.ref f26))) (l26 : K.lookup f26 = some ⟨oc26, od26, .func (PySem.W.fnOf "blocks_of" "blocks_of" (defArgs s_blocks_of) (defBody s_blocks_of) (defScope s_blocks_of) .none kV26 dc26 pm26 an26 cd26 ct26), sl26⟩) (c26 : PySem.W.codeIn K cd26 "blocks_of" = true) (k26 : PySem.W.keepIn K (.ref f26) = true)
    (a27 : PySem.W.nsIn K mainGlobals "round_through" = some (some (.ref f27))) (l27 : K.lookup f27 = some ⟨oc27, od27, .func (PySem.W.fnOf "round_through" "round_through" (defArgs s_round_through) (defBody s_round_through) (defScope s_round_through) .none kV27 dc27 pm27 an27 cd27 ct27), sl27⟩) (c27 : PySem.W.codeIn K cd27 "round_through" = true) (k27 : PySem.W.keepIn K (.ref f27) = true)
    (a28 : PySem.W.nsIn K mainGlobals "is_corner" = some (some (.ref f28))) (l28 : K.lookup f28 = some ⟨oc28, od28, .func (PySem.W.fnOf "is_corner" "is_corner" (defArgs s_is_corner) (defBody s_is_corner) (defScope s_is_corner) .none kV28 dc28 pm28 an28 cd28 ct28), sl28⟩) (c28 : PySem.W.codeIn K cd28 "is_corner" = true) (k28 : PySem.W.keepIn K (.ref f28) = true)
    (a29 : PySem.W.nsIn K mainGlobals "want_web" = some (some (.ref f29))) (l29 : K.lookup f29 = some ⟨oc29, od29, .func (PySem.W.fnOf "want_web" "want_web" (defArgs s_want_web) (defBody s_want_web) (defScope s_want_web) .none kV29 dc29 pm29 an29 cd29 ct29), sl29⟩) (c29 : PySem.W.codeIn K cd29 "want_web" = true) (k29 : PySem.W.keepIn K (.ref f29) = true)
    (a30 : PySem.W.nsIn K mainGlobals "round_from_least" = some (some (.ref f30))) (l30 : K.lookup f30 = some ⟨oc30, od30, .func (PySem.W.fnOf "round_from_least" "round_from_least" (defArgs s_round_from_least) (defBody s_round_from_least) (defScope s_round_from_least) .none kV30 dc30 pm30 an30 cd30 ct30), sl30⟩) (c30 : PySem.W.codeIn K cd30 "round_from_least" = true) (k30 : PySem.W.keepIn K (.ref f30) = true)
    (a31 : PySem.W.nsIn K mainGlobals "following_by" = some (some (.ref f31))) (l31 : K.lookup f31 = some ⟨oc31, od31, .func (PySem.W.fnOf "following_by" "following_by" (defArgs s_following_by) (defBody s_following_by) (defScope s_following_by) .none kV31 dc31 pm31 an31 cd31 ct31), sl31⟩) (c31 : PySem.W.codeIn K cd31 "following_by" = true) (k31 : PySem.W.keepIn K (.ref f31) = true)
    (a32 : PySem.W.nsIn K mainGlobals "map_drawn" = some (some (.ref f32))) (l32 : K.lookup f32 = some ⟨oc32, od32, .func (PySem.W.fnOf "map_drawn" "map_drawn" (defArgs s_map_drawn) (defBody s_map_drawn) (defScope s_map_drawn) .none kV32 dc32 pm32 an32 cd32 ct32), sl32⟩) (c32 : PySem.W.codeIn K cd32 "map_drawn" = true) (k32 : PySem.W.keepIn K (.ref f32) = true)
    (a33 : PySem.W.nsIn K mainGlobals "part_as_web" = some (some (.ref f33))) (l33 : K.lookup f33 = some ⟨oc33, od33, .func (PySem.W.fnOf "part_as_web" "part_as_web" (defArgs s_part_as_web) (defBody s_part_as_web) (defScope s_part_as_web) .none kV33 dc33 pm33 an33 cd33 ct33), sl33⟩) (c33 : PySem.W.codeIn K cd33 "part_as_web" = true) (k33 : PySem.W.keepIn K (.ref f33) = true)
    (a34 : PySem.W.nsIn K mainGlobals "is_part_drawable" = some (some (.ref f34))) (l34 : K.lookup f34 = some ⟨oc34, od34, .func (PySem.W.fnOf "is_part_drawable" "is_part_drawable" (defArgs s_is_part_drawable) (defBody s_is_part_drawable) (defScope s_is_part_drawable) .none kV34 dc34 pm34 an34 cd34 ct34), sl34⟩) (c34 : PySem.W.codeIn K cd34 "is_part_drawable" = true) (k34 : PySem.W.keepIn K (.ref f34) = true)
    (a35 : PySem.W.nsIn K mainGlobals "is_drawable" = some (some (.ref f35))) (l35 : K.lookup f35 = some ⟨oc35, od35, .func (PySem.W.fnOf "is_drawable" "is_drawable" (defArgs s_is_drawable) (defBody s_is_drawable) (defScope s_is_drawable) .none kV35 dc35 pm35 an35 cd35 ct35), sl35⟩) (c35 : PySem.W.codeIn K cd35 "is_drawable" = true) (k35 : PySem.W.keepIn K (.ref f35) = true)
    (a36 : PySem.W.nsIn K mainGlobals "barred_of" = some (some (.ref f36))) (l36 : K.lookup f36 = some ⟨oc36, od36, .func (PySem.W.fnOf "barred_of" "barred_of" (defArgs s_barred_of) (defBody s_barred_of) (defScope s_barred_of) .none kV36 dc36 pm36 an36 cd36 ct36), sl36⟩) (c36 : PySem.W.codeIn K cd36 "barred_of" = true) (k36 : PySem.W.keepIn K (.ref f36) = true)
    (a37 : PySem.W.nsIn K mainGlobals "barred_part" = some (some (.ref f37))) (l37 : K.lookup f37 = some ⟨oc37, od37, .func (PySem.W.fnOf "barred_part" "barred_part" (defArgs s_barred_part) (defBody s_barred_part) (defScope s_barred_part) .none kV37 dc37 pm37 an37 cd37 ct37), sl37⟩) (c37 : PySem.W.codeIn K cd37 "barred_part" = true) (k37 : PySem.W.keepIn K (.ref f37) = true)
    (a38 : PySem.W.nsIn K mainGlobals "can_be_drawn" = some (some (.ref f38))) (l38 : K.lookup f38 = some ⟨oc38, od38, .func (PySem.W.fnOf "can_be_drawn" "can_be_drawn" (defArgs s_can_be_drawn) (defBody s_can_be_drawn) (defScope s_can_be_drawn) .none kV38 dc38 pm38 an38 cd38 ct38), sl38⟩) (c38 : PySem.W.codeIn K cd38 "can_be_drawn" = true) (k38 : PySem.W.keepIn K (.ref f38) = true)
    (a39 : PySem.W.nsIn K mainGlobals "are_corners" = some (some (.ref f39))) (l39 : K.lookup f39 = some ⟨oc39, od39, .func (PySem.W.fnOf "are_corners" "are_corners" (defArgs s_are_corners) (defBody s_are_corners) (defScope s_are_corners) .none kV39 dc39 pm39 an39 cd39 ct39), sl39⟩) (c39 : PySem.W.codeIn K cd39 "are_corners" = true) (k39 : PySem.W.keepIn K (.ref f39) = true)
    (a40 : PySem.W.nsIn K mainGlobals "is_way_of" = some (some (.ref f40))) (l40 : K.lookup f40 = some ⟨oc40, od40, .func (PySem.W.fnOf "is_way_of" "is_way_of" (defArgs s_is_way_of) (defBody s_is_way_of) (defScope s_is_way_of) .none kV40 dc40 pm40 an40 cd40 ct40), sl40⟩) (c40 : PySem.W.codeIn K cd40 "is_way_of" = true) (k40 : PySem.W.keepIn K (.ref f40) = true)
    (a41 : PySem.W.nsIn K mainGlobals "are_heads" = some (some (.ref f41))) (l41 : K.lookup f41 = some ⟨oc41, od41, .func (PySem.W.fnOf "are_heads" "are_heads" (defArgs s_are_heads) (defBody s_are_heads) (defScope s_are_heads) .none kV41 dc41 pm41 an41 cd41 ct41), sl41⟩) (c41 : PySem.W.codeIn K cd41 "are_heads" = true) (k41 : PySem.W.keepIn K (.ref f41) = true)
    (a42 : PySem.W.nsIn K mainGlobals "pairs_of_heads" = some (some (.ref f42))) (l42 : K.lookup f42 = some ⟨oc42, od42, .func (PySem.W.fnOf "pairs_of_heads" "pairs_of_heads" (defArgs s_pairs_of_heads) (defBody s_pairs_of_heads) (defScope s_pairs_of_heads) .none kV42 dc42 pm42 an42 cd42 ct42), sl42⟩) (c42 : PySem.W.codeIn K cd42 "pairs_of_heads" = true) (k42 : PySem.W.keepIn K (.ref f42) = true)
    (a43 : PySem.W.nsIn K mainGlobals "are_ways" = some (some (.ref f43))) (l43 : K.lookup f43 = some ⟨oc43, od43, .func (PySem.W.fnOf "are_ways" "are_ways" (defArgs s_are_ways) (defBody s_are_ways) (defScope s_are_ways) .none kV43 dc43 pm43 an43 cd43 ct43), sl43⟩) (c43 : PySem.W.codeIn K cd43 "are_ways" = true) (k43 : PySem.W.keepIn K (.ref f43) = true)
    (a44 : PySem.W.nsIn K mainGlobals "is_barred_value" = some (some (.ref f44))) (l44 : K.lookup f44 = some ⟨oc44, od44, .func (PySem.W.fnOf "is_barred_value" "is_barred_value" (defArgs s_is_barred_value) (defBody s_is_barred_value) (defScope s_is_barred_value) .none kV44 dc44 pm44 an44 cd44 ct44), sl44⟩) (c44 : PySem.W.codeIn K cd44 "is_barred_value" = true) (k44 : PySem.W.keepIn K (.ref f44) = true)
    (a45 : PySem.W.nsIn K mainGlobals "is_barred" = some (some (.ref f45))) (l45 : K.lookup f45 = some ⟨oc45, od45, .func (PySem.W.fnOf "is_barred" "is_barred" (defArgs s_is_barred) (defBody s_is_barred) (defScope s_is_barred) .none kV45 dc45 pm45 an45 cd45 ct45), sl45⟩) (c45 : PySem.W.codeIn K cd45 "is_barred" = true) (k45 : PySem.W.keepIn K (.ref f45) = true)
    (a46 : PySem.W.nsIn K mainGlobals "_law_pot" = some (some (.ref f46))) (l46 : K.lookup f46 = some ⟨oc46, od46, .func (PySem.W.fnOf "_law_pot" "_law_pot" (defArgs s_law_pot) (defBody s_law_pot) (defScope s_law_pot) .none kV46 dc46 pm46 an46 cd46 ct46), sl46⟩) (c46 : PySem.W.codeIn K cd46 "_law_pot" = true) (k46 : PySem.W.keepIn K (.ref f46) = true)
    (a47 : PySem.W.nsIn K mainGlobals "_law_draw" = some (some (.ref f47))) (l47 : K.lookup f47 = some ⟨oc47, od47, .func (PySem.W.fnOf "_law_draw" "_law_draw" (defArgs s_law_draw) (defBody s_law_draw) (defScope s_law_draw) .none kV47 dc47 pm47 an47 cd47 ct47), sl47⟩) (c47 : PySem.W.codeIn K cd47 "_law_draw" = true) (k47 : PySem.W.keepIn K (.ref f47) = true)
    (a48 : PySem.W.nsIn K mainGlobals "_law_pick" = some (some (.ref f48))) (l48 : K.lookup f48 = some ⟨oc48, od48, .func (PySem.W.fnOf "_law_pick" "_law_pick" (defArgs s_law_pick) (defBody s_law_pick) (defScope s_law_pick) .none kV48 dc48 pm48 an48 cd48 ct48), sl48⟩) (c48 : PySem.W.codeIn K cd48 "_law_pick" = true) (k48 : PySem.W.keepIn K (.ref f48) = true)
    (a49 : PySem.W.nsIn K mainGlobals "_law_mixed" = some (some (.ref f49))) (l49 : K.lookup f49 = some ⟨oc49, od49, .func (PySem.W.fnOf "_law_mixed" "_law_mixed" (defArgs s_law_mixed) (defBody s_law_mixed) (defScope s_law_mixed) .none kV49 dc49 pm49 an49 cd49 ct49), sl49⟩) (c49 : PySem.W.codeIn K cd49 "_law_mixed" = true) (k49 : PySem.W.keepIn K (.ref f49) = true)
    (a50 : PySem.W.nsIn K mainGlobals "_law_tie" = some (some (.ref f50))) (l50 : K.lookup f50 = some ⟨oc50, od50, .func (PySem.W.fnOf "_law_tie" "_law_tie" (defArgs s_law_tie) (defBody s_law_tie) (defScope s_law_tie) .none kV50 dc50 pm50 an50 cd50 ct50), sl50⟩) (c50 : PySem.W.codeIn K cd50 "_law_tie" = true) (k50 : PySem.W.keepIn K (.ref f50) = true)
    (a51 : PySem.W.nsIn K mainGlobals "_law_web" = some (some (.ref f51))) (l51 : K.lookup f51 = some ⟨oc51, od51, .func (PySem.W.fnOf "_law_web" "_law_web" (defArgs s_law_web) (defBody s_law_web) (defScope s_law_web) .none kV51 dc51 pm51 an51 cd51 ct51), sl51⟩) (c51 : PySem.W.codeIn K cd51 "_law_web" = true) (k51 : PySem.W.keepIn K (.ref f51) = true)
    (a52 : PySem.W.nsIn K mainGlobals "_law_renamed" = some (some (.ref f52))) (l52 : K.lookup f52 = some ⟨oc52, od52, .func (PySem.W.fnOf "_law_renamed" "_law_renamed" (defArgs s_law_renamed) (defBody s_law_renamed) (defScope s_law_renamed) .none kV52 dc52 pm52 an52 cd52 ct52), sl52⟩) (c52 : PySem.W.codeIn K cd52 "_law_renamed" = true) (k52 : PySem.W.keepIn K (.ref f52) = true)
    (a53 : PySem.W.nsIn K mainGlobals "_law_grown" = some (some (.ref f53))) (l53 : K.lookup f53 = some ⟨oc53, od53, .func (PySem.W.fnOf "_law_grown" "_law_grown" (defArgs s_law_grown) (defBody s_law_grown) (defScope s_law_grown) .none kV53 dc53 pm53 an53 cd53 ct53), sl53⟩) (c53 : PySem.W.codeIn K cd53 "_law_grown" = true) (k53 : PySem.W.keepIn K (.ref f53) = true)
    (a54 : PySem.W.nsIn K mainGlobals "_law_exchanged" = some (some (.ref f54))) (l54 : K.lookup f54 = some ⟨oc54, od54, .func (PySem.W.fnOf "_law_exchanged" "_law_exchanged" (defArgs s_law_exchanged) (defBody s_law_exchanged) (defScope s_law_exchanged) .none kV54 dc54 pm54 an54 cd54 ct54), sl54⟩) (c54 : PySem.W.codeIn K cd54 "_law_exchanged" = true) (k54 : PySem.W.keepIn K (.ref f54) = true)
    (a55 : PySem.W.nsIn K mainGlobals "_law_ties" = some (some (.ref f55))) (l55 : K.lookup f55 = some ⟨oc55, od55, .func (PySem.W.fnOf "_law_ties" "_law_ties" (defArgs s_law_ties) (defBody s_law_ties) (defScope s_law_ties) .none kV55 dc55 pm55 an55 cd55 ct55), sl55⟩) (c55 : PySem.W.codeIn K cd55 "_law_ties" = true) (k55 : PySem.W.keepIn K (.ref f55) = true)
    (a56 : PySem.W.nsIn K mainGlobals "_law_right" = some (some (.ref f56))) (l56 : K.lookup f56 = some ⟨oc56, od56, .func (PySem.W.fnOf "_law_right" "_law_right" (defArgs s_law_right) (defBody s_law_right) (defScope s_law_right) .none kV56 dc56 pm56 an56 cd56 ct56), sl56⟩) (c56 : PySem.W.codeIn K cd56 "_law_right" = true) (k56 : PySem.W.keepIn K (.ref f56) = true)
    (a57 : PySem.W.nsIn K mainGlobals "law" = some (some (.ref f57))) (l57 : K.lookup f57 = some ⟨oc57, od57, .func (PySem.W.fnOf "law" "law" (defArgs s_law) (defBody s_law) (defScope s_law) .none kV57 dc57 pm57 an57 cd57 ct57), sl57⟩) (c57 : PySem.W.codeIn K cd57 "law" = true) (k57 : PySem.W.keepIn K (.ref f57) = true)
    (z1 : PySem.W.nsIn K mainGlobals "len" = some none)
    (z2 : PySem.W.nsIn K mainGlobals "zip" = some none)
    (z3 : PySem.W.nsIn K mainGlobals "list" = some none)
    (z4 : PySem.W.nsIn K mainGlobals "tuple" = some none)
    (z5 : PySem.W.nsIn K mainGlobals "isinstance" = some none)
    (z6 : PySem.W.nsIn K mainGlobals "int" = some none)
    (z7 : PySem.W.nsIn K mainGlobals "bool" = some none)
    (z8 : PySem.W.nsIn K mainGlobals "str" = some none)
    (z9 : PySem.W.nsIn K mainGlobals "all" = some none)
    (z10 : PySem.W.nsIn K mainGlobals "any" = some none)
    (z11 : PySem.W.nsIn K mainGlobals "min" = some none)
    (z12 : PySem.W.nsIn K mainGlobals "max" = some none)
    (z13 : PySem.W.nsIn K mainGlobals "sorted" = some none)
    (z14 : PySem.W.nsIn K mainGlobals "range" = some none)
    (z15 : PySem.W.nsIn K mainGlobals "dict" = some none)
    (z16 : PySem.W.nsIn K mainGlobals "set" = some none)
    (z17 : PySem.W.nsIn K mainGlobals "enumerate" = some none)
    (z18 : PySem.W.nsIn K mainGlobals "abs" = some none)
    (z19 : PySem.W.nsIn K mainGlobals "divmod" = some none)
    (m1 : PySem.W.nsIn K mainGlobals "MOST_CORNERS" = some (some (.int 20 y1)))
    (m2 : PySem.W.nsIn K mainGlobals "MOST_TIES" = some (some (.int 60 y2)))
    (m3 : PySem.W.nsIn K mainGlobals "WEB" = some (some (.str "web" y3)))
    (m4 : PySem.W.nsIn K mainGlobals "FIVE" = some (some (.str "five" y4)))
    (m5 : PySem.W.nsIn K mainGlobals "WELLS" = some (some (.str "wells" y5)))
    (m6 : PySem.W.nsIn K mainGlobals "BARRED" = some (some (.str "barred" y6))) :
    ∃ fd : FuncData, (∀ (s : Shared) (v : Value), BindsTo s fd ⟨[v], []⟩ [("_law_script", v)]) ∧ ∀ base : Heap, K.In base → base.Ns mainGlobals mg → FnOk l.prog w K mg base CX0 12 fa fd ["_law_script"] (spLaw K) := by
  have e := hfa.symm.trans (PySem.W.mg_of X G a57)
  cases e
  have F := fun_mk (st := s_law) l57 c57 k57
  have T : Ats K mg := ⟨at_mk X G a1 l1 c1 k1, at_mk X G a2 l2 c2 k2, at_mk X G a3 l3 c3 k3, at_mk X G a4 l4 c4 k4, at_mk X G a5 l5 c5 k5, at_mk X G a6 l6 c6 k6, at_mk X G a7 l7 c7 k7, at_mk X G a8 l8 c8 k8, at_mk X G a9 l9 c9 k9, at_mk X G a10 l10 c10 k10, at_mk X G a11 l11 c11 k11, at_mk X G a12 l12 c12 k12, at_mk X G a13 l13 c13 k13, at_mk X G a14 l14 c14 k14, at_mk X G a15 l15 c15 k15, at_mk X G a16 l16 c16 k16, at_mk X G a17 l17 c17 k17, at_mk X G a18 l18 c18 k18, at_mk X G a19 l19 c19 k19, at_mk X G a20 l20 c20 k20, at_mk X G a21 l21 c21 k21, at_mk X G a22 l22 c22 k22, at_mk X G a23 l23 c23 k23, at_mk X G a24 l24 c24 k24, at_mk X G a25 l25 c25 k25, at_mk X G a26 l26 c26 k26, at_mk X G a27 l27 c27 k27, at_mk X G a28 l28 c28 k28, at_mk X G a29 l29 c29 k29, at_mk X G a30 l30 c30 k30, at_mk X G a31 l31 c31 k31, at_mk X G a32 l32 c32 k32, at_mk X G a33 l33 c33 k33, at_mk X G a34 l34 c34 k34, at_mk X G a35 l35 c35 k35, at_mk X G a36 l36 c36 k36, at_mk X G a37 l37 c37 k37, at_mk X G a38 l38 c38 k38, at_mk X G a39 l39 c39 k39, at_mk X G a40 l40 c40 k40, at_mk X G a41 l41 c41 k41, at_mk X G a42 l42 c42 k42, at_mk X G a43 l43 c43 k43, at_mk X G a44 l44 c44 k44, at_mk X G a45 l45 c45 k45, at_mk X G a46 l46 c46 k46, at_mk X G a47 l47 c47 k47, at_mk X G a48 l48 c48 k48, at_mk X G a49 l49 c49 k49, at_mk X G a50 l50 c50 k50, at_mk X G a51 l51 c51 k51, at_mk X G a52 l52 c52 k52, at_mk X G a53 l53 c53 k53, at_mk X G a54 l54 c54 k54, at_mk X G a55 l55 c55 k55, at_mk X G a56 l56 c56 k56⟩
  have B : Bt mg := ⟨PySem.W.mg_none_of X G z1, PySem.W.mg_none_of X G z2, PySem.W.mg_none_of X G z3, PySem.W.mg_none_of X G z4, PySem.W.mg_none_of X G z5, PySem.W.mg_none_of X G z6, PySem.W.mg_none_of X G z7, PySem.W.mg_none_of X G z8, PySem.W.mg_none_of X G z9, PySem.W.mg_none_of X G z10, PySem.W.mg_none_of X G z11, PySem.W.mg_none_of X G z12, PySem.W.mg_none_of X G z13, PySem.W.mg_none_of X G z14, PySem.W.mg_none_of X G z15, PySem.W.mg_none_of X G z16, PySem.W.mg_none_of X G z17, PySem.W.mg_none_of X G z18, PySem.W.mg_none_of X G z19⟩
  have Gv : Gc mg := ⟨⟨_, PySem.W.mg_of X G m1, ⟨_, rfl⟩⟩, ⟨_, PySem.W.mg_of X G m2, ⟨_, rfl⟩⟩, ⟨_, PySem.W.mg_of X G m3, ⟨_, rfl⟩⟩, ⟨_, PySem.W.mg_of X G m4, ⟨_, rfl⟩⟩, ⟨_, PySem.W.mg_of X G m5, ⟨_, rfl⟩⟩, ⟨_, PySem.W.mg_of X G m6, ⟨_, rfl⟩⟩⟩
  exact ⟨_, fun s v => .of_eq rfl, fun base _ _ => ok_law F (law_all T B Gv).1 (law_all T B Gv).2⟩
end Wp
open PySem PySem.W PyProof.Rows
set_option maxHeartbeats 0 in
theorem PySem.Challenge.cw_websolids_k32_whole_webs_that_can_be_dra_holds : PySem.Challenge.rw_websolids_k32_whole_webs_that_can_be_dra.Holds := by
  w_on; o_law; k_head; (case hw => w_witness2)
  k_fill
  refine L2.walk_of (l := PySem.Challenge.rw_websolids_k32_whole_webs_that_can_be_dra) (n := 63) (k := 12) (x := "_law_script") (CX := fun _ => L2.CX0) (sp := fun w => Wp.spLaw _) rfl (by decide) rfl ⟨rfl, by decide, by decide⟩ (fun w h Y => PySem.W.kIn_of Y) ?F (fun _ _ a ns hl _ hS => ⟨a, ns, rfl, hS, fun _ => rfl⟩) (fun _ _ _ _ _ h => h)
  case F =>
    intro w mg fa h KX G hmg
    refine' Wp.all_mk KX G hmg ?a1 ?l1 ?c1 ?k1 ?a2 ?l2 ?c2 ?k2 ?a3 ?l3 ?c3 ?k3 ?a4 ?l4 ?c4 ?k4 ?a5 ?l5 ?c5 ?k5 ?a6 ?l6 ?c6 ?k6 ?a7 ?l7 ?c7 ?k7 ?a8 ?l8 ?c8 ?k8 ?a9 ?l9 ?c9 ?k9 ?a10 ?l10 ?c10 ?k10 ?a11 ?l11 ?c11 ?k11 ?a12 ?l12 ?c12 ?k12 ?a13 ?l13 ?c13 ?k13 ?a14 ?l14 ?c14 ?k14 ?a15 ?l15 ?c15 ?k15 ?a16 ?l16 ?c16 ?k16 ?a17 ?l17 ?c17 ?k17 ?a18 ?l18 ?c18 ?k18 ?a19 ?l19 ?c19 ?k19 ?a20 ?l20 ?c20 ?k20 ?a21 ?l21 ?c21 ?k21 ?a22 ?l22 ?c22 ?k22 ?a23 ?l23 ?c23 ?k23 ?a24 ?l24 ?c24 ?k24 ?a25 ?l25 ?c25 ?k25 ?a26 ?l26 ?c26 ?k26 ?a27 ?l27 ?c27 ?k27 ?a28 ?l28 ?c28 ?k28 ?a29 ?l29 ?c29 ?k29 ?a30 ?l30 ?c30 ?k30 ?a31 ?l31 ?c31 ?k31 ?a32 ?l32 ?c32 ?k32 ?a33 ?l33 ?c33 ?k33 ?a34 ?l34 ?c34 ?k34 ?a35 ?l35 ?c35 ?k35 ?a36 ?l36 ?c36 ?k36 ?a37 ?l37 ?c37 ?k37 ?a38 ?l38 ?c38 ?k38 ?a39 ?l39 ?c39 ?k39 ?a40 ?l40 ?c40 ?k40 ?a41 ?l41 ?c41 ?k41 ?a42 ?l42 ?c42 ?k42 ?a43 ?l43 ?c43 ?k43 ?a44 ?l44 ?c44 ?k44 ?a45 ?l45 ?c45 ?k45 ?a46 ?l46 ?c46 ?k46 ?a47 ?l47 ?c47 ?k47 ?a48 ?l48 ?c48 ?k48 ?a49 ?l49 ?c49 ?k49 ?a50 ?l50 ?c50 ?k50 ?a51 ?l51 ?c51 ?k51 ?a52 ?l52 ?c52 ?k52 ?a53 ?l53 ?c53 ?k53 ?a54 ?l54 ?c54 ?k54 ?a55 ?l55 ?c55 ?k55 ?a56 ?l56 ?c56 ?k56 ?a57 ?l57 ?c57 ?k57 ?z1 ?z2 ?z3 ?z4 ?z5 ?z6 ?z7 ?z8 ?z9 ?z10 ?z11 ?z12 ?z13 ?z14 ?z15 ?z16 ?z17 ?z18 ?z19 ?m1 ?m2 ?m3 ?m4 ?m5 ?m6
    (case a1 => k_is); (case l1 => k_is); (case c1 => k_is); (case k1 => k_is); (case a2 => k_is); (case l2 => k_is); (case c2 => k_is); (case k2 => k_is); (case a3 => k_is); (case l3 => k_is); (case c3 => k_is); (case k3 => k_is); (case a4 => k_is); (case l4 => k_is); (case c4 => k_is); (case k4 => k_is); (case a5 => k_is); (case l5 => k_is); (case c5 => k_is); (case k5 => k_is); (case a6 => k_is); (case l6 => k_is); (case c6 => k_is); (case k6 => k_is); (case a7 => k_is); (case l7 => k_is); (case c7 => k_is); (case k7 => k_is); (case a8 => k_is); (case l8 => k_is); (case c8 => k_is); (case k8 => k_is); (case a9 => k_is); (case l9 => k_is); (case c9 => k_is); (case k9 => k_is); (case a10 => k_is); (case l10 => k_is); (case c10 => k_is); (case k10 => k_is); (case a11 => k_is); (case l11 => k_is); (case c11 => k_is); (case k11 => k_is); (case a12 => k_is); (case l12 => k_is); (case c12 => k_is); (case k12 => k_is); (case a13 => k_is); (case l13 => k_is); (case c13 => k_is); (case k13 => k_is); (case a14 => k_is); (case l14 => k_is); (case c14 => k_is); (case k14 => k_is); (case a15 => k_is); (case l15 => k_is); (case c15 => k_is); (case k15 => k_is); (case a16 => k_is); (case l16 => k_is); (case c16 => k_is); (case k16 => k_is); (case a17 => k_is); (case l17 => k_is); (case c17 => k_is); (case k17 => k_is); (case a18 => k_is); (case l18 => k_is); (case c18 => k_is); (case k18 => k_is); (case a19 => k_is); (case l19 => k_is); (case c19 => k_is); (case k19 => k_is); (case a20 => k_is); (case l20 => k_is); (case c20 => k_is); (case k20 => k_is); (case a21 => k_is); (case l21 => k_is); (case c21 => k_is); (case k21 => k_is); (case a22 => k_is); (case l22 => k_is); (case c22 => k_is); (case k22 => k_is); (case a23 => k_is); (case l23 => k_is); (case c23 => k_is); (case k23 => k_is); (case a24 => k_is); (case l24 => k_is); (case c24 => k_is); (case k24 => k_is); (case a25 => k_is); (case l25 => k_is); (case c25 => k_is); (case k25 => k_is); (case a26 => k_is); (case l26 => k_is); (case c26 => k_is); (case k26 => k_is); (case a27 => k_is); (case l27 => k_is); (case c27 => k_is); (case k27 => k_is); (case a28 => k_is); (case l28 => k_is); (case c28 => k_is); (case k28 => k_is); (case a29 => k_is); (case l29 => k_is); (case c29 => k_is); (case k29 => k_is); (case a30 => k_is); (case l30 => k_is); (case c30 => k_is); (case k30 => k_is); (case a31 => k_is); (case l31 => k_is); (case c31 => k_is); (case k31 => k_is); (case a32 => k_is); (case l32 => k_is); (case c32 => k_is); (case k32 => k_is); (case a33 => k_is); (case l33 => k_is); (case c33 => k_is); (case k33 => k_is); (case a34 => k_is); (case l34 => k_is); (case c34 => k_is); (case k34 => k_is); (case a35 => k_is); (case l35 => k_is); (case c35 => k_is); (case k35 => k_is); (case a36 => k_is); (case l36 => k_is); (case c36 => k_is); (case k36 => k_is); (case a37 => k_is); (case l37 => k_is); (case c37 => k_is); (case k37 => k_is); (case a38 => k_is); (case l38 => k_is); (case c38 => k_is); (case k38 => k_is); (case a39 => k_is); (case l39 => k_is); (case c39 => k_is); (case k39 => k_is); (case a40 => k_is); (case l40 => k_is); (case c40 => k_is); (case k40 => k_is); (case a41 => k_is); (case l41 => k_is); (case c41 => k_is); (case k41 => k_is); (case a42 => k_is); (case l42 => k_is); (case c42 => k_is); (case k42 => k_is); (case a43 => k_is); (case l43 => k_is); (case c43 => k_is); (case k43 => k_is); (case a44 => k_is); (case l44 => k_is); (case c44 => k_is); (case k44 => k_is); (case a45 => k_is); (case l45 => k_is); (case c45 => k_is); (case k45 => k_is); (case a46 => k_is); (case l46 => k_is); (case c46 => k_is); (case k46 => k_is); (case a47 => k_is); (case l47 => k_is); (case c47 => k_is); (case k47 => k_is); (case a48 => k_is); (case l48 => k_is); (case c48 => k_is); (case k48 => k_is); (case a49 => k_is); (case l49 => k_is); (case c49 => k_is); (case k49 => k_is); (case a50 => k_is); (case l50 => k_is); (case c50 => k_is); (case k50 => k_is); (case a51 => k_is); (case l51 => k_is); (case c51 => k_is); (case k51 => k_is); (case a52 => k_is); (case l52 => k_is); (case c52 => k_is); (case k52 => k_is); (case a53 => k_is); (case l53 => k_is); (case c53 => k_is); (case k53 => k_is); (case a54 => k_is); (case l54 => k_is); (case c54 => k_is); (case k54 => k_is); (case a55 => k_is); (case l55 => k_is); (case c55 => k_is); (case k55 => k_is); (case a56 => k_is); (case l56 => k_is); (case c56 => k_is); (case k56 => k_is); (case a57 => k_is); (case l57 => k_is); (case c57 => k_is); (case k57 => k_is); (case z1 => k_is); (case z2 => k_is); (case z3 => k_is); (case z4 => k_is); (case z5 => k_is); (case z6 => k_is); (case z7 => k_is); (case z8 => k_is); (case z9 => k_is); (case z10 => k_is); (case z11 => k_is); (case z12 => k_is); (case z13 => k_is); (case z14 => k_is); (case z15 => k_is); (case z16 => k_is); (case z17 => k_is); (case z18 => k_is); (case z19 => k_is); (case m1 => k_is); (case m2 => k_is); (case m3 => k_is); (case m4 => k_is); (case m5 => k_is); (case m6 => k_is)
