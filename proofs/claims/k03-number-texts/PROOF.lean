import PyProof.Rows.All
import Wide.All
import OpenK.AllK
import Wide.FinOn
import HandS.ForMost
import HandS.Evl
import HandS.Gcd
import HandS.TupAny
import HandS.Wide
import HandS.Small
import HandS.IsInst
import HandS.List
import HandS.Text
import HandS.StrMore
import PySem.Challenge.RW_tablemates_k03_number_texts_are_read
set_option Elab.async false
set_option linter.all false
set_option maxRecDepth 100000
set_option maxHeartbeats 4000000
/-! DL: Python values as data over the hand layer: D a value, its objects inline; Cov what a frame holds. -/
namespace DL
open PySem L2 Evl

inductive Sh where
  | tup | lst | sq | dk (ks : List Key) | dt (ks : List (List Key)) | ins (C : Addr) (fs : List Str)
inductive D where
  | non | bl (b : Bool) | int (i : Int) | str (s : Str) | adr (a : Addr) | ty (n : String)
  | hol (v : V)
  | nd (m : Bool) (sh : Sh) (ds : List D)
abbrev D.tup (ds : List D) : D := .nd false .tup ds
abbrev D.lst (ds : List D) : D := .nd false .lst ds
abbrev D.ml (ds : List D) : D := .nd true .lst ds

/-- at p stands a node of this shape with these children -/
def Nd (K : PySem.W.Frag) (H : Hp) (p : Addr) : Sh → List V → Prop
  | .tup, xs => SqT K H p xs
  | .lst, xs => H p = some (.lst xs)
  | .sq, xs => SqL K H p xs
  | .dk ks, xs => ∃ kvs, H p = some (.dK kvs) ∧ kvs.map (·.1) = ks ∧ kvs.map (·.2) = xs
  | .dt ks, xs => ∃ kvs, H p = some (.dT kvs) ∧ kvs.map (·.1) = ks ∧ kvs.map (·.2) = xs
  | .ins C fs, xs => ∃ dx l, H p = some (.ins C dx l) ∧ l.map (·.1) = fs ∧ l.map (·.2) = xs
theorem Nd.mono {K : PySem.W.Frag} {F H : Hp} {p : Addr} {sh : Sh} {xs : List V} (e : Ex F H) (h : Nd K F p sh xs) : Nd K H p sh xs := by
  cases sh with
  | tup => exact ex_t e h
  | lst => exact e _ _ h
  | sq => exact ex_l e h
  | dk ks => obtain ⟨k, a, b⟩ := h; exact ⟨k, e _ _ a, b⟩
  | dt ks => obtain ⟨k, a, b⟩ := h; exact ⟨k, e _ _ a, b⟩
  | ins C fs => obtain ⟨x, l, a, b⟩ := h; exact ⟨x, l, e _ _ a, b⟩
def Sh.mu : Sh → Bool
  | .tup => false
  | .sq => false
  | _ => true
/-- a node that may change hangs on the one cell -/
theorem Nd.at_ {K : PySem.W.Frag} {H H' : Hp} {p : Addr} {sh : Sh} {xs : List V} (hm : sh.mu = true) (e : ∀ o, H p = some o → H' p = some o) (h : Nd K H p sh xs) : Nd K H' p sh xs := by
  cases sh with
  | tup => cases hm
  | lst => exact e _ h
  | sq => cases hm
  | dk ks => obtain ⟨k, a, b⟩ := h; exact ⟨k, e _ a, b⟩
  | dt ks => obtain ⟨k, a, b⟩ := h; exact ⟨k, e _ a, b⟩
  | ins C fs => obtain ⟨x, l, a, b⟩ := h; exact ⟨x, l, e _ a, b⟩

/-- v is the datum d, by what never changes -/
inductive Rep (K : PySem.W.Frag) (F : Hp) : V → D → Prop
  | non : Rep K F .non .non
  | bl (b : Bool) : Rep K F (.bl b) (.bl b)
  | int (i : Int) : Rep K F (.int i) (.int i)
  | str (s : Str) : Rep K F (.str s) (.str s)
  | adr (a : Addr) : Rep K F (.ref a) (.adr a)
  | ty (n : String) : Rep K F (.ty n) (.ty n)
  | nd {p : Addr} {sh : Sh} {xs : List V} {ds : List D} (h : Nd K F p sh xs) (hl : xs.length = ds.length)
      (hc : ∀ (j : Nat) (x : V) (d : D), xs[j]? = some x → ds[j]? = some d → Rep K F x d) : Rep K F (.ref p) (.nd false sh ds)
theorem Rep.mono {K : PySem.W.Frag} {F F' : Hp} {v : V} {d : D} (e : Ex F F') (h : Rep K F v d) : Rep K F' v d := by
  induction h with
  | non => exact .non
  | bl b => exact .bl b
  | int i => exact .int i
  | str s => exact .str s
  | adr a => exact .adr a
  | ty n => exact .ty n
  | nd h hl hc ih => exact .nd (h.mono e) hl ih
/-- v is the datum d; the objects of d that may change lie in A -/
inductive Own (K : PySem.W.Frag) (F H : Hp) : (Addr → Prop) → V → D → Prop
  | fr {A : Addr → Prop} {v : V} {d : D} (h : Rep K F v d) : Own K F H A v d
  | hol {A : Addr → Prop} (v : V) : Own K F H A v (.hol v)
  | nd {A : Addr → Prop} {p : Addr} {sh : Sh} {xs : List V} {ds : List D} (lab : Addr → Option Nat) (ha : A p) (hm : sh.mu = true) (h : Nd K H p sh xs) (hl : xs.length = ds.length)
      (hc : ∀ (j : Nat) (x : V) (d : D), xs[j]? = some x → ds[j]? = some d → Own K F H (fun a => A a ∧ a ≠ p ∧ lab a = some j) x d) : Own K F H A (.ref p) (.nd true sh ds)
theorem Own.mono {K : PySem.W.Frag} {F H : Hp} {A A' : Addr → Prop} {v : V} {d : D} (h : Own K F H A v d) (hA : ∀ a, A a → A' a) : Own K F H A' v d := by
  induction h generalizing A' with
  | fr h => exact .fr h
  | hol v => exact .hol v
  | nd lab ha hm h hl hc ih => exact .nd lab (hA _ ha) hm h hl fun j x d h1 h2 => ih j x d h1 h2 fun a ⟨a1, a2, a3⟩ => ⟨hA _ a1, a2, a3⟩
theorem Own.keep {K : PySem.W.Frag} {F F' H H' : Hp} {A : Addr → Prop} {v : V} {d : D} (h : Own K F H A v d) (e : Ex F F') (k : ∀ a o, A a → H a = some o → H' a = some o) : Own K F' H' A v d := by
  induction h with
  | fr h => exact .fr (h.mono e)
  | hol v => exact .hol v
  | nd lab ha hm h hl hc ih => exact .nd lab ha hm (h.at_ hm fun o => k _ o ha) hl fun j x d h1 h2 => ih j x d h1 h2 fun a o ⟨a1, _, _⟩ => k a o a1
/- all of it as what never changes -/
mutual
def frz : D → D
  | .nd _ sh ds => .nd false sh (frzs ds)
  | d => d
def frzs : List D → List D
  | [] => []
  | d :: r => frz d :: frzs r
end
theorem frzs_len : ∀ ds : List D, (frzs ds).length = ds.length
  | [] => rfl
  | d :: r => by show (frzs r).length + 1 = r.length + 1; rw [frzs_len r]
theorem frzs_get : ∀ (ds : List D) (j : Nat), (frzs ds)[j]? = (ds[j]?).map frz
  | [], j => by simp [frzs]
  | d :: r, 0 => by simp [frzs]
  | d :: r, j + 1 => by simp only [frzs, List.getElem?_cons_succ]; exact frzs_get r j
/- no hole in it -/
mutual
def noHol : D → Bool
  | .hol _ => false
  | .nd _ _ ds => noHols ds
  | _ => true
def noHols : List D → Bool
  | [] => true
  | d :: r => noHol d && noHols r
end
theorem noHols_get : ∀ {ds : List D} {j : Nat} {d : D}, noHols ds = true → ds[j]? = some d → noHol d = true
  | [], j, d, _, e => by simp at e
  | x :: r, 0, d, h, e => by
    simp only [noHols, Bool.and_eq_true] at h
    simp at e; rw [← e]; exact h.1
  | x :: r, j + 1, d, h, e => by
    simp only [noHols, Bool.and_eq_true] at h
    exact noHols_get h.2 (by simpa using e)
theorem Rep.frz {K : PySem.W.Frag} {F : Hp} {v : V} {d : D} (h : Rep K F v d) : Rep K F v (frz d) := by
  induction h with
  | non => exact .non
  | bl b => exact .bl b
  | int i => exact .int i
  | str s => exact .str s
  | adr a => exact .adr a
  | ty n => exact .ty n
  | nd h hl hc ih =>
    refine .nd h (by rw [frzs_len]; exact hl) fun j x d h1 h2 => ?_
    rw [frzs_get] at h2
    rename_i ds
    cases e : ds[j]? with
    | none => rw [e] at h2; cases h2
    | some d0 => rw [e] at h2; cases h2; exact ih j x d0 h1 e
/-- the owned objects are frozen -/
noncomputable def frzHp (F H : Hp) (A : Addr → Prop) : Hp := fun a => by
  classical exact if F a = none ∧ A a then H a else F a
theorem frzHp_ex {F H : Hp} {A : Addr → Prop} : Ex F (frzHp F H A) := fun a o h => by
  unfold frzHp
  rw [if_neg (fun q => by rw [h] at q; cases q.1)]
  exact h
theorem frzHp_le {F H : Hp} {A : Addr → Prop} (e : Ex F H) : Ex (frzHp F H A) H := fun a o h => by
  unfold frzHp at h
  split at h
  · exact h
  · exact e a o h
theorem frzHp_at {F H : Hp} {A : Addr → Prop} {a : Addr} (n : F a = none) (h : A a) : frzHp F H A a = H a := by
  unfold frzHp
  rw [if_pos ⟨n, h⟩]
theorem frzHp_out {F H : Hp} {A : Addr → Prop} {a : Addr} (h : ¬ A a) : frzHp F H A a = F a := by
  unfold frzHp
  rw [if_neg fun q => h q.2]
theorem Own.frz {K : PySem.W.Frag} {F H F' : Hp} {A : Addr → Prop} {v : V} {d : D} (h : Own K F H A v d) (e : Ex F F') (k : ∀ a, A a → F' a = H a) (nh : noHol d = true) : Rep K F' v (frz d) := by
  induction h with
  | fr h => exact (h.mono e).frz
  | hol v => cases nh
  | @nd A p sh xs ds lab ha hm h hl hc ih =>
    refine .nd (h.at_ hm fun o q => by rw [k _ ha]; exact q) (by rw [frzs_len]; exact hl) fun j x d h1 h2 => ?_
    rw [frzs_get] at h2
    cases q : ds[j]? with
    | none => rw [q] at h2; cases h2
    | some d0 =>
      rw [q] at h2; cases h2
      exact ih j x d0 h1 q (fun a ⟨a1, _, _⟩ => k a a1) (noHols_get (by simpa [noHol] using nh) q)

/-! ### slots -/
inductive Sl where
  | no | v (d : D) | p (d : D)
abbrev Rho := List Sl
inductive St : Rho → Nat → Sl → Rho → Prop
  | z {a b : Sl} {r : Rho} : St (a :: r) 0 b (b :: r)
  | s {a b : Sl} {r r' : Rho} {i : Nat} (h : St r i b r') : St (a :: r) (i + 1) b (a :: r')
theorem St.eq {r r' : Rho} {i : Nat} {b : Sl} (h : St r i b r') : r' = r.set i b ∧ i < r.length := by
  induction h with
  | z => exact ⟨rfl, by simp⟩
  | s h ih => exact ⟨by rw [ih.1]; rfl, by simp; exact ih.2⟩
theorem St.of {r : Rho} {i : Nat} {b : Sl} (h : i < r.length) : St r i b (r.set i b) := by
  induction r generalizing i with
  | nil => simp at h
  | cons a r ih =>
    cases i with
    | zero => exact .z
    | succ i => exact .s (ih (by simpa using h))

structure Bs where
  f0 : Hp
  hp : Hp
  z : Addr → Prop
  ps : List V
abbrev Lb := Bool × Nat
structure Cov (K : PySem.W.Frag) (B : Bs) (F H : Hp) (σ : L2.St) (ρ : Rho) (τ : List (V × D)) : Prop where
  f0 : Ex B.f0 F
  fh : Ex F H
  bh : Ex B.hp H
  bz : ∀ a, B.z a → F a = none
  zb : ∀ a, B.z a → B.hp a ≠ none
  ln : σ.length = ρ.length
  own : ∃ lab : Addr → Option Lb, (∀ a, lab a ≠ none → F a = none ∧ B.hp a = none) ∧
    (∀ i d, ρ[i]? = some (.v d) → ∃ v, σ[i]? = some (some v) ∧ Own K F H (fun a => lab a = some (false, i)) v d) ∧
    (∀ i d, ρ[i]? = some (.p d) → ∃ v, σ[i]? = some (some v) ∧ B.ps[i]? = some v ∧ Own K F H (fun a => lab a = some (false, i)) v d) ∧
    (∀ k v d, τ[k]? = some (v, d) → Own K F H (fun a => lab a = some (true, k)) v d)

section
variable {K : PySem.W.Frag} {B : Bs} {F F' H H' : Hp} {σ : L2.St} {ρ ρ' : Rho} {τ : List (V × D)} {v : V} {d : D} {p : Addr}
theorem snoc_get {α : Type} {l : List α} {x y : α} {k : Nat} (h : (l ++ [x])[k]? = some y) : (k < l.length ∧ l[k]? = some y) ∨ (k = l.length ∧ y = x) := by
  by_cases hk : k < l.length
  · rw [List.getElem?_append_left hk] at h
    exact .inl ⟨hk, h⟩
  · rw [List.getElem?_append_right (by omega)] at h
    have : k - l.length = 0 := by
      cases q : k - l.length with
      | zero => rfl
      | succ n => rw [q] at h; simp at h
    rw [this] at h
    simp at h
    exact .inr ⟨by omega, h.symm⟩
theorem Cov.push (C : Cov K B F H σ ρ τ) (r : Rep K F v d) : Cov K B F H σ ρ (τ ++ [(v, d)]) := by
  obtain ⟨lab, h1, h2, h3, h4⟩ := C.own
  refine ⟨C.f0, C.fh, C.bh, C.bz, C.zb, C.ln, lab, h1, h2, h3, fun k w e h => ?_⟩
  rcases snoc_get h with ⟨_, h⟩ | ⟨_, h⟩
  · exact h4 k w e h
  · cases h; exact .fr r
theorem Cov.pop {x : V × D} (C : Cov K B F H σ ρ (τ ++ [x])) : Cov K B F H σ ρ τ := by
  obtain ⟨lab, h1, h2, h3, h4⟩ := C.own
  exact ⟨C.f0, C.fh, C.bh, C.bz, C.zb, C.ln, lab, h1, h2, h3, fun k w e h => h4 k w e (by rw [List.getElem?_append_left (List.getElem?_eq_some_iff.mp h).1]; exact h)⟩
theorem Cov.top (C : Cov K B F H σ ρ (τ ++ [(v, d)])) : ∃ lab : Addr → Option Lb, (∀ a, lab a ≠ none → F a = none ∧ B.hp a = none) ∧ Own K F H (fun a => lab a = some (true, τ.length)) v d := by
  obtain ⟨lab, h1, h2, h3, h4⟩ := C.own
  exact ⟨lab, h1, h4 _ _ _ (by simp)⟩
/- a datum without changing parts -/
mutual
def isFr : D → Bool
  | .hol _ => false
  | .nd m _ ds => !m && isFrs ds
  | _ => true
def isFrs : List D → Bool
  | [] => true
  | d :: r => isFr d && isFrs r
end
theorem Own.rep {A : Addr → Prop} (h : Own K F H A v d) (n : isFr d = true) : Rep K F v d := by
  cases h with
  | fr h => exact h
  | hol v => cases n
  | nd lab ha hm h hl hc => simp [isFr] at n
theorem Cov.rep (C : Cov K B F H σ ρ (τ ++ [(v, d)])) (n : isFr d = true) : Rep K F v d := let ⟨_, _, h⟩ := C.top; h.rep n
/-- more is known, nothing that was owned changes -/
theorem Cov.grow (C : Cov K B F H σ ρ τ) (e : Ex F F') (hh : Ex H H') (fh : Ex F' H') (new : ∀ a, F' a ≠ none → F a ≠ none ∨ H a = none) : Cov K B F' H' σ ρ τ := by
  obtain ⟨lab, h1, h2, h3, h4⟩ := id C.own
  have fn : ∀ a, F a = none → H a ≠ none → F' a = none := fun a n m => by
    cases q : F' a with
    | none => rfl
    | some o =>
      rcases new a (by rw [q]; simp) with z | z
      · exact absurd n z
      · exact absurd z m
  -- a label upon what is not there is dropped
  classical
  let lab' : Addr → Option Lb := fun a => if H a = none then none else lab a
  have ow : ∀ {l : Lb} {v : V} {d : D}, Own K F H (fun a => lab a = some l) v d → Own K F' H' (fun a => lab' a = some l) v d := fun {l v d} h => by
    have g : ∀ {A : Addr → Prop} {v : V} {d : D}, Own K F H A v d → Own K F H (fun a => A a ∧ H a ≠ none) v d := fun {A v d} h => by
      induction h with
      | fr h => exact .fr h
      | hol v => exact .hol v
      | @nd A p sh xs ds lab ha hm h hl hc ih =>
        refine .nd lab ⟨ha, ?_⟩ hm h hl fun j x d h1 h2 => (ih j x d h1 h2).mono fun a ⟨⟨a1, a2, a3⟩, a4⟩ => ⟨⟨a1, a4⟩, a2, a3⟩
        cases sh with
        | tup => cases hm
        | lst => intro q; rw [show H _ = _ from h] at q; cases q
        | sq => cases hm
        | dk ks => obtain ⟨k, a, b⟩ := h; intro q; rw [a] at q; cases q
        | dt ks => obtain ⟨k, a, b⟩ := h; intro q; rw [a] at q; cases q
        | ins C fs => obtain ⟨k, l, a, b⟩ := h; intro q; rw [a] at q; cases q
    refine ((g h).keep e fun a o _ q => hh a o q).mono fun a ⟨a1, a2⟩ => ?_
    show (if H a = none then none else lab a) = _
    rw [if_neg a2]; exact a1
  refine ⟨C.f0.trans e, fh, C.bh.trans hh, fun a z => ?_, C.zb, C.ln, lab', fun a q => ?_, fun i d h => ?_, fun i d h => ?_, fun k v d h => ow (h4 k v d h)⟩
  · refine fn a (C.bz a z) fun q => ?_
    cases r : B.hp a with
    | none => exact C.zb a z r
    | some o => rw [C.bh a o r] at q; cases q
  · have q1 : H a ≠ none := fun z => q (by show (if H a = none then none else lab a) = none; rw [if_pos z])
    have q2 : lab a ≠ none := fun z => q (by show (if H a = none then none else lab a) = none; rw [if_neg q1]; exact z)
    exact ⟨fn a (h1 a q2).1 q1, (h1 a q2).2⟩
  · obtain ⟨v, a, b⟩ := h2 i d h; exact ⟨v, a, ow b⟩
  · obtain ⟨v, a, a', b⟩ := h3 i d h; exact ⟨v, a, a', ow b⟩
theorem ex_updF {o : HO} (C : Ex F H) (n : H p = none) : Ex (upd F p o) (upd H p o) := fun a u h => by
  by_cases e : a = p
  · subst e; rw [upd_same] at h ⊢; exact h
  · rw [upd_ne e] at h ⊢; exact C a u h
theorem none_F (C : Ex F H) (n : H p = none) : F p = none := fresh_back C n
/-- a new object that stays as it is -/
theorem Cov.laid {o : HO} (C : Cov K B F H σ ρ τ) (n : H p = none) : Cov K B (upd F p o) (upd H p o) σ ρ τ :=
  C.grow (Ex.new (none_F C.fh n)) (Ex.new n) (ex_updF C.fh n) fun a h => by
    by_cases e : a = p
    · subst e; exact .inr n
    · rw [upd_ne e] at h; exact .inl h
/-- a new object that may change -/
theorem Cov.alloc {sh : Sh} {xs : List V} {ds : List D} {o : HO} (C : Cov K B F H σ ρ τ) (n : H p = none) (hm : sh.mu = true) (h_ : Nd K (upd H p o) p sh xs) (hl : xs.length = ds.length)
    (hc : ∀ (j : Nat) (x : V) (d : D), xs[j]? = some x → ds[j]? = some d → Rep K F x d) : Cov K B F (upd H p o) σ ρ (τ ++ [(.ref p, .nd true sh ds)]) := by
  have C1 : Cov K B F (upd H p o) σ ρ τ := C.grow (Ex.refl F) (Ex.new n) (C.fh.trans (Ex.new n)) fun a h => .inl h
  have hb : B.hp p = none := fresh_back C.bh n
  -- labels as they were before p was there
  obtain ⟨lb, g1, g2, g3, g4⟩ := C.own
  let lb' : Addr → Option Lb := fun a => if a = p then some (true, τ.length) else if lb a = some (true, τ.length) then none else lb a
  have np : ∀ {A : Addr → Prop} {v : V} {d : D}, Own K F H A v d → Own K F H (fun a => A a ∧ a ≠ p) v d := fun {A v d} h => by
    induction h with
    | fr h => exact .fr h
    | hol v => exact .hol v
    | @nd A p' sh xs ds lab ha hm h hl hc ih =>
      refine .nd lab ⟨ha, ?_⟩ hm h hl fun j x d h1 h2 => (ih j x d h1 h2).mono fun a ⟨⟨a1, a2, a3⟩, a4⟩ => ⟨⟨a1, a4⟩, a2, a3⟩
      intro ep
      subst ep
      cases sh with
      | tup => cases hm
      | lst => rw [show H _ = _ from h] at n; cases n
      | sq => cases hm
      | dk ks => obtain ⟨k, a, b⟩ := h; rw [a] at n; cases n
      | dt ks => obtain ⟨k, a, b⟩ := h; rw [a] at n; cases n
      | ins C fs => obtain ⟨k, l, a, b⟩ := h; rw [a] at n; cases n
  have ow : ∀ {l : Lb} {v : V} {d : D}, l ≠ (true, τ.length) → Own K F H (fun a => lb a = some l) v d → Own K F (upd H p o) (fun a => lb' a = some l) v d := fun {l v d} nl h => by
    refine ((np h).keep (Ex.refl F) fun a u a1 q => by rw [upd_ne a1.2]; exact q).mono fun a ⟨a1, a2⟩ => ?_
    show (if a = p then _ else if lb a = some (true, τ.length) then none else lb a) = _
    rw [if_neg a2, if_neg (fun z => nl (by rw [a1] at z; exact Option.some.inj z))]
    exact a1
  refine ⟨C.f0, C1.fh, C1.bh, C.bz, C.zb, C.ln, lb', fun a q => ?_, fun i d h => ?_, fun i d h => ?_, fun k v d h => ?_⟩
  · by_cases e : a = p
    · subst e; exact ⟨none_F C.fh n, hb⟩
    · refine g1 a fun z => q ?_
      show (if a = p then _ else if lb a = some (true, τ.length) then none else lb a) = _
      rw [if_neg e, z]; simp
  · obtain ⟨v, a, b⟩ := g2 i d h; exact ⟨v, a, ow (by intro z; cases z) b⟩
  · obtain ⟨v, a, a', b⟩ := g3 i d h; exact ⟨v, a, a', ow (by intro z; cases z) b⟩
  · rcases snoc_get h with ⟨hk, h⟩ | ⟨hk, h⟩
    · exact ow (by intro z; have := congrArg Prod.snd z; simp at this; omega) (g4 k v d h)
    · cases h
      subst hk
      exact .nd (fun _ => none) (by show (if p = p then _ else _) = _; rw [if_pos rfl]) hm h_ hl fun j x d a b => .fr (hc j x d a b)
end
end DL
namespace DL
open PySem L2 Evl

section
variable {K : PySem.W.Frag} {B : Bs} {F F' H H' : Hp} {σ : L2.St} {ρ ρ' : Rho} {τ : List (V × D)} {v : V} {d : D} {p : Addr} {i : Nat}
/-! ### slots -/
inductive Gt : Rho → Nat → D → Prop
  | v {d : D} {r : Rho} : Gt (.v d :: r) 0 d
  | p {d : D} {r : Rho} : Gt (.p d :: r) 0 d
  | s {a : Sl} {r : Rho} {i : Nat} {d : D} (h : Gt r i d) : Gt (a :: r) (i + 1) d
theorem Gt.eq (h : Gt ρ i d) : ρ[i]? = some (.v d) ∨ ρ[i]? = some (.p d) := by
  induction h with
  | v => exact .inl rfl
  | p => exact .inr rfl
  | s h ih => simpa using ih
inductive Up : Rho → Nat → D → Rho → Prop
  | v {a d : D} {r : Rho} : Up (.v a :: r) 0 d (.v d :: r)
  | p {a d : D} {r : Rho} : Up (.p a :: r) 0 d (.p d :: r)
  | s {a : Sl} {r r' : Rho} {i : Nat} {d : D} (h : Up r i d r') : Up (a :: r) (i + 1) d (a :: r')
theorem Up.len (h : Up ρ i d ρ') : ρ'.length = ρ.length := by
  induction h with
  | v => rfl
  | p => rfl
  | s h ih => simp [ih]
theorem Up.get (h : Up ρ i d ρ') {j : Nat} {e : D} (q : ρ'[j]? = some (.v e)) : (j = i ∧ e = d ∧ ∃ a, ρ[i]? = some (.v a)) ∨ (j ≠ i ∧ ρ[j]? = some (.v e)) := by
  induction h generalizing j with
  | v =>
    cases j with
    | zero => simp at q; exact .inl ⟨rfl, q.symm, _, rfl⟩
    | succ j => exact .inr ⟨by omega, by simpa using q⟩
  | p =>
    cases j with
    | zero => simp at q
    | succ j => exact .inr ⟨by omega, by simpa using q⟩
  | s h ih =>
    cases j with
    | zero => exact .inr ⟨by omega, by simpa using q⟩
    | succ j =>
      rcases ih (by simpa using q) with ⟨a, b, c⟩ | ⟨a, b⟩
      · exact .inl ⟨by omega, b, by simpa using c⟩
      · exact .inr ⟨by omega, by simpa using b⟩
theorem Up.getp (h : Up ρ i d ρ') {j : Nat} {e : D} (q : ρ'[j]? = some (.p e)) : (j = i ∧ e = d ∧ ∃ a, ρ[i]? = some (.p a)) ∨ (j ≠ i ∧ ρ[j]? = some (.p e)) := by
  induction h generalizing j with
  | v =>
    cases j with
    | zero => simp at q
    | succ j => exact .inr ⟨by omega, by simpa using q⟩
  | p =>
    cases j with
    | zero => simp at q; exact .inl ⟨rfl, q.symm, _, rfl⟩
    | succ j => exact .inr ⟨by omega, by simpa using q⟩
  | s h ih =>
    cases j with
    | zero => exact .inr ⟨by omega, by simpa using q⟩
    | succ j =>
      rcases ih (by simpa using q) with ⟨a, b, c⟩ | ⟨a, b⟩
      · exact .inl ⟨by omega, b, by simpa using c⟩
      · exact .inr ⟨by omega, by simpa using b⟩
theorem Cov.get (C : Cov K B F H σ ρ τ) (g : Gt ρ i d) : ∃ (v : V) (lab : Addr → Option Lb), σ[i]? = some (some v) ∧ (∀ a : Addr, lab a ≠ none → F a = none ∧ B.hp a = none) ∧ Own K F H (fun a => lab a = some ((false, i) : Lb)) v d := by
  obtain ⟨lab, h1, h2, h3, h4⟩ := C.own
  rcases g.eq with g | g
  · obtain ⟨v, a, b⟩ := h2 i d g; exact ⟨v, lab, a, h1, b⟩
  · obtain ⟨v, a, _, b⟩ := h3 i d g; exact ⟨v, lab, a, h1, b⟩
theorem Cov.getF (C : Cov K B F H σ ρ τ) (g : Gt ρ i d) (n : isFr d = true) : ∃ v, σ[i]? = some (some v) ∧ Rep K F v d := by
  obtain ⟨v, lab, a, _, b⟩ := C.get g
  exact ⟨v, a, b.rep n⟩
theorem Cov.forget (C : Cov K B F H σ ρ τ) {τ' : List (V × D)} (h : ∀ (k : Nat) x, τ'[k]? = some x → τ[k]? = some x) : Cov K B F H σ ρ τ' := by
  obtain ⟨lab, h1, h2, h3, h4⟩ := C.own
  exact ⟨C.f0, C.fh, C.bh, C.bz, C.zb, C.ln, lab, h1, h2, h3, fun k v d q => h4 k v d (h k _ q)⟩
theorem Cov.popN {τ' : List (V × D)} (C : Cov K B F H σ ρ (τ ++ τ')) : Cov K B F H σ ρ τ :=
  C.forget fun k x h => by rw [List.getElem?_append_left (List.getElem?_eq_some_iff.mp h).1]; exact h
/-- the temp on top goes to a slot -/
theorem Cov.assign (C : Cov K B F H σ ρ (τ ++ [(v, d)])) (g : St ρ i (.v d) ρ') : Cov K B F H (σ.set i (some v)) ρ' τ := by
  obtain ⟨rfl, hi⟩ := g.eq
  obtain ⟨lab, h1, h2, h3, h4⟩ := C.own
  let lab' : Addr → Option Lb := fun a => if lab a = some (true, τ.length) then some (false, i) else if lab a = some (false, i) then none else lab a
  have ow : ∀ {l : Lb} {v : V} {d : D}, l ≠ (true, τ.length) → l ≠ (false, i) → Own K F H (fun a => lab a = some l) v d → Own K F H (fun a => lab' a = some l) v d := fun {l v d} n1 n2 h => h.mono fun a q => by
    show (if lab a = some (true, τ.length) then some (false, i) else if lab a = some (false, i) then none else lab a) = some l
    rw [if_neg (fun z => n1 (by rw [q] at z; exact Option.some.inj z)), if_neg (fun z => n2 (by rw [q] at z; exact Option.some.inj z))]
    exact q
  have hs : i < σ.length := by rw [C.ln]; exact hi
  refine ⟨C.f0, C.fh, C.bh, C.bz, C.zb, by simp [C.ln], lab', fun a q => h1 a fun z => q ?_, fun j e h => ?_, fun j e h => ?_, fun k w e h => ?_⟩
  · show (if lab a = some (true, τ.length) then some (false, i) else if lab a = some (false, i) then none else lab a) = none
    rw [z]; simp
  · by_cases hj : j = i
    · subst hj
      rw [List.getElem?_set_self hi] at h
      cases h
      refine ⟨v, by rw [List.getElem?_set_self hs], (h4 τ.length v d (by simp)).mono fun a q => ?_⟩
      show (if lab a = some (true, τ.length) then some (false, j) else if lab a = some (false, j) then none else lab a) = some (false, j)
      rw [if_pos q]
    · rw [List.getElem?_set_ne (Ne.symm hj)] at h
      obtain ⟨w, a, b⟩ := h2 j e h
      exact ⟨w, by rw [List.getElem?_set_ne (Ne.symm hj)]; exact a, ow (by intro z; cases z) (by intro z; exact hj (congrArg Prod.snd z)) b⟩
  · by_cases hj : j = i
    · subst hj
      rw [List.getElem?_set_self hi] at h
      cases h
    · rw [List.getElem?_set_ne (Ne.symm hj)] at h
      obtain ⟨w, a, a', b⟩ := h3 j e h
      exact ⟨w, by rw [List.getElem?_set_ne (Ne.symm hj)]; exact a, a', ow (by intro z; cases z) (by intro z; exact hj (congrArg Prod.snd z)) b⟩
  · have hk := (List.getElem?_eq_some_iff.mp h).1
    exact ow (by intro z; have := congrArg Prod.snd z; simp at this; omega) (by intro z; cases z) (h4 k w e (by rw [List.getElem?_append_left hk]; exact h))
/-- a slot is forgotten -/
theorem Cov.drop (C : Cov K B F H σ ρ τ) (g : St ρ i .no ρ') : Cov K B F H σ ρ' τ := by
  obtain ⟨rfl, hi⟩ := g.eq
  obtain ⟨lab, h1, h2, h3, h4⟩ := C.own
  refine ⟨C.f0, C.fh, C.bh, C.bz, C.zb, by simp [C.ln], lab, h1, fun j e h => ?_, fun j e h => ?_, h4⟩
  · by_cases hj : j = i
    · subst hj; rw [List.getElem?_set_self hi] at h; cases h
    · rw [List.getElem?_set_ne (Ne.symm hj)] at h; exact h2 j e h
  · by_cases hj : j = i
    · subst hj; rw [List.getElem?_set_self hi] at h; cases h
    · rw [List.getElem?_set_ne (Ne.symm hj)] at h; exact h3 j e h
/-- a slot's value goes to the top -/
theorem Cov.move (C : Cov K B F H σ ρ τ) (e : ρ[i]? = some (.v d)) (g : St ρ i .no ρ') : ∃ v, σ[i]? = some (some v) ∧ Cov K B F H σ ρ' (τ ++ [(v, d)]) := by
  obtain ⟨rfl, hi⟩ := g.eq
  obtain ⟨lab, h1, h2, h3, h4⟩ := C.own
  obtain ⟨v, hv, hd⟩ := h2 i d e
  let lab' : Addr → Option Lb := fun a => if lab a = some (false, i) then some (true, τ.length) else if lab a = some (true, τ.length) then none else lab a
  have ow : ∀ {l : Lb} {v : V} {d : D}, l ≠ (true, τ.length) → l ≠ (false, i) → Own K F H (fun a => lab a = some l) v d → Own K F H (fun a => lab' a = some l) v d := fun {l v d} n1 n2 h => h.mono fun a q => by
    show (if lab a = some (false, i) then some (true, τ.length) else if lab a = some (true, τ.length) then none else lab a) = some l
    rw [if_neg (fun z => n2 (by rw [q] at z; exact Option.some.inj z)), if_neg (fun z => n1 (by rw [q] at z; exact Option.some.inj z))]
    exact q
  refine ⟨v, hv, C.f0, C.fh, C.bh, C.bz, C.zb, by simp [C.ln], lab', fun a q => h1 a fun z => q ?_, fun j e h => ?_, fun j e h => ?_, fun k w e h => ?_⟩
  · show (if lab a = some (false, i) then some (true, τ.length) else if lab a = some (true, τ.length) then none else lab a) = none
    rw [z]; simp
  · by_cases hj : j = i
    · subst hj; rw [List.getElem?_set_self hi] at h; cases h
    · rw [List.getElem?_set_ne (Ne.symm hj)] at h
      obtain ⟨w, a, b⟩ := h2 j e h
      exact ⟨w, a, ow (by intro z; cases z) (by intro z; exact hj (congrArg Prod.snd z)) b⟩
  · by_cases hj : j = i
    · subst hj; rw [List.getElem?_set_self hi] at h; cases h
    · rw [List.getElem?_set_ne (Ne.symm hj)] at h
      obtain ⟨w, a, a', b⟩ := h3 j e h
      exact ⟨w, a, a', ow (by intro z; cases z) (by intro z; exact hj (congrArg Prod.snd z)) b⟩
  · rcases snoc_get h with ⟨hk, h⟩ | ⟨hk, h⟩
    · exact ow (by intro z; have := congrArg Prod.snd z; simp at this; omega) (by intro z; cases z) (h4 k w e h)
    · cases h
      subst hk
      refine hd.mono fun a q => ?_
      show (if lab a = some (false, i) then some (true, τ.length) else if lab a = some (true, τ.length) then none else lab a) = _
      rw [if_pos q]
/-- what a label owns is frozen -/
theorem Cov.freeze (C : Cov K B F H σ ρ τ) (l : Lb) : ∃ F', Cov K B F' H σ (ρ.set (if l.1 = false then l.2 else ρ.length) .no) (if l.1 = true then τ.take l.2 else τ) ∧ Ex F F' ∧
    (∀ (v : V) (d : D), l.1 = false → ρ[l.2]? = some (.v d) → noHol d = true → ∃ v, σ[l.2]? = some (some v) ∧ Rep K F' v (frz d)) ∧ (∀ (v : V) (d : D), l.1 = true → τ[l.2]? = some (v, d) → noHol d = true → Rep K F' v (frz d)) := by
  obtain ⟨lab, h1, h2, h3, h4⟩ := C.own
  have eF : ∀ a, lab a = some l → frzHp F H (fun a => lab a = some l) a = H a := fun a q => frzHp_at (h1 a (by rw [q]; simp)).1 q
  let lab' : Addr → Option Lb := fun a => if lab a = some l then none else lab a
  have ow : ∀ {l' : Lb} {v : V} {d : D}, l' ≠ l → Own K F H (fun a => lab a = some l') v d → Own K (frzHp F H fun a => lab a = some l) H (fun a => lab' a = some l') v d := fun {l' v d} n h => (h.keep frzHp_ex fun a o _ q => q).mono fun a q => by
    show (if lab a = some l then none else lab a) = some l'
    rw [if_neg (fun z => n (by rw [q] at z; exact Option.some.inj z))]
    exact q
  refine ⟨frzHp F H fun a => lab a = some l, ⟨C.f0.trans frzHp_ex, frzHp_le C.fh, C.bh, fun a z => ?_, C.zb, by simp [C.ln], lab', fun a q => ?_, fun j e h => ?_, fun j e h => ?_, fun k w e h => ?_⟩, frzHp_ex, fun v d hl hd nh => ?_, fun v d hl hd nh => ?_⟩
  · rw [frzHp_out fun q => C.zb a z (h1 a (by rw [q]; simp)).2]
    exact C.bz a z
  · have q1 : lab a ≠ some l := fun z => q (by show (if lab a = some l then none else lab a) = none; rw [if_pos z])
    have q2 : lab a ≠ none := fun z => q (by show (if lab a = some l then none else lab a) = none; rw [if_neg q1]; exact z)
    exact ⟨by rw [frzHp_out q1]; exact (h1 a q2).1, (h1 a q2).2⟩
  · by_cases hj : (if l.1 = false then l.2 else ρ.length) = j
    · rw [hj] at h
      by_cases hlen : j < ρ.length
      · rw [List.getElem?_set_self hlen] at h; cases h
      · rw [List.getElem?_eq_none (by simp; omega)] at h; cases h
    · rw [List.getElem?_set_ne hj] at h
      obtain ⟨w, a, b⟩ := h2 j e h
      refine ⟨w, a, ow ?_ b⟩
      rintro rfl
      exact hj (by simp)
  · by_cases hj : (if l.1 = false then l.2 else ρ.length) = j
    · rw [hj] at h
      by_cases hlen : j < ρ.length
      · rw [List.getElem?_set_self hlen] at h; cases h
      · rw [List.getElem?_eq_none (by simp; omega)] at h; cases h
    · rw [List.getElem?_set_ne hj] at h
      obtain ⟨w, a, a', b⟩ := h3 j e h
      refine ⟨w, a, a', ow ?_ b⟩
      rintro rfl
      exact hj (by simp)
  · by_cases hl : l.1 = true
    · rw [if_pos hl] at h
      have hk : k < l.2 := by
        have := (List.getElem?_eq_some_iff.mp h).1
        simp at this; omega
      rw [List.getElem?_take_of_lt hk] at h
      refine ow ?_ (h4 k w e h)
      rintro rfl
      simp at hk
    · rw [if_neg hl] at h
      refine ow ?_ (h4 k w e h)
      rintro rfl
      simp at hl
  · obtain ⟨b, n⟩ := l
    obtain rfl : b = false := hl
    obtain ⟨v, a, b⟩ := h2 n d hd
    exact ⟨v, a, b.frz frzHp_ex eF nh⟩
  · obtain ⟨b, n⟩ := l
    obtain rfl : b = true := hl
    exact (h4 n v d hd).frz frzHp_ex eF nh
theorem Cov.frzTop (C : Cov K B F H σ ρ (τ ++ [(v, d)])) (nh : noHol d = true) : ∃ F', Cov K B F' H σ ρ (τ ++ [(v, frz d)]) := by
  obtain ⟨F', C', e, _, r⟩ := C.freeze (true, τ.length)
  have C1 : Cov K B F' H σ ρ τ := by
    have e1 : (τ ++ [(v, d)]).take τ.length = τ := by simp
    have e2 : ρ.set ρ.length Sl.no = ρ := List.set_eq_of_length_le (Nat.le_refl _)
    simpa [e1, e2] using C'
  exact ⟨F', C1.push (r v d rfl (by simp) nh)⟩
theorem Cov.frzSlot (C : Cov K B F H σ ρ τ) (e : ρ[i]? = some (.v d)) (g : St ρ i (.v (frz d)) ρ') (nh : noHol d = true) : ∃ F' v, σ[i]? = some (some v) ∧ Cov K B F' H σ ρ' τ ∧ Rep K F' v (frz d) := by
  obtain ⟨F', C', _, r, _⟩ := C.freeze (false, i)
  obtain ⟨v, hv, hr⟩ := r .non d rfl e nh
  obtain ⟨rfl, hi⟩ := g.eq
  have C1 : Cov K B F' H σ (ρ.set i .no) τ := by simpa using C'
  have C2 := (C1.push hr).assign (i := i) (ρ' := (ρ.set i .no).set i (.v (frz d))) (.of (by simpa using hi))
  have e1 : (ρ.set i Sl.no).set i (.v (frz d)) = ρ.set i (.v (frz d)) := by simp
  have e2 : σ.set i (some v) = σ := by
    apply List.ext_getElem?
    intro j
    by_cases hj : i = j
    · subst hj
      rw [List.getElem?_set_self (List.getElem?_eq_some_iff.mp hv).1, hv]
    · rw [List.getElem?_set_ne hj]
  rw [e1, e2] at C2
  exact ⟨F', v, hv, C2, hr⟩
/-- an object in a slot changes -/
theorem Cov.mut {sh : Sh} {ds : List D} (C : Cov K B F H σ ρ τ) (g : Gt ρ i (.nd true sh ds)) : ∃ p xs, σ[i]? = some (some (.ref p)) ∧ Nd K H p sh xs ∧ xs.length = ds.length ∧
    (∀ (j : Nat) x d, xs[j]? = some x → ds[j]? = some d → isFr d = true → Rep K F x d) ∧ F p = none ∧
    ∀ (o : HO) (sh' : Sh) (xs' : List V) (ds' : List D) (ρ' : Rho), sh'.mu = true → Nd K (upd H p o) p sh' xs' → xs'.length = ds'.length → (∀ (j : Nat) x d, xs'[j]? = some x → ds'[j]? = some d → Rep K F x d) → Up ρ i (.nd true sh' ds') ρ' → Cov K B F (upd H p o) σ ρ' τ := by
  obtain ⟨lab, h1, h2, h3, h4⟩ := C.own
  have key : ∃ v, σ[i]? = some (some v) ∧ Own K F H (fun a => lab a = some ((false, i) : Lb)) v (.nd true sh ds) := by
    rcases g.eq with g | g
    · exact h2 i _ g
    · obtain ⟨v, a, _, b⟩ := h3 i _ g; exact ⟨v, a, b⟩
  obtain ⟨v, hv, hd⟩ := key
  cases hd with
  | fr h => cases h
  | @nd _ p _ xs _ lb ha hm h hl hc =>
    have fp := (h1 p (by rw [ha]; simp))
    refine ⟨p, xs, hv, h, hl, fun j x d a b n => (hc j x d a b).rep n, fp.1, fun o sh' xs' ds' ρ' hm' h' hl' hc' u => ?_⟩
    have ow : ∀ {l : Lb} {v : V} {d : D}, l ≠ (false, i) → Own K F H (fun a => lab a = some l) v d → Own K F (upd H p o) (fun a => lab a = some l) v d := fun {l v d} n w => w.keep (Ex.refl F) fun a u q z => by
      rw [upd_ne]
      · exact z
      · rintro rfl
        rw [q] at ha
        exact n (Option.some.inj ha)
    have new : Own K F (upd H p o) (fun a => lab a = some ((false, i) : Lb)) (.ref p) (.nd true sh' ds') := .nd (fun _ => none) ha hm' h' hl' fun j x d a b => .fr (hc' j x d a b)
    refine ⟨C.f0, C.fh.mut fp.1, C.bh.mut fp.2, C.bz, C.zb, by rw [u.len]; exact C.ln, lab, h1, fun j e q => ?_, fun j e q => ?_, fun k w e q => ow (by intro z; cases z) (h4 k w e q)⟩
    · rcases u.get q with ⟨rfl, rfl, _⟩ | ⟨n, q⟩
      · exact ⟨_, hv, new⟩
      · obtain ⟨w, a, b⟩ := h2 j e q
        exact ⟨w, a, ow (by intro z; exact n (congrArg Prod.snd z)) b⟩
    · rcases u.getp q with ⟨rfl, rfl, c, hc⟩ | ⟨n, q⟩
      · obtain ⟨w, a, a', _⟩ := h3 _ c hc
        rw [hv] at a
        cases a
        exact ⟨_, hv, a', new⟩
      · obtain ⟨w, a, a', b⟩ := h3 j e q
        exact ⟨w, a, a', ow (by intro z; exact n (congrArg Prod.snd z)) b⟩
end
end DL
namespace DL
open PySem L2 Evl

/-! ### what a piece of text means, as the reading of itself -/
section
variable {X : Cx} {e : Expr} {es : List Expr} {st : Stmt} {sts : List Stmt}
def sE (X : Cx) (e : Expr) : TE := fun σ H Q => ∀ pins s, Inv X pins σ H s → wpAny (model X.prog X.w) X.A (eval e X.env) (EP X pins σ Q) X.xe s
def sT (X : Cx) (e : Expr) : TT := fun σ H Q => ∀ pins s, Inv X pins σ H s → wpAny (model X.prog X.w) X.A (isTrue e X.env (eval e X.env)) (TP X pins σ Q) X.xe s
def sW (X : Cx) (e : Expr) : TT := fun σ H Q => ∀ (whole : Sem Value) pins s, Inv X pins σ H s → wpAny (model X.prog X.w) X.A (isTrue e X.env whole) (TP X pins σ Q) X.xe s
def sA (X : Cx) (es : List Expr) : TA := fun σ H Q => ∀ (pos : Pos) pins s, Inv X pins σ H s → wpAny (model X.prog X.w) X.A (spliced (backTo pos (starEach es X.env))) (AP X pins σ Q) X.xe s
def s1 (X : Cx) (st : Stmt) : TS := fun D σ H => ∀ pins s, Inv X pins σ H s → wpAny (model X.prog X.w) X.A (exec st X.env) (SP X pins D) X.xe s
def sS (X : Cx) (sts : List Stmt) : TS := fun D σ H => ∀ pins s, Inv X pins σ H s → wpAny (model X.prog X.w) X.A (execs sts X.env) (SP X pins D) X.xe s
theorem peS : PE X e (sE X e) := ⟨fun pins s _ _ _ I h => h pins s I⟩
theorem ptS : PT X e (sT X e) := ⟨fun pins s _ _ _ I h => h pins s I⟩
theorem pwS : PW X e (sW X e) := ⟨fun wh pins s _ _ _ I h => h wh pins s I⟩
theorem paS : PA X es (sA X es) := ⟨fun pos pins s _ _ _ I h => h pos pins s I⟩
theorem psS : PS X st (s1 X st) := ⟨fun pins s _ _ _ I h => h pins s I⟩
theorem pssS : PSs X sts (sS X sts) := ⟨fun pins s _ _ _ I h => h pins s I⟩
variable {σ : L2.St} {H : Hp}
theorem sE_of {t : TE} {Q : VK} (h : PE X e t) (q : t σ H Q) : sE X e σ H Q := fun pins s I => h.run pins s σ H Q I q
theorem sT_of {t : TT} {Q : Bool → Hp → Prop} (h : PT X e t) (q : t σ H Q) : sT X e σ H Q := fun pins s I => h.run pins s σ H Q I q
theorem sW_of {t : TT} {Q : Bool → Hp → Prop} (h : PW X e t) (q : t σ H Q) : sW X e σ H Q := fun wh pins s I => h.run wh pins s σ H Q I q
theorem sA_of {t : TA} {Q : List V → Hp → Prop} (h : PA X es t) (q : t σ H Q) : sA X es σ H Q := fun pos pins s I => h.run pos pins s σ H Q I q
theorem s1_of {t : TS} {D : Ends} (h : PS X st t) (q : t D σ H) : s1 X st D σ H := fun pins s I => h.run pins s σ H D I q
theorem sS_of {t : TS} {D : Ends} (h : PSs X sts t) (q : t D σ H) : sS X sts D σ H := fun pins s I => h.run pins s σ H D I q
end

/-! ### the judgements -/
def DX (X : Cx) (ρ : Rho) (e : Expr) (d : D) (ρ' : Rho) : Prop := ∀ (B : Bs) (F H : Hp) (σ : L2.St) (τ : List (V × D)) (Q : VK), Cov X.K B F H σ ρ τ →
  (∀ v F' H', Cov X.K B F' H' σ ρ' (τ ++ [(v, d)]) → Q v H') → sE X e σ H Q
def DT (X : Cx) (ρ : Rho) (e : Expr) (b : Bool) (ρ' : Rho) : Prop := ∀ (B : Bs) (F H : Hp) (σ : L2.St) (τ : List (V × D)) (Q : Bool → Hp → Prop), Cov X.K B F H σ ρ τ →
  (∀ F' H', Cov X.K B F' H' σ ρ' τ → Q b H') → sT X e σ H Q
def DW (X : Cx) (ρ : Rho) (e : Expr) (b : Bool) (ρ' : Rho) : Prop := ∀ (B : Bs) (F H : Hp) (σ : L2.St) (τ : List (V × D)) (Q : Bool → Hp → Prop), Cov X.K B F H σ ρ τ →
  (∀ F' H', Cov X.K B F' H' σ ρ' τ → Q b H') → sW X e σ H Q
/-- all arguments by value, frozen -/
def Reps (K : PySem.W.Frag) (F : Hp) (vs : List V) (ds : List D) : Prop := vs.length = ds.length ∧ ∀ (j : Nat) v d, vs[j]? = some v → ds[j]? = some d → Rep K F v d
def DA (X : Cx) (ρ : Rho) (es : List Expr) (ds : List D) (ρ' : Rho) : Prop := ∀ (B : Bs) (F H : Hp) (σ : L2.St) (τ : List (V × D)) (Q : List V → Hp → Prop), Cov X.K B F H σ ρ τ →
  (∀ vs F' H', Cov X.K B F' H' σ ρ' τ → Reps X.K F' vs ds → Q vs H') → sA X es σ H Q
structure DK where
  nx : Rho → Prop
  rt : D → Rho → Prop
  bk : Rho → Prop := fun _ => False
  ct : Rho → Prop := fun _ => False
structure Lift (X : Cx) (B : Bs) (τ : List (V × D)) (k : DK) (E : Ends) : Prop where
  nx : ∀ F H σ ρ, Cov X.K B F H σ ρ τ → k.nx ρ → E.nx σ H
  rt : ∀ v d F H σ ρ, Cov X.K B F H σ ρ (τ ++ [(v, d)]) → k.rt d ρ → E.rt v H
  bk : ∀ F H σ ρ, Cov X.K B F H σ ρ τ → k.bk ρ → E.bk σ H
  ct : ∀ F H σ ρ, Cov X.K B F H σ ρ τ → k.ct ρ → E.ct σ H
def D1 (X : Cx) (ρ : Rho) (st : Stmt) (k : DK) : Prop := ∀ (B : Bs) (F H : Hp) (σ : L2.St) (τ : List (V × D)) (E : Ends), Cov X.K B F H σ ρ τ → Lift X B τ k E → s1 X st E σ H
def DS (X : Cx) (ρ : Rho) (sts : List Stmt) (k : DK) : Prop := ∀ (B : Bs) (F H : Hp) (σ : L2.St) (τ : List (V × D)) (E : Ends), Cov X.K B F H σ ρ τ → Lift X B τ k E → sS X sts E σ H
/-- a target takes the top -/
def sG (X : Cx) (tg : Expr) : TG := fun v σ H Q => ∀ pins s u, Inv X pins σ H s → RelV v u → wpAny (model X.prog X.w) X.A (assign tg X.env u) (fun _ s' => ∃ σ' H', Inv X pins σ' H' s' ∧ Q σ' H') X.xe s
theorem pgS {X : Cx} {tg : Expr} : PG X tg (sG X tg) := ⟨fun pins s _ _ _ u _ I r h => h pins s u I r⟩
theorem sG_of {X : Cx} {tg : Expr} {t : TG} {v : V} {σ : L2.St} {H : Hp} {Q : L2.St → Hp → Prop} (h : PG X tg t) (q : t v σ H Q) : sG X tg v σ H Q := fun pins s u I r => h.run pins s σ H v u Q I r q
def DG (X : Cx) (ρ : Rho) (tg : Expr) (d : D) (ρ' : Rho) : Prop := ∀ (B : Bs) (F H : Hp) (σ : L2.St) (τ : List (V × D)) (v : V) (Q : L2.St → Hp → Prop), Cov X.K B F H σ ρ (τ ++ [(v, d)]) →
  (∀ F' H' σ', Cov X.K B F' H' σ' ρ' τ → Q σ' H') → sG X tg v σ H Q
/-- where one stands -/
structure Gx (X : Cx) (k : Nat) : Prop where
  nd : X.N.Nodup
  calm : X.calm = true
  room : Room k X.A
  pass : PassesOwn (model X.prog X.w) X.A X.env X.xe

section
variable {X : Cx} {ρ ρ1 ρ2 ρ3 : Rho} {e a b c : Expr} {es : List Expr} {st : Stmt} {sts : List Stmt} {d d1 d2 x y z : D} {ds : List D} {k : DK} {i j : Int} {n m : Nat} {pos p1 p2 : Pos} {kk : Nat} {s : Str}

theorem two_len {α : Type} {l : List α} {x y : α} : (l ++ [x] ++ [y])[l.length]? = some x := by simp
theorem Cov.pop2 {K : PySem.W.Frag} {B : Bs} {F H : Hp} {σ : L2.St} {τ : List (V × D)} {v u : V} (C : Cov K B F H σ ρ (τ ++ [(v, x)] ++ [(u, y)])) : Cov K B F H σ ρ τ := C.pop.pop
theorem Cov.rep2 {K : PySem.W.Frag} {B : Bs} {F H : Hp} {σ : L2.St} {τ : List (V × D)} {v u : V} (C : Cov K B F H σ ρ (τ ++ [(v, x)] ++ [(u, y)])) (h : isFr x = true) : Rep K F v x := C.pop.rep h
theorem rep_int {K : PySem.W.Frag} {F : Hp} {v : V} (h : Rep K F v (.int i)) : v = .int i := by cases h; rfl
theorem rep_str {K : PySem.W.Frag} {F : Hp} {v : V} (h : Rep K F v (.str s)) : v = .str s := by cases h; rfl
theorem rep_bl {K : PySem.W.Frag} {F : Hp} {v : V} {b : Bool} (h : Rep K F v (.bl b)) : v = .bl b := by cases h; rfl
theorem rep_non {K : PySem.W.Frag} {F : Hp} {v : V} (h : Rep K F v .non) : v = .non := by cases h; rfl

/-! ### values -/
theorem dx_int {i : Int} {q} : DX X ρ (.Constant (.int i) q pos) (.int i) ρ := fun B F H σ τ Q C k => sE_of pe_int (k _ F H (C.push (.int i)))
theorem dx_bl {b : Bool} {q} : DX X ρ (.Constant (.bool b) q pos) (.bl b) ρ := fun B F H σ τ Q C k => sE_of pe_bl (k _ F H (C.push (.bl b)))
theorem dx_non {q} : DX X ρ (.Constant .none q pos) .non ρ := fun B F H σ τ Q C k => sE_of pe_non (k _ F H (C.push .non))
theorem dx_str {s : Str} {q} : DX X ρ (.Constant (.str s) q pos) (.str s) ρ := fun B F H σ τ Q C k => sE_of pe_str (k _ F H (C.push (.str s)))
theorem dx_var {x : Str} (n : Nat) (g : Gt ρ n d) (f : isFr d = true := by rfl) (hN : X.N[n]? = some x := by rfl) (hv : Vis X.env.scope x := by first | exact Or.inl rfl | exact Or.inr (Or.inl rfl) | exact Or.inr (Or.inr rfl)) (hd : (x == ("__debug__" : Str)) = false := by decide)
    (hcd : (x == ("__classdict__" : Str)) = false := by decide) : DX X ρ (.Name x pos) d ρ := fun B F H σ τ Q C k => by
  obtain ⟨v, hs, hr⟩ := C.getF g f
  exact sE_of (pe_var hN hv hd hcd) ⟨v, hs, k v F H (C.push hr)⟩
/-- the slot's object handed on -/
theorem dx_mov {x : Str} (n : Nat) (g : ρ[n]? = some (.v d)) (g' : St ρ n .no ρ1) (hN : X.N[n]? = some x := by rfl) (hv : Vis X.env.scope x := by first | exact Or.inl rfl | exact Or.inr (Or.inl rfl) | exact Or.inr (Or.inr rfl)) (hd : (x == ("__debug__" : Str)) = false := by decide)
    (hcd : (x == ("__classdict__" : Str)) = false := by decide) : DX X ρ (.Name x pos) d ρ1 := fun B F H σ τ Q C k => by
  obtain ⟨v, hs, hr⟩ := C.move g g'
  exact sE_of (pe_var hN hv hd hcd) ⟨v, hs, k v F H hr⟩
/-- .. frozen -/
theorem dx_fvar {x : Str} (n : Nat) (g : ρ[n]? = some (.v d)) (g' : St ρ n (.v (frz d)) ρ1) (nh : noHol d = true) (hN : X.N[n]? = some x := by rfl) (hv : Vis X.env.scope x := by first | exact Or.inl rfl | exact Or.inr (Or.inl rfl) | exact Or.inr (Or.inr rfl)) (hd : (x == ("__debug__" : Str)) = false := by decide)
    (hcd : (x == ("__classdict__" : Str)) = false := by decide) : DX X ρ (.Name x pos) (frz d) ρ1 := fun B F H σ τ Q C k => by
  obtain ⟨F', v, hs, C', hr⟩ := C.frzSlot g g' nh
  exact sE_of (pe_var hN hv hd hcd) ⟨v, hs, k v F' H (C'.push hr)⟩
theorem dx_glob {x : Str} {v : V} {u : Value} (hm : X.mg x = some u) (r : RelV v u) (hd' : ∀ F, Rep X.K F v d) (hg : Gl X x := by rfl) (hd : (x == ("__debug__" : Str)) = false := by decide) : DX X ρ (.Name x pos) d ρ := fun B F H σ τ Q C k =>
  sE_of (pe_glob hg hm r hd) (k v F H (C.push (hd' F)))
theorem dx_frz (h : DX X ρ e d ρ1) (nh : noHol d = true) : DX X ρ e (frz d) ρ1 := fun B F H σ τ Q C k => h B F H σ τ Q C fun v F' H' C' => by
  obtain ⟨F'', C''⟩ := C'.frzTop nh
  exact k v F'' H' C''
theorem DX.to (h : DX X ρ e d ρ1) (q : d = d1) : DX X ρ e d1 ρ1 := q ▸ h

/-- an operation on two frozen values that makes no object -/
theorem dx_op {t : TE} {r : R2} (ha : DX X ρ a x ρ1) (hb : DX X ρ1 b y ρ2) (fx : isFr x = true) (fy : isFr y = true) (hp : PE X e (tOp r (sE X a) (sE X b)))
    (hr : ∀ (F H : Hp) v u Q, Rep X.K F v x → Rep X.K F u y → Ex F H → (∀ w, Rep X.K F w z → Q w H) → r v u H Q) : DX X ρ e z ρ2 := fun B F H σ τ Q C k =>
  sE_of hp (ha B F H σ τ _ C fun v F1 H1 C1 => hb B F1 H1 σ _ _ C1 fun u F2 H2 C2 => hr F2 H2 v u Q (C2.pop.rep fx) (C2.rep fy) C2.fh fun w rw => k w F2 H2 (C2.pop2.push rw))
theorem dx_add (ha : DX X ρ a (.int i) ρ1) (hb : DX X ρ1 b (.int j) ρ2) : DX X ρ (.BinOp a .Add b pos) (.int (i + j)) ρ2 :=
  dx_op (t := sE X a) ha hb rfl rfl (pe_op op_add peS peS) fun F H v u Q r1 r2 _ k => ⟨i, j, rep_int r1, rep_int r2, k _ (.int _)⟩
theorem dx_sub (ha : DX X ρ a (.int i) ρ1) (hb : DX X ρ1 b (.int j) ρ2) : DX X ρ (.BinOp a .Sub b pos) (.int (i - j)) ρ2 :=
  dx_op (t := sE X a) ha hb rfl rfl (pe_op op_sub peS peS) fun F H v u Q r1 r2 _ k => ⟨i, j, rep_int r1, rep_int r2, k _ (.int _)⟩
theorem dx_mul (ha : DX X ρ a (.int i) ρ1) (hb : DX X ρ1 b (.int j) ρ2) (hc : CMul i j) : DX X ρ (.BinOp a .Mult b pos) (.int (i * j)) ρ2 :=
  dx_op (t := sE X a) ha hb rfl rfl (pe_op op_mul peS peS) fun F H v u Q r1 r2 _ k => ⟨i, j, rep_int r1, rep_int r2, hc, k _ (.int _)⟩
theorem dx_mulW (ha : DX X ρ a (.int i) ρ1) (hb : DX X ρ1 b (.int j) ρ2) (hc : CMulW i j) : DX X ρ (.BinOp a .Mult b pos) (.int (i * j)) ρ2 :=
  dx_op (t := sE X a) ha hb rfl rfl (pe_op op_mulW peS peS) fun F H v u Q r1 r2 _ k => ⟨i, j, rep_int r1, rep_int r2, hc, k _ (.int _)⟩
theorem dx_fdiv (ha : DX X ρ a (.int i) ρ1) (hb : DX X ρ1 b (.int j) ρ2) (hc : CDiv i j) : DX X ρ (.BinOp a .FloorDiv b pos) (.int (i / j)) ρ2 :=
  dx_op (t := sE X a) ha hb rfl rfl (pe_op op_fdiv peS peS) fun F H v u Q r1 r2 _ k => ⟨i, j, rep_int r1, rep_int r2, hc, k _ (.int _)⟩
theorem dx_fdivW (ha : DX X ρ a (.int i) ρ1) (hb : DX X ρ1 b (.int j) ρ2) (hc : CDivW i j) : DX X ρ (.BinOp a .FloorDiv b pos) (.int (i / j)) ρ2 :=
  dx_op (t := sE X a) ha hb rfl rfl (pe_op op_fdivW peS peS) fun F H v u Q r1 r2 _ k => ⟨i, j, rep_int r1, rep_int r2, hc, k _ (.int _)⟩
theorem dx_mod (ha : DX X ρ a (.int i) ρ1) (hb : DX X ρ1 b (.int j) ρ2) (hc : 0 < j) : DX X ρ (.BinOp a .Mod b pos) (.int (i % j)) ρ2 :=
  dx_op (t := sE X a) ha hb rfl rfl (pe_op op_mod peS peS) fun F H v u Q r1 r2 _ k => ⟨i, j, rep_int r1, rep_int r2, hc, k _ (.int _)⟩
theorem dx_pow (ha : DX X ρ a (.int i) ρ1) (hb : DX X ρ1 b (.int j) ρ2) (hc : CPow i j) : DX X ρ (.BinOp a .Pow b pos) (.int (i ^ j.toNat)) ρ2 :=
  dx_op (t := sE X a) ha hb rfl rfl (pe_op op_pow peS peS) fun F H v u Q r1 r2 _ k => ⟨i, j, rep_int r1, rep_int r2, hc, k _ (.int _)⟩
theorem dx_adds {u w : Str} (ha : DX X ρ a (.str u) ρ1) (hb : DX X ρ1 b (.str w) ρ2) (hc : u.length + w.length ≤ sizeLine) : DX X ρ (.BinOp a .Add b pos) (.str (u ++ w)) ρ2 :=
  dx_op (t := sE X a) ha hb rfl rfl (pe_op op_add_str peS peS) fun F H v z Q r1 r2 _ k => ⟨u, w, rep_str r1, rep_str r2, hc, k _ (.str _)⟩
theorem dx_neg (ha : DX X ρ a (.int i) ρ1) : DX X ρ (.UnaryOp .USub a pos) (.int (-i)) ρ1 := fun B F H σ τ Q C k =>
  sE_of (pe_un un_neg peS) (ha B F H σ τ _ C fun v F1 H1 C1 => ⟨i, rep_int (C1.rep rfl), k _ F1 H1 (C1.pop.push (.int _))⟩)
/-- comparisons of ints -/
theorem dx_lt (ha : DX X ρ a (.int i) ρ1) (hb : DX X ρ1 b (.int j) ρ2) : DX X ρ (.Compare a [.Lt] [b] pos) (.bl (decide (i < j))) ρ2 :=
  dx_op (t := sE X a) ha hb rfl rfl (pe_cmpR op_lt peS peS (nomark _)) fun F H v u Q r1 r2 _ k => ⟨i, j, rep_int r1, rep_int r2, k _ (.bl _)⟩
theorem dx_le (ha : DX X ρ a (.int i) ρ1) (hb : DX X ρ1 b (.int j) ρ2) : DX X ρ (.Compare a [.LtE] [b] pos) (.bl (decide (i ≤ j))) ρ2 :=
  dx_op (t := sE X a) ha hb rfl rfl (pe_cmpR op_le peS peS (nomark _)) fun F H v u Q r1 r2 _ k => ⟨i, j, rep_int r1, rep_int r2, k _ (.bl _)⟩
theorem dx_gt (ha : DX X ρ a (.int i) ρ1) (hb : DX X ρ1 b (.int j) ρ2) : DX X ρ (.Compare a [.Gt] [b] pos) (.bl (decide (j < i))) ρ2 :=
  dx_op (t := sE X a) ha hb rfl rfl (pe_cmpR op_gt peS peS (nomark _)) fun F H v u Q r1 r2 _ k => ⟨i, j, rep_int r1, rep_int r2, k _ (.bl _)⟩
theorem dx_ge (ha : DX X ρ a (.int i) ρ1) (hb : DX X ρ1 b (.int j) ρ2) : DX X ρ (.Compare a [.GtE] [b] pos) (.bl (decide (j ≤ i))) ρ2 :=
  dx_op (t := sE X a) ha hb rfl rfl (pe_cmpR op_ge peS peS (nomark _)) fun F H v u Q r1 r2 _ k => ⟨i, j, rep_int r1, rep_int r2, k _ (.bl _)⟩
def scD : D → D → Bool
  | .int _, .int _ => true | .bl _, .bl _ => true | .str _, .str _ => true | .non, .non => true
  | .non, .int _ => true | .int _, .non => true | .non, .bl _ => true | .bl _, .non => true | .non, .str _ => true | .str _, .non => true
  | .int _, .str _ => true | .str _, .int _ => true | .bl _, .str _ => true | .str _, .bl _ => true
  | _, _ => false
def eqD : D → D → Bool
  | .int i, .int j => decide (i = j)
  | .bl a, .bl b => decide (a = b)
  | .str u, .str w => decide (u = w)
  | .non, .non => true
  | _, _ => false
theorem eqD_ok {K : PySem.W.Frag} {F : Hp} {v u : V} (h1 : Rep K F v x) (h2 : Rep K F u y) (h : scD x y = true) : scal v u = true ∧ decide (v = u) = eqD x y := by
  cases h1 <;> cases h2 <;> first | (simp [scD] at h; done) | (refine ⟨rfl, ?_⟩; simp [eqD])
theorem scD_fr (h : scD x y = true) : isFr x = true ∧ isFr y = true := by
  cases x <;> cases y <;> first | (simp [scD] at h; done) | exact ⟨rfl, rfl⟩
theorem dx_eq (ha : DX X ρ a x ρ1) (hb : DX X ρ1 b y ρ2) (h : scD x y = true := by rfl) : DX X ρ (.Compare a [.Eq] [b] pos) (.bl (eqD x y)) ρ2 :=
  dx_op (t := sE X a) ha hb (scD_fr h).1 (scD_fr h).2 (pe_cmpR op_eq peS peS (nomark _)) fun F H v u Q r1 r2 _ k => by
    obtain ⟨q1, q2⟩ := eqD_ok r1 r2 h
    exact ⟨q1, by rw [q2]; exact k _ (.bl _)⟩
theorem dx_ne (ha : DX X ρ a x ρ1) (hb : DX X ρ1 b y ρ2) (h : scD x y = true := by rfl) : DX X ρ (.Compare a [.NotEq] [b] pos) (.bl (!eqD x y)) ρ2 :=
  dx_op (t := sE X a) ha hb (scD_fr h).1 (scD_fr h).2 (pe_cmpR op_ne peS peS (nomark _)) fun F H v u Q r1 r2 _ k => by
    obtain ⟨q1, q2⟩ := eqD_ok r1 r2 h
    exact ⟨q1, by rw [q2]; exact k _ (.bl _)⟩
def isN : D → Bool
  | .non => true
  | _ => false
theorem isN_ok {K : PySem.W.Frag} {F : Hp} {v : V} (r : Rep K F v x) : decide (v = V.non) = isN x := by cases r <;> simp [isN]
theorem dx_isN {q} (ha : DX X ρ a x ρ1) (f : isFr x = true := by rfl) : DX X ρ (.Compare a [.Is] [.Constant .none q p1] pos) (.bl (isN x)) ρ1 := fun B F H σ τ Q C k =>
  sE_of (pe_cmp (pc_isN peS) rfl) (ha B F H σ τ _ C fun v F1 H1 C1 => by
    rw [isN_ok (C1.rep f)]
    exact k _ F1 H1 (C1.pop.push (.bl _)))
theorem dx_notN {q} (ha : DX X ρ a x ρ1) (f : isFr x = true := by rfl) : DX X ρ (.Compare a [.IsNot] [.Constant .none q p1] pos) (.bl (!isN x)) ρ1 := fun B F H σ τ Q C k =>
  sE_of (pe_cmp (pc_notN peS) rfl) (ha B F H σ τ _ C fun v F1 H1 C1 => by
    rw [isN_ok (C1.rep f)]
    exact k _ F1 H1 (C1.pop.push (.bl _)))

/-! ### tests -/
theorem dt_op {op : CmpOp} {r : R2} {bb : Bool} (ho : OpR X (compareOp op) r) (ha : DX X ρ a x ρ1) (hb : DX X ρ1 b y ρ2) (fx : isFr x = true) (fy : isFr y = true) (hm : behindInMarks op b = false)
    (hr : ∀ (F H : Hp) v u Q, Rep X.K F v x → Rep X.K F u y → Ex F H → Q (.bl bb) H → r v u H Q) : DT X ρ (.Compare a [op] [b] pos) bb ρ2 := fun B F H σ τ Q C k =>
  sT_of (pt_cmpR ho peS peS hm) (ha B F H σ τ _ C fun v F1 H1 C1 => hb B F1 H1 σ _ _ C1 fun u F2 H2 C2 => hr F2 H2 v u _ (C2.pop.rep fx) (C2.rep fy) C2.fh ⟨bb, rfl, k F2 H2 C2.pop2⟩)
theorem dt_lt (ha : DX X ρ a (.int i) ρ1) (hb : DX X ρ1 b (.int j) ρ2) : DT X ρ (.Compare a [.Lt] [b] pos) (decide (i < j)) ρ2 :=
  dt_op op_lt ha hb rfl rfl (nomark _) fun F H v u Q r1 r2 _ k => ⟨i, j, rep_int r1, rep_int r2, k⟩
theorem dt_le (ha : DX X ρ a (.int i) ρ1) (hb : DX X ρ1 b (.int j) ρ2) : DT X ρ (.Compare a [.LtE] [b] pos) (decide (i ≤ j)) ρ2 :=
  dt_op op_le ha hb rfl rfl (nomark _) fun F H v u Q r1 r2 _ k => ⟨i, j, rep_int r1, rep_int r2, k⟩
theorem dt_gt (ha : DX X ρ a (.int i) ρ1) (hb : DX X ρ1 b (.int j) ρ2) : DT X ρ (.Compare a [.Gt] [b] pos) (decide (j < i)) ρ2 :=
  dt_op op_gt ha hb rfl rfl (nomark _) fun F H v u Q r1 r2 _ k => ⟨i, j, rep_int r1, rep_int r2, k⟩
theorem dt_ge (ha : DX X ρ a (.int i) ρ1) (hb : DX X ρ1 b (.int j) ρ2) : DT X ρ (.Compare a [.GtE] [b] pos) (decide (j ≤ i)) ρ2 :=
  dt_op op_ge ha hb rfl rfl (nomark _) fun F H v u Q r1 r2 _ k => ⟨i, j, rep_int r1, rep_int r2, k⟩
theorem dt_eq (ha : DX X ρ a x ρ1) (hb : DX X ρ1 b y ρ2) (h : scD x y = true := by rfl) : DT X ρ (.Compare a [.Eq] [b] pos) (eqD x y) ρ2 :=
  dt_op op_eq ha hb (scD_fr h).1 (scD_fr h).2 (nomark _) fun F H v u Q r1 r2 _ k => by
    obtain ⟨q1, q2⟩ := eqD_ok r1 r2 h
    exact ⟨q1, by rw [q2]; exact k⟩
theorem dt_ne (ha : DX X ρ a x ρ1) (hb : DX X ρ1 b y ρ2) (h : scD x y = true := by rfl) : DT X ρ (.Compare a [.NotEq] [b] pos) (!eqD x y) ρ2 :=
  dt_op op_ne ha hb (scD_fr h).1 (scD_fr h).2 (nomark _) fun F H v u Q r1 r2 _ k => by
    obtain ⟨q1, q2⟩ := eqD_ok r1 r2 h
    exact ⟨q1, by rw [q2]; exact k⟩
theorem dt_isN {q} (ha : DX X ρ a x ρ1) (f : isFr x = true := by rfl) : DT X ρ (.Compare a [.Is] [.Constant .none q p1] pos) (isN x) ρ1 := fun B F H σ τ Q C k =>
  sT_of (pt_cmp (pc_isN peS) rfl) (ha B F H σ τ _ C fun v F1 H1 C1 => by
    rw [isN_ok (C1.rep f)]
    exact ⟨_, rfl, k F1 H1 C1.pop⟩)
theorem dt_notN {q} (ha : DX X ρ a x ρ1) (f : isFr x = true := by rfl) : DT X ρ (.Compare a [.IsNot] [.Constant .none q p1] pos) (!isN x) ρ1 := fun B F H σ τ Q C k =>
  sT_of (pt_cmp (pc_notN peS) rfl) (ha B F H σ τ _ C fun v F1 H1 C1 => by
    rw [isN_ok (C1.rep f)]
    exact ⟨_, rfl, k F1 H1 C1.pop⟩)
theorem dt_val {bb : Bool} (h : DX X ρ e (.bl bb) ρ1) (he : ∀ whole, isTrue e X.env whole = (do let v ← whole; standAt e.pos; holding [v] (truthy v)) := by intro _; rfl) : DT X ρ e bb ρ1 := fun B F H σ τ Q C k =>
  sT_of (pt_val peS he) (h B F H σ τ _ C fun v F1 H1 C1 => ⟨bb, rep_bl (C1.rep rfl), k F1 H1 C1.pop⟩)
theorem dt_not {bb : Bool} (h : DT X ρ e bb ρ1) : DT X ρ (.UnaryOp .Not e pos) (!bb) ρ1 := fun B F H σ τ Q C k =>
  sT_of (pt_not ptS) (h B F H σ τ _ C fun F1 H1 C1 => k F1 H1 C1)
theorem dw_and1 {bb : Bool} (h : DT X ρ e bb ρ1) : DW X ρ (.BoolOp .And [e] pos) bb ρ1 := fun B F H σ τ Q C k => sW_of (pw_and1 ptS) (h B F H σ τ _ C k)
theorem dw_or1 {bb : Bool} (h : DT X ρ e bb ρ1) : DW X ρ (.BoolOp .Or [e] pos) bb ρ1 := fun B F H σ τ Q C k => sW_of (pw_or1 ptS) (h B F H σ τ _ C k)
theorem dw_and {b1 b2 : Bool} (h : DT X ρ a b1 ρ1) (h2 : b1 = true → DW X ρ1 (.BoolOp .And (b :: es) pos) b2 ρ1) : DW X ρ (.BoolOp .And (a :: b :: es) pos) (b1 && b2) ρ1 := fun B F H σ τ Q C k =>
  sW_of (pw_and ptS pwS) (h B F H σ τ _ C fun F1 H1 C1 => by
    cases b1 with
    | true => exact h2 rfl B F1 H1 σ τ Q C1 k
    | false => exact k F1 H1 C1)
theorem dw_or {b1 b2 : Bool} (h : DT X ρ a b1 ρ1) (h2 : b1 = false → DW X ρ1 (.BoolOp .Or (b :: es) pos) b2 ρ1) : DW X ρ (.BoolOp .Or (a :: b :: es) pos) (b1 || b2) ρ1 := fun B F H σ τ Q C k =>
  sW_of (pw_or ptS pwS) (h B F H σ τ _ C fun F1 H1 C1 => by
    cases b1 with
    | false => exact h2 rfl B F1 H1 σ τ Q C1 k
    | true => exact k F1 H1 C1)
theorem DW.t {bb : Bool} (h : DW X ρ e bb ρ1) : DT X ρ e bb ρ1 := fun B F H σ τ Q C k => sT_of pwS.pt (h B F H σ τ Q C k)
/-- as values -/
theorem dx_not {bb : Bool} (h : DX X ρ e (.bl bb) ρ1) : DX X ρ (.UnaryOp .Not e pos) (.bl (!bb)) ρ1 := fun B F H σ τ Q C k =>
  sE_of (pe_not peS) (h B F H σ τ _ C fun v F1 H1 C1 => ⟨bb, rep_bl (C1.rep rfl), k _ F1 H1 (C1.pop.push (.bl _))⟩)
theorem dx_one {op} (h : DX X ρ e d ρ1) : DX X ρ (.BoolOp op [e] pos) d ρ1 := fun B F H σ τ Q C k => sE_of (pe_one peS) (h B F H σ τ Q C k)
theorem dx_and {b1 b2 : Bool} (h : DX X ρ a (.bl b1) ρ1) (h2 : b1 = true → DX X ρ1 (.BoolOp .And (b :: es) pos) (.bl b2) ρ1) : DX X ρ (.BoolOp .And (a :: b :: es) pos) (.bl (b1 && b2)) ρ1 := fun B F H σ τ Q C k =>
  sE_of (pe_and peS peS) (h B F H σ τ _ C fun v F1 H1 C1 => ⟨b1, rep_bl (C1.rep rfl), by
    cases b1 with
    | true => exact h2 rfl B F1 H1 σ τ Q C1.pop k
    | false => exact k _ F1 H1 (C1.pop.push (.bl _))⟩)
theorem dx_or {b1 b2 : Bool} (h : DX X ρ a (.bl b1) ρ1) (h2 : b1 = false → DX X ρ1 (.BoolOp .Or (b :: es) pos) (.bl b2) ρ1) : DX X ρ (.BoolOp .Or (a :: b :: es) pos) (.bl (b1 || b2)) ρ1 := fun B F H σ τ Q C k =>
  sE_of (pe_or peS peS) (h B F H σ τ _ C fun v F1 H1 C1 => ⟨b1, rep_bl (C1.rep rfl), by
    cases b1 with
    | false => exact h2 rfl B F1 H1 σ τ Q C1.pop k
    | true => exact k _ F1 H1 (C1.pop.push (.bl _))⟩)
theorem dx_if {bb : Bool} (h : DT X ρ c bb ρ1) (h1 : bb = true → DX X ρ1 a d ρ2) (h2 : bb = false → DX X ρ1 b d ρ2) : DX X ρ (.IfExp c a b pos) d ρ2 := fun B F H σ τ Q C k =>
  sE_of (pe_ifExp ptS peS peS) (h B F H σ τ _ C fun F1 H1 C1 => by
    cases bb with
    | true => exact h1 rfl B F1 H1 σ τ Q C1 k
    | false => exact h2 rfl B F1 H1 σ τ Q C1 k)

/-! ### arguments, displays -/
theorem Reps.nil {K : PySem.W.Frag} {F : Hp} : Reps K F [] [] := ⟨rfl, fun j v d h => by simp at h⟩
theorem Reps.cons {K : PySem.W.Frag} {F : Hp} {v : V} {vs : List V} (h : Rep K F v d) (r : Reps K F vs ds) : Reps K F (v :: vs) (d :: ds) := ⟨by simp [r.1], fun j u e h1 h2 => by
  cases j with
  | zero => simp at h1 h2; subst h1 h2; exact h
  | succ j => exact r.2 j u e (by simpa using h1) (by simpa using h2)⟩
theorem Reps.uncons {K : PySem.W.Frag} {F : Hp} {vs : List V} (r : Reps K F vs (d :: ds)) : ∃ v us, vs = v :: us ∧ Rep K F v d ∧ Reps K F us ds := by
  cases vs with
  | nil => have := r.1; simp at this
  | cons v us => exact ⟨v, us, rfl, r.2 0 v d rfl rfl, by have := r.1; simpa using this, fun j u e h1 h2 => r.2 (j + 1) u e (by simpa using h1) (by simpa using h2)⟩
theorem Reps.unnil {K : PySem.W.Frag} {F : Hp} {vs : List V} (r : Reps K F vs []) : vs = [] := by
  have := r.1; simpa using this
theorem Reps.one {K : PySem.W.Frag} {F : Hp} {vs : List V} (r : Reps K F vs [d]) : ∃ v, vs = [v] ∧ Rep K F v d := by
  obtain ⟨v, us, rfl, h, q⟩ := r.uncons
  rw [q.unnil]; exact ⟨v, rfl, h⟩
theorem Reps.two {K : PySem.W.Frag} {F : Hp} {vs : List V} (r : Reps K F vs [d1, d2]) : ∃ v u, vs = [v, u] ∧ Rep K F v d1 ∧ Rep K F u d2 := by
  obtain ⟨v, us, rfl, h, q⟩ := r.uncons
  obtain ⟨u, rfl, h'⟩ := q.one
  exact ⟨v, u, rfl, h, h'⟩
theorem Reps.mono {K : PySem.W.Frag} {F F' : Hp} {vs : List V} (e : Ex F F') (r : Reps K F vs ds) : Reps K F' vs ds := ⟨r.1, fun j v d h1 h2 => (r.2 j v d h1 h2).mono e⟩
theorem da_nil : DA X ρ [] [] ρ := fun B F H σ τ Q C k => sA_of pa_nil (k [] F H C .nil)
theorem da_cons (h : DX X ρ e d ρ1) (hr : DA X ρ1 es ds ρ2) (f : isFr d = true := by rfl) (hs : starEach (e :: es) X.env = (false, eval e X.env) :: starEach es X.env := by rfl) : DA X ρ (e :: es) (d :: ds) ρ2 := fun B F H σ τ Q C k =>
  sA_of (pa_cons peS paS hs) (h B F H σ τ _ C fun v F1 H1 C1 => hr B F1 H1 σ _ _ C1 fun vs F2 H2 C2 r => k _ F2 H2 C2.pop (.cons (C2.rep f) r))
theorem dx_tup {q} (h : DA X ρ es ds ρ1) (hl : ds.length ≤ 1000 := by decide) : DX X ρ (.Tuple es q pos) (.tup ds) ρ1 := fun B F H σ τ Q C k =>
  sE_of (pe_tup paS) (h B F H σ τ _ C fun vs F1 H1 C1 r => ⟨by rw [r.1]; exact Nat.le_trans hl (by decide), fun p hp => k _ _ _ ((C1.laid (o := .tup vs) hp).push (.nd (.inl (.inl upd_same)) r.1 fun j v d h1 h2 => (r.2 j v d h1 h2).mono (Ex.new (none_F C1.fh hp))))⟩)
theorem dx_lst (h : DA X ρ es ds ρ1) (hl : ds.length ≤ 1000 := by decide) : DX X ρ (.List es pos) (.ml ds) ρ1 := fun B F H σ τ Q C k =>
  sE_of (pe_lst paS) (h B F H σ τ _ C fun vs F1 H1 C1 r => ⟨by rw [r.1]; exact Nat.le_trans hl (by decide), fun p hp => k _ _ _ (C1.alloc (o := .lst vs) hp rfl upd_same r.1 r.2)⟩)
/-- nodes that are read -/
theorem rep_tup {K : PySem.W.Frag} {F : Hp} {v : V} (h : Rep K F v (.nd false .tup ds)) : ∃ p xs, v = .ref p ∧ SqT K F p xs ∧ Reps K F xs ds := by
  cases h with
  | nd h hl hc => exact ⟨_, _, rfl, h, hl, hc⟩
theorem rep_lst {K : PySem.W.Frag} {F : Hp} {v : V} (h : Rep K F v (.nd false .lst ds)) : ∃ p xs, v = .ref p ∧ F p = some (.lst xs) ∧ Reps K F xs ds := by
  cases h with
  | nd h hl hc => exact ⟨_, _, rfl, h, hl, hc⟩
theorem rep_sq {K : PySem.W.Frag} {F : Hp} {v : V} (h : Rep K F v (.nd false .sq ds)) : ∃ p xs, v = .ref p ∧ SqL K F p xs ∧ Reps K F xs ds := by
  cases h with
  | nd h hl hc => exact ⟨_, _, rfl, h, hl, hc⟩
theorem atI_rep {K : PySem.W.Frag} {F : Hp} {xs : List V} (r : Reps K F xs ds) (h : atI ds i = some d) : ∃ v, atI xs i = some v ∧ Rep K F v d := by
  unfold atI at h ⊢
  rw [r.1]
  cases q : ixN ds.length i with
  | none => rw [q] at h; cases h
  | some j =>
    rw [q] at h
    have h' : ds[j]? = some d := h
    have hj := (List.getElem?_eq_some_iff.mp h').1
    obtain ⟨w, hx⟩ : ∃ w, xs[j]? = some w := ⟨_, List.getElem?_eq_some_iff.mpr ⟨by rw [r.1]; exact hj, rfl⟩⟩
    exact ⟨_, hx, r.2 j _ d hx h'⟩
theorem dx_ixT (ha : DX X ρ a (.tup ds) ρ1) (hb : DX X ρ1 b (.int i) ρ2) (h : atI ds i = some d) (fa : isFrs ds = true := by rfl) (hs : PlainIx b := by intro _ _; rfl) : DX X ρ (.Subscript a b pos) d ρ2 :=
  dx_op (t := sE X a) ha hb (by simp [isFr, fa]) rfl (pe_ix ix_tup peS peS hs) fun F H v u Q r1 r2 e k => by
    obtain ⟨p, xs, rfl, h1, r⟩ := rep_tup r1
    obtain ⟨w, hw, rw⟩ := atI_rep r h
    exact ⟨p, xs, i, w, rfl, rep_int r2, ex_t e h1, hw, k w rw⟩
theorem dx_ixL (ha : DX X ρ a (.lst ds) ρ1) (hb : DX X ρ1 b (.int i) ρ2) (h : atI ds i = some d) (fa : isFrs ds = true := by rfl) (hs : PlainIx b := by intro _ _; rfl) : DX X ρ (.Subscript a b pos) d ρ2 :=
  dx_op (t := sE X a) ha hb (by simp [isFr, fa]) rfl (pe_ix ix_list peS peS hs) fun F H v u Q r1 r2 e k => by
    obtain ⟨p, xs, rfl, h1, r⟩ := rep_lst r1
    obtain ⟨w, hw, rw⟩ := atI_rep r h
    exact ⟨p, xs, i, w, rfl, rep_int r2, .inl (.inl (e _ _ h1)), hw, k w rw⟩
theorem dx_ixQ (ha : DX X ρ a (.nd false .sq ds) ρ1) (hb : DX X ρ1 b (.int i) ρ2) (h : atI ds i = some d) (fa : isFrs ds = true := by rfl) (hs : PlainIx b := by intro _ _; rfl) : DX X ρ (.Subscript a b pos) d ρ2 :=
  dx_op (t := sE X a) ha hb (by simp [isFr, fa]) rfl (pe_ix ix_list peS peS hs) fun F H v u Q r1 r2 e k => by
    obtain ⟨p, xs, rfl, h1, r⟩ := rep_sq r1
    obtain ⟨w, hw, rw⟩ := atI_rep r h
    exact ⟨p, xs, i, w, rfl, rep_int r2, ex_l e h1, hw, k w rw⟩
theorem dx_ixS {u : Str} {c : Nat} (ha : DX X ρ a (.str u) ρ1) (hb : DX X ρ1 b (.int i) ρ2) (h : atI u.cps.toList i = some c) (hl : u.length ≤ sizeLine) (hs : PlainIx b := by intro _ _; rfl) : DX X ρ (.Subscript a b pos) (.str ⟨#[c]⟩) ρ2 :=
  dx_op (t := sE X a) ha hb rfl rfl (pe_ix ix_str peS peS hs) fun F H v w Q r1 r2 e k => ⟨u, i, c, rep_str r1, rep_int r2, hl, h, k _ (.str _)⟩
/-- an item of a list that stands in a slot -/
theorem dx_ixM {x : Str} (n : Nat) (hb : DX X ρ b (.int i) ρ1) (g : Gt ρ n (.ml ds)) (g1 : Gt ρ1 n (.ml ds)) (h : atI ds i = some d) (f : isFr d = true := by rfl) (hs : PlainIx b := by intro _ _; rfl) (hN : X.N[n]? = some x := by rfl)
    (hv : Vis X.env.scope x := by first | exact Or.inl rfl | exact Or.inr (Or.inl rfl) | exact Or.inr (Or.inr rfl)) (hd : (x == ("__debug__" : Str)) = false := by decide)
    (hcd : (x == ("__classdict__" : Str)) = false := by decide) : DX X ρ (.Subscript (.Name x p1) b pos) d ρ1 := fun B F H σ τ Q C k => by
  obtain ⟨p, xs, hσ, h1, h2, h3, _⟩ := C.mut g
  refine sE_of (pe_ix ix_list (pe_var hN hv hd hcd) peS hs) ⟨_, hσ, hb B F H σ τ _ C fun u F1 H1 C1 => ?_⟩
  obtain ⟨q, ys, hσ', g1', g2', g3', _⟩ := C1.pop.mut g1
  rw [hσ] at hσ'
  cases hσ'
  unfold atI at h
  cases qi : ixN ds.length i with
  | none => rw [qi] at h; cases h
  | some j =>
    rw [qi] at h
    have h' : ds[j]? = some d := h
    have hj := (List.getElem?_eq_some_iff.mp h').1
    obtain ⟨w, hx⟩ : ∃ w, ys[j]? = some w := ⟨_, List.getElem?_eq_some_iff.mpr ⟨by omega, rfl⟩⟩
    exact ⟨p, ys, i, w, rfl, rep_int (C1.rep rfl), .inl (.inl g1'), by unfold atI; rw [g2', qi]; exact hx, k _ F1 H1 (C1.pop.push (g3' j _ d hx h' f))⟩
end
end DL
namespace DL
open PySem L2 Evl
section
variable {X : Cx} {ρ ρ1 ρ2 ρ3 : Rho} {e a b c : Expr} {es : List Expr} {st : Stmt} {sts body orelse : List Stmt} {d d1 d2 x y z : D} {ds : List D} {k : DK} {i j : Int} {n m : Nat} {pos p1 p2 : Pos} {kk : Nat} {s : Str}
  {B : Bs} {τ : List (V × D)} {E : Ends}

/-! ### blocks -/
theorem ds_nil (h : k.nx ρ) : DS X ρ [] k := fun B F H σ τ E C L => sS_of pss_nil (L.nx F H σ ρ C h)
theorem ds_cons (h : D1 X ρ st { k with nx := fun ρ' => DS X ρ' sts k }) : DS X ρ (st :: sts) k := fun B F H σ τ E C L =>
  sS_of (pss_cons psS pssS) (h B F H σ τ { E with nx := sS X sts E } C ⟨fun F H σ ρ C q => q B F H σ τ E C L, L.rt, L.bk, L.ct⟩)
theorem D1.imp {k' : DK} (h : D1 X ρ st k) (h1 : ∀ ρ, k.nx ρ → k'.nx ρ) (h2 : ∀ d ρ, k.rt d ρ → k'.rt d ρ) (h3 : ∀ ρ, k.bk ρ → k'.bk ρ) (h4 : ∀ ρ, k.ct ρ → k'.ct ρ) : D1 X ρ st k' := fun B F H σ τ E C L =>
  h B F H σ τ E C ⟨fun F H σ ρ C q => L.nx F H σ ρ C (h1 _ q), fun v d F H σ ρ C q => L.rt v d F H σ ρ C (h2 _ _ q), fun F H σ ρ C q => L.bk F H σ ρ C (h3 _ q), fun F H σ ρ C q => L.ct F H σ ρ C (h4 _ q)⟩
theorem DS.imp {k' : DK} (h : DS X ρ sts k) (h1 : ∀ ρ, k.nx ρ → k'.nx ρ) (h2 : ∀ d ρ, k.rt d ρ → k'.rt d ρ) (h3 : ∀ ρ, k.bk ρ → k'.bk ρ) (h4 : ∀ ρ, k.ct ρ → k'.ct ρ) : DS X ρ sts k' := fun B F H σ τ E C L =>
  h B F H σ τ E C ⟨fun F H σ ρ C q => L.nx F H σ ρ C (h1 _ q), fun v d F H σ ρ C q => L.rt v d F H σ ρ C (h2 _ _ q), fun F H σ ρ C q => L.bk F H σ ρ C (h3 _ q), fun F H σ ρ C q => L.ct F H σ ρ C (h4 _ q)⟩
theorem d1_pass (h : k.nx ρ) : D1 X ρ (.Pass pos) k := fun B F H σ τ E C L => s1_of ps_pass (L.nx F H σ ρ C h)
theorem d1_brk (h : k.bk ρ) : D1 X ρ (.Break pos) k := fun B F H σ τ E C L => s1_of ps_break (L.bk F H σ ρ C h)
theorem d1_ct (h : k.ct ρ) : D1 X ρ (.Continue pos) k := fun B F H σ τ E C L => s1_of ps_continue (L.ct F H σ ρ C h)
theorem d1_ret (he : DX X ρ e d ρ1) (h : k.rt d ρ1) : D1 X ρ (.Return (some e) pos) k := fun B F H σ τ E C L => s1_of (ps_ret peS) (he B F H σ τ _ C fun v F1 H1 C1 => L.rt v d F1 H1 σ ρ1 C1 h)
theorem d1_retN (h : k.rt .non ρ) : D1 X ρ (.Return none pos) k := fun B F H σ τ E C L => s1_of ps_retN (L.rt _ .non F H σ ρ (C.push .non) h)
theorem d1_expr (he : DX X ρ e d ρ1) (h : k.nx ρ1) (hs : swapsWith e none pos.line X.env = pure false := by rfl) : D1 X ρ (.Expr e pos) k := fun B F H σ τ E C L =>
  s1_of (ps_expr peS hs) (he B F H σ τ _ C fun v F1 H1 C1 => L.nx F1 H1 σ ρ1 C1.pop h)
theorem d1_doc {x q} (h : k.nx ρ) : D1 X ρ (.Expr (.Constant (.str x) q p1) pos) k := fun B F H σ τ E C L => s1_of ps_doc (L.nx F H σ ρ C h)
theorem d1_if {bb : Bool} (hc : DT X ρ c bb ρ1) (h1 : bb = true → DS X ρ1 body k) (h2 : bb = false → DS X ρ1 orelse k) : D1 X ρ (.If c body orelse pos) k := fun B F H σ τ E C L =>
  s1_of (ps_if ptS pssS pssS) (hc B F H σ τ _ C fun F1 H1 C1 => by
    cases bb with
    | true => exact h1 rfl B F1 H1 σ τ E C1 L
    | false => exact h2 rfl B F1 H1 σ τ E C1 L)
theorem d1_set {x : Str} (G : Gx X kk) (n : Nat) (he : DX X ρ e d ρ1) (g : St ρ1 n (.v d) ρ2) (h : k.nx ρ2) (hi : X.N[n]? = some x := by rfl) (hx : Loc X.env.scope x := by first | exact .inl rfl | exact .inr rfl)
    (hs : swapsWith e (some (.Name x p1)) pos.line X.env = pure false := by rfl) (hf : X.fn x = true ∨ X.env.scope.names.lookup x = some .local := by first | exact .inl rfl | exact .inr rfl | assumption) : D1 X ρ (.Assign [.Name x p1] e pos) k := fun B F H σ τ E C L =>
  s1_of (ps_set G.nd hi hx peS hs hf) (he B F H σ τ _ C fun v F1 H1 C1 => L.nx F1 H1 _ ρ2 (C1.assign g) h)
/-- targets -/
theorem dg_name {x : Str} (G : Gx X kk) (n : Nat) (g : St ρ n (.v d) ρ1) (hi : X.N[n]? = some x := by rfl) (hx : Loc X.env.scope x := by first | exact .inl rfl | exact .inr rfl)
    (hf : X.fn x = true ∨ X.env.scope.names.lookup x = some .local := by first | exact .inl rfl | exact .inr rfl | assumption) : DG X ρ (.Name x p1) d ρ1 := fun B F H σ τ v Q C k =>
  sG_of (pg_name G.nd hi hx hf) (k F H _ (C.assign g))
def sGs (X : Cx) (ts : List Expr) : TGs := fun vs σ H Q => ∀ pins s us, Inv X pins σ H s → Vals vs us → wpAny (model X.prog X.w) X.A (assignInOrder ((assignEach ts X.env).map (·.2)) us) (fun _ s' => ∃ σ' H', Inv X pins σ' H' s' ∧ Q σ' H') X.xe s
theorem pgsS {ts : List Expr} : PGs X ts (sGs X ts) := ⟨fun pins s _ _ _ us _ I r h => h pins s us I r⟩
theorem sGs_of {ts : List Expr} {t : TGs} {vs : List V} {σ : L2.St} {H : Hp} {Q : L2.St → Hp → Prop} (h : PGs X ts t) (q : t vs σ H Q) : sGs X ts vs σ H Q := fun pins s us I r => h.run pins s σ H vs us Q I r q
def DGs (X : Cx) (ρ : Rho) (ts : List Expr) (ds : List D) (ρ' : Rho) : Prop := ∀ (B : Bs) (F H : Hp) (σ : L2.St) (τ : List (V × D)) (vs : List V) (Q : L2.St → Hp → Prop), Cov X.K B F H σ ρ τ → Reps X.K F vs ds →
  (∀ F' H' σ', Cov X.K B F' H' σ' ρ' τ → Q σ' H') → sGs X ts vs σ H Q
theorem dgs_nil : DGs X ρ [] [] ρ := fun B F H σ τ vs Q C r k => sGs_of pgs_nil ⟨r.unnil, k F H σ C⟩
/-- the rest of the values stays known: F only grows -/
theorem dgs_name {x : Str} {ts : List Expr} (G : Gx X kk) (n : Nat) (g : St ρ n (.v d) ρ1) (h : DGs X ρ1 ts ds ρ2) (hi : X.N[n]? = some x := by rfl) (hx : Loc X.env.scope x := by first | exact .inl rfl | exact .inr rfl)
    (hf : X.fn x = true ∨ X.env.scope.names.lookup x = some .local := by first | exact .inl rfl | exact .inr rfl | assumption)
    (hs : (assignEach (.Name x p1 :: ts) X.env).map (·.2) = assign (.Name x p1) X.env :: (assignEach ts X.env).map (·.2) := by rfl) : DGs X ρ (.Name x p1 :: ts) (d :: ds) ρ2 := fun B F H σ τ vs Q C r k => by
  obtain ⟨v, us, rfl, h1, h2⟩ := r.uncons
  exact sGs_of (pgs_cons (pg_name G.nd hi hx hf) pgsS hs) ⟨v, us, rfl, h B F H _ τ us Q ((C.push h1).assign g) h2 k⟩
theorem dg_tup {ts : List Expr} {q} {N : Nat} (G : Gx X kk) (h : DGs X ρ ts ds ρ1) (f : isFrs ds = true := by rfl) (hn : (assignEach ts X.env).length = ds.length := by rfl) (hst : (assignEach ts X.env).findIdx? (·.1) = none := by rfl) :
    DG X ρ (.Tuple ts q pos) (.tup ds) ρ1 := fun B F H σ τ v Q C k => by
  obtain ⟨p, xs, rfl, h1, r⟩ := rep_tup (C.rep (by simp [isFr, f]))
  exact sG_of (pg_tup G.calm pgsS hn hst) ⟨p, xs, rfl, ex_t C.fh h1, r.1, h B F H σ τ xs Q C.pop r k⟩
theorem d1_asg {tg : Expr} (he : DX X ρ e d ρ1) (hg : DG X ρ1 tg d ρ2) (h : k.nx ρ2) (hs : swapsWithSole [tg] e pos.line X.env = pure false := by rfl) (hw : swappedStores [tg] e X.env = pure none := by rfl)
    (h1 : (assignEach [tg] X.env).map (·.2) = [assign tg X.env] := by rfl) : D1 X ρ (.Assign [tg] e pos) k := fun B F H σ τ E C L =>
  s1_of (ps_asg peS pgS hs hw h1) (he B F H σ τ _ C fun v F1 H1 C1 => hg B F1 H1 σ τ v _ C1 fun F2 H2 σ2 C2 => L.nx F2 H2 σ2 ρ2 C2 h)
/-- x.append(e), the list in a slot -/
theorem d1_app {x : Str} (n : Nat) (g0 : Gt ρ n (.ml ds)) (he : DX X ρ e d ρ1) (g : Gt ρ1 n (.ml ds)) (u : Up ρ1 n (.ml (ds ++ [d])) ρ2) (hl : ds.length < sizeLine) (h : k.nx ρ2) (f : isFr d = true := by rfl) (fs : isFrs ds = true := by rfl) {apos cpos : Pos}
    (hN : X.N[n]? = some x := by rfl) (hv : Vis X.env.scope x := by first | exact Or.inl rfl | exact Or.inr (Or.inl rfl) | exact Or.inr (Or.inr rfl)) (hd : (x == ("__debug__" : Str)) = false := by decide) (hcd : (x == ("__classdict__" : Str)) = false := by decide)
    (hb : attributeBase (.Name x p1) "append" X.env (eval (.Name x p1) X.env) = eval (.Name x p1) X.env := by rfl)
    (hfew : ((backTo cpos (starEach [e] X.env)).all (fun x => !x.1) && (backToKw cpos (keywordEach [] X.env)).all (fun x => x.1.isSome)
      && decide (([e] : List Expr).length + ([] : List Keyword).length + (if ([] : List Keyword).isEmpty then 0 else 1) < 30)) = true := by rfl)
    (hline : (apos.endLine == cpos.line) = true := by rfl) (hst : starEach [e] X.env = (false, eval e X.env) :: starEach [] X.env := by rfl) (hplain : (backTo cpos (starEach [] X.env)).any (·.1) = false := by rfl)
    (hs : swapsWith (.Call (.Attribute (.Name x p1) "append" apos) [e] [] cpos) none pos.line X.env = pure false := by rfl) : D1 X ρ (.Expr (.Call (.Attribute (.Name x p1) "append" apos) [e] [] cpos) pos) k := fun B F H σ τ E C L => by
  obtain ⟨p, xs, hσ, h1, h2, h3, _⟩ := C.mut g0
  refine s1_of (ps_expr (pe_bm PySem.F.plainAttrs_list PySem.F.slot_list_append PySem.F.type_list_append mt_append (pe_var hN hv hd hcd) (pa_cons peS pa_nil hst) hb hfew hline hst hplain) hs) ?_
  refine ⟨.ref p, hσ, .inl ⟨rfl, xs, .inl (.inl h1)⟩, he B F H σ τ _ C fun v F1 H1 C1 => ?_⟩
  obtain ⟨q, ys, hσ', g1, g2, g3, _, up⟩ := C1.pop.mut g
  rw [hσ] at hσ'
  cases hσ'
  refine ⟨p, ys, v, rfl, rfl, g1, by omega, L.nx _ _ _ _ (up (.lst (ys ++ [v])) .lst (ys ++ [v]) (ds ++ [d]) ρ2 rfl upd_same (by simp [g2]) (fun j x e a b => ?_) u) h⟩
  rcases snoc_get a with ⟨hj, a⟩ | ⟨hj, rfl⟩
  · rw [List.getElem?_append_left (by omega)] at b
    have : isFr e = true := by
      have : ∀ {l : List D} {j : Nat} {e : D}, isFrs l = true → l[j]? = some e → isFr e = true := by
        intro l
        induction l with
        | nil => intro j e _ q; simp at q
        | cons w r ih =>
          intro j e hf q
          simp only [isFrs, Bool.and_eq_true] at hf
          cases j with
          | zero => simp at q; rw [← q]; exact hf.1
          | succ j => exact ih hf.2 (by simpa using q)
      exact this fs b
    exact g3 j x e a b this
  · rw [List.getElem?_append_right (by omega)] at b
    have e0 : j - ds.length = 0 := by omega
    rw [e0] at b
    simp at b
    subst b
    exact C1.rep f
theorem isFrs_get : ∀ {l : List D} {j : Nat} {e : D}, isFrs l = true → l[j]? = some e → isFr e = true := by
  intro l
  induction l with
  | nil => intro j e _ q; simp at q
  | cons w r ih =>
    intro j e hf q
    simp only [isFrs, Bool.and_eq_true] at hf
    cases j with
    | zero => simp at q; rw [← q]; exact hf.1
    | succ j => exact ih hf.2 (by simpa using q)
/-- x[i] = e, the list in a slot -/
theorem d1_setL {x : Str} {t : Nat} (n : Nat) (he : DX X ρ e d ρ1) (hb : DX X ρ1 b (.int i) ρ2) (g0 : Gt ρ1 n (.ml ds)) (g : Gt ρ2 n (.ml ds)) (hi : ixN ds.length i = some t) (u : Up ρ2 n (.ml (ds.set t d)) ρ3) (h : k.nx ρ3) (f : isFr d = true := by rfl) (fs : isFrs ds = true := by rfl) {tpos : Pos}
    (hN : X.N[n]? = some x := by rfl) (hv : Vis X.env.scope x := by first | exact Or.inl rfl | exact Or.inr (Or.inl rfl) | exact Or.inr (Or.inr rfl)) (hd : (x == ("__debug__" : Str)) = false := by decide) (hcd : (x == ("__classdict__" : Str)) = false := by decide)
    (ha : ∀ v, assign (.Subscript (.Name x p1) b tpos) X.env v = (do
      let ov ← holding [v] (eval (.Name x p1) X.env)
      let iv ← holding [v, ov] (eval b X.env)
      standAt tpos
      holding [v, ov, iv] (setItem ov iv v)
      release [v, ov, iv] []) := by intro _; rfl)
    (hs : swapsWithSole [.Subscript (.Name x p1) b tpos] e pos.line X.env = pure false := by rfl) (hw : swappedStores [.Subscript (.Name x p1) b tpos] e X.env = pure none := by rfl)
    (h1 : (assignEach [.Subscript (.Name x p1) b tpos] X.env).map (·.2) = [assign (.Subscript (.Name x p1) b tpos) X.env] := by rfl) : D1 X ρ (.Assign [.Subscript (.Name x p1) b tpos] e pos) k := fun B F H σ τ E C L => by
  refine s1_of (ps_asg peS (pg_sub (pe_var hN hv hd hcd) peS set_list ha) hs hw h1) (he B F H σ τ _ C fun v F1 H1 C1 => ?_)
  obtain ⟨p, xs, hσ, _, _, _, _⟩ := C1.pop.mut g0
  refine ⟨.ref p, hσ, hb B F1 H1 σ _ _ C1 fun w F2 H2 C2 => ?_⟩
  obtain ⟨q, ys, hσ', g1, g2, g3, _, up⟩ := C2.pop2.mut g
  rw [hσ] at hσ'
  cases hσ'
  refine ⟨p, ys, i, t, rfl, rep_int (C2.rep rfl), g1, by rw [g2]; exact hi, L.nx _ _ _ _ (up (.lst (ys.set t v)) .lst (ys.set t v) (ds.set t d) ρ3 rfl upd_same (by simp [g2]) (fun j x e a b => ?_) u) h⟩
  by_cases hj : t = j
  · subst hj
    have hlt := (List.getElem?_eq_some_iff.mp a).1
    rw [List.length_set] at hlt
    rw [List.getElem?_set_self hlt] at a
    rw [List.getElem?_set_self (by omega)] at b
    cases a; cases b
    exact C2.pop.rep f
  · rw [List.getElem?_set_ne hj] at a b
    exact g3 j x e a b (isFrs_get fs b)
/-- x += e of ints -/
theorem d1_augI {x : Str} (G : Gx X kk) (n : Nat) (g0 : Gt ρ n (.int i)) (he : DX X ρ e (.int j) ρ1) (g : St ρ1 n (.v (.int (i + j))) ρ2) (h : k.nx ρ2) (hi : X.N[n]? = some x := by rfl) (hx : Loc X.env.scope x := by first | exact .inl rfl | exact .inr rfl)
    (hf : X.fn x = true ∨ X.env.scope.names.lookup x = some .local := by first | exact .inl rfl | exact .inr rfl | assumption) : D1 X ρ (.AugAssign (.Name x p1) .Add e pos) k := fun B F H σ τ E C L => by
  obtain ⟨v, hv, hr⟩ := C.getF g0 rfl
  refine s1_of (ps_aug G.nd hi hx peS ip_add hf) ⟨v, hv, he B F H σ τ _ C fun u F1 H1 C1 => ⟨i, j, rep_int hr, rep_int (C1.rep rfl), L.nx F1 H1 _ ρ2 ((C1.pop.push (.int (i + j))).assign g) h⟩⟩
theorem d1_augS {x : Str} (G : Gx X kk) (n : Nat) (g0 : Gt ρ n (.int i)) (he : DX X ρ e (.int j) ρ1) (g : St ρ1 n (.v (.int (i - j))) ρ2) (h : k.nx ρ2) (hi : X.N[n]? = some x := by rfl) (hx : Loc X.env.scope x := by first | exact .inl rfl | exact .inr rfl)
    (hf : X.fn x = true ∨ X.env.scope.names.lookup x = some .local := by first | exact .inl rfl | exact .inr rfl | assumption) : D1 X ρ (.AugAssign (.Name x p1) .Sub e pos) k := fun B F H σ τ E C L => by
  obtain ⟨v, hv, hr⟩ := C.getF g0 rfl
  refine s1_of (ps_aug G.nd hi hx peS ip_sub hf) ⟨v, hv, he B F H σ τ _ C fun u F1 H1 C1 => ⟨i, j, rep_int hr, rep_int (C1.rep rfl), L.nx F1 H1 _ ρ2 ((C1.pop.push (.int (i - j))).assign g) h⟩⟩

/-! ### loops -/
theorem d1_while (G : Gx X kk) (W : Nat → Rho → Prop) (m : Nat) (h0 : W m ρ)
    (hs : ∀ m ρ', W m ρ' → ∃ bb ρ'', DT X ρ' c bb ρ'' ∧ (bb = true → DS X ρ'' body { k with nx := fun ρ3 => ∃ m', m' < m ∧ W m' ρ3, ct := fun ρ3 => ∃ m', m' < m ∧ W m' ρ3, bk := k.nx }) ∧ (bb = false → k.nx ρ'')) : D1 X ρ (.While c body [] pos) k := fun B F H σ τ E C L => by
  refine s1_of (ps_while G.pass ptS pssS) ⟨fun m σ H => ∃ F ρ', Cov X.K B F H σ ρ' τ ∧ W m ρ', ⟨m, F, ρ, C, h0⟩, ?_⟩
  rintro m σ H ⟨F, ρ', C, w⟩
  obtain ⟨bb, ρ'', ht, h1, h2⟩ := hs m ρ' w
  refine ht B F H σ τ _ C fun F1 H1 C1 => ?_
  cases bb with
  | true =>
    refine (iteT (A := _) ?_)
    exact ⟨fun σ' H' => ∃ m', m' < m ∧ ∃ F ρ', Cov X.K B F H' σ' ρ' τ ∧ W m' ρ', fun σ' H' ⟨m', l, q⟩ => ⟨m', l, q⟩,
      h1 rfl B F1 H1 σ τ _ C1 ⟨fun F H σ ρ C ⟨m', l, q⟩ => ⟨m', l, F, ρ, C, q⟩, L.rt, L.nx, fun F H σ ρ C ⟨m', l, q⟩ => ⟨m', l, F, ρ, C, q⟩⟩⟩
  | false => exact iteF (L.nx F1 H1 σ _ C1 (h2 rfl))
abbrev Bs.at (B : Bs) (F : Hp) : Bs := ⟨F, B.hp, B.z, B.ps⟩
theorem Cov.base {K : PySem.W.Frag} {F H : Hp} {σ : L2.St} (C : Cov K B F H σ ρ τ) : Cov K (B.at F) F H σ ρ τ := ⟨Ex.refl F, C.fh, C.bh, C.bz, C.zb, C.ln, C.own⟩
theorem Cov.unbase {K : PySem.W.Frag} {F F1 H : Hp} {σ : L2.St} (C : Cov K (B.at F1) F H σ ρ τ) (e : Ex B.f0 F1) : Cov K B F H σ ρ τ := ⟨e.trans C.f0, C.fh, C.bh, C.bz, C.zb, C.ln, C.own⟩
theorem Lift.base {F1 : Hp} (L : Lift X B τ k E) (e : Ex B.f0 F1) : Lift X (B.at F1) τ k E :=
  ⟨fun F H σ ρ C q => L.nx F H σ ρ (C.unbase e) q, fun v d F H σ ρ C q => L.rt v d F H σ ρ (C.unbase e) q, fun F H σ ρ C q => L.bk F H σ ρ (C.unbase e) q, fun F H σ ρ C q => L.ct F H σ ρ (C.unbase e) q⟩
theorem Lift.turn {I : Rho → Prop} (L : Lift X B τ k E) (N : L2.St → Hp → Prop) (h : ∀ F H σ ρ, Cov X.K B F H σ ρ τ → I ρ → N σ H) : Lift X B τ { k with nx := I, ct := I, bk := k.nx } { E with nx := N, ct := N, bk := E.nx } :=
  ⟨h, L.rt, L.nx, h⟩
/-- for tg in a frozen list -/
theorem d1_forL {tg : Expr} (G : Gx X kk) (he : DX X ρ e (.lst ds) ρ1) (I : Nat → Rho → Prop) (h0 : I 0 ρ1)
    (hs : ∀ (i : Nat) x ρ', ds[i]? = some x → I i ρ' → ∃ ρ'', DG X ρ' tg x ρ'' ∧ DS X ρ'' body { k with nx := I (i + 1), ct := I (i + 1), bk := k.nx }) (hd : ∀ ρ', I ds.length ρ' → k.nx ρ') (f : isFrs ds = true := by rfl)
    (hfs : ∀ x, foldedSetIterable e X.env x = pure x := by intro _; rfl) : D1 X ρ (.For tg e body [] pos) k := fun B F H σ τ E C L => by
  refine s1_of (ps_for G.pass G.calm (pi_list peS) pgS pssS hfs) (he B F H σ τ _ C fun v F1 H1 C1 => ?_)
  have fr : isFr (.lst ds) = true := by simp [isFr, f]
  obtain ⟨p, xs, rfl, hp, r⟩ := rep_lst (C1.rep fr)
  have L1 := L.base C1.f0
  refine ⟨p, rfl, ⟨xs, .inl (.inl (C1.fh _ _ hp))⟩, for_list (K := X.K) (a := p) (xs := xs) (fun i σ H => ∃ F ρ', Cov X.K (B.at F1) F H σ ρ' τ ∧ I i ρ') ⟨F1, ρ1, C1.pop.base, h0⟩ (fun i σ H _ ⟨F, ρ', C, _⟩ => .inl (.inl (C.fh _ _ (C.f0 _ _ hp)))) ?_ ?_⟩
  · rintro i x σ H hx ⟨F2, ρ2, C2, w⟩
    have hi := (List.getElem?_eq_some_iff.mp hx).1
    obtain ⟨y, hy⟩ : ∃ y, ds[i]? = some y := ⟨_, List.getElem?_eq_some_iff.mpr ⟨by rw [← r.1]; exact hi, rfl⟩⟩
    obtain ⟨ρ3, hg, hb⟩ := hs i y ρ2 hy w
    refine hg (B.at F1) F2 H σ τ x _ (C2.push ((r.2 i x y hx hy).mono C2.f0)) fun F3 H3 σ3 C3 => ?_
    exact hb (B.at F1) F3 H3 σ3 τ _ C3 ⟨fun F H σ ρ C q => ⟨F, ρ, C, q⟩, L1.rt, L1.nx, fun F H σ ρ C q => ⟨F, ρ, C, q⟩⟩
  · rintro σ H ⟨F2, ρ2, C2, w⟩
    exact L1.nx F2 H σ ρ2 C2 (hd ρ2 (by rw [← r.1]; exact w))
theorem d1_forT {tg : Expr} (G : Gx X kk) (he : DX X ρ e (.tup ds) ρ1) (I : Nat → Rho → Prop) (h0 : I 0 ρ1)
    (hs : ∀ (i : Nat) x ρ', ds[i]? = some x → I i ρ' → ∃ ρ'', DG X ρ' tg x ρ'' ∧ DS X ρ'' body { k with nx := I (i + 1), ct := I (i + 1), bk := k.nx }) (hd : ∀ ρ', I ds.length ρ' → k.nx ρ') (f : isFrs ds = true := by rfl)
    (hfs : ∀ x, foldedSetIterable e X.env x = pure x := by intro _; rfl) : D1 X ρ (.For tg e body [] pos) k := fun B F H σ τ E C L => by
  refine s1_of (ps_for G.pass G.calm (pi_tup peS) pgS pssS hfs) (he B F H σ τ _ C fun v F1 H1 C1 => ?_)
  have fr : isFr (.tup ds) = true := by simp [isFr, f]
  obtain ⟨p, xs, rfl, hp, r⟩ := rep_tup (C1.rep fr)
  have L1 := L.base C1.f0
  refine ⟨p, rfl, ⟨xs, ex_t C1.fh hp⟩, for_tup (K := X.K) (a := p) (xs := xs) (fun i σ H => ∃ F ρ', Cov X.K (B.at F1) F H σ ρ' τ ∧ I i ρ') ⟨F1, ρ1, C1.pop.base, h0⟩ (fun i σ H _ ⟨F, ρ', C, _⟩ => ex_t (C.f0.trans C.fh) hp) ?_ ?_⟩
  · rintro i x σ H hx ⟨F2, ρ2, C2, w⟩
    have hi := (List.getElem?_eq_some_iff.mp hx).1
    obtain ⟨y, hy⟩ : ∃ y, ds[i]? = some y := ⟨_, List.getElem?_eq_some_iff.mpr ⟨by rw [← r.1]; exact hi, rfl⟩⟩
    obtain ⟨ρ3, hg, hb⟩ := hs i y ρ2 hy w
    refine hg (B.at F1) F2 H σ τ x _ (C2.push ((r.2 i x y hx hy).mono C2.f0)) fun F3 H3 σ3 C3 => ?_
    exact hb (B.at F1) F3 H3 σ3 τ _ C3 ⟨fun F H σ ρ C q => ⟨F, ρ, C, q⟩, L1.rt, L1.nx, fun F H σ ρ C q => ⟨F, ρ, C, q⟩⟩
  · rintro σ H ⟨F2, ρ2, C2, w⟩
    exact L1.nx F2 H σ ρ2 C2 (hd ρ2 (by rw [← r.1]; exact w))
/-- for tg in the script (a list that is read alone) -/
theorem d1_forQ {tg : Expr} (G : Gx X kk) (he : DX X ρ e (.nd false .sq ds) ρ1) (I : Nat → Rho → Prop) (h0 : I 0 ρ1)
    (hs : ∀ (i : Nat) x ρ', ds[i]? = some x → I i ρ' → ∃ ρ'', DG X ρ' tg x ρ'' ∧ DS X ρ'' body { k with nx := I (i + 1), ct := I (i + 1), bk := k.nx }) (hd : ∀ ρ', I ds.length ρ' → k.nx ρ') (f : isFrs ds = true := by rfl)
    (hfs : ∀ x, foldedSetIterable e X.env x = pure x := by intro _; rfl) : D1 X ρ (.For tg e body [] pos) k := fun B F H σ τ E C L => by
  refine s1_of (ps_for G.pass G.calm (pi_list peS) pgS pssS hfs) (he B F H σ τ _ C fun v F1 H1 C1 => ?_)
  have fr : isFr (.nd false .sq ds) = true := by simp [isFr, f]
  obtain ⟨p, xs, rfl, hp, r⟩ := rep_sq (C1.rep fr)
  have L1 := L.base C1.f0
  refine ⟨p, rfl, ⟨xs, ex_l C1.fh hp⟩, for_list (K := X.K) (a := p) (xs := xs) (fun i σ H => ∃ F ρ', Cov X.K (B.at F1) F H σ ρ' τ ∧ I i ρ') ⟨F1, ρ1, C1.pop.base, h0⟩ (fun i σ H _ ⟨F, ρ', C, _⟩ => ex_l (C.f0.trans C.fh) hp) ?_ ?_⟩
  · rintro i x σ H hx ⟨F2, ρ2, C2, w⟩
    have hi := (List.getElem?_eq_some_iff.mp hx).1
    obtain ⟨y, hy⟩ : ∃ y, ds[i]? = some y := ⟨_, List.getElem?_eq_some_iff.mpr ⟨by rw [← r.1]; exact hi, rfl⟩⟩
    obtain ⟨ρ3, hg, hb⟩ := hs i y ρ2 hy w
    refine hg (B.at F1) F2 H σ τ x _ (C2.push ((r.2 i x y hx hy).mono C2.f0)) fun F3 H3 σ3 C3 => ?_
    exact hb (B.at F1) F3 H3 σ3 τ _ C3 ⟨fun F H σ ρ C q => ⟨F, ρ, C, q⟩, L1.rt, L1.nx, fun F H σ ρ C q => ⟨F, ρ, C, q⟩⟩
  · rintro σ H ⟨F2, ρ2, C2, w⟩
    exact L1.nx F2 H σ ρ2 C2 (hd ρ2 (by rw [← r.1]; exact w))
/-- for tg in range(n), range(a, n) -/
theorem d1_forR1 {tg a : Expr} (G : Gx X kk) (hm : X.mg "range" = none) (ha : DA X ρ [a] [.int i] ρ1) (hn : i < 1000000) (I : Nat → Rho → Prop) (h0 : I 0 ρ1)
    (hs : ∀ (t : Nat) ρ', t < i.toNat → I t ρ' → ∃ ρ'', DG X ρ' tg (.int t) ρ'' ∧ DS X ρ'' body { k with nx := I (t + 1), ct := I (t + 1), bk := k.nx }) (hd : ∀ ρ', I i.toNat ρ' → k.nx ρ')
    (hlow : -1000000 ≤ i := by omega) (hg : Gl X "range" := by rfl) (hst : starEach [a] X.env = [(false, eval a X.env)] := by rfl)
    (hfs : ∀ x, foldedSetIterable (.Call (.Name "range" p1) [a] [] p2) X.env x = pure x := by intro _; rfl) : D1 X ρ (.For tg (.Call (.Name "range" p1) [a] [] p2) body [] pos) k := fun B F H σ τ E C L => by
  refine s1_of (ps_for G.pass G.calm (pi_range1 hg hm paS hst) pgS pssS hfs) (ha B F H σ τ _ C fun vs F1 H1 C1 r => ?_)
  obtain ⟨v, rfl, hv⟩ := r.one
  rw [rep_int hv]
  refine ⟨i, rfl, by omega, by omega, for_range (lo := 0) (n := i.toNat) (fun t σ H => ∃ F ρ', Cov X.K B F H σ ρ' τ ∧ I t ρ') ⟨F1, ρ1, C1, h0⟩ ?_ ?_⟩
  · rintro t σ H ht ⟨F2, ρ2, C2, w⟩
    obtain ⟨ρ3, hg, hb⟩ := hs t ρ2 ht w
    have e0 : (0 : Int) + (t : Int) = (t : Int) := by omega
    rw [e0]
    refine hg B F2 H σ τ _ _ (C2.push (.int _)) fun F3 H3 σ3 C3 => ?_
    exact hb B F3 H3 σ3 τ _ C3 ⟨fun F H σ ρ C q => ⟨F, ρ, C, q⟩, L.rt, L.nx, fun F H σ ρ C q => ⟨F, ρ, C, q⟩⟩
  · rintro σ H ⟨F2, ρ2, C2, w⟩
    exact L.nx F2 H σ ρ2 C2 (hd ρ2 w)
theorem d1_forR2 {tg a b : Expr} (G : Gx X kk) (hm : X.mg "range" = none) (ha : DA X ρ [a, b] [.int i, .int j] ρ1) (hn : -1000000 < i ∧ i < 1000000 ∧ -1000000 < j ∧ j < 1000000) (I : Nat → Rho → Prop) (h0 : I 0 ρ1)
    (hs : ∀ (t : Nat) ρ', i + t < j → I t ρ' → ∃ ρ'', DG X ρ' tg (.int (i + t)) ρ'' ∧ DS X ρ'' body { k with nx := I (t + 1), ct := I (t + 1), bk := k.nx }) (hd : ∀ ρ', I (j - i).toNat ρ' → k.nx ρ')
    (hg : Gl X "range" := by rfl) (hst : starEach [a, b] X.env = [(false, eval a X.env), (false, eval b X.env)] := by rfl) (hst2 : starEach [b] X.env = [(false, eval b X.env)] := by rfl)
    (hfs : ∀ x, foldedSetIterable (.Call (.Name "range" p1) [a, b] [] p2) X.env x = pure x := by intro _; rfl) : D1 X ρ (.For tg (.Call (.Name "range" p1) [a, b] [] p2) body [] pos) k := fun B F H σ τ E C L => by
  refine s1_of (ps_for G.pass G.calm (pi_range2 hg hm paS hst hst2) pgS pssS hfs) (ha B F H σ τ _ C fun vs F1 H1 C1 r => ?_)
  obtain ⟨v, u, rfl, hv, hu⟩ := r.two
  rw [rep_int hv, rep_int hu]
  refine ⟨i, j, rfl, ⟨by omega, by omega, by omega, by omega⟩, for_range (lo := i) (n := (j - i).toNat) (fun t σ H => ∃ F ρ', Cov X.K B F H σ ρ' τ ∧ I t ρ') ⟨F1, ρ1, C1, h0⟩ ?_ ?_⟩
  · rintro t σ H ht ⟨F2, ρ2, C2, w⟩
    obtain ⟨ρ3, hg, hb⟩ := hs t ρ2 (by omega) w
    refine hg B F2 H σ τ _ _ (C2.push (.int _)) fun F3 H3 σ3 C3 => ?_
    exact hb B F3 H3 σ3 τ _ C3 ⟨fun F H σ ρ C q => ⟨F, ρ, C, q⟩, L.rt, L.nx, fun F H σ ρ C q => ⟨F, ρ, C, q⟩⟩
  · rintro σ H ⟨F2, ρ2, C2, w⟩
    exact L.nx F2 H σ ρ2 C2 (hd ρ2 w)
/-- for tg in a text -/
theorem d1_forS {tg : Expr} (G : Gx X kk) (he : DX X ρ e (.str s) ρ1) (I : Nat → Rho → Prop) (h0 : I 0 ρ1)
    (hs : ∀ (t : Nat) c ρ', s.cps[t]? = some c → I t ρ' → ∃ ρ'', DG X ρ' tg (.str ⟨#[c]⟩) ρ'' ∧ DS X ρ'' body { k with nx := I (t + 1), ct := I (t + 1), bk := k.nx }) (hd : ∀ ρ', I s.cps.size ρ' → k.nx ρ')
    (hfs : ∀ x, foldedSetIterable e X.env x = pure x := by intro _; rfl) : D1 X ρ (.For tg e body [] pos) k := fun B F H σ τ E C L => by
  refine s1_of (ps_for G.pass G.calm (pi_str peS) pgS pssS hfs) (he B F H σ τ _ C fun v F1 H1 C1 => ?_)
  refine ⟨s, rep_str (C1.rep rfl), ?_⟩
  refine ⟨fun t m σ H => m = s.cps.size - t ∧ t ≤ s.cps.size ∧ ∃ F ρ', Cov X.K B F H σ ρ' τ ∧ I t ρ', ⟨s.cps.size, by simp, Nat.zero_le _, F1, ρ1, C1.pop, h0⟩, ?_⟩
  rintro t m σ H ⟨rfl, ht, F2, ρ2, C2, w⟩
  by_cases hlt : t < s.cps.size
  · refine .inr ⟨hlt, fun σ' H' => ∃ F ρ', Cov X.K B F H' σ' ρ' τ ∧ I (t + 1) ρ', fun σ' H' q => ⟨s.cps.size - (t + 1), by omega, rfl, hlt, q⟩, fun x H' y => ?_⟩
    obtain ⟨rfl, c, hc, rfl⟩ := y
    obtain ⟨ρ3, hg, hb⟩ := hs t c ρ2 hc w
    refine hg B F2 _ σ τ _ _ (C2.push (.str _)) fun F3 H3 σ3 C3 => ?_
    exact hb B F3 H3 σ3 τ _ C3 ⟨fun F H σ ρ C q => ⟨F, ρ, C, q⟩, L.rt, L.nx, fun F H σ ρ C q => ⟨F, ρ, C, q⟩⟩
  · have et : t = s.cps.size := by omega
    subst et
    exact .inl ⟨Nat.le_refl _, L.nx F2 H σ ρ2 C2 (hd ρ2 w)⟩
end
end DL
namespace DL
open PySem L2 Evl
theorem Nd.some {K : PySem.W.Frag} {H : Hp} {p : Addr} {sh : Sh} {xs : List V} (hm : sh.mu = true) (h : Nd K H p sh xs) : H p ≠ none := by
  cases sh with
  | tup => cases hm
  | lst => intro q; rw [show H _ = _ from h] at q; cases q
  | sq => cases hm
  | dk ks => obtain ⟨k, a, b⟩ := h; intro q; rw [a] at q; cases q
  | dt ks => obtain ⟨k, a, b⟩ := h; intro q; rw [a] at q; cases q
  | ins C fs => obtain ⟨k, l, a, b⟩ := h; intro q; rw [a] at q; cases q
theorem Own.used {K : PySem.W.Frag} {F H : Hp} {A : Addr → Prop} {v : V} {d : D} (h : Own K F H A v d) : Own K F H (fun a => A a ∧ H a ≠ none) v d := by
  induction h with
  | fr h => exact .fr h
  | hol v => exact .hol v
  | @nd A p sh xs ds lab ha hm h hl hc ih =>
    exact .nd lab ⟨ha, h.some hm⟩ hm h hl fun j x d h1 h2 => (ih j x d h1 h2).mono fun a ⟨⟨a1, a2, a3⟩, a4⟩ => ⟨⟨a1, a4⟩, a2, a3⟩

/-! ### what a def promises -/
structure Post (K : PySem.W.Frag) (F H : Hp) (lab : Addr → Option Nat) (vs : List V) (v : V) (r : D) (ds' : List D) (F' H' : Hp) (lab' : Addr → Option Nat) : Prop where
  ex : Ex F F'
  fh : Ex F' H'
  keep : ∀ a o, H a = some o → lab a = none → H' a = some o
  prot : ∀ a, H a ≠ none → F a = none → lab a = none → F' a = none
  lf : ∀ a, lab' a ≠ none → F' a = none
  ln : ∀ a, lab' a ≠ none → lab a ≠ none ∨ H a = none
  args : ∀ (i : Nat) v d, vs[i]? = some v → ds'[i]? = some d → Own K F' H' (fun a => lab' a = some (i + 1)) v d
  res : Own K F' H' (fun a => lab' a = some 0) v r
abbrev Phi := List D → (D → List D → Prop) → Prop
def spD (K : PySem.W.Frag) (Φ : Phi) : Sp := fun vs H Q _ => ∃ F ds lab, Ex F H ∧ vs.length = ds.length ∧ (∀ a : Addr, lab a ≠ none → F a = none) ∧
  (∀ (i : Nat) v d, vs[i]? = some v → ds[i]? = some d → Own K F H (fun a => lab a = some i) v d) ∧ Φ ds fun r ds' => ∀ v F' H' lab', Post K F H lab vs v r ds' F' H' lab' → Q v H'
/-- the usual form: for each a of a kind, these arguments, under pre; the result, the arguments behind it -/
def Fx {α : Type} (enc : α → List D) (pre : α → Prop) (res : α → D) (out : α → List D) : Phi := fun ds k => ∃ a, ds = enc a ∧ pre a ∧ k (res a) (out a)

inductive Outs : List Bool → List D → Rho → List D → Prop
  | nil {ρ : Rho} : Outs [] [] ρ []
  | v {ms : List Bool} {d : D} {ds ds' : List D} {s : Sl} {ρ : Rho} (h : Outs ms ds ρ ds') : Outs (false :: ms) (d :: ds) (s :: ρ) (d :: ds')
  | p {ms : List Bool} {d d' : D} {ds ds' : List D} {ρ : Rho} (h : Outs ms ds ρ ds') : Outs (true :: ms) (d :: ds) (.p d' :: ρ) (d' :: ds')
theorem Outs.get {ms : List Bool} {ds ds' : List D} {ρ : Rho} (h : Outs ms ds ρ ds') : ∀ {i : Nat} {d : D}, ds'[i]? = some d → (ms[i]? = some false ∧ ds[i]? = some d) ∨ (ms[i]? = some true ∧ ρ[i]? = some (.p d)) := by
  induction h with
  | nil => intro i d h; simp at h
  | v h ih =>
    intro i d q
    cases i with
    | zero => simp at q; subst q; exact .inl ⟨rfl, rfl⟩
    | succ i => simpa using ih (by simpa using q)
  | p h ih =>
    intro i d q
    cases i with
    | zero => simp at q; subst q; exact .inr ⟨rfl, rfl⟩
    | succ i => simpa using ih (by simpa using q)
def ent : List Bool → List D → Nat → Rho
  | true :: ms, d :: ds, n => .p d :: ent ms ds (n - 1)
  | false :: ms, d :: ds, n => .v d :: ent ms ds (n - 1)
  | _, _, n => List.replicate n .no
theorem ent_len : ∀ {ms : List Bool} {ds : List D} {n : Nat}, ms.length = ds.length → ds.length ≤ n → (ent ms ds n).length = n
  | [], [], n, _, _ => by simp [ent]
  | true :: ms, d :: ds, n, h1, h2 => by
    simp at h1 h2
    simp [ent, ent_len (n := n - 1) h1 (by omega)]; omega
  | false :: ms, d :: ds, n, h1, h2 => by
    simp at h1 h2
    simp [ent, ent_len (n := n - 1) h1 (by omega)]; omega
theorem ent_v : ∀ {ms : List Bool} {ds : List D} {n i : Nat} {d : D}, ms.length = ds.length → (ent ms ds n)[i]? = some (.v d) → ds[i]? = some d
  | [], [], n, i, d, _, h => by
    simp only [ent] at h
    have := List.eq_of_mem_replicate (List.mem_of_getElem? h)
    cases this
  | true :: ms, e :: ds, n, 0, d, h1, h => by simp [ent] at h
  | true :: ms, e :: ds, n, i + 1, d, h1, h => by simpa using ent_v (n := n - 1) (by simpa using h1) (by simpa [ent] using h)
  | false :: ms, e :: ds, n, 0, d, h1, h => by simpa [ent] using h
  | false :: ms, e :: ds, n, i + 1, d, h1, h => by simpa using ent_v (n := n - 1) (by simpa using h1) (by simpa [ent] using h)
theorem ent_p : ∀ {ms : List Bool} {ds : List D} {n i : Nat} {d : D}, ms.length = ds.length → (ent ms ds n)[i]? = some (.p d) → ds[i]? = some d
  | [], [], n, i, d, _, h => by
    simp only [ent] at h
    have := List.eq_of_mem_replicate (List.mem_of_getElem? h)
    cases this
  | true :: ms, e :: ds, n, 0, d, h1, h => by simpa [ent] using h
  | true :: ms, e :: ds, n, i + 1, d, h1, h => by simpa using ent_p (n := n - 1) (by simpa using h1) (by simpa [ent] using h)
  | false :: ms, e :: ds, n, 0, d, h1, h => by simp [ent] at h
  | false :: ms, e :: ds, n, i + 1, d, h1, h => by simpa using ent_p (n := n - 1) (by simpa using h1) (by simpa [ent] using h)

section
variable {P : Program} {w : World} {K : PySem.W.Frag} {mg : Str → Option Value} {base : Heap}
/-- the body's ends -/
def kfn (ms : List Bool) (ds : List D) (k : D → List D → Prop) : DK where
  nx := fun ρ => ∃ ds', Outs ms ds ρ ds' ∧ k .non ds'
  rt := fun r ρ => ∃ ds', Outs ms ds ρ ds' ∧ k r ds'
/-- THE RULE for a def -/
theorem fnD {x qual : Str} {st : Stmt} {f : Addr} {fd : FuncData} {N ps : List Str} {k : Nat} {Φ : Phi} (F : Fun K x qual st f fd) (S : FnScope N ps (defScope st)) (ms : List Bool) (hml : ms.length = ps.length) (hpn : ps.length ≤ N.length)
    (hΦ : ∀ ds kk, Φ ds kk → ds.length = ps.length ∧ ∀ (i : Nat) d, ms[i]? = some false → ds[i]? = some d → isFr d = true)
    (h : ∀ (cdv : Value) (A : Around) (outer : List Env) (s : Shared) (H : Hp) (E : XK), Gx (cxOf CX0 P w K mg base N qual (defScope st) f cdv A outer s H E).nox k → ∀ ds kk, Φ ds kk →
      DS (cxOf CX0 P w K mg base N qual (defScope st) f cdv A outer s H E).nox (ent ms ds N.length) (defBody st) (kfn ms ds kk)) : FnOk P w K mg base CX0 (k + 1) f fd ps (spD K Φ) := by
  refine F.ok S (fun vs H Q E h => ?_) (fun cdv A outer s H vs Q E hr hsp => ?_)
  · obtain ⟨F, ds, lab, _, hl, _, _, hp⟩ := h
    rw [hl]; exact (hΦ _ _ hp).1
  · obtain ⟨F0, ds, lab, e0, hl, hlab, hown, hp⟩ := hsp
    obtain ⟨hds, hfr⟩ := hΦ _ _ hp
    have G : Gx (cxOf CX0 P w K mg base N qual (defScope st) f cdv A outer s H E).nox k := ⟨S.nd, rfl, hr, PassesOwn.never⟩
    have body := h cdv A outer s H E G ds _ hp
    refine ⟨_, pssS, ?_⟩
    let lb : Addr → Option Lb := fun a => (lab a).map fun i => (false, i)
    have lb_of : ∀ a i, lab a = some i → lb a = some (false, i) := fun a i q => by show (lab a).map _ = _; rw [q]; rfl
    have nl : ∀ a, lb a ≠ none → lab a ≠ none := fun a q z => q (by show (lab a).map _ = _; rw [z]; rfl)
    have st_get : ∀ {i : Nat} {v : V}, vs[i]? = some v → (L2.start N vs)[i]? = some (some v) := fun {i v} q => by
      unfold L2.start
      rw [List.getElem?_append_left (by simpa using (List.getElem?_eq_some_iff.mp q).1), List.getElem?_map, q]
      rfl
    have get_v : ∀ {i : Nat} {d : D}, ds[i]? = some d → ∃ v, vs[i]? = some v := fun {i d} q => ⟨_, List.getElem?_eq_some_iff.mpr ⟨by rw [hl]; exact (List.getElem?_eq_some_iff.mp q).1, rfl⟩⟩
    have C : Cov K ⟨F0, fun a => if lab a = none then H a else none, fun a => H a ≠ none ∧ F0 a = none ∧ lab a = none, vs⟩ F0 H (L2.start N vs) (ent ms ds N.length) [] := by
      refine ⟨Ex.refl _, e0, fun a o q => ?_, fun a q => q.2.1, fun a q => ?_, ?_, lb, fun a q => ⟨hlab a (nl a q), if_neg (nl a q)⟩, fun i d q => ?_, fun i d q => ?_, fun k v d q => by simp at q⟩
      · have q' : (if lab a = none then H a else none) = some o := q
        split at q'
        · exact q'
        · cases q'
      · show (if lab a = none then H a else none) ≠ none
        rw [if_pos q.2.2]; exact q.1
      · rw [ent_len (by rw [hml, hds]) (by rw [hds]; exact hpn)]
        unfold L2.start
        rw [List.length_append, List.length_map, List.length_replicate, hl, hds]; omega
      · have q' := ent_v (by rw [hml, hds]) q
        obtain ⟨v, hv⟩ := get_v q'
        exact ⟨v, st_get hv, (hown i v d hv q').mono fun a z => lb_of a i z⟩
      · have q' := ent_p (by rw [hml, hds]) q
        obtain ⟨v, hv⟩ := get_v q'
        exact ⟨v, st_get hv, hv, (hown i v d hv q').mono fun a z => lb_of a i z⟩
    have fin : ∀ v d F H' σ ρ, Cov K ⟨F0, fun a => if lab a = none then H a else none, fun a => H a ≠ none ∧ F0 a = none ∧ lab a = none, vs⟩ F H' σ ρ ([] ++ [(v, d)]) →
        (∃ ds', Outs ms ds ρ ds' ∧ ∀ v F' H' lab', Post K F0 H lab vs v d ds' F' H' lab' → Q v H') → Q v H' := fun v d F H' σ ρ C ⟨ds', ho, hq⟩ => by
      obtain ⟨lc, h1, h2, h3, h4⟩ := C.own
      let lab' : Addr → Option Nat := fun a => match lc a with
        | some (true, 0) => some 0
        | some (false, i) => some (i + 1)
        | _ => none
      have n1 : ∀ a, lab' a ≠ none → lc a ≠ none := fun a q z => q (by show (match lc a with | some (true, 0) => some 0 | some (false, i) => some (i + 1) | _ => none) = none; rw [z])
      refine hq v F H' lab' ⟨C.f0, C.fh, fun a o q z => C.bh a o (by show (if lab a = none then H a else none) = _; rw [if_pos z]; exact q), fun a q1 q2 q3 => C.bz a ⟨q1, q2, q3⟩, fun a q => (h1 a (n1 a q)).1, fun a q => ?_, fun i v' d' q1 q2 => ?_, ?_⟩
      · have := (h1 a (n1 a q)).2
        by_cases z : lab a = none
        · have e : (if lab a = none then H a else none) = none := this
          rw [if_pos z] at e
          exact .inr e
        · exact .inl z
      · rcases ho.get q2 with ⟨m, q⟩ | ⟨m, q⟩
        · have fr := hfr i d' m q
          exact .fr (((hown i v' d' q1 q).rep fr).mono C.f0)
        · obtain ⟨u, _, hu, ow⟩ := h3 i d' q
          have hu' : vs[i]? = some u := hu
          rw [q1] at hu'
          cases hu'
          refine ow.mono fun a z => ?_
          show (match lc a with | some (true, 0) => some 0 | some (false, i) => some (i + 1) | _ => none) = _
          rw [z]
      · refine (h4 0 v d (by simp)).mono fun a z => ?_
        simp only [lab', z]
    exact body _ F0 H (L2.start N vs) [] _ C ⟨fun F H' σ ρ C q => fin .non .non F H' σ ρ (C.push .non) q, fun v d F H' σ ρ C q => fin v d F H' σ ρ C q, fun _ _ _ _ _ q => q.elim, fun _ _ _ _ _ q => q.elim⟩
end

/-! ### calls -/
inductive Ag where
  | v (d : D) | l (i : Nat) (d : D)
def Ag.d : Ag → D
  | .v d => d
  | .l _ d => d
def Ag.s : Ag → Option Nat
  | .v _ => none
  | .l i _ => some i
def DL (X : Cx) (ρ : Rho) (es : List Expr) (as : List Ag) (ρ' : Rho) : Prop := ∀ (B : Bs) (F H : Hp) (σ : L2.St) (τ : List (V × D)) (Q : List V → Hp → Prop), Cov X.K B F H σ ρ τ →
  (∀ vs F' H', Cov X.K B F' H' σ ρ' τ → vs.length = as.length → (∀ (j : Nat) v d, vs[j]? = some v → as[j]? = some (.v d) → Rep X.K F' v d) → (∀ (j : Nat) v i d, vs[j]? = some v → as[j]? = some (.l i d) → σ[i]? = some (some v)) → Q vs H') → sA X es σ H Q
inductive Ups : Rho → List Ag → List D → Rho → Prop
  | nil {ρ : Rho} : Ups ρ [] [] ρ
  | v {ρ ρ' : Rho} {d d' : D} {as : List Ag} {ds : List D} (h : Ups ρ as ds ρ') : Ups ρ (.v d :: as) (d' :: ds) ρ'
  | l {ρ ρ1 ρ' : Rho} {i : Nat} {d d' : D} {as : List Ag} {ds : List D} (u : Up ρ i d' ρ1) (h : Ups ρ1 as ds ρ') : Ups ρ (.l i d :: as) (d' :: ds) ρ'
theorem Ups.len {ρ ρ' : Rho} {as : List Ag} {ds : List D} (h : Ups ρ as ds ρ') : ρ'.length = ρ.length := by
  induction h with
  | nil => rfl
  | v h ih => exact ih
  | l u h ih => rw [ih, u.len]
theorem Ups.get {ρ ρ' : Rho} {as : List Ag} {ds : List D} (h : Ups ρ as ds ρ') : ∀ {i : Nat} {e : D}, ρ'[i]? = some (.v e) →
    (∃ (j : Nat) (d : D), as[j]? = some (.l i d) ∧ ds[j]? = some e ∧ ∃ a, ρ[i]? = some (.v a)) ∨ ((∀ (j : Nat) d, as[j]? ≠ some (.l i d)) ∧ ρ[i]? = some (.v e)) := by
  induction h with
  | nil => intro i e q; exact .inr ⟨fun j d z => by simp at z, q⟩
  | v h ih =>
    intro i e q
    rcases ih q with ⟨j, d, a, b, c⟩ | ⟨n, q⟩
    · exact .inl ⟨j + 1, d, by simpa using a, by simpa using b, c⟩
    · refine .inr ⟨fun j d z => ?_, q⟩
      cases j with
      | zero => simp at z
      | succ j => exact n j d (by simpa using z)
  | l u h ih =>
    intro i e q
    rcases ih q with ⟨j, d, a, b, c, hc⟩ | ⟨n, q⟩
    · refine .inl ⟨j + 1, d, by simpa using a, by simpa using b, ?_⟩
      rcases u.get hc with ⟨rfl, _, w⟩ | ⟨_, w⟩
      · exact w
      · exact ⟨_, w⟩
    · rcases u.get q with ⟨rfl, rfl, w⟩ | ⟨ne, w⟩
      · exact .inl ⟨0, _, rfl, rfl, w⟩
      · refine .inr ⟨fun j d z => ?_, w⟩
        cases j with
        | zero => simp at z; exact ne z.1.symm
        | succ j => exact n j d (by simpa using z)
theorem Ups.getp {ρ ρ' : Rho} {as : List Ag} {ds : List D} (h : Ups ρ as ds ρ') : ∀ {i : Nat} {e : D}, ρ'[i]? = some (.p e) →
    (∃ (j : Nat) (d : D), as[j]? = some (.l i d) ∧ ds[j]? = some e ∧ ∃ a, ρ[i]? = some (.p a)) ∨ ((∀ (j : Nat) d, as[j]? ≠ some (.l i d)) ∧ ρ[i]? = some (.p e)) := by
  induction h with
  | nil => intro i e q; exact .inr ⟨fun j d z => by simp at z, q⟩
  | v h ih =>
    intro i e q
    rcases ih q with ⟨j, d, a, b, c⟩ | ⟨n, q⟩
    · exact .inl ⟨j + 1, d, by simpa using a, by simpa using b, c⟩
    · refine .inr ⟨fun j d z => ?_, q⟩
      cases j with
      | zero => simp at z
      | succ j => exact n j d (by simpa using z)
  | l u h ih =>
    intro i e q
    rcases ih q with ⟨j, d, a, b, c, hc⟩ | ⟨n, q⟩
    · refine .inl ⟨j + 1, d, by simpa using a, by simpa using b, ?_⟩
      rcases u.getp hc with ⟨rfl, _, w⟩ | ⟨_, w⟩
      · exact w
      · exact ⟨_, w⟩
    · rcases u.getp q with ⟨rfl, rfl, w⟩ | ⟨ne, w⟩
      · exact .inl ⟨0, _, rfl, rfl, w⟩
      · refine .inr ⟨fun j d z => ?_, w⟩
        cases j with
        | zero => simp at z; exact ne z.1.symm
        | succ j => exact n j d (by simpa using z)
def slot (as : List Ag) (i : Nat) : Option Nat := as.findIdx? fun a => a.s == some i
theorem slot_none {as : List Ag} {i : Nat} (h : slot as i = none) : ∀ (j : Nat) d, as[j]? ≠ some (.l i d) := fun j d q => by
  unfold slot at h
  rw [List.findIdx?_eq_none_iff] at h
  have := h _ (List.mem_of_getElem? q)
  simp [Ag.s] at this
/-- all lent slots are different -/
def lentOk : List Ag → Bool
  | [] => true
  | .v _ :: r => lentOk r
  | .l i _ :: r => (slot r i).isNone && lentOk r
theorem slot_at : ∀ {as : List Ag} {j i : Nat} {d : D}, lentOk as = true → as[j]? = some (.l i d) → slot as i = some j
  | [], j, i, d, _, q => by simp at q
  | a :: r, 0, i, d, _, q => by
    simp at q; subst q
    unfold slot
    simp [List.findIdx?_cons, Ag.s]
  | .v x :: r, j + 1, i, d, h, q => by
    have := slot_at (as := r) (by simpa [lentOk] using h) (by simpa using q)
    unfold slot at this ⊢
    have e : ((Ag.v x).s == some i) = false := rfl
    rw [List.findIdx?_cons, e]
    simp [this]
  | .l i' x :: r, j + 1, i, d, h, q => by
    simp only [lentOk, Bool.and_eq_true] at h
    have ih := slot_at (as := r) h.2 (by simpa using q)
    have ne : i' ≠ i := by
      rintro rfl
      rw [ih] at h
      simp at h
    unfold slot at ih ⊢
    have e : ((Ag.l i' x).s == some i) = false := by simp [Ag.s, ne]
    simp [List.findIdx?_cons, e, ih]
section
variable {X : Cx} {ρ ρ1 ρ2 ρ3 : Rho} {e a b c : Expr} {es : List Expr} {d d1 d2 x y z : D} {ds : List D} {n m : Nat} {pos p1 p2 p : Pos} {kk : Nat} {as : List Ag}
theorem dl_nil : DL X ρ [] [] ρ := fun B F H σ τ Q C k => sA_of pa_nil (k [] F H C rfl (fun j v d h => by simp at h) (fun j v i d h => by simp at h))
theorem dl_val (h : DX X ρ e d ρ1) (hr : DL X ρ1 es as ρ2) (f : isFr d = true := by rfl) (hs : starEach (e :: es) X.env = (false, eval e X.env) :: starEach es X.env := by rfl) : DL X ρ (e :: es) (.v d :: as) ρ2 := fun B F H σ τ Q C k =>
  sA_of (pa_cons peS paS hs) (h B F H σ τ _ C fun v F1 H1 C1 => hr B F1 H1 σ _ _ C1 fun vs F2 H2 C2 hl r1 r2 => k _ F2 H2 C2.pop (by simp [hl]) (fun j u e q1 q2 => by
    cases j with
    | zero => simp at q1 q2; subst q1 q2; exact C2.rep f
    | succ j => exact r1 j u e (by simpa using q1) (by simpa using q2)) (fun j u i e q1 q2 => by
    cases j with
    | zero => simp at q2
    | succ j => exact r2 j u i e (by simpa using q1) (by simpa using q2)))
theorem dl_lend {x : Str} (n : Nat) (g : Gt ρ n d1) (hr : DL X ρ es as ρ2) (hN : X.N[n]? = some x := by rfl) (hv : Vis X.env.scope x := by first | exact Or.inl rfl | exact Or.inr (Or.inl rfl) | exact Or.inr (Or.inr rfl)) (hd : (x == ("__debug__" : Str)) = false := by decide)
    (hcd : (x == ("__classdict__" : Str)) = false := by decide) (hs : starEach (.Name x p1 :: es) X.env = (false, eval (.Name x p1) X.env) :: starEach es X.env := by rfl) : DL X ρ (.Name x p1 :: es) (.l n d :: as) ρ2 := fun B F H σ τ Q C k => by
  obtain ⟨v, lab, hσ, _, _⟩ := C.get g
  exact sA_of (pa_cons (pe_var hN hv hd hcd) paS hs) ⟨v, hσ, hr B F H σ τ _ C fun vs F2 H2 C2 hl r1 r2 => k _ F2 H2 C2 (by simp [hl]) (fun j u e q1 q2 => by
    cases j with
    | zero => simp at q2
    | succ j => exact r1 j u e (by simpa using q1) (by simpa using q2)) (fun j u i e q1 q2 => by
    cases j with
    | zero => simp at q1 q2; obtain ⟨rfl, rfl⟩ := q2; subst q1; exact hσ
    | succ j => exact r2 j u i e (by simpa using q1) (by simpa using q2))⟩
inductive Lends (ρ : Rho) : List Ag → Prop
  | nil : Lends ρ []
  | v {d : D} {as : List Ag} (h : Lends ρ as) : Lends ρ (.v d :: as)
  | l {i : Nat} {d : D} {as : List Ag} (g : Gt ρ i d) (h : Lends ρ as) : Lends ρ (.l i d :: as)
theorem Lends.get (h : Lends ρ as) : ∀ {j i : Nat} {d : D}, as[j]? = some (.l i d) → Gt ρ i d := by
  induction h with
  | nil => intro j i d q; simp at q
  | v h ih =>
    intro j i d q
    cases j with
    | zero => simp at q
    | succ j => exact ih (by simpa using q)
  | l g h ih =>
    intro j i d q
    cases j with
    | zero => simp at q; obtain ⟨rfl, rfl⟩ := q; exact g
    | succ j => exact ih (by simpa using q)
/-- from a frame's Cov to a callee and back -/
theorem Cov.call {K : PySem.W.Frag} {B : Bs} {F H : Hp} {σ : L2.St} {τ : List (V × D)} {vs : List V} {Q : VK} {α : Type} {enc : α → List D} {pre : α → Prop} {res : α → D} {out : α → List D} (C : Cov K B F H σ ρ τ) (al : α)
    (hl : vs.length = as.length) (r1 : ∀ (j : Nat) v d, vs[j]? = some v → as[j]? = some (.v d) → Rep K F v d) (r2 : ∀ (j : Nat) v i d, vs[j]? = some v → as[j]? = some (.l i d) → σ[i]? = some (some v))
    (hL : Lends ρ as) (hn : lentOk as = true) (he : as.map Ag.d = enc al) (hp : pre al) (hu : Ups ρ as (out al) ρ1) (k : ∀ v F' H', Cov K B F' H' σ ρ1 (τ ++ [(v, res al)]) → Q v H') {E : XK} : spD K (Fx enc pre res out) vs H Q E := by
  obtain ⟨lc, h1, h2, h3, h4⟩ := id C.own
  let lab : Addr → Option Nat := fun a => match lc a with
    | some (false, i) => slot as i
    | _ => none
  have lab_of : ∀ a i, lc a = some (false, i) → lab a = slot as i := fun a i q => by show (match lc a with | some (false, i) => slot as i | _ => none) = _; rw [q]
  have lab_n : ∀ a, lab a ≠ none → lc a ≠ none := fun a q z => q (by show (match lc a with | some (false, i) => slot as i | _ => none) = _; rw [z])
  have lab_t : ∀ a i, lc a = some (true, i) → lab a = none := fun a i q => by show (match lc a with | some (false, i) => slot as i | _ => none) = _; rw [q]
  refine ⟨F, as.map Ag.d, lab, C.fh, by simp [hl], fun a q => (h1 a (lab_n a q)).1, fun j v d q1 q2 => ?_, al, he, hp, fun v F' H' lab' P => ?_⟩
  · rw [List.getElem?_map] at q2
    cases qa : as[j]? with
    | none => rw [qa] at q2; cases q2
    | some g =>
      rw [qa] at q2
      cases g with
      | v d0 => cases q2; exact .fr (r1 j v d0 q1 qa)
      | l i d0 =>
        cases q2
        have hs := slot_at hn qa
        have hσ := r2 j v i d0 q1 qa
        have key : Own K F H (fun a => lc a = some (false, i)) v d0 := by
          rcases (hL.get qa).eq with g | g
          · obtain ⟨u, a, b⟩ := h2 i d0 g; rw [hσ] at a; cases a; exact b
          · obtain ⟨u, a, _, b⟩ := h3 i d0 g; rw [hσ] at a; cases a; exact b
        exact key.mono fun a z => by rw [lab_of a i z]; exact hs
  · classical
    let l2 : Addr → Option Lb := fun a => match lab' a with
      | some 0 => some (true, τ.length)
      | some (j + 1) => (match as[j]? with | some (.l i _) => some (false, i) | _ => none)
      | none => if lab a = none ∧ H a ≠ none ∧ lc a ≠ some (true, τ.length) then lc a else none
    have keepO : ∀ {l : Lb} {v : V} {d : D}, (∀ a, lc a = some l → lab a = none) → l ≠ (true, τ.length) → Own K F H (fun a => lc a = some l) v d → Own K F' H' (fun a => l2 a = some l) v d := fun {l v d} hn nt h => by
      refine (h.used.keep P.ex fun a o q z => P.keep a o z (hn a q.1)).mono fun a ⟨q, z⟩ => ?_
      have n' : lab' a = none := by
        cases w : lab' a with
        | none => rfl
        | some j =>
          rcases P.ln a (by rw [w]; simp) with y | y
          · exact absurd (hn a q) y
          · exact absurd y z
      show (match lab' a with | some 0 => some (true, τ.length) | some (j + 1) => (match as[j]? with | some (.l i _) => some (false, i) | _ => none) | none => if lab a = none ∧ H a ≠ none ∧ lc a ≠ some (true, τ.length) then lc a else none) = some l
      rw [n']
      show (if lab a = none ∧ H a ≠ none ∧ lc a ≠ some (true, τ.length) then lc a else none) = some l
      rw [if_pos ⟨hn a q, z, by rw [q]; intro y; exact nt (Option.some.inj y)⟩]
      exact q
    have argO : ∀ {j i : Nat} {d e : D}, as[j]? = some (.l i d) → (out al)[j]? = some e → ∃ v, σ[i]? = some (some v) ∧ Own K F' H' (fun a => l2 a = some (false, i)) v e := fun {j i d e} q1 q2 => by
      obtain ⟨v, hv⟩ : ∃ v, vs[j]? = some v := ⟨_, List.getElem?_eq_some_iff.mpr ⟨by rw [hl]; exact (List.getElem?_eq_some_iff.mp q1).1, rfl⟩⟩
      refine ⟨v, r2 j v i d hv q1, (P.args j v e hv q2).mono fun a z => ?_⟩
      show (match lab' a with | some 0 => some (true, τ.length) | some (j + 1) => (match as[j]? with | some (.l i _) => some (false, i) | _ => none) | none => if lab a = none ∧ H a ≠ none ∧ lc a ≠ some (true, τ.length) then lc a else none) = _
      rw [z]
      show (match as[j]? with | some (.l i _) => some ((false, i) : Lb) | _ => none) = _
      rw [q1]
    have freeS : ∀ {i : Nat}, (∀ (j : Nat) d, as[j]? ≠ some (.l i d)) → ∀ a, lc a = some (false, i) → lab a = none := fun {i} q a z => by
      rw [lab_of a i z]
      unfold slot
      rw [List.findIdx?_eq_none_iff]
      intro g hg
      obtain ⟨j, hj⟩ := List.mem_iff_getElem?.mp hg
      cases g with
      | v d => simp [Ag.s]
      | l i' d =>
        by_cases e : i' = i
        · subst e; exact absurd hj (q j d)
        · simp [Ag.s, e]
    refine k v F' H' ⟨C.f0.trans P.ex, P.fh, fun a o q => ?_, fun a q => ?_, C.zb, by rw [hu.len]; exact C.ln, l2, fun a q => ?_, fun i d q => ?_, fun i d q => ?_, fun t u d q => ?_⟩
    · refine P.keep a o (C.bh a o q) ?_
      cases w : lab a with
      | none => rfl
      | some j =>
        have := (h1 a (lab_n a (by rw [w]; simp))).2
        rw [q] at this; cases this
    · have hb : B.hp a ≠ none := C.zb a q
      refine P.prot a (fun z => ?_) (C.bz a q) ?_
      · cases w : B.hp a with
        | none => exact hb w
        | some o => have := C.bh a o w; rw [z] at this; cases this
      · cases w : lab a with
        | none => rfl
        | some j => exact absurd (h1 a (lab_n a (by rw [w]; simp))).2 hb
    · cases w : lab' a with
      | some j =>
        refine ⟨P.lf a (by rw [w]; simp), ?_⟩
        rcases P.ln a (by rw [w]; simp) with z | z
        · exact (h1 a (lab_n a z)).2
        · exact fresh_back C.bh z
      | none =>
        have q' : (match lab' a with | some 0 => some (true, τ.length) | some (j + 1) => (match as[j]? with | some (.l i _) => some (false, i) | _ => none) | none => if lab a = none ∧ H a ≠ none ∧ lc a ≠ some (true, τ.length) then lc a else none) ≠ none := q
        rw [w] at q'
        have q2 : (if lab a = none ∧ H a ≠ none ∧ lc a ≠ some (true, τ.length) then lc a else none) ≠ none := q'
        by_cases z : lab a = none ∧ H a ≠ none ∧ lc a ≠ some (true, τ.length)
        · rw [if_pos z] at q2
          exact ⟨P.prot a z.2.1 (h1 a q2).1 z.1, (h1 a q2).2⟩
        · rw [if_neg z] at q2; exact absurd rfl q2
    · rcases hu.get q with ⟨j, d0, q1, q2, _⟩ | ⟨n, q⟩
      · exact argO q1 q2
      · obtain ⟨u, a, b⟩ := h2 i d q
        exact ⟨u, a, keepO (freeS n) (by intro z; cases z) b⟩
    · rcases hu.getp q with ⟨j, d0, q1, q2, c, hc⟩ | ⟨n, q⟩
      · obtain ⟨u, a, b⟩ := argO q1 q2
        obtain ⟨u', a', b', _⟩ := h3 i c hc
        rw [a] at a'; cases a'
        exact ⟨u, a, b', b⟩
      · obtain ⟨u, a, a', b⟩ := h3 i d q
        exact ⟨u, a, a', keepO (freeS n) (by intro z; cases z) b⟩
    · rcases snoc_get q with ⟨ht, q⟩ | ⟨ht, q⟩
      · exact keepO (fun a z => lab_t a t z) (by intro z; have := congrArg Prod.snd z; simp at this; omega) (h4 t u d q)
      · cases q
        subst ht
        refine P.res.mono fun a z => ?_
        simp only [l2, z]
/-- f(..) -/
theorem dx_call {α : Type} {enc : α → List D} {pre : α → Prop} {res : α → D} {out : α → List D} {kf : Nat} {f : Addr} {fd : FuncData} {ps : List Str} {x : Str} (G : Gx X kk) (Fn : FnOk X.prog X.w X.K X.mg X.base CX0 kf f fd ps (spD X.K (Fx enc pre res out))) (hk : kf ≤ kk)
    (hm : X.mg x = some (.ref f)) (hkp : PySem.W.keepIn X.K (.ref f) = true) (hb : Binds X.K fd ps []) (al : α) (ha : DL X ρ (e :: es) as ρ1) (he : as.map Ag.d = enc al) (hp : pre al) (hu : Ups ρ1 as (out al) ρ2) (hL : Lends ρ1 as) (hn : lentOk as = true := by rfl)
    (hg : Gl X x := by rfl) (hdb : (x == ("__debug__" : Str)) = false := by decide) (hst : starEach (e :: es) X.env = (false, eval e X.env) :: starEach es X.env := by rfl) (hpl : (backTo pos (starEach es X.env)).any (·.1) = false := by rfl) :
    DX X ρ (.Call (.Name x p) (e :: es) [] pos) (res al) ρ2 := fun B F H σ τ Q C k =>
  sE_of (pe_call Fn (G.room.mono hk) hg hm hkp hb .nil pass0 paS hdb hst hpl) (ha B F H σ τ _ C fun vs F1 H1 C1 hl r1 r2 => by
    rw [List.append_nil]
    exact C1.call al hl r1 r2 hL hn he hp hu k)
theorem dx_call0 {α : Type} {enc : α → List D} {pre : α → Prop} {res : α → D} {out : α → List D} {kf : Nat} {f : Addr} {fd : FuncData} {ps : List Str} {x : Str} (G : Gx X kk) (Fn : FnOk X.prog X.w X.K X.mg X.base CX0 kf f fd ps (spD X.K (Fx enc pre res out))) (hk : kf ≤ kk)
    (hm : X.mg x = some (.ref f)) (hkp : PySem.W.keepIn X.K (.ref f) = true) (hb : Binds X.K fd ps []) (al : α) (he : enc al = []) (ho : out al = []) (hp : pre al)
    (hg : Gl X x := by rfl) (hdb : (x == ("__debug__" : Str)) = false := by decide) : DX X ρ (.Call (.Name x p) [] [] pos) (res al) ρ := fun B F H σ τ Q C k =>
  sE_of (pe_call0 Fn (G.room.mono hk) hg hm hkp hb .nil pass0 hdb) (show spD X.K (Fx enc pre res out) ([] ++ []) H Q E0 from
    C.call (as := []) al rfl (fun j v d q => by simp at q) (fun j v i d q => by simp at q) .nil rfl (by rw [he]; rfl) hp (by rw [ho]; exact .nil) k)
end
end DL
namespace DL
open PySem L2 Evl
section
variable {X : Cx} {ρ ρ1 ρ2 ρ3 : Rho} {e a b c : Expr} {es : List Expr} {d d1 d2 x y z : D} {ds : List D} {i j : Int} {n m : Nat} {pos p1 p2 p : Pos} {kk : Nat} {s : Str}
/-! ### built-ins -/
theorem dx_cb {id : String} {r : List V → Hp → VK → Prop} {x : Str} (hc : CallR X (.builtin id) r) (hm : X.mg x = none) (hv : bootBuiltins x = some (.builtin id)) (ha : DA X ρ (e :: es) ds ρ1)
    (hr : ∀ (B : Bs) (F H : Hp) (σ : L2.St) (τ : List (V × D)) vs Q, Cov X.K B F H σ ρ1 τ → Reps X.K F vs ds → (∀ v F' H', Cov X.K B F' H' σ ρ1 (τ ++ [(v, d)]) → Q v H') → r vs H Q)
    (hg : Gl X x := by rfl) (hn : x ≠ "__name__" := by decide) (hdb : (x == ("__debug__" : Str)) = false := by decide) (he : starEach (e :: es) X.env = (false, eval e X.env) :: starEach es X.env := by rfl) (hpl : (backTo pos (starEach es X.env)).any (·.1) = false := by rfl) :
    DX X ρ (.Call (.Name x p) (e :: es) [] pos) d ρ1 := fun B F H σ τ Q C k =>
  sE_of (pe_callB hc hg hm hv paS hn hdb he hpl) (ha B F H σ τ _ C fun vs F1 H1 C1 q => hr B F1 H1 σ τ vs Q C1 q k)
theorem dx_ct {T : String} {r : List V → Hp → VK → Prop} {x : Str} (hc : CallR X (.type T) r) (hm : X.mg x = none) (hv : bootBuiltins x = some (.type T)) (ha : DA X ρ (e :: es) ds ρ1)
    (hr : ∀ (B : Bs) (F H : Hp) (σ : L2.St) (τ : List (V × D)) vs Q, Cov X.K B F H σ ρ1 τ → Reps X.K F vs ds → (∀ v F' H', Cov X.K B F' H' σ ρ1 (τ ++ [(v, d)]) → Q v H') → r vs H Q)
    (hg : Gl X x := by rfl) (hn : x ≠ "__name__" := by decide) (hdb : (x == ("__debug__" : Str)) = false := by decide) (he : starEach (e :: es) X.env = (false, eval e X.env) :: starEach es X.env := by rfl) (hpl : (backTo pos (starEach es X.env)).any (·.1) = false := by rfl) :
    DX X ρ (.Call (.Name x p) (e :: es) [] pos) d ρ1 := fun B F H σ τ Q C k =>
  sE_of (pe_callTy hc hg hm hv paS hn hdb he hpl) (ha B F H σ τ _ C fun vs F1 H1 C1 q => hr B F1 H1 σ τ vs Q C1 q k)
theorem da_one (h : DX X ρ e d ρ1) (f : isFr d = true := by rfl) (hs : starEach [e] X.env = (false, eval e X.env) :: starEach [] X.env := by rfl) : DA X ρ [e] [d] ρ1 := da_cons h da_nil f hs
theorem da_two (h : DX X ρ a x ρ1) (h2 : DX X ρ1 b y ρ2) (f : isFr x = true := by rfl) (f2 : isFr y = true := by rfl) (hs : starEach [a, b] X.env = (false, eval a X.env) :: starEach [b] X.env := by rfl) (hs2 : starEach [b] X.env = (false, eval b X.env) :: starEach [] X.env := by rfl) : DA X ρ [a, b] [x, y] ρ2 :=
  da_cons h (da_cons h2 da_nil f2 hs2) f hs
theorem dx_int1 (hm : X.mg "int" = none) (h : DX X ρ e (.int i) ρ1) (hg : Gl X "int" := by rfl) (he : starEach [e] X.env = (false, eval e X.env) :: starEach [] X.env := by rfl) (hpl : (backTo pos (starEach [] X.env)).any (·.1) = false := by rfl) :
    DX X ρ (.Call (.Name "int" p) [e] [] pos) (.int i) ρ1 :=
  dx_ct call_int1 hm (by decide +kernel) (da_one h rfl he) (fun B F H σ τ vs Q C r k => by
    obtain ⟨v, rfl, hv⟩ := r.one
    rw [rep_int hv]
    exact .inl ⟨i, rfl, k _ F H (C.push (.int i))⟩) hg (by decide) (by decide) he hpl
theorem dx_intB {bb : Bool} (hm : X.mg "int" = none) (h : DX X ρ e (.bl bb) ρ1) (hg : Gl X "int" := by rfl) (he : starEach [e] X.env = (false, eval e X.env) :: starEach [] X.env := by rfl) (hpl : (backTo pos (starEach [] X.env)).any (·.1) = false := by rfl) :
    DX X ρ (.Call (.Name "int" p) [e] [] pos) (.int (if bb then 1 else 0)) ρ1 :=
  dx_ct call_int1 hm (by decide +kernel) (da_one h rfl he) (fun B F H σ τ vs Q C r k => by
    obtain ⟨v, rfl, hv⟩ := r.one
    rw [rep_bl hv]
    exact .inr ⟨bb, rfl, k _ F H (C.push (.int _))⟩) hg (by decide) (by decide) he hpl
theorem dx_abs (hm : X.mg "abs" = none) (h : DX X ρ e (.int i) ρ1) (hg : Gl X "abs" := by rfl) (he : starEach [e] X.env = (false, eval e X.env) :: starEach [] X.env := by rfl) (hpl : (backTo pos (starEach [] X.env)).any (·.1) = false := by rfl) :
    DX X ρ (.Call (.Name "abs" p) [e] [] pos) (.int (if i < 0 then -i else i)) ρ1 :=
  dx_cb call_abs hm (by decide +kernel) (da_one h rfl he) (fun B F H σ τ vs Q C r k => by
    obtain ⟨v, rfl, hv⟩ := r.one
    rw [rep_int hv]
    exact ⟨i, rfl, k _ F H (C.push (.int _))⟩) hg (by decide) (by decide) he hpl
theorem dx_max2 (G : Gx X kk) (hm : X.mg "max" = none) (h : DX X ρ a (.int i) ρ1) (h2 : DX X ρ1 b (.int j) ρ2) (hg : Gl X "max" := by rfl) (he : starEach [a, b] X.env = (false, eval a X.env) :: starEach [b] X.env := by rfl) (hs2 : starEach [b] X.env = (false, eval b X.env) :: starEach [] X.env := by rfl) (hpl : (backTo pos (starEach [b] X.env)).any (·.1) = false := by rfl) :
    DX X ρ (.Call (.Name "max" p) [a, b] [] pos) (.int (if j > i then j else i)) ρ2 :=
  dx_cb (call_max2 G.calm) hm (by decide +kernel) (da_two h h2 rfl rfl he hs2) (fun B F H σ τ vs Q C r k => by
    obtain ⟨v, u, rfl, hv, hu⟩ := r.two
    rw [rep_int hv, rep_int hu]
    exact ⟨i, j, rfl, k _ F H (C.push (.int _))⟩) hg (by decide) (by decide) he hpl
theorem dx_min2 (G : Gx X kk) (hm : X.mg "min" = none) (h : DX X ρ a (.int i) ρ1) (h2 : DX X ρ1 b (.int j) ρ2) (hg : Gl X "min" := by rfl) (he : starEach [a, b] X.env = (false, eval a X.env) :: starEach [b] X.env := by rfl) (hs2 : starEach [b] X.env = (false, eval b X.env) :: starEach [] X.env := by rfl) (hpl : (backTo pos (starEach [b] X.env)).any (·.1) = false := by rfl) :
    DX X ρ (.Call (.Name "min" p) [a, b] [] pos) (.int (if j < i then j else i)) ρ2 :=
  dx_cb (call_min2 G.calm) hm (by decide +kernel) (da_two h h2 rfl rfl he hs2) (fun B F H σ τ vs Q C r k => by
    obtain ⟨v, u, rfl, hv, hu⟩ := r.two
    rw [rep_int hv, rep_int hu]
    exact ⟨i, j, rfl, k _ F H (C.push (.int _))⟩) hg (by decide) (by decide) he hpl
/-- len -/
def lenD : D → Option Nat
  | .nd false .tup ds => some ds.length
  | .nd false .lst ds => some ds.length
  | .nd false .sq ds => some ds.length
  | .str s => some s.length
  | _ => none
theorem rep_len {K : PySem.W.Frag} {F H : Hp} {v : V} (e : Ex F H) (r : Rep K F v x) (h : lenD x = some n) (hs : ∀ s, x = .str s → s.length ≤ sizeLine) : LenV K v H n := by
  cases r with
  | str s => simp [lenD] at h; subst h; exact ⟨hs s rfl, rfl⟩
  | @nd p sh xs ds h' hl hc =>
    cases sh with
    | tup => simp [lenD] at h; subst h; exact .inr ⟨xs, ex_t e h', hl.symm⟩
    | lst => simp [lenD] at h; subst h; exact .inl ⟨xs, .inl (.inl (e _ _ h')), hl.symm⟩
    | sq => simp [lenD] at h; subst h; exact .inl ⟨xs, ex_l e h', hl.symm⟩
    | dk ks => simp [lenD] at h
    | dt ks => simp [lenD] at h
    | ins C fs => simp [lenD] at h
  | _ => simp [lenD] at h
theorem dx_len (hm : X.mg "len" = none) (h : DX X ρ e x ρ1) (hl : lenD x = some n) (f : isFr x = true := by rfl) (hs : ∀ s, x = .str s → s.length ≤ sizeLine := by intro s h; cases h) (hg : Gl X "len" := by rfl) (he : starEach [e] X.env = (false, eval e X.env) :: starEach [] X.env := by rfl) (hpl : (backTo pos (starEach [] X.env)).any (·.1) = false := by rfl) :
    DX X ρ (.Call (.Name "len" p) [e] [] pos) (.int n) ρ1 :=
  dx_cb call_len hm PySem.boot_len (da_one h f he) (fun B F H σ τ vs Q C r k => by
    obtain ⟨v, rfl, hv⟩ := r.one
    exact ⟨v, n, rfl, rep_len C.fh hv hl hs, k _ F H (C.push (.int _))⟩) hg (by decide) (by decide) he hpl
/-- len of a list in a slot -/
theorem dx_lenM {x : Str} (n : Nat) (hm : X.mg "len" = none) (g : Gt ρ n (.ml ds)) (hN : X.N[n]? = some x := by rfl) (hv : Vis X.env.scope x := by first | exact Or.inl rfl | exact Or.inr (Or.inl rfl) | exact Or.inr (Or.inr rfl)) (hd : (x == ("__debug__" : Str)) = false := by decide)
    (hcd : (x == ("__classdict__" : Str)) = false := by decide) (hg : Gl X "len" := by rfl) (he : starEach [.Name x p1] X.env = (false, eval (.Name x p1) X.env) :: starEach [] X.env := by rfl) (hpl : (backTo pos (starEach [] X.env)).any (·.1) = false := by rfl) :
    DX X ρ (.Call (.Name "len" p) [.Name x p1] [] pos) (.int ds.length) ρ := fun B F H σ τ Q C k => by
  obtain ⟨q, xs, hσ, h1, h2, _⟩ := C.mut g
  exact sE_of (pe_callB call_len hg hm PySem.boot_len (pa_cons (pe_var hN hv hd hcd) pa_nil he) (by decide) (by decide) he hpl) ⟨_, hσ, _, _, rfl, .inl ⟨xs, .inl (.inl h1), rfl⟩, by rw [h2]; exact k _ F H (C.push (.int _))⟩
/-- math.gcd, bound in the module -/
theorem dx_gcd {x : Str} (hm : X.mg x = some (.builtin "math.gcd")) (h : DX X ρ a (.int i) ρ1) (h2 : DX X ρ1 b (.int j) ρ2) (hg : Gl X x := by rfl) (hdb : (x == ("__debug__" : Str)) = false := by decide) (he : starEach [a, b] X.env = (false, eval a X.env) :: starEach [b] X.env := by rfl) (hs2 : starEach [b] X.env = (false, eval b X.env) :: starEach [] X.env := by rfl) (hpl : (backTo pos (starEach [b] X.env)).any (·.1) = false := by rfl) :
    DX X ρ (.Call (.Name x p) [a, b] [] pos) (.int ((Nat.gcd i.natAbs j.natAbs : Nat) : Int)) ρ2 := fun B F H σ τ Q C k =>
  sE_of (pe_callBfun cr_gcd hg hm paS hdb he hpl) (da_two h h2 rfl rfl he hs2 B F H σ τ _ C fun vs F1 H1 C1 r => by
    obtain ⟨v, u, rfl, hv, hu⟩ := r.two
    rw [rep_int hv, rep_int hu]
    exact ⟨i, j, rfl, k _ F1 H1 (C1.push (.int _))⟩)
/-- tuple(xs), list(xs): new -/
theorem rep_seq {K : PySem.W.Frag} {F : Hp} {v : V} {sh : Sh} (h : Rep K F v (.nd false sh ds)) (hs : sh = .lst ∨ sh = .sq) : ∃ p xs, v = .ref p ∧ SqL K F p xs ∧ Reps K F xs ds := by
  rcases hs with rfl | rfl
  · obtain ⟨p, xs, e, h, r⟩ := rep_lst h; exact ⟨p, xs, e, .inl (.inl h), r⟩
  · exact rep_sq h
theorem dx_tuple (hm : X.mg "tuple" = none) (h : DX X ρ e (.lst ds) ρ1) (f : isFrs ds = true := by rfl) (hg : Gl X "tuple" := by rfl) (he : starEach [e] X.env = (false, eval e X.env) :: starEach [] X.env := by rfl) (hpl : (backTo pos (starEach [] X.env)).any (·.1) = false := by rfl) :
    DX X ρ (.Call (.Name "tuple" p) [e] [] pos) (.tup ds) ρ1 :=
  dx_ct call_tuple_of hm (by decide +kernel) (da_one h (by simp [isFr, f]) he) (fun B F H σ τ vs Q C r k => by
    obtain ⟨v, rfl, hv⟩ := r.one
    obtain ⟨q, xs, rfl, h1, r1⟩ := rep_lst hv
    exact ⟨q, xs, rfl, .inl ⟨.inl (.inl (C.fh _ _ h1)), fun l hl => k _ _ _ ((C.laid (o := .tup xs) hl).push (.nd (.inl (.inl upd_same)) r1.1 fun j v d h1 h2 => (r1.2 j v d h1 h2).mono (Ex.new (none_F C.fh hl))))⟩⟩) hg (by decide) (by decide) he hpl
theorem dx_list {sh : Sh} (hm : X.mg "list" = none) (h : DX X ρ e (.nd false sh ds) ρ1) (hs : sh = .lst ∨ sh = .sq ∨ sh = .tup := by simp) (f : isFrs ds = true := by rfl) (hg : Gl X "list" := by rfl) (he : starEach [e] X.env = (false, eval e X.env) :: starEach [] X.env := by rfl) (hpl : (backTo pos (starEach [] X.env)).any (·.1) = false := by rfl) :
    DX X ρ (.Call (.Name "list" p) [e] [] pos) (.ml ds) ρ1 :=
  dx_ct call_list_of hm (by decide +kernel) (da_one h (by simp [isFr, f]) he) (fun B F H σ τ vs Q C r k => by
    obtain ⟨v, rfl, hv⟩ := r.one
    rcases hs with hs | hs | rfl
    · obtain ⟨q, xs, rfl, h1, r1⟩ := rep_seq hv (.inl hs)
      exact ⟨q, xs, rfl, .inl (ex_l C.fh h1), fun l hl => k _ _ _ (C.alloc (o := .lst xs) hl rfl upd_same r1.1 r1.2)⟩
    · obtain ⟨q, xs, rfl, h1, r1⟩ := rep_seq hv (.inr hs)
      exact ⟨q, xs, rfl, .inl (ex_l C.fh h1), fun l hl => k _ _ _ (C.alloc (o := .lst xs) hl rfl upd_same r1.1 r1.2)⟩
    · obtain ⟨q, xs, rfl, h1, r1⟩ := rep_tup hv
      exact ⟨q, xs, rfl, .inr (ex_t C.fh h1), fun l hl => k _ _ _ (C.alloc (o := .lst xs) hl rfl upd_same r1.1 r1.2)⟩) hg (by decide) (by decide) he hpl

/-! ### == of data -/
mutual
def toPy : D → PyData
  | .bl b => .bool b
  | .int i => .int i
  | .str s => .str s
  | .nd _ .tup ds => .tuple (toPys ds)
  | .nd _ _ ds => .list (toPys ds)
  | _ => .none
def toPys : List D → List PyData
  | [] => []
  | d :: r => toPy d :: toPys r
end
mutual
def pyOk : D → Bool
  | .non => true | .bl _ => true | .int _ => true | .str _ => true
  | .nd m .tup ds => !m && pyOks ds
  | .nd m .lst ds => !m && pyOks ds
  | .nd m .sq ds => !m && pyOks ds
  | _ => false
def pyOks : List D → Bool
  | [] => true
  | d :: r => pyOk d && pyOks r
end
mutual
theorem pyOk_fr : ∀ {d : D}, pyOk d = true → isFr d = true
  | .non, _ => rfl | .bl _, _ => rfl | .int _, _ => rfl | .str _, _ => rfl
  | .nd m .tup ds, h => by simp only [pyOk, Bool.and_eq_true] at h; simp [isFr, pyOks_fr h.2]; simpa using h.1
  | .nd m .lst ds, h => by simp only [pyOk, Bool.and_eq_true] at h; simp [isFr, pyOks_fr h.2]; simpa using h.1
  | .nd m .sq ds, h => by simp only [pyOk, Bool.and_eq_true] at h; simp [isFr, pyOks_fr h.2]; simpa using h.1
  | .nd m (.dk _) ds, h => by simp [pyOk] at h
  | .nd m (.dt _) ds, h => by simp [pyOk] at h
  | .nd m (.ins _ _) ds, h => by simp [pyOk] at h
  | .adr _, h => by simp [pyOk] at h
  | .ty _, h => by simp [pyOk] at h
  | .hol _, h => by simp [pyOk] at h
theorem pyOks_fr : ∀ {ds : List D}, pyOks ds = true → isFrs ds = true
  | [], _ => rfl
  | d :: r, h => by simp only [pyOks, Bool.and_eq_true] at h; simp [isFrs, pyOk_fr h.1, pyOks_fr h.2]
end
mutual
theorem rep_dp {K : PySem.W.Frag} {F H : Hp} (e : Ex F H) : ∀ {d : D} {v : V}, pyOk d = true → Rep K F v d → Dp K H v (toPy d)
  | .non, _, _, r => by cases r; exact .non
  | .bl b, _, _, r => by cases r; exact .bl b
  | .int i, _, _, r => by cases r; exact .int i
  | .str s, _, _, r => by cases r; exact .str s
  | .nd m .tup ds, _, h, r => by
    simp only [pyOk, Bool.and_eq_true] at h
    cases r with
    | nd h' hl hc => exact .tup (ex_t e h') (reps_dp e h.2 ⟨hl, hc⟩)
  | .nd m .lst ds, _, h, r => by
    simp only [pyOk, Bool.and_eq_true] at h
    cases r with
    | nd h' hl hc => exact .lst (.inl (.inl (e _ _ h'))) (reps_dp e h.2 ⟨hl, hc⟩)
  | .nd m .sq ds, _, h, r => by
    simp only [pyOk, Bool.and_eq_true] at h
    cases r with
    | nd h' hl hc => exact .lst (ex_l e h') (reps_dp e h.2 ⟨hl, hc⟩)
  | .nd m (.dk _) ds, _, h, _ => by simp [pyOk] at h
  | .nd m (.dt _) ds, _, h, _ => by simp [pyOk] at h
  | .nd m (.ins _ _) ds, _, h, _ => by simp [pyOk] at h
  | .adr _, _, h, _ => by simp [pyOk] at h
  | .ty _, _, h, _ => by simp [pyOk] at h
  | .hol _, _, h, _ => by simp [pyOk] at h
theorem reps_dp {K : PySem.W.Frag} {F H : Hp} (e : Ex F H) : ∀ {ds : List D} {vs : List V}, pyOks ds = true → Reps K F vs ds → DpAll K H vs (toPys ds)
  | [], _, _, r => by rw [r.unnil]; exact .nil
  | d :: ds, _, h, r => by
    simp only [pyOks, Bool.and_eq_true] at h
    obtain ⟨v, us, rfl, h1, h2⟩ := r.uncons
    exact .cons (rep_dp e h.1 h1) (reps_dp e h.2 h2)
end
theorem dx_eqD (G : Gx X kk) (ha : DX X ρ a x ρ1) (hb : DX X ρ1 b y ρ2) (hx : pyOk x = true := by rfl) (hy : pyOk y = true := by rfl) (sx : SeqAt.shaped (toPy x) = true := by rfl) (sy : SeqAt.shaped (toPy y) = true := by rfl) :
    DX X ρ (.Compare a [.Eq] [b] pos) (.bl (PyData.eqv (toPy x) (toPy y))) ρ2 :=
  dx_op (t := sE X a) ha hb (pyOk_fr hx) (pyOk_fr hy) (pe_cmpR (op_eqD G.room.units) peS peS (nomark _)) fun F H v u Q r1 r2 e k => ⟨_, _, rep_dp e hx r1, rep_dp e hy r2, sx, sy, k _ (.bl _)⟩
theorem dx_neD (G : Gx X kk) (ha : DX X ρ a x ρ1) (hb : DX X ρ1 b y ρ2) (hx : pyOk x = true := by rfl) (hy : pyOk y = true := by rfl) (sx : SeqAt.shaped (toPy x) = true := by rfl) (sy : SeqAt.shaped (toPy y) = true := by rfl) :
    DX X ρ (.Compare a [.NotEq] [b] pos) (.bl (!PyData.eqv (toPy x) (toPy y))) ρ2 :=
  dx_op (t := sE X a) ha hb (pyOk_fr hx) (pyOk_fr hy) (pe_cmpR (op_neD G.room.units) peS peS (nomark _)) fun F H v u Q r1 r2 e k => ⟨_, _, rep_dp e hx r1, rep_dp e hy r2, sx, sy, k _ (.bl _)⟩
theorem dt_eqD (G : Gx X kk) (ha : DX X ρ a x ρ1) (hb : DX X ρ1 b y ρ2) (hx : pyOk x = true := by rfl) (hy : pyOk y = true := by rfl) (sx : SeqAt.shaped (toPy x) = true := by rfl) (sy : SeqAt.shaped (toPy y) = true := by rfl) :
    DT X ρ (.Compare a [.Eq] [b] pos) (PyData.eqv (toPy x) (toPy y)) ρ2 :=
  dt_op (op_eqD G.room.units) ha hb (pyOk_fr hx) (pyOk_fr hy) (nomark _) fun F H v u Q r1 r2 e k => ⟨_, _, rep_dp e hx r1, rep_dp e hy r2, sx, sy, k⟩
theorem dt_neD (G : Gx X kk) (ha : DX X ρ a x ρ1) (hb : DX X ρ1 b y ρ2) (hx : pyOk x = true := by rfl) (hy : pyOk y = true := by rfl) (sx : SeqAt.shaped (toPy x) = true := by rfl) (sy : SeqAt.shaped (toPy y) = true := by rfl) :
    DT X ρ (.Compare a [.NotEq] [b] pos) (!PyData.eqv (toPy x) (toPy y)) ρ2 :=
  dt_op (op_neD G.room.units) ha hb (pyOk_fr hx) (pyOk_fr hy) (nomark _) fun F H v u Q r1 r2 e k => ⟨_, _, rep_dp e hx r1, rep_dp e hy r2, sx, sy, k⟩
end

/-! ### list comprehensions -/
section
variable {K : PySem.W.Frag} {B : Bs} {F F' H H' : Hp} {σ σ' : L2.St} {ρ ρ' : Rho} {τ : List (V × D)} {v : V} {d : D} {p : Addr} {i : Nat}
/-- other slots, of which nothing new is said -/
theorem Cov.chg (C : Cov K B F H σ ρ τ) (hl : σ'.length = ρ'.length) (h : ∀ (i : Nat) s, ρ'[i]? = some s → s = .no ∨ (ρ[i]? = some s ∧ ∀ v, σ[i]? = some (some v) → σ'[i]? = some (some v))) : Cov K B F H σ' ρ' τ := by
  obtain ⟨lab, h1, h2, h3, h4⟩ := C.own
  refine ⟨C.f0, C.fh, C.bh, C.bz, C.zb, hl, lab, h1, fun i d q => ?_, fun i d q => ?_, h4⟩
  · rcases h i _ q with e | ⟨e, g⟩
    · cases e
    · obtain ⟨v, a, b⟩ := h2 i d e; exact ⟨v, g v a, b⟩
  · rcases h i _ q with e | ⟨e, g⟩
    · cases e
    · obtain ⟨v, a, a', b⟩ := h3 i d e; exact ⟨v, g v a, a', b⟩
inductive Wp : Rho → List Nat → Rho → Prop
  | nil {ρ : Rho} : Wp ρ [] ρ
  | cons {ρ ρ1 ρ2 : Rho} {n : Nat} {ns : List Nat} (h : St ρ n .no ρ1) (w : Wp ρ1 ns ρ2) : Wp ρ (n :: ns) ρ2
theorem Wp.get {ns : List Nat} (h : Wp ρ ns ρ') : ρ'.length = ρ.length ∧ ∀ {i : Nat} {s : Sl}, ρ'[i]? = some s → s = .no ∨ (ρ[i]? = some s ∧ i ∉ ns) := by
  induction h with
  | nil => exact ⟨rfl, fun q => .inr ⟨q, by simp⟩⟩
  | cons g w ih =>
    obtain ⟨rfl, hi⟩ := g.eq
    refine ⟨by rw [ih.1]; simp, fun {i s} q => ?_⟩
    rename_i n _
    rcases ih.2 q with e | ⟨q, ni⟩
    · exact .inl e
    · by_cases e : n = i
      · subst e; rw [List.getElem?_set_self hi] at q; cases q; exact .inl rfl
      · rw [List.getElem?_set_ne e] at q
        exact .inr ⟨q, by simp only [List.mem_cons, not_or]; exact ⟨fun z => e z.symm, ni⟩⟩
theorem wipe_out {σ : L2.St} : ∀ {ns : List Nat} {i : Nat}, i ∉ ns → (wipe σ ns)[i]? = σ[i]?
  | [], i, _ => rfl
  | n :: ns, i, h => by
    simp only [List.mem_cons, not_or] at h
    unfold wipe
    rw [List.getElem?_set_ne (fun z => h.1 z.symm)]
    exact wipe_out h.2
theorem Cov.wipe {ns : List Nat} (C : Cov K B F H σ ρ τ) (h : Wp ρ ns ρ') : Cov K B F H (wipe σ ns) ρ' τ :=
  C.chg (by rw [wipe_length, C.ln, h.get.1]) fun i s q => (h.get.2 q).imp id fun ⟨e, n⟩ => ⟨e, fun v z => by rw [wipe_out n]; exact z⟩
theorem Cov.unwipe {ns : List Nat} (C : Cov K B F H σ' ρ τ) (h : Wp ρ ns ρ') (hw : L2.wipe σ' ns = L2.wipe σ ns) : Cov K B F H (L2.wipe σ ns) ρ' τ := by
  rw [← hw]; exact C.wipe h
/-- the block's state is one of the frame, its own names forgotten -/
theorem Cov.back {ns : List Nat} (C : Cov K B F H (L2.wipe σ ns) ρ τ) : Cov K B F H σ ρ τ :=
  C.chg (by have := C.ln; rw [wipe_length] at this; exact this) fun i s q => .inr ⟨q, fun v z => (wipe_some z).1⟩
/-- a temp changes -/
theorem Cov.mutT {sh : Sh} {ds : List D} {k : Nat} (C : Cov K B F H σ ρ τ) (g : τ[k]? = some (.ref p, .nd true sh ds)) : ∃ xs, Nd K H p sh xs ∧ xs.length = ds.length ∧
    (∀ (j : Nat) x d, xs[j]? = some x → ds[j]? = some d → isFr d = true → Rep K F x d) ∧
    ∀ (o : HO) (sh' : Sh) (xs' : List V) (ds' : List D), sh'.mu = true → Nd K (upd H p o) p sh' xs' → xs'.length = ds'.length → (∀ (j : Nat) x d, xs'[j]? = some x → ds'[j]? = some d → Rep K F x d) →
      Cov K B F (upd H p o) σ ρ (τ.set k (.ref p, .nd true sh' ds')) := by
  obtain ⟨lab, h1, h2, h3, h4⟩ := C.own
  have hd := h4 k _ _ g
  cases hd with
  | fr h => cases h
  | @nd _ _ _ xs _ lb ha hm h hl hc =>
    have fp := (h1 p (by rw [ha]; simp))
    refine ⟨xs, h, hl, fun j x d a b n => (hc j x d a b).rep n, fun o sh' xs' ds' hm' h' hl' hc' => ?_⟩
    have ow : ∀ {l : Lb} {v : V} {d : D}, l ≠ (true, k) → Own K F H (fun a => lab a = some l) v d → Own K F (upd H p o) (fun a => lab a = some l) v d := fun {l v d} n w => w.keep (Ex.refl F) fun a u q z => by
      rw [upd_ne]
      · exact z
      · rintro rfl
        rw [q] at ha
        exact n (Option.some.inj ha)
    refine ⟨C.f0, C.fh.mut fp.1, C.bh.mut fp.2, C.bz, C.zb, C.ln, lab, h1, fun j e q => ?_, fun j e q => ?_, fun t w e q => ?_⟩
    · obtain ⟨w, a, b⟩ := h2 j e q; exact ⟨w, a, ow (by intro z; cases z) b⟩
    · obtain ⟨w, a, a', b⟩ := h3 j e q; exact ⟨w, a, a', ow (by intro z; cases z) b⟩
    · by_cases ht : k = t
      · subst ht
        rw [List.getElem?_set_self (List.getElem?_eq_some_iff.mp g).1] at q
        cases q
        exact .nd (fun _ => none) ha hm' h' hl' fun j x d a b => .fr (hc' j x d a b)
      · rw [List.getElem?_set_ne ht] at q
        exact ow (by intro z; exact ht (congrArg Prod.snd z).symm) (h4 t w e q)
end
section
variable {X : Cx} {ρ ρ1 ρ2 ρ3 ρw : Rho} {e elt tg iter : Expr} {ifs : List Expr} {d d1 d2 x y z : D} {ds ds' : List D} {i j : Int} {n m : Nat} {pos p1 p2 p : Pos} {kk : Nat} {scope : Scope} {own : List (Str × Nat)}
/-- a clause's tests -/
def sI (X : Cx) (ifs : List Expr) : TT := fun σ H Q => ∀ pins s, Inv X pins σ H s → wpAny (model X.prog X.w) X.A (forIn ifs true fun c r => if r = true then do let ok ← isTrue c X.env (eval c X.env); pure (ForInStep.yield ok) else pure (ForInStep.yield r)) (TP X pins σ Q) X.xe s
def DI (X : Cx) (ρ : Rho) (ifs : List Expr) (b : Bool) (ρ' : Rho) : Prop := ∀ (B : Bs) (F H : Hp) (σ : L2.St) (τ : List (V × D)) (Q : Bool → Hp → Prop), Cov X.K B F H σ ρ τ → (∀ F' H', Cov X.K B F' H' σ ρ' τ → Q b H') → sI X ifs σ H Q
theorem di_nil : DI X ρ [] true ρ := fun B F H σ τ Q C k pins s I => pts_nil.run pins s σ H Q I (k F H C)
theorem di_one {c : Expr} {bb : Bool} (h : DT X ρ c bb ρ1) : DI X ρ [c] bb ρ1 := fun B F H σ τ Q C k pins s I => (pts_one ptS).run pins s σ H Q I (h B F H σ τ Q C k)
/-- what holds in every block of this comprehension -/
def Blk (X : Cx) (scope : Scope) (J : Cx → Prop) : Prop := ∀ (s : Shared) (H : Hp) (C : Addr) (cl : List (Str × Addr)) (fp : List Addr), J (X.blk s H scope (compEnvC scope cl C X.env) fp)
theorem Gx.blk (G : Gx X kk) : Blk X scope fun Y => Gx Y kk := fun s H C cl fp => ⟨G.nd, G.calm, G.room, PassesOwn.never⟩
def bE (X : Cx) (scope : Scope) (e : Expr) : TE := fun σ H Q => Blk X scope fun Y => sE Y e σ H Q
def bI (X : Cx) (scope : Scope) (ifs : List Expr) : TT := fun σ H Q => Blk X scope fun Y => sI Y ifs σ H Q
def bG (X : Cx) (scope : Scope) (tg : Expr) : TG := fun v σ H Q => Blk X scope fun Y => sG Y tg v σ H Q
theorem dx_lc {te : TE} {wi : TI} (G : Gx X kk) (hi : PI X tg iter wi) (hb : blkC X.N X.env.scope scope own = true)
    (hs : ∀ x, foldedSetIterable iter X.env x = pure x)
    (h : ∀ (B : Bs) (F H : Hp) (σ : L2.St) (τ : List (V × D)) (Q : VK), Cov X.K B F H σ ρ τ → (∀ v F' H', Cov X.K B F' H' σ ρ2 (τ ++ [(v, .ml ds')]) → Q v H') → tLc wi (bG X scope tg) (bI X scope ifs) (bE X scope elt) (own.map (·.2)) σ H Q) :
    DX X ρ (.ListComp elt [⟨tg, iter, ifs, 0⟩] scope pos) (.ml ds') ρ2 := fun B F H σ τ Q C k =>
  sE_of (pe_lc G.calm G.nd hi (blkOk_by hb) (fun s H C cl fp => ⟨fun pins s' σ' H' v u Q' I r q => q s H C cl fp pins s' u I r⟩) (fun s H C cl fp => ⟨fun pins s' σ' H' Q' I q => q s H C cl fp pins s' I⟩)
    (fun s H C cl fp => ⟨fun pins s' σ' H' Q' I q => q s H C cl fp pins s' I⟩) hs) (h B F H σ τ Q C k)
/-- one turn -/
theorem lc_turn {B : Bs} {F H : Hp} {σ : L2.St} {τ : List (V × D)} {Dl : Addr} {ρ' : Rho} {acc : List D} {v : V} {I' : Rho → List D → Prop} {Nx : Hp → Prop}
    (C : Cov X.K B F H (wipe σ (own.map (·.2))) ρ' (τ ++ [(.ref Dl, .ml acc)])) (hv : Rep X.K F v x) (hz : acc.length < sizeLine) (fa : isFrs acc = true)
    (ht : ∃ ρ2 bb ρ3, Blk X scope (fun Y => DG Y ρ' tg x ρ2) ∧ Blk X scope (fun Y => DI Y ρ2 ifs bb ρ3) ∧ (∀ (σ : L2.St) B F H τ v Q, Cov X.K B F H (wipe σ (own.map (·.2))) ρ' (τ ++ [(v, x)]) → (∀ F' H' σ', Cov X.K B F' H' σ' ρ2 τ → wipe σ' (own.map (·.2)) = wipe σ (own.map (·.2)) → Q σ' H') → bG X scope tg v (wipe σ (own.map (·.2))) H Q) ∧
      (bb = true → ∃ y ρ4 ρ5, Blk X scope (fun Y => DX Y ρ3 elt y ρ4) ∧ isFr y = true ∧ Wp ρ4 (own.map (·.2)) ρ5 ∧ I' ρ5 (acc ++ [y])) ∧ (bb = false → ∃ ρ5, Wp ρ3 (own.map (·.2)) ρ5 ∧ I' ρ5 acc))
    (hN : ∀ F H ρ' acc, Cov X.K B F H (wipe σ (own.map (·.2))) ρ' (τ ++ [(.ref Dl, .ml acc)]) → I' ρ' acc → isFrs acc = true → Nx H) :
    bG X scope tg v (wipe σ (own.map (·.2))) H fun σ2 H2 => wipe σ2 (own.map (·.2)) = wipe σ (own.map (·.2)) ∧ bI X scope ifs σ2 H2 fun b H3 =>
      if b = true then bE X scope elt σ2 H3 fun y H4 => ∃ acc, H4 Dl = some (.lst acc) ∧ acc.length < sizeLine ∧ Nx (upd H4 Dl (.lst (acc ++ [y]))) else Nx H3 := by
  obtain ⟨ρ2, bb, ρ3, hg, hi, hw, h1, h2⟩ := ht
  refine hw σ B F H (τ ++ [(.ref Dl, .ml acc)]) v _ (C.push hv) fun F1 H1 σ1 C1 ew => ⟨ew, fun s H0 Ca cl fp => hi s H0 Ca cl fp B F1 H1 σ1 _ _ C1 fun F2 H2 C2 => ?_⟩
  cases bb with
  | false =>
    obtain ⟨ρ5, w, q⟩ := h2 rfl
    exact iteF (hN F2 H2 ρ5 acc (C2.unwipe w ew) q fa)
  | true =>
    obtain ⟨y, ρ4, ρ5, he, fy, w, q⟩ := h1 rfl
    refine iteT (fun s H0 Ca cl fp => he s H0 Ca cl fp B F2 H2 σ1 _ _ C2 fun u F3 H3 C3 => ?_)
    have ry := C3.rep fy
    obtain ⟨xs, n1, n2, n3, n4⟩ := C3.pop.mutT (k := τ.length) (p := Dl) (sh := .lst) (ds := acc) (by simp)
    refine ⟨xs, n1, by rw [n2]; exact hz, ?_⟩
    have C4 := n4 (.lst (xs ++ [u])) .lst (xs ++ [u]) (acc ++ [y]) rfl upd_same (by simp [n2]) (fun j x e a b => by
      rcases snoc_get a with ⟨hj, a⟩ | ⟨hj, rfl⟩
      · rw [List.getElem?_append_left (by omega)] at b
        exact n3 j x e a b (isFrs_get fa b)
      · rw [List.getElem?_append_right (by omega)] at b
        have e0 : j - acc.length = 0 := by omega
        rw [e0] at b
        simp at b
        subst b
        exact ry)
    have e1 : (τ ++ [(V.ref Dl, D.ml acc)]).set τ.length (.ref Dl, .ml (acc ++ [y])) = τ ++ [(.ref Dl, .ml (acc ++ [y]))] := by simp
    rw [e1] at C4
    refine hN F3 _ ρ5 (acc ++ [y]) (C4.unwipe w ew) q ?_
    have : ∀ {l : List D}, isFrs l = true → isFrs (l ++ [y]) = true := by
      intro l
      induction l with
      | nil => intro _; simp [isFrs, fy]
      | cons w r ih => intro h; simp only [isFrs, Bool.and_eq_true] at h; simp [isFrs, h.1, ih h.2]
    exact this fa
/-- a name as the one target -/
theorem lc_name {x' : Str} {nn : Nat} (G : Gx X kk) (hown : own = [(x', nn)]) (g : St ρ nn (.v x) ρ2) (hN : X.N[nn]? = some x') (hl : scope.names.lookup x' = some .local) :
    Blk X scope (fun Y => DG Y ρ (.Name x' p1) x ρ2) ∧ (∀ (σ : L2.St) B F H τ v Q, Cov X.K B F H (wipe σ (own.map (·.2))) ρ (τ ++ [(v, x)]) → (∀ F' H' σ', Cov X.K B F' H' σ' ρ2 τ → wipe σ' (own.map (·.2)) = wipe σ (own.map (·.2)) → Q σ' H') → bG X scope (.Name x' p1) v (wipe σ (own.map (·.2))) H Q) := by
  have pg : ∀ (s : Shared) (H : Hp) (C : Addr) (cl : List (Str × Addr)) (fp : List Addr), PG (X.blk s H scope (compEnvC scope cl C X.env) fp) (.Name x' p1) (gName nn) := fun s H C cl fp =>
    pg_name G.nd hN (.inl (lookup_relabel_local (env := X.env) hl)) (.inr (lookup_relabel_local (env := X.env) hl))
  refine ⟨fun s H C cl fp B F H' σ τ v Q Cv k => sG_of (pg s H C cl fp) (k F H' _ (Cv.assign g)), fun σ B F H τ v Q Cv k s H0 C cl fp => sG_of (pg s H0 C cl fp) (k F H _ (Cv.assign g) ?_)⟩
  subst hown
  show ((wipe σ [nn]).set nn (some v)).set nn none = σ.set nn none
  show ((σ.set nn none).set nn (some v)).set nn none = σ.set nn none
  simp
/-- over range(n) -/
theorem dx_lcR1 {a : Expr} {x' : Str} {nn : Nat} (G : Gx X kk) (hown : own = [(x', nn)]) (hm : X.mg "range" = none) (ha : DA X ρ [a] [.int i] ρ1) (hn : 0 ≤ i ∧ i < 1000000) (hw : Wp ρ1 [nn] ρw) (I : Nat → Rho → List D → Prop) (h0 : I 0 ρw [])
    (hs : ∀ (t : Nat) ρ' acc, (t : Int) < i → I t ρ' acc → acc.length ≤ t ∧ ∃ ρ2 bb ρ3, St ρ' nn (.v (.int t)) ρ2 ∧ Blk X scope (fun Y => DI Y ρ2 ifs bb ρ3) ∧
      (bb = true → ∃ y ρ4 ρ5, Blk X scope (fun Y => DX Y ρ3 elt y ρ4) ∧ isFr y = true ∧ Wp ρ4 [nn] ρ5 ∧ I (t + 1) ρ5 (acc ++ [y])) ∧ (bb = false → ∃ ρ5, Wp ρ3 [nn] ρ5 ∧ I (t + 1) ρ5 acc))
    (hd : ∀ ρ' acc, I i.toNat ρ' acc → ρ' = ρ2 ∧ acc = ds') (hN : X.N[nn]? = some x' := by rfl) (hb : blkC X.N X.env.scope scope own = true := by rfl) (hl : scope.names.lookup x' = some .local := by rfl)
    (hg : Gl X "range" := by rfl) (hst : starEach [a] X.env = [(false, eval a X.env)] := by rfl) (hfs : ∀ x, foldedSetIterable (.Call (.Name "range" p1) [a] [] p2) X.env x = pure x := by intro _; rfl) :
    DX X ρ (.ListComp elt [⟨.Name x' p, .Call (.Name "range" p1) [a] [] p2, ifs, 0⟩] scope pos) (.ml ds') ρ2 := by
  subst hown
  refine dx_lc (te := tC .non) G (pi_range1 hg hm paS hst) hb hfs fun B F H σ τ Q C k => ?_
  refine ha B F H σ τ _ C fun vs F1 H1 C1 r => ?_
  obtain ⟨v, rfl, hv⟩ := r.one
  rw [rep_int hv]
  refine ⟨i, rfl, by omega, by omega, fun Dl hD => ?_⟩
  have C2 := (C1.alloc (o := .lst []) (sh := .lst) (xs := []) (ds := []) hD rfl upd_same rfl (fun j x d h => by simp at h)).wipe (ns := [nn]) hw
  refine lc_range (lo := 0) (n := i.toNat) (fun t H => ∃ F ρ' acc, Cov X.K B F H (wipe σ [nn]) ρ' (τ ++ [(.ref Dl, .ml acc)]) ∧ I t ρ' acc ∧ isFrs acc = true) ⟨F1, ρw, [], C2, h0, rfl⟩ ?_ ?_
  · rintro t H ht ⟨F2, ρ', acc, C3, w, fa⟩
    obtain ⟨hz, ρ2, bb, ρ3, g, hi, h1, h2⟩ := hs t ρ' acc (by omega) w
    have e0 : (0 : Int) + (t : Int) = (t : Int) := by omega
    rw [e0]
    obtain ⟨q1, q2⟩ := lc_name (p1 := p) (scope := scope) (own := [(x', nn)]) G rfl g hN hl
    exact lc_turn (own := [(x', nn)]) (tg := .Name x' p) (ifs := ifs) (elt := elt) (I' := I (t + 1)) C3 (.int _) (Nat.lt_of_le_of_lt hz (Nat.lt_of_lt_of_le (by omega : t < 1000000) (by decide))) fa ⟨ρ2, bb, ρ3, q1, hi, q2, h1, h2⟩ fun F H ρ' acc C q fa => ⟨F, ρ', acc, C, q, fa⟩
  · rintro H ⟨F2, ρ', acc, C3, w, fa⟩
    obtain ⟨rfl, rfl⟩ := hd ρ' acc w
    exact k _ F2 H C3.back
/-- over a frozen list -/
theorem dx_lcL {x' : Str} {nn : Nat} (G : Gx X kk) (hown : own = [(x', nn)]) (he : DX X ρ iter (.lst ds) ρ1) (hz : ds.length < 1000000) (hw : Wp ρ1 [nn] ρw) (I : Nat → Rho → List D → Prop) (h0 : I 0 ρw [])
    (hs : ∀ (t : Nat) x ρ' acc, ds[t]? = some x → I t ρ' acc → acc.length ≤ t ∧ ∃ ρ2 bb ρ3, St ρ' nn (.v x) ρ2 ∧ Blk X scope (fun Y => DI Y ρ2 ifs bb ρ3) ∧
      (bb = true → ∃ y ρ4 ρ5, Blk X scope (fun Y => DX Y ρ3 elt y ρ4) ∧ isFr y = true ∧ Wp ρ4 [nn] ρ5 ∧ I (t + 1) ρ5 (acc ++ [y])) ∧ (bb = false → ∃ ρ5, Wp ρ3 [nn] ρ5 ∧ I (t + 1) ρ5 acc))
    (hd : ∀ ρ' acc, I ds.length ρ' acc → ρ' = ρ2 ∧ acc = ds') (f : isFrs ds = true := by rfl) (hN : X.N[nn]? = some x' := by rfl) (hb : blkC X.N X.env.scope scope own = true := by rfl) (hl : scope.names.lookup x' = some .local := by rfl)
    (hfs : ∀ x, foldedSetIterable iter X.env x = pure x := by intro _; rfl) :
    DX X ρ (.ListComp elt [⟨.Name x' p, iter, ifs, 0⟩] scope pos) (.ml ds') ρ2 := by
  subst hown
  refine dx_lc (te := tC .non) G (pi_list peS) hb hfs fun B F H σ τ Q C k => ?_
  refine he B F H σ τ _ C fun v F1 H1 C1 => ?_
  have fr : isFr (.lst ds) = true := by simp [isFr, f]
  obtain ⟨q, xs, rfl, hp, r⟩ := rep_lst (C1.rep fr)
  refine ⟨q, rfl, ⟨xs, .inl (.inl (C1.fh _ _ hp))⟩, fun Dl hD => ?_⟩
  have C2 := ((C1.pop.alloc (o := .lst []) (sh := .lst) (xs := []) (ds := []) hD rfl upd_same rfl (fun j x d h => by simp at h)).wipe (ns := [nn]) hw).base
  refine lc_list (xs := xs) (fun t H => ∃ F ρ' acc, Cov X.K (B.at F1) F H (wipe σ [nn]) ρ' (τ ++ [(.ref Dl, .ml acc)]) ∧ I t ρ' acc ∧ isFrs acc = true) ⟨F1, ρw, [], C2, h0, rfl⟩ (fun t H _ ⟨F2, ρ', acc, C3, w, fa⟩ => .inl (.inl (C3.fh _ _ (C3.f0 _ _ hp)))) ?_ ?_
  · rintro t x H hx ⟨F2, ρ', acc, C3, w, fa⟩
    have ht := (List.getElem?_eq_some_iff.mp hx).1
    obtain ⟨y, hy⟩ : ∃ y, ds[t]? = some y := ⟨_, List.getElem?_eq_some_iff.mpr ⟨by rw [← r.1]; exact ht, rfl⟩⟩
    obtain ⟨hz', ρ2, bb, ρ3, g, hi, h1, h2⟩ := hs t y ρ' acc hy w
    obtain ⟨q1, q2⟩ := lc_name (p1 := p) (scope := scope) (own := [(x', nn)]) G rfl g hN hl
    exact lc_turn (own := [(x', nn)]) (tg := .Name x' p) (ifs := ifs) (elt := elt) (I' := I (t + 1)) C3 ((r.2 t x y hx hy).mono C3.f0) (Nat.lt_of_le_of_lt hz' (Nat.lt_of_lt_of_le (by rw [r.1] at ht; omega : t < 1000000) (by decide))) fa ⟨ρ2, bb, ρ3, q1, hi, q2, h1, h2⟩ fun F H ρ' acc C q fa => ⟨F, ρ', acc, C, q, fa⟩
  · rintro H ⟨F2, ρ', acc, C3, w, fa⟩
    obtain ⟨rfl, rfl⟩ := hd ρ' acc (by rw [← r.1]; exact w)
    exact k _ F2 H (C3.unbase C1.f0).back
end

/-! ### the law's end -/
abbrev lawPhi (n : Nat) (pre : List Int → Prop) : Phi := Fx (α := List Int) (fun ns => [.nd false .sq (ns.map D.int)]) (fun ns => ns.length ≤ n ∧ pre ns) (fun _ => .bl true) (fun ns => [.nd false .sq (ns.map D.int)])
theorem rep_script {K : PySem.W.Frag} {H : Hp} {a : Addr} {ns : List Int} (h : SqL K H a (ns.map V.int)) : Rep K H (.ref a) (.nd false .sq (ns.map D.int)) := by
  refine .nd h (by simp) fun j x d h1 h2 => ?_
  rw [List.getElem?_map] at h1 h2
  cases q : ns[j]? with
  | none => rw [q] at h1; cases h1
  | some i => rw [q] at h1 h2; cases h1; cases h2; exact .int i
theorem law_sp {K : PySem.W.Frag} {H : Hp} {a : Addr} {n : Nat} {ns : List Int} {pre : List Int → Prop} {E : XK} (hl : ns.length ≤ n) (hp : pre ns) (h : SqL K H a (ns.map V.int)) : spD K (lawPhi n pre) [.ref a] H (fun v _ => v = .bl true) E := by
  refine ⟨H, [.nd false .sq (ns.map D.int)], fun _ => none, Ex.refl H, rfl, fun a q => absurd rfl q, fun i v d h1 h2 => ?_, ns, rfl, ⟨hl, hp⟩, fun v F' H' lab' P => ?_⟩
  · cases i with
    | zero => simp at h1 h2; subst h1 h2; exact .fr (rep_script h)
    | succ i => simp at h1
  · exact rep_bl (P.res.rep rfl)
end DL
namespace DL
open PySem L2 Evl
/-! ### short forms -/
/-- the name x stands in slot n -/
structure Nm (X : Cx) (n : Nat) (x : Str) : Prop where
  at_ : X.N[n]? = some x
  vis : Vis X.env.scope x
  nd : (x == ("__debug__" : Str)) = false
  nc : (x == ("__classdict__" : Str)) = false
/-- .. and may be stored -/
structure Nl (X : Cx) (n : Nat) (x : Str) : Prop extends Nm X n x where
  loc : Loc X.env.scope x
  fn : X.fn x = true ∨ X.env.scope.names.lookup x = some .local
/-- a global name -/
structure Gn (X : Cx) (x : Str) : Prop where
  gl : Gl X x
  nd : (x == ("__debug__" : Str)) = false
def Sl.d : Sl → Option D
  | .no => none
  | .v d => some d
  | .p d => some d
def gtF (ρ : Rho) (n : Nat) : Option D := (ρ[n]?).bind Sl.d
theorem gt_of {ρ : Rho} {n : Nat} {d : D} (h : gtF ρ n = some d) : Gt ρ n d := by
  induction ρ generalizing n with
  | nil => simp [gtF] at h
  | cons a r ih =>
    cases n with
    | zero =>
      cases a with
      | no => simp [gtF, Sl.d] at h
      | v e => simp [gtF, Sl.d] at h; subst h; exact .v
      | p e => simp [gtF, Sl.d] at h; subst h; exact .p
    | succ n => exact .s (ih (by simpa [gtF] using h))
/-- a slot set; an object in a slot changed -/
def stF : Rho → Nat → Sl → Rho
  | [], _, _ => []
  | _ :: r, 0, s => s :: r
  | a :: r, n + 1, s => a :: stF r n s
theorem st_of {ρ : Rho} {n : Nat} {s : Sl} (h : n < ρ.length) : St ρ n s (stF ρ n s) := by
  induction ρ generalizing n with
  | nil => simp at h
  | cons a r ih =>
    cases n with
    | zero => exact .z
    | succ n => exact .s (ih (by simpa using h))
section
variable {X : Cx} {ρ ρ1 ρ2 ρ3 : Rho} {e a b c : Expr} {es : List Expr} {st : Stmt} {sts body orelse : List Stmt} {d d1 d2 x y z : D} {ds : List D} {k : DK} {i j : Int} {n m : Nat} {pos p1 p2 p : Pos} {kk : Nat} {s : Str}
theorem vx (n : Nat) {x : Str} (N : Nm X n x) (g : gtF ρ n = some d) (f : isFr d = true) : DX X ρ (.Name x pos) d ρ := dx_var n (gt_of g) f N.at_ N.vis N.nd N.nc
theorem vmov (n : Nat) {x : Str} (N : Nm X n x) (g : ρ[n]? = some (.v d)) (g' : St ρ n .no ρ1) : DX X ρ (.Name x pos) d ρ1 := dx_mov n g g' N.at_ N.vis N.nd N.nc
theorem vfrz (n : Nat) {x : Str} (N : Nm X n x) (g : ρ[n]? = some (.v d)) (g' : St ρ n (.v (frz d)) ρ1) (nh : noHol d = true) : DX X ρ (.Name x pos) (frz d) ρ1 := dx_fvar n g g' nh N.at_ N.vis N.nd N.nc
theorem set_ (G : Gx X kk) (n : Nat) {x : Str} (N : Nl X n x) (he : DX X ρ e d ρ1) (g : St ρ1 n (.v d) ρ2) (h : k.nx ρ2) (hs : swapsWith e (some (.Name x p1)) pos.line X.env = pure false) : D1 X ρ (.Assign [.Name x p1] e pos) k :=
  d1_set G n he g h N.at_ N.loc hs N.fn
theorem gname (G : Gx X kk) (n : Nat) {x : Str} (N : Nl X n x) (g : St ρ n (.v d) ρ1) : DG X ρ (.Name x p1) d ρ1 := dg_name G n g N.at_ N.loc N.fn
end

/-! ### callees -/
structure Cal (P : Program) (w : World) (K : PySem.W.Frag) (mg : Str → Option Value) (base : Heap) (kf : Nat) (x : Str) (Φ : Phi) : Prop where
  ex : ∃ (f : Addr) (fd : FuncData) (ps : List Str), FnOk P w K mg base CX0 kf f fd ps (spD K Φ) ∧ mg x = some (.ref f) ∧ PySem.W.keepIn K (.ref f) = true ∧ Binds K fd ps []
section
variable {X : Cx} {ρ ρ1 ρ2 ρ3 : Rho} {e : Expr} {es : List Expr} {d : D} {pos p : Pos} {kk kf : Nat} {as : List Ag} {x : Str} {α : Type} {enc : α → List D} {pre : α → Prop} {res : α → D} {out : α → List D}
theorem call_ (G : Gx X kk) (Cd : Cal X.prog X.w X.K X.mg X.base kf x (Fx enc pre res out)) (hk : kf ≤ kk) (N : Gn X x) (al : α) (ha : DL X ρ (e :: es) as ρ1) (he : as.map Ag.d = enc al) (hp : pre al) (hu : Ups ρ1 as (out al) ρ2) (hL : Lends ρ1 as) (hn : lentOk as = true := by rfl)
    (hst : starEach (e :: es) X.env = (false, eval e X.env) :: starEach es X.env := by rfl) (hpl : (backTo pos (starEach es X.env)).any (·.1) = false := by rfl) : DX X ρ (.Call (.Name x p) (e :: es) [] pos) (res al) ρ2 := by
  obtain ⟨f, fd, ps, F, m, kp, b⟩ := Cd.ex
  exact dx_call G F hk m kp b al ha he hp hu hL hn N.gl N.nd hst hpl
theorem call0 (G : Gx X kk) (Cd : Cal X.prog X.w X.K X.mg X.base kf x (Fx enc pre res out)) (hk : kf ≤ kk) (N : Gn X x) (al : α) (he : enc al = []) (ho : out al = []) (hp : pre al) : DX X ρ (.Call (.Name x p) [] [] pos) (res al) ρ := by
  obtain ⟨f, fd, ps, F, m, kp, b⟩ := Cd.ex
  exact dx_call0 G F hk m kp b al he ho hp N.gl N.nd
end
/-- a def of the top -/
structure Top (K : PySem.W.Frag) (mg : Str → Option Value) (x : Str) (st : Stmt) (ps : List Str) : Prop where
  ex : ∃ (f : Addr) (fd : FuncData), Fun K x x st f fd ∧ mg x = some (.ref f) ∧ Binds K fd ps []
theorem top_mk {K : PySem.W.Frag} {h : Heap} {mg : Str → Option Value} {x : Str} {st : Stmt} {ps : List Str} {f : Addr} {oc : Value} {od an : Option Addr} {osl : Array (Option Value)} {kV dc pm cd ct : Value} (X : K.In h) (G : h.Ns mainGlobals mg)
    (a : PySem.W.nsIn K mainGlobals x = some (some (.ref f))) (l : K.lookup f = some ⟨oc, od, .func (PySem.W.fnOf x x (defArgs st) (defBody st) (defScope st) .none kV dc pm an cd ct), osl⟩) (c : PySem.W.codeIn K cd x = true) (k : PySem.W.keepIn K (.ref f) = true)
    (hb : ∀ (kV doc pm : Value) (an : Option Addr) (cdv ct : Value) (us : List Value), us.length = ps.length → bindArgs (PySem.W.fnOf x x (defArgs st) (defBody st) (defScope st) .none kV doc pm an cdv ct) ⟨us, []⟩ = pure (ps.zip us)) : Top K mg x st ps :=
  have F := fun_mk (st := st) l c k
  ⟨f, _, F, PySem.W.mg_of X G a, F.binds hb⟩
/-- THE RULE for a def of the top -/
theorem Top.cal {P : Program} {w : World} {K : PySem.W.Frag} {mg : Str → Option Value} {base : Heap} {x : Str} {st : Stmt} {N ps : List Str} {k : Nat} {Φ : Phi} (T : Top K mg x st ps) (S : FnScope N ps (defScope st)) (ms : List Bool) (hml : ms.length = ps.length) (hpn : ps.length ≤ N.length)
    (hΦ : ∀ ds kk, Φ ds kk → ds.length = ps.length ∧ ∀ (i : Nat) d, ms[i]? = some false → ds[i]? = some d → isFr d = true)
    (h : ∀ (f : Addr) (cdv : Value) (A : Around) (outer : List Env) (s : Shared) (H : Hp) (E : XK), Gx (cxOf CX0 P w K mg base N x (defScope st) f cdv A outer s H E).nox k → ∀ ds kk, Φ ds kk →
      DS (cxOf CX0 P w K mg base N x (defScope st) f cdv A outer s H E).nox (ent ms ds N.length) (defBody st) (kfn ms ds kk)) : Cal P w K mg base (k + 1) x Φ := by
  obtain ⟨f, fd, F, m, b⟩ := T.ex
  exact ⟨f, fd, ps, fnD F S ms hml hpn hΦ (h f), m, F.kp, b⟩
/-- the law -/
theorem Top.law {l : PySem.W.OpenLaw} {q : Program} {loose : List Str} {XP : (Str → Option Value) → Heap → Prop} {YP : World → Heap → Prop} {d : DefRec} {K : Params → PySem.W.Frag} {n kf : Nat} {st : Stmt} {x : Str} (hn : l.most = some n) (hn2 : n ≤ 1000) (hdf : d.params.defaults = []) (hr : Room kf callerA)
    (hY : ∀ (w : World) (h : Heap), YP w h → (K w.params).In h)
    (F : ∀ (w : World) (mg : Str → Option Value) (fa : Addr) (h : Heap), (K w.params).In h → h.Ns mainGlobals mg → mg d.name = some (.ref fa) →
      ∃ fd : FuncData, (∀ (s : Shared) (u : Value), BindsTo s fd ⟨[u], []⟩ [(x, u)]) ∧ ∀ base : Heap, (K w.params).In base → base.Ns mainGlobals mg → FnOk l.prog w (K w.params) mg base CX0 kf fa fd [x] (spD (K w.params) (lawPhi n fun _ => True))) :
    PySem.W.WalkO q loose XP YP l.row.toRowW d [] (fun f vs => PySem.call f vs) :=
  L2.walk_of (n := n) (k := kf) (x := x) (CX := fun _ => CX0) (sp := fun w => spD (K w.params) (lawPhi n fun _ => True)) hn (Nat.le_trans hn2 (by decide)) hdf hr hY F (fun w H a ns hl _ hS => law_sp hl trivial hS) fun _ _ _ _ _ z => z
/-- the law's def, from its body -/
theorem law_mk {P : Program} {w : World} {K : PySem.W.Frag} {h : Heap} {mg : Str → Option Value} {x : Str} {fa f : Addr} {st : Stmt} {ps : List Str} {oc : Value} {od an : Option Addr} {osl : Array (Option Value)} {kV dc pm cd ct : Value} (X : K.In h) (G : h.Ns mainGlobals mg) (hfa : mg x = some (.ref fa))
    (a : PySem.W.nsIn K mainGlobals x = some (some (.ref f))) (l : K.lookup f = some ⟨oc, od, .func (PySem.W.fnOf x x (defArgs st) (defBody st) (defScope st) .none kV dc pm an cd ct), osl⟩) (c : PySem.W.codeIn K cd x = true) (k : PySem.W.keepIn K (.ref f) = true)
    (hb : ∀ (s : Shared) (v : Value), BindsTo s (PySem.W.fnOf x x (defArgs st) (defBody st) (defScope st) .none kV dc pm an cd ct) ⟨[v], []⟩ (ps.zip [v])) {kf : Nat} {Φ : Phi}
    (hF : ∀ (fd : FuncData), Fun K x x st fa fd → ∀ base : Heap, K.In base → base.Ns mainGlobals mg → FnOk P w K mg base CX0 kf fa fd ps (spD K Φ)) :
    ∃ fd : FuncData, (∀ (s : Shared) (v : Value), BindsTo s fd ⟨[v], []⟩ (ps.zip [v])) ∧ ∀ base : Heap, K.In base → base.Ns mainGlobals mg → FnOk P w K mg base CX0 kf fa fd ps (spD K Φ) := by
  have e := hfa.symm.trans (PySem.W.mg_of X G a)
  cases e
  exact ⟨_, hb, hF _ (fun_mk (st := st) l c k)⟩
end DL
namespace DL
open PySem L2 Evl
section
variable {X : Cx} {ρ ρ1 ρ2 ρ3 ρw : Rho} {e a b c elt iter : Expr} {es ifs : List Expr} {d x y : D} {ds : List D} {k : DK} {i j : Int} {n m : Nat} {pos p1 p2 p : Pos} {kk : Nat} {s : Str} {scope : Scope} {own : List (Str × Nat)}
theorem stF_len : ∀ (ρ : Rho) (n : Nat) (s : Sl), (stF ρ n s).length = ρ.length
  | [], _, _ => rfl
  | _ :: _, 0, _ => rfl
  | _ :: r, n + 1, s => congrArg (· + 1) (stF_len r n s)
theorem stF_two : ∀ (ρ : Rho) (n : Nat) (s t : Sl), stF (stF ρ n s) n t = stF ρ n t
  | [], _, _, _ => rfl
  | _ :: _, 0, _, _ => rfl
  | a :: r, n + 1, s, t => congrArg (a :: ·) (stF_two r n s t)
theorem wp1 {nn : Nat} (h : nn < ρ.length) : Wp ρ [nn] (stF ρ nn .no) := .cons (st_of h) .nil
theorem wp1' {nn : Nat} {s : Sl} (h : nn < ρ.length) : Wp (stF ρ nn s) [nn] (stF ρ nn .no) := by
  have := wp1 (ρ := stF ρ nn s) (nn := nn) (by rw [stF_len]; exact h)
  rw [stF_two] at this
  exact this
theorem st_stF {nn : Nat} {s t : Sl} (h : nn < ρ.length) : St (stF ρ nn s) nn t (stF ρ nn t) := by
  have := st_of (ρ := stF ρ nn s) (n := nn) (s := t) (by rw [stF_len]; exact h)
  rw [stF_two] at this
  exact this
theorem di_nil_blk : Blk X scope (fun Y => DI Y ρ [] true ρ) := fun _ _ _ _ _ => di_nil
/-- [f(k) for k in range(i)], nothing else changed -/
theorem dx_lcRF {a : Expr} {x' : Str} (nn : Nat) (f : Nat → D) (G : Gx X kk) (hown : own = [(x', nn)]) (hm : X.mg "range" = none) (ha : DA X ρ [a] [.int i] ρ1) (hn : 0 ≤ i ∧ i < 1000000) (hlt : nn < ρ1.length)
    (hs : ∀ t : Nat, (t : Int) < i → Blk X scope (fun Y => DX Y (stF ρ1 nn (.v (.int t))) elt (f t) (stF ρ1 nn (.v (.int t)))) ∧ isFr (f t) = true) (hN : X.N[nn]? = some x' := by rfl) (hb : blkC X.N X.env.scope scope own = true := by rfl) (hl : scope.names.lookup x' = some .local := by rfl)
    (hg : Gl X "range" := by rfl) (hst : starEach [a] X.env = [(false, eval a X.env)] := by rfl) (hfs : ∀ x, foldedSetIterable (.Call (.Name "range" p1) [a] [] p2) X.env x = pure x := by intro _; rfl) :
    DX X ρ (.ListComp elt [⟨.Name x' p, .Call (.Name "range" p1) [a] [] p2, [], 0⟩] scope pos) (.ml ((List.range i.toNat).map f)) (stF ρ1 nn .no) := by
  refine dx_lcR1 (nn := nn) G hown hm ha hn (wp1 hlt) (fun t ρ' acc => ρ' = stF ρ1 nn .no ∧ acc = (List.range t).map f) ⟨rfl, rfl⟩ (fun t ρ' acc ht q => ?_) (fun ρ' acc q => q) hN hb hl hg hst hfs
  obtain ⟨rfl, rfl⟩ := q
  obtain ⟨h1, h2⟩ := hs t ht
  refine ⟨by simp, _, true, _, st_stF hlt, di_nil_blk, fun _ => ⟨f t, _, _, h1, h2, wp1' hlt, rfl, ?_⟩, fun h => by cases h⟩
  rw [List.range_succ, List.map_append]
  rfl
/-- [f(x) for x in a frozen list], nothing else changed -/
theorem dx_lcLF {x' : Str} (nn : Nat) (f : D → D) (G : Gx X kk) (hown : own = [(x', nn)]) (he : DX X ρ iter (.lst ds) ρ1) (hz : ds.length < 1000000) (hlt : nn < ρ1.length)
    (hs : ∀ (t : Nat) x, ds[t]? = some x → Blk X scope (fun Y => DX Y (stF ρ1 nn (.v x)) elt (f x) (stF ρ1 nn (.v x))) ∧ isFr (f x) = true) (fr : isFrs ds = true := by rfl) (hN : X.N[nn]? = some x' := by rfl) (hb : blkC X.N X.env.scope scope own = true := by rfl) (hl : scope.names.lookup x' = some .local := by rfl)
    (hfs : ∀ x, foldedSetIterable iter X.env x = pure x := by intro _; rfl) :
    DX X ρ (.ListComp elt [⟨.Name x' p, iter, [], 0⟩] scope pos) (.ml (ds.map f)) (stF ρ1 nn .no) := by
  refine dx_lcL (nn := nn) G hown he hz (wp1 hlt) (fun t ρ' acc => ρ' = stF ρ1 nn .no ∧ acc = (ds.take t).map f) ⟨rfl, by simp⟩ (fun t x ρ' acc hx q => ?_) (fun ρ' acc q => by obtain ⟨q1, q2⟩ := q; exact ⟨q1, by rw [q2, List.take_length]⟩) fr hN hb hl hfs
  obtain ⟨rfl, rfl⟩ := q
  obtain ⟨h1, h2⟩ := hs t x hx
  have ht := (List.getElem?_eq_some_iff.mp hx).1
  refine ⟨by simp; omega, _, true, _, st_stF hlt, di_nil_blk, fun _ => ⟨f x, _, _, h1, h2, wp1' hlt, rfl, ?_⟩, fun h => by cases h⟩
  rw [List.take_add_one, hx]
  simp
/-- frozen lists stay -/
theorem frz_fr : ∀ {d : D}, isFr d = true → frz d = d
  | .non, _ | .bl _, _ | .int _, _ | .str _, _ | .adr _, _ | .ty _, _ | .hol _, _ => rfl
  | .nd m sh ds, h => by
    simp only [isFr, Bool.and_eq_true] at h
    have hm : m = false := by simpa using h.1
    subst hm
    simp only [frz, D.nd.injEq, true_and]
    exact frzs_fr h.2
where
  frzs_fr : ∀ {ds : List D}, isFrs ds = true → frzs ds = ds
  | [], _ => rfl
  | d :: r, h => by
    simp only [isFrs, Bool.and_eq_true] at h
    simp only [frzs, frz_fr h.1, frzs_fr h.2]
theorem isFrs_map {α : Type} {f : α → D} : ∀ (l : List α), (∀ a, isFr (f a) = true) → isFrs (l.map f) = true
  | [], _ => rfl
  | a :: r, h => by simp [isFrs, h a, isFrs_map r h]
theorem frzs_map {α : Type} {f : α → D} (l : List α) (h : ∀ a, isFr (f a) = true) : frzs (l.map f) = l.map f := frz_fr.frzs_fr (isFrs_map l h)
end
end DL
namespace DL
open PySem L2 Evl
/-! ### == as a plain question -/
mutual
theorem eqv_refl : ∀ {d : D}, pyOk d = true → PyData.eqv (toPy d) (toPy d) = true
  | .non, _ => by simp [toPy, PyData.eqv]
  | .bl b, _ => by simp [toPy, PyData.eqv]
  | .int i, _ => by simp [toPy, PyData.eqv]
  | .str s, _ => by simp [toPy, PyData.eqv]
  | .nd m .tup ds, h => by simp only [pyOk, Bool.and_eq_true] at h; simp [toPy, PyData.eqv, eqvs_refl h.2]
  | .nd m .lst ds, h => by simp only [pyOk, Bool.and_eq_true] at h; simp [toPy, PyData.eqv, eqvs_refl h.2]
  | .nd m .sq ds, h => by simp only [pyOk, Bool.and_eq_true] at h; simp [toPy, PyData.eqv, eqvs_refl h.2]
  | .nd m (.dk _) ds, h => by simp [pyOk] at h
  | .nd m (.dt _) ds, h => by simp [pyOk] at h
  | .nd m (.ins _ _) ds, h => by simp [pyOk] at h
  | .adr _, h => by simp [pyOk] at h
  | .ty _, h => by simp [pyOk] at h
  | .hol _, h => by simp [pyOk] at h
theorem eqvs_refl : ∀ {ds : List D}, pyOks ds = true → PyData.eqvAll (toPys ds) (toPys ds) = true
  | [], _ => by simp [toPys, PyData.eqvAll]
  | d :: r, h => by simp only [pyOks, Bool.and_eq_true] at h; simp [toPys, PyData.eqvAll, eqv_refl h.1, eqvs_refl h.2]
end
/- data without truth values: == is = -/
mutual
def intD : D → Bool
  | .non => true | .int _ => true | .str _ => true
  | .nd m .tup ds => !m && intDs ds
  | .nd m .lst ds => !m && intDs ds
  | _ => false
def intDs : List D → Bool
  | [] => true
  | d :: r => intD d && intDs r
end
mutual
theorem intD_ok : ∀ {d : D}, intD d = true → pyOk d = true
  | .non, _ => rfl | .int _, _ => rfl | .str _, _ => rfl
  | .bl _, h => by simp [intD] at h
  | .nd m .tup ds, h => by simp only [intD, Bool.and_eq_true] at h; simp [pyOk, intDs_ok h.2]; simpa using h.1
  | .nd m .lst ds, h => by simp only [intD, Bool.and_eq_true] at h; simp [pyOk, intDs_ok h.2]; simpa using h.1
  | .nd m .sq ds, h => by simp [intD] at h
  | .nd m (.dk _) ds, h => by simp [intD] at h
  | .nd m (.dt _) ds, h => by simp [intD] at h
  | .nd m (.ins _ _) ds, h => by simp [intD] at h
  | .adr _, h => by simp [intD] at h
  | .ty _, h => by simp [intD] at h
  | .hol _, h => by simp [intD] at h
theorem intDs_ok : ∀ {ds : List D}, intDs ds = true → pyOks ds = true
  | [], _ => rfl
  | d :: r, h => by simp only [intDs, Bool.and_eq_true] at h; simp [pyOks, intD_ok h.1, intDs_ok h.2]
end
mutual
theorem eqv_iff : ∀ {x y : D}, intD x = true → intD y = true → PyData.eqv (toPy x) (toPy y) = true → x = y
  | .non, y, _, hy, h => by
    cases y with
    | nd m sh ds => cases sh <;> simp [intD] at hy <;> simp [toPy, PyData.eqv] at h
    | _ => first | rfl | (simp [intD] at hy; done) | (simp [toPy, PyData.eqv] at h; done)
  | .int i, y, _, hy, h => by
    cases y with
    | nd m sh ds => cases sh <;> simp [intD] at hy <;> simp [toPy, PyData.eqv] at h
    | int j => simp [toPy, PyData.eqv] at h; rw [h]
    | _ => first | (simp [intD] at hy; done) | (simp [toPy, PyData.eqv] at h; done)
  | .str i, y, _, hy, h => by
    cases y with
    | nd m sh ds => cases sh <;> simp [intD] at hy <;> simp [toPy, PyData.eqv] at h
    | str j => simp [toPy, PyData.eqv] at h; rw [h]
    | _ => first | (simp [intD] at hy; done) | (simp [toPy, PyData.eqv] at h; done)
  | .nd m .tup ds, y, hx, hy, h => by
    simp only [intD, Bool.and_eq_true] at hx
    have hm : m = false := by simpa using hx.1
    cases y with
    | nd m' sh es =>
      cases sh with
      | tup =>
        simp only [intD, Bool.and_eq_true] at hy
        have hm' : m' = false := by simpa using hy.1
        have := eqvs_iff hx.2 hy.2 (by simpa [toPy, PyData.eqv] using h)
        rw [hm, hm', this]
      | _ => first | (simp [intD] at hy; done) | (simp [toPy, PyData.eqv] at h; done)
    | _ => first | (simp [intD] at hy; done) | (simp [toPy, PyData.eqv] at h; done)
  | .nd m .lst ds, y, hx, hy, h => by
    simp only [intD, Bool.and_eq_true] at hx
    have hm : m = false := by simpa using hx.1
    cases y with
    | nd m' sh es =>
      cases sh with
      | lst =>
        simp only [intD, Bool.and_eq_true] at hy
        have hm' : m' = false := by simpa using hy.1
        have := eqvs_iff hx.2 hy.2 (by simpa [toPy, PyData.eqv] using h)
        rw [hm, hm', this]
      | _ => first | (simp [intD] at hy; done) | (simp [toPy, PyData.eqv] at h; done)
    | _ => first | (simp [intD] at hy; done) | (simp [toPy, PyData.eqv] at h; done)
  | .bl _, _, hx, _, _ => by simp [intD] at hx
  | .nd m .sq ds, _, hx, _, _ => by simp [intD] at hx
  | .nd m (.dk _) ds, _, hx, _, _ => by simp [intD] at hx
  | .nd m (.dt _) ds, _, hx, _, _ => by simp [intD] at hx
  | .nd m (.ins _ _) ds, _, hx, _, _ => by simp [intD] at hx
  | .adr _, _, hx, _, _ => by simp [intD] at hx
  | .ty _, _, hx, _, _ => by simp [intD] at hx
  | .hol _, _, hx, _, _ => by simp [intD] at hx
theorem eqvs_iff : ∀ {xs ys : List D}, intDs xs = true → intDs ys = true → PyData.eqvAll (toPys xs) (toPys ys) = true → xs = ys
  | [], [], _, _, _ => rfl
  | [], _ :: _, _, _, h => by simp [toPys, PyData.eqvAll] at h
  | _ :: _, [], _, _, h => by simp [toPys, PyData.eqvAll] at h
  | x :: xs, y :: ys, hx, hy, h => by
    simp only [intDs, Bool.and_eq_true] at hx hy
    simp [toPys, PyData.eqvAll] at h
    rw [eqv_iff hx.1 hy.1 h.1, eqvs_iff hx.2 hy.2 h.2]
end
/-- the question whether x = y, of data without truth values -/
def sameD (x y : D) : Bool := PyData.eqv (toPy x) (toPy y)
theorem sameD_iff {x y : D} (hx : intD x = true) (hy : intD y = true) : sameD x y = true ↔ x = y := ⟨eqv_iff hx hy, fun h => by subst h; exact eqv_refl (intD_ok hx)⟩
theorem sameD_self {x : D} (h : pyOk x = true) : sameD x x = true := eqv_refl h
theorem intDs_map {α : Type} {f : α → D} : ∀ (l : List α), (∀ a, a ∈ l → intD (f a) = true) → intDs (l.map f) = true
  | [], _ => rfl
  | a :: r, h => by simp [intDs, h a (by simp), intDs_map r fun a m => h a (by simp [m])]
/- may be laid: its texts are few -/
mutual
def layD : D → Bool
  | .str s => PyData.strOk s
  | .nd _ _ ds => layDs ds
  | _ => true
def layDs : List D → Bool
  | [] => true
  | d :: r => layD d && layDs r
end
mutual
def dpD : D → Nat
  | .nd _ _ ds => dpDs ds + 1
  | _ => 0
def dpDs : List D → Nat
  | [] => 0
  | d :: r => max (dpD d) (dpDs r)
end
mutual
theorem lay_ok : ∀ {d : D}, layD d = true → (toPy d).canLay0 = true
  | .non, _ => by simp [toPy, PyData.canLay0]
  | .bl b, _ => by simp [toPy, PyData.canLay0]
  | .int i, _ => by simp [toPy, PyData.canLay0]
  | .str s, h => by simpa [toPy, PyData.canLay0, layD] using h
  | .nd m .tup ds, h => by simp [toPy, PyData.canLay0, lays_ok (by simpa [layD] using h)]
  | .nd m .lst ds, h => by simp [toPy, PyData.canLay0, lays_ok (by simpa [layD] using h)]
  | .nd m .sq ds, h => by simp [toPy, PyData.canLay0, lays_ok (by simpa [layD] using h)]
  | .nd m (.dk _) ds, h => by simp [toPy, PyData.canLay0, lays_ok (by simpa [layD] using h)]
  | .nd m (.dt _) ds, h => by simp [toPy, PyData.canLay0, lays_ok (by simpa [layD] using h)]
  | .nd m (.ins _ _) ds, h => by simp [toPy, PyData.canLay0, lays_ok (by simpa [layD] using h)]
  | .adr _, h => by simp [toPy, PyData.canLay0]
  | .ty _, h => by simp [toPy, PyData.canLay0]
  | .hol _, h => by simp [toPy, PyData.canLay0]
theorem lays_ok : ∀ {ds : List D}, layDs ds = true → PyData.canLayAll0 (toPys ds) = true
  | [], _ => by simp [toPys, PyData.canLayAll0]
  | d :: r, h => by simp only [layDs, Bool.and_eq_true] at h; simp [toPys, PyData.canLayAll0, lay_ok h.1, lays_ok h.2]
end
mutual
theorem dp_ok : ∀ {d : D}, (toPy d).depth ≤ dpD d
  | .non => by simp [toPy, PyData.depth]
  | .bl b => by simp [toPy, PyData.depth]
  | .int i => by simp [toPy, PyData.depth]
  | .str s => by simp [toPy, PyData.depth]
  | .nd m .tup ds => by have := @dps_ok ds; simp [toPy, PyData.depth, dpD]; omega
  | .nd m .lst ds => by have := @dps_ok ds; simp [toPy, PyData.depth, dpD]; omega
  | .nd m .sq ds => by have := @dps_ok ds; simp [toPy, PyData.depth, dpD]; omega
  | .nd m (.dk _) ds => by have := @dps_ok ds; simp [toPy, PyData.depth, dpD]; omega
  | .nd m (.dt _) ds => by have := @dps_ok ds; simp [toPy, PyData.depth, dpD]; omega
  | .nd m (.ins _ _) ds => by have := @dps_ok ds; simp [toPy, PyData.depth, dpD]; omega
  | .adr _ => by simp [toPy, PyData.depth]
  | .ty _ => by simp [toPy, PyData.depth]
  | .hol _ => by simp [toPy, PyData.depth]
theorem dps_ok : ∀ {ds : List D}, PyData.depthAll (toPys ds) ≤ dpDs ds
  | [] => by simp [toPys, PyData.depthAll]
  | d :: r => by have := @dp_ok d; have := @dps_ok r; simp [toPys, PyData.depthAll, dpDs]; omega
end
theorem shaped_of {d : D} (h : layD d = true) (hd : dpD d ≤ 64) : SeqAt.shaped (toPy d) = true := by
  have := @dp_ok d
  unfold SeqAt.shaped
  rw [Bool.and_eq_true]
  exact ⟨lay_ok h, decide_eq_true (by omega)⟩
theorem layDs_map {α : Type} {f : α → D} : ∀ (l : List α), (∀ a, a ∈ l → layD (f a) = true) → layDs (l.map f) = true
  | [], _ => rfl
  | a :: r, h => by simp [layDs, h a (by simp), layDs_map r fun a m => h a (by simp [m])]
theorem dpDs_map {α : Type} {f : α → D} {n : Nat} : ∀ (l : List α), (∀ a, a ∈ l → dpD (f a) ≤ n) → dpDs (l.map f) ≤ n
  | [], _ => Nat.zero_le _
  | a :: r, h => by have := h a (by simp); have := dpDs_map r fun a m => h a (by simp [m]); simp [dpDs]; omega
theorem dpDs_get {n : Nat} : ∀ (l : List D), (∀ a, a ∈ l → dpD a ≤ n) → dpDs l ≤ n
  | [], _ => Nat.zero_le _
  | a :: r, h => by have := h a (by simp); have := dpDs_get r fun a m => h a (by simp [m]); simp [dpDs]; omega
section
variable {X : Cx} {ρ ρ1 ρ2 ρ3 : Rho} {e a b c : Expr} {es : List Expr} {st : Stmt} {sts body orelse : List Stmt} {d d1 d2 x y z : D} {ds : List D} {k : DK} {i j : Int} {n m : Nat} {pos p1 p2 p : Pos} {kk : Nat} {s : Str}
/-- what a == needs of its sides -/
def eqOk (d : D) : Bool := pyOk d && layD d && decide (dpD d ≤ 64)
theorem eqOk_of (h : pyOk d = true) (h2 : layD d = true) (h3 : dpD d ≤ 64) : eqOk d = true := by simp [eqOk, h, h2, h3]
theorem dx_sm (G : Gx X kk) (ha : DX X ρ a x ρ1) (hb : DX X ρ1 b y ρ2) (hx : eqOk x = true := by rfl) (hy : eqOk y = true := by rfl) : DX X ρ (.Compare a [.Eq] [b] pos) (.bl (sameD x y)) ρ2 := by
  simp only [eqOk, Bool.and_eq_true, decide_eq_true_eq] at hx hy
  exact dx_eqD G ha hb hx.1.1 hy.1.1 (shaped_of hx.1.2 hx.2) (shaped_of hy.1.2 hy.2)
theorem dx_nsm (G : Gx X kk) (ha : DX X ρ a x ρ1) (hb : DX X ρ1 b y ρ2) (hx : eqOk x = true := by rfl) (hy : eqOk y = true := by rfl) : DX X ρ (.Compare a [.NotEq] [b] pos) (.bl (!sameD x y)) ρ2 := by
  simp only [eqOk, Bool.and_eq_true, decide_eq_true_eq] at hx hy
  exact dx_neD G ha hb hx.1.1 hy.1.1 (shaped_of hx.1.2 hx.2) (shaped_of hy.1.2 hy.2)
theorem dt_sm (G : Gx X kk) (ha : DX X ρ a x ρ1) (hb : DX X ρ1 b y ρ2) (hx : eqOk x = true := by rfl) (hy : eqOk y = true := by rfl) : DT X ρ (.Compare a [.Eq] [b] pos) (sameD x y) ρ2 := by
  simp only [eqOk, Bool.and_eq_true, decide_eq_true_eq] at hx hy
  exact dt_eqD G ha hb hx.1.1 hy.1.1 (shaped_of hx.1.2 hx.2) (shaped_of hy.1.2 hy.2)
theorem dt_nsm (G : Gx X kk) (ha : DX X ρ a x ρ1) (hb : DX X ρ1 b y ρ2) (hx : eqOk x = true := by rfl) (hy : eqOk y = true := by rfl) : DT X ρ (.Compare a [.NotEq] [b] pos) (!sameD x y) ρ2 := by
  simp only [eqOk, Bool.and_eq_true, decide_eq_true_eq] at hx hy
  exact dt_neD G ha hb hx.1.1 hy.1.1 (shaped_of hx.1.2 hx.2) (shaped_of hy.1.2 hy.2)
/-- one rule for +, - of ints -/
def binD : Operator → D → D → Option D
  | .Add, .int i, .int j => some (.int (i + j))
  | .Sub, .int i, .int j => some (.int (i - j))
  | _, _, _ => none
theorem dx_bin {op} (ha : DX X ρ a x ρ1) (hb : DX X ρ1 b y ρ2) (h : binD op x y = some z) : DX X ρ (.BinOp a op b pos) z ρ2 := by
  unfold binD at h
  split at h
  · cases h; exact dx_add ha hb
  · cases h; exact dx_sub ha hb
  · cases h
/-- one rule for the comparisons of ints and of plain things -/
def eqO : D → D → Option Bool
  | .int i, .int j => some (decide (i = j))
  | .str u, .str w => some (decide (u = w))
  | x, y => if scD x y = true then some (eqD x y) else none
def cmpD : CmpOp → D → D → Option Bool
  | .Lt, .int i, .int j => some (decide (i < j))
  | .LtE, .int i, .int j => some (decide (i ≤ j))
  | .Gt, .int i, .int j => some (decide (j < i))
  | .GtE, .int i, .int j => some (decide (j ≤ i))
  | .Eq, x, y => eqO x y
  | .NotEq, x, y => (eqO x y).map not
  | _, _, _ => none
theorem eqO_ok {bb : Bool} (h : eqO x y = some bb) : scD x y = true ∧ eqD x y = bb := by
  unfold eqO at h
  split at h
  · cases h; exact ⟨rfl, rfl⟩
  · cases h; exact ⟨rfl, rfl⟩
  · split at h
    · rename_i q; cases h; exact ⟨q, rfl⟩
    · cases h
theorem dx_cmp {op} {bb : Bool} (ha : DX X ρ a x ρ1) (hb : DX X ρ1 b y ρ2) (h : cmpD op x y = some bb) : DX X ρ (.Compare a [op] [b] pos) (.bl bb) ρ2 := by
  unfold cmpD at h
  split at h
  · cases h; exact dx_lt ha hb
  · cases h; exact dx_le ha hb
  · cases h; exact dx_gt ha hb
  · cases h; exact dx_ge ha hb
  · obtain ⟨h1, rfl⟩ := eqO_ok h; exact dx_eq ha hb h1
  · cases q : eqO x y with
    | none => rw [q] at h; cases h
    | some b2 =>
      rw [q] at h; cases h
      obtain ⟨h1, rfl⟩ := eqO_ok q; exact dx_ne ha hb h1
  · cases h
theorem dt_cmp {op} {bb : Bool} (ha : DX X ρ a x ρ1) (hb : DX X ρ1 b y ρ2) (h : cmpD op x y = some bb) : DT X ρ (.Compare a [op] [b] pos) bb ρ2 := by
  unfold cmpD at h
  split at h
  · cases h; exact dt_lt ha hb
  · cases h; exact dt_le ha hb
  · cases h; exact dt_gt ha hb
  · cases h; exact dt_ge ha hb
  · obtain ⟨h1, rfl⟩ := eqO_ok h; exact dt_eq ha hb h1
  · cases q : eqO x y with
    | none => rw [q] at h; cases h
    | some b2 =>
      rw [q] at h; cases h
      obtain ⟨h1, rfl⟩ := eqO_ok q; exact dt_ne ha hb h1
  · cases h
/-- one rule for x[i] of a frozen x -/
def ixD : D → D → Option D
  | .nd false .tup ds, .int i => if isFrs ds = true then atI ds i else none
  | .nd false .lst ds, .int i => if isFrs ds = true then atI ds i else none
  | .nd false .sq ds, .int i => if isFrs ds = true then atI ds i else none
  | _, _ => none
theorem dx_ix (ha : DX X ρ a x ρ1) (hb : DX X ρ1 b y ρ2) (h : ixD x y = some d) (hs : PlainIx b := by intro _ _; rfl) : DX X ρ (.Subscript a b pos) d ρ2 := by
  unfold ixD at h
  split at h
  · split at h
    · rename_i q; exact dx_ixT ha hb h q hs
    · cases h
  · split at h
    · rename_i q; exact dx_ixL ha hb h q (hs := hs)
    · cases h
  · split at h
    · rename_i q; exact dx_ixQ ha hb h q (hs := hs)
    · cases h
  · cases h
theorem augI_ (G : Gx X kk) (n : Nat) {x : Str} (N : Nl X n x) (g0 : gtF ρ n = some (.int i)) (he : DX X ρ e (.int j) ρ1) (g : St ρ1 n (.v (.int (i + j))) ρ2) (h : k.nx ρ2) : D1 X ρ (.AugAssign (.Name x p1) .Add e pos) k := d1_augI G n (gt_of g0) he g h N.at_ N.loc N.fn
theorem augS_ (G : Gx X kk) (n : Nat) {x : Str} (N : Nl X n x) (g0 : gtF ρ n = some (.int i)) (he : DX X ρ e (.int j) ρ1) (g : St ρ1 n (.v (.int (i - j))) ρ2) (h : k.nx ρ2) : D1 X ρ (.AugAssign (.Name x p1) .Sub e pos) k := d1_augS G n (gt_of g0) he g h N.at_ N.loc N.fn
/-- a join: what holds between st and the rest -/
theorem ds_mid (M : Rho → Prop) (h : D1 X ρ st { k with nx := M }) (h2 : ∀ ρ', M ρ' → DS X ρ' sts k) : DS X ρ (st :: sts) k := ds_cons (h.imp h2 (fun _ _ q => q) (fun _ q => q) (fun _ q => q))
theorem app_ (n : Nat) {x : Str} {apos cpos : Pos} (N : Nm X n x) (g0 : gtF ρ n = some (.ml ds)) (he : DX X ρ e d ρ1) (g : gtF ρ1 n = some (.ml ds)) (u : Up ρ1 n (.ml (ds ++ [d])) ρ2) (hl : ds.length < sizeLine) (f : isFr d = true) (fs : isFrs ds = true) (h : k.nx ρ2)
    (hb : attributeBase (.Name x p1) "append" X.env (eval (.Name x p1) X.env) = eval (.Name x p1) X.env := by rfl)
    (hfew : ((backTo cpos (starEach [e] X.env)).all (fun x => !x.1) && (backToKw cpos (keywordEach [] X.env)).all (fun x => x.1.isSome)
      && decide (([e] : List Expr).length + ([] : List Keyword).length + (if ([] : List Keyword).isEmpty then 0 else 1) < 30)) = true := by rfl)
    (hline : (apos.endLine == cpos.line) = true := by rfl) (hst : starEach [e] X.env = (false, eval e X.env) :: starEach [] X.env := by rfl) (hplain : (backTo cpos (starEach [] X.env)).any (·.1) = false := by rfl)
    (hs : swapsWith (.Call (.Attribute (.Name x p1) "append" apos) [e] [] cpos) none pos.line X.env = pure false := by rfl) : D1 X ρ (.Expr (.Call (.Attribute (.Name x p1) "append" apos) [e] [] cpos) pos) k :=
  d1_app n (gt_of g0) he (gt_of g) u hl h f fs N.at_ N.vis N.nd N.nc hb hfew hline hst hplain hs
mutual
theorem fr_noHol : ∀ {d : D}, isFr d = true → noHol d = true
  | .non, _ | .bl _, _ | .int _, _ | .str _, _ | .adr _, _ | .ty _, _ => rfl
  | .hol _, h => by cases h
  | .nd m sh ds, h => by simp only [isFr, Bool.and_eq_true] at h; exact frs_noHol h.2
theorem frs_noHol : ∀ {ds : List D}, isFrs ds = true → noHols ds = true
  | [], _ => rfl
  | d :: r, h => by simp only [isFrs, Bool.and_eq_true] at h; simp [noHols, fr_noHol h.1, frs_noHol h.2]
end
theorem frz_ml {sh : Sh} {b : Bool} (f : isFrs ds = true) : frz (.nd b sh ds) = .nd false sh ds := by simp only [frz, frz_fr.frzs_fr f]
/-- a list of the function's own becomes fixed data -/
theorem vfrzL (n : Nat) {x : Str} {sh : Sh} (N : Nm X n x) (g : ρ[n]? = some (.v (.nd true sh ds))) (g' : St ρ n (.v (.nd false sh ds)) ρ1) (f : isFrs ds = true) : DX X ρ (.Name x pos) (.nd false sh ds) ρ1 := by
  have := vfrz (pos := pos) n N g (ρ1 := ρ1) (by rw [frz_ml f]; exact g') (frs_noHol f)
  rwa [frz_ml f] at this
theorem dx_frzL {sh : Sh} (h : DX X ρ e (.nd true sh ds) ρ1) (f : isFrs ds = true := by rfl) : DX X ρ e (.nd false sh ds) ρ1 := by
  have := dx_frz h (frs_noHol f)
  rwa [frz_ml f] at this
end
end DL
namespace DL
open PySem L2 Evl
/-! ### what the head tells of a def of the top, in one -/
def TopF (K : PySem.W.Frag) (x : Str) (st : Stmt) : Prop :=
  ∃ (f : Addr) (oc : Value) (od an : Option Addr) (osl : Array (Option Value)) (kV dc pm cd ct : Value), PySem.W.nsIn K mainGlobals x = some (some (.ref f)) ∧
    K.lookup f = some ⟨oc, od, .func (PySem.W.fnOf x x (defArgs st) (defBody st) (defScope st) .none kV dc pm an cd ct), osl⟩ ∧ PySem.W.codeIn K cd x = true ∧ PySem.W.keepIn K (.ref f) = true
abbrev NoF (K : PySem.W.Frag) (x : Str) : Prop := PySem.W.nsIn K mainGlobals x = some none
theorem TopF.mk {K : PySem.W.Frag} {x : Str} {st : Stmt} {f : Addr} {oc : Value} {od an : Option Addr} {osl : Array (Option Value)} {kV dc pm cd ct : Value} (a : PySem.W.nsIn K mainGlobals x = some (some (.ref f)))
    (l : K.lookup f = some ⟨oc, od, .func (PySem.W.fnOf x x (defArgs st) (defBody st) (defScope st) .none kV dc pm an cd ct), osl⟩) (c : PySem.W.codeIn K cd x = true) (k : PySem.W.keepIn K (.ref f) = true) : TopF K x st := ⟨f, oc, od, an, osl, kV, dc, pm, cd, ct, a, l, c, k⟩
theorem TopF.top {K : PySem.W.Frag} {h : Heap} {mg : Str → Option Value} {x : Str} {st : Stmt} {ps : List Str} (t : TopF K x st) (X : K.In h) (G : h.Ns mainGlobals mg)
    (hb : ∀ (kV doc pm : Value) (an : Option Addr) (cdv ct : Value) (us : List Value), us.length = ps.length → bindArgs (PySem.W.fnOf x x (defArgs st) (defBody st) (defScope st) .none kV doc pm an cdv ct) ⟨us, []⟩ = pure (ps.zip us)) : Top K mg x st ps := by
  obtain ⟨f, oc, od, an, osl, kV, dc, pm, cd, ct, a, l, c, k⟩ := t
  exact top_mk X G a l c k hb
theorem NoF.no {K : PySem.W.Frag} {h : Heap} {mg : Str → Option Value} {x : Str} (t : NoF K x) (X : K.In h) (G : h.Ns mainGlobals mg) : mg x = none := PySem.W.mg_none_of X G t
theorem TopF.law {P : Program} {w : World} {K : PySem.W.Frag} {h : Heap} {mg : Str → Option Value} {x : Str} {fa : Addr} {st : Stmt} {ps : List Str} (t : TopF K x st) (X : K.In h) (G : h.Ns mainGlobals mg) (hfa : mg x = some (.ref fa))
    (hb : ∀ (s : Shared) (v kV dc pm : Value) (an : Option Addr) (cd ct : Value), BindsTo s (PySem.W.fnOf x x (defArgs st) (defBody st) (defScope st) .none kV dc pm an cd ct) ⟨[v], []⟩ (ps.zip [v])) {kf : Nat} {Φ : Phi}
    (hF : ∀ (fd : FuncData), Fun K x x st fa fd → ∀ base : Heap, K.In base → base.Ns mainGlobals mg → FnOk P w K mg base CX0 kf fa fd ps (spD K Φ)) :
    ∃ fd : FuncData, (∀ (s : Shared) (v : Value), BindsTo s fd ⟨[v], []⟩ (ps.zip [v])) ∧ ∀ base : Heap, K.In base → base.Ns mainGlobals mg → FnOk P w K mg base CX0 kf fa fd ps (spD K Φ) := by
  obtain ⟨f, oc, od, an, osl, kV, dc, pm, cd, ct, a, l, c, k⟩ := t
  exact law_mk X G hfa a l c k (fun s v => hb s v kV dc pm an cd ct) hF
end DL
namespace DL
open PySem L2 Evl
/-! ### answers that are not told outright: a promise by a relation -/
def Rx {α : Type} (enc : α → List D) (pre : α → Prop) (R : α → D → List D → Prop) : Phi := fun ds kk => ∃ a, ds = enc a ∧ pre a ∧ ∀ d os, R a d os → kk d os
def DXR (X : Cx) (ρ : Rho) (e : Expr) (QQ : D → Rho → Prop) : Prop := ∀ (B : Bs) (F H : Hp) (σ : L2.St) (τ : List (V × D)) (Q : VK), Cov X.K B F H σ ρ τ → (∀ v d ρ' F' H', QQ d ρ' → Cov X.K B F' H' σ ρ' (τ ++ [(v, d)]) → Q v H') → sE X e σ H Q
section
variable {X : Cx} {ρ ρ1 ρ2 ρ3 : Rho} {e a b c iter : Expr} {es : List Expr} {sts body orelse : List Stmt} {d d1 d2 x y z : D} {ds : List D} {k : DK} {n m : Nat} {i j : Int} {pos p1 p2 p : Pos} {kk : Nat} {as : List Ag} {QQ Q2 : D → Rho → Prop}
mutual
theorem fr_noHol' : ∀ {d : D}, isFr (frz d) = true → noHol d = true
  | .non, _ | .bl _, _ | .int _, _ | .str _, _ | .adr _, _ | .ty _, _ => rfl
  | .hol _, h => by cases h
  | .nd m sh ds, h => by simp only [frz, isFr, Bool.and_eq_true] at h; exact frs_noHol' h.2
theorem frs_noHol' : ∀ {ds : List D}, isFrs (frzs ds) = true → noHols ds = true
  | [], _ => rfl
  | d :: r, h => by simp only [frzs, isFrs, Bool.and_eq_true] at h; simp [noHols, fr_noHol' h.1, frs_noHol' h.2]
end
/-- the same with answers that are not told outright -/
theorem Cov.callR {K : PySem.W.Frag} {B : Bs} {F H : Hp} {σ : L2.St} {τ : List (V × D)} {vs : List V} {Q : VK} {α : Type} {enc : α → List D} {pre : α → Prop} {R : α → D → List D → Prop} (C : Cov K B F H σ ρ τ) (al : α)
    (hl : vs.length = as.length) (r1 : ∀ (j : Nat) v d, vs[j]? = some v → as[j]? = some (.v d) → Rep K F v d) (r2 : ∀ (j : Nat) v i d, vs[j]? = some v → as[j]? = some (.l i d) → σ[i]? = some (some v))
    (hL : Lends ρ as) (hn : lentOk as = true) (he : as.map Ag.d = enc al) (hp : pre al) {QQ : D → Rho → Prop} (hu0 : ∀ d os, R al d os → ∃ ρ1, Ups ρ as os ρ1 ∧ QQ d ρ1) (k : ∀ v d ρ1 F' H', QQ d ρ1 → Cov K B F' H' σ ρ1 (τ ++ [(v, d)]) → Q v H') {E : XK} : spD K (Rx enc pre R) vs H Q E := by
  obtain ⟨lc, h1, h2, h3, h4⟩ := id C.own
  let lab : Addr → Option Nat := fun a => match lc a with
    | some (false, i) => slot as i
    | _ => none
  have lab_of : ∀ a i, lc a = some (false, i) → lab a = slot as i := fun a i q => by show (match lc a with | some (false, i) => slot as i | _ => none) = _; rw [q]
  have lab_n : ∀ a, lab a ≠ none → lc a ≠ none := fun a q z => q (by show (match lc a with | some (false, i) => slot as i | _ => none) = _; rw [z])
  have lab_t : ∀ a i, lc a = some (true, i) → lab a = none := fun a i q => by show (match lc a with | some (false, i) => slot as i | _ => none) = _; rw [q]
  refine ⟨F, as.map Ag.d, lab, C.fh, by simp [hl], fun a q => (h1 a (lab_n a q)).1, fun j v d q1 q2 => ?_, al, he, hp, fun dd os hR v F' H' lab' P => ?_⟩
  · rw [List.getElem?_map] at q2
    cases qa : as[j]? with
    | none => rw [qa] at q2; cases q2
    | some g =>
      rw [qa] at q2
      cases g with
      | v d0 => cases q2; exact .fr (r1 j v d0 q1 qa)
      | l i d0 =>
        cases q2
        have hs := slot_at hn qa
        have hσ := r2 j v i d0 q1 qa
        have key : Own K F H (fun a => lc a = some (false, i)) v d0 := by
          rcases (hL.get qa).eq with g | g
          · obtain ⟨u, a, b⟩ := h2 i d0 g; rw [hσ] at a; cases a; exact b
          · obtain ⟨u, a, _, b⟩ := h3 i d0 g; rw [hσ] at a; cases a; exact b
        exact key.mono fun a z => by rw [lab_of a i z]; exact hs
  · classical
    obtain ⟨ρ1, hu, hQ⟩ := hu0 dd os hR
    let l2 : Addr → Option Lb := fun a => match lab' a with
      | some 0 => some (true, τ.length)
      | some (j + 1) => (match as[j]? with | some (.l i _) => some (false, i) | _ => none)
      | none => if lab a = none ∧ H a ≠ none ∧ lc a ≠ some (true, τ.length) then lc a else none
    have keepO : ∀ {l : Lb} {v : V} {d : D}, (∀ a, lc a = some l → lab a = none) → l ≠ (true, τ.length) → Own K F H (fun a => lc a = some l) v d → Own K F' H' (fun a => l2 a = some l) v d := fun {l v d} hn nt h => by
      refine (h.used.keep P.ex fun a o q z => P.keep a o z (hn a q.1)).mono fun a ⟨q, z⟩ => ?_
      have n' : lab' a = none := by
        cases w : lab' a with
        | none => rfl
        | some j =>
          rcases P.ln a (by rw [w]; simp) with y | y
          · exact absurd (hn a q) y
          · exact absurd y z
      show (match lab' a with | some 0 => some (true, τ.length) | some (j + 1) => (match as[j]? with | some (.l i _) => some (false, i) | _ => none) | none => if lab a = none ∧ H a ≠ none ∧ lc a ≠ some (true, τ.length) then lc a else none) = some l
      rw [n']
      show (if lab a = none ∧ H a ≠ none ∧ lc a ≠ some (true, τ.length) then lc a else none) = some l
      rw [if_pos ⟨hn a q, z, by rw [q]; intro y; exact nt (Option.some.inj y)⟩]
      exact q
    have argO : ∀ {j i : Nat} {d e : D}, as[j]? = some (.l i d) → os[j]? = some e → ∃ v, σ[i]? = some (some v) ∧ Own K F' H' (fun a => l2 a = some (false, i)) v e := fun {j i d e} q1 q2 => by
      obtain ⟨v, hv⟩ : ∃ v, vs[j]? = some v := ⟨_, List.getElem?_eq_some_iff.mpr ⟨by rw [hl]; exact (List.getElem?_eq_some_iff.mp q1).1, rfl⟩⟩
      refine ⟨v, r2 j v i d hv q1, (P.args j v e hv q2).mono fun a z => ?_⟩
      show (match lab' a with | some 0 => some (true, τ.length) | some (j + 1) => (match as[j]? with | some (.l i _) => some (false, i) | _ => none) | none => if lab a = none ∧ H a ≠ none ∧ lc a ≠ some (true, τ.length) then lc a else none) = _
      rw [z]
      show (match as[j]? with | some (.l i _) => some ((false, i) : Lb) | _ => none) = _
      rw [q1]
    have freeS : ∀ {i : Nat}, (∀ (j : Nat) d, as[j]? ≠ some (.l i d)) → ∀ a, lc a = some (false, i) → lab a = none := fun {i} q a z => by
      rw [lab_of a i z]
      unfold slot
      rw [List.findIdx?_eq_none_iff]
      intro g hg
      obtain ⟨j, hj⟩ := List.mem_iff_getElem?.mp hg
      cases g with
      | v d => simp [Ag.s]
      | l i' d =>
        by_cases e : i' = i
        · subst e; exact absurd hj (q j d)
        · simp [Ag.s, e]
    refine k v dd ρ1 F' H' hQ ⟨C.f0.trans P.ex, P.fh, fun a o q => ?_, fun a q => ?_, C.zb, by rw [hu.len]; exact C.ln, l2, fun a q => ?_, fun i d q => ?_, fun i d q => ?_, fun t u d q => ?_⟩
    · refine P.keep a o (C.bh a o q) ?_
      cases w : lab a with
      | none => rfl
      | some j =>
        have := (h1 a (lab_n a (by rw [w]; simp))).2
        rw [q] at this; cases this
    · have hb : B.hp a ≠ none := C.zb a q
      refine P.prot a (fun z => ?_) (C.bz a q) ?_
      · cases w : B.hp a with
        | none => exact hb w
        | some o => have := C.bh a o w; rw [z] at this; cases this
      · cases w : lab a with
        | none => rfl
        | some j => exact absurd (h1 a (lab_n a (by rw [w]; simp))).2 hb
    · cases w : lab' a with
      | some j =>
        refine ⟨P.lf a (by rw [w]; simp), ?_⟩
        rcases P.ln a (by rw [w]; simp) with z | z
        · exact (h1 a (lab_n a z)).2
        · exact fresh_back C.bh z
      | none =>
        have q' : (match lab' a with | some 0 => some (true, τ.length) | some (j + 1) => (match as[j]? with | some (.l i _) => some (false, i) | _ => none) | none => if lab a = none ∧ H a ≠ none ∧ lc a ≠ some (true, τ.length) then lc a else none) ≠ none := q
        rw [w] at q'
        have q2 : (if lab a = none ∧ H a ≠ none ∧ lc a ≠ some (true, τ.length) then lc a else none) ≠ none := q'
        by_cases z : lab a = none ∧ H a ≠ none ∧ lc a ≠ some (true, τ.length)
        · rw [if_pos z] at q2
          exact ⟨P.prot a z.2.1 (h1 a q2).1 z.1, (h1 a q2).2⟩
        · rw [if_neg z] at q2; exact absurd rfl q2
    · rcases hu.get q with ⟨j, d0, q1, q2, _⟩ | ⟨n, q⟩
      · exact argO q1 q2
      · obtain ⟨u, a, b⟩ := h2 i d q
        exact ⟨u, a, keepO (freeS n) (by intro z; cases z) b⟩
    · rcases hu.getp q with ⟨j, d0, q1, q2, c, hc⟩ | ⟨n, q⟩
      · obtain ⟨u, a, b⟩ := argO q1 q2
        obtain ⟨u', a', b', _⟩ := h3 i c hc
        rw [a] at a'; cases a'
        exact ⟨u, a, b', b⟩
      · obtain ⟨u, a, a', b⟩ := h3 i d q
        exact ⟨u, a, a', keepO (freeS n) (by intro z; cases z) b⟩
    · rcases snoc_get q with ⟨ht, q⟩ | ⟨ht, q⟩
      · exact keepO (fun a z => lab_t a t z) (by intro z; have := congrArg Prod.snd z; simp at this; omega) (h4 t u d q)
      · cases q
        subst ht
        refine P.res.mono fun a z => ?_
        simp only [l2, z]
theorem DX.r (h : DX X ρ e d ρ1) (q : QQ d ρ1) : DXR X ρ e QQ := fun B F H σ τ Q C k => h B F H σ τ Q C fun v F' H' C' => k v d ρ1 F' H' q C'
theorem DXR.imp (h : DXR X ρ e QQ) (q : ∀ d ρ', QQ d ρ' → Q2 d ρ') : DXR X ρ e Q2 := fun B F H σ τ Q C k => h B F H σ τ Q C fun v d ρ' F' H' z C' => k v d ρ' F' H' (q d ρ' z) C'
/-- an own thing becomes fixed data -/
theorem DXR.frz (h : DXR X ρ e fun d ρ' => isFr (frz d) = true ∧ QQ (frz d) ρ') : DXR X ρ e QQ := fun B F H σ τ Q C k => h B F H σ τ Q C fun v d ρ' F' H' z C' => by
  obtain ⟨F2, C2⟩ := C'.frzTop (fr_noHol' z.1)
  exact k v (DL.frz d) ρ' F2 H' z.2 C2
theorem callR_ {α : Type} {enc : α → List D} {pre : α → Prop} {R : α → D → List D → Prop} {kf : Nat} {x : Str} (G : Gx X kk) (Cd : Cal X.prog X.w X.K X.mg X.base kf x (Rx enc pre R)) (hk : kf ≤ kk) (N : Gn X x) (al : α) (ha : DL X ρ (e :: es) as ρ1) (he : as.map Ag.d = enc al) (hp : pre al)
    (hu : ∀ d os, R al d os → ∃ ρ2, Ups ρ1 as os ρ2 ∧ QQ d ρ2) (hL : Lends ρ1 as) (hn : lentOk as = true := by rfl)
    (hst : starEach (e :: es) X.env = (false, eval e X.env) :: starEach es X.env := by rfl) (hpl : (backTo pos (starEach es X.env)).any (·.1) = false := by rfl) : DXR X ρ (.Call (.Name x p) (e :: es) [] pos) QQ := fun B F H σ τ Q C k => by
  obtain ⟨f, fd, ps, Fn, m, kp, b⟩ := Cd.ex
  exact sE_of (pe_call Fn (G.room.mono hk) N.gl m kp b .nil pass0 paS N.nd hst hpl) (ha B F H σ τ _ C fun vs F1 H1 C1 hl r1 r2 => by
    rw [List.append_nil]
    exact C1.callR al hl r1 r2 hL hn he hp hu k)
/-! statements over such an answer -/
theorem setR_ (G : Gx X kk) (n : Nat) {x : Str} (N : Nl X n x) (he : DXR X ρ e QQ) (h : ∀ d ρ1, QQ d ρ1 → ∃ ρ2, St ρ1 n (.v d) ρ2 ∧ k.nx ρ2) (hs : swapsWith e (some (.Name x p1)) pos.line X.env = pure false) : D1 X ρ (.Assign [.Name x p1] e pos) k := fun B F H σ τ E C L =>
  s1_of (ps_set G.nd N.at_ N.loc peS hs N.fn) (he B F H σ τ _ C fun v d ρ1 F1 H1 q C1 => by
    obtain ⟨ρ2, g, z⟩ := h d ρ1 q
    exact L.nx F1 H1 _ ρ2 (C1.assign g) z)
theorem retR_ (he : DXR X ρ e k.rt) : D1 X ρ (.Return (some e) pos) k := fun B F H σ τ E C L => s1_of (ps_ret peS) (he B F H σ τ _ C fun v d ρ1 F1 H1 q C1 => L.rt v d F1 H1 σ ρ1 C1 q)
theorem exprR_ (he : DXR X ρ e fun _ ρ' => k.nx ρ') (hs : swapsWith e none pos.line X.env = pure false := by rfl) : D1 X ρ (.Expr e pos) k := fun B F H σ τ E C L =>
  s1_of (ps_expr peS hs) (he B F H σ τ _ C fun v d ρ1 F1 H1 q C1 => L.nx F1 H1 σ ρ1 C1.pop q)
theorem dxr_of {d' : D} (h : DXR X ρ e fun d ρ' => d = d' ∧ ρ' = ρ1) : DX X ρ e d' ρ1 := fun B F H σ τ Q C k => h B F H σ τ Q C fun v d ρ' F' H' z C' => by
  obtain ⟨rfl, rfl⟩ := z
  exact k v F' H' C'
/-- for over such a list -/
theorem forLR_ {tg : Expr} {QD : List D → Rho → Prop} (G : Gx X kk) (he : DXR X ρ e fun d ρ1 => ∃ ds, d = .lst ds ∧ isFrs ds = true ∧ QD ds ρ1) (I : List D → Nat → Rho → Prop) (h0 : ∀ ds ρ1, QD ds ρ1 → I ds 0 ρ1)
    (hs : ∀ ds (i : Nat) x ρ', ds[i]? = some x → I ds i ρ' → ∃ ρ'', DG X ρ' tg x ρ'' ∧ DS X ρ'' body { k with nx := I ds (i + 1), ct := I ds (i + 1), bk := k.nx }) (hd : ∀ ds ρ', I ds ds.length ρ' → k.nx ρ')
    (hfs : ∀ x, foldedSetIterable e X.env x = pure x := by intro _; rfl) : D1 X ρ (.For tg e body [] pos) k := fun B F H σ τ E C L => by
  refine s1_of (ps_for G.pass G.calm (pi_list peS) pgS pssS hfs) (he B F H σ τ _ C fun v d0 ρ1 F1 H1 q0 C1 => ?_)
  obtain ⟨ds, rfl, f, q0⟩ := q0
  replace h0 := h0 ds ρ1 q0
  have fr : isFr (.lst ds) = true := by simp [isFr, f]
  obtain ⟨p, xs, rfl, hp, r⟩ := rep_lst (C1.rep fr)
  have L1 := L.base C1.f0
  refine ⟨p, rfl, ⟨xs, .inl (.inl (C1.fh _ _ hp))⟩, for_list (K := X.K) (a := p) (xs := xs) (fun i σ H => ∃ F ρ', Cov X.K (B.at F1) F H σ ρ' τ ∧ I ds i ρ') ⟨F1, ρ1, C1.pop.base, h0⟩ (fun i σ H _ ⟨F, ρ', C, _⟩ => .inl (.inl (C.fh _ _ (C.f0 _ _ hp)))) ?_ ?_⟩
  · rintro i x σ H hx ⟨F2, ρ2, C2, w⟩
    have hi := (List.getElem?_eq_some_iff.mp hx).1
    obtain ⟨y, hy⟩ : ∃ y, ds[i]? = some y := ⟨_, List.getElem?_eq_some_iff.mpr ⟨by rw [← r.1]; exact hi, rfl⟩⟩
    obtain ⟨ρ3, hg, hb⟩ := hs ds i y ρ2 hy w
    refine hg (B.at F1) F2 H σ τ x _ (C2.push ((r.2 i x y hx hy).mono C2.f0)) fun F3 H3 σ3 C3 => ?_
    exact hb (B.at F1) F3 H3 σ3 τ _ C3 ⟨fun F H σ ρ C q => ⟨F, ρ, C, q⟩, L1.rt, L1.nx, fun F H σ ρ C q => ⟨F, ρ, C, q⟩⟩
  · rintro σ H ⟨F2, ρ2, C2, w⟩
    exact L1.nx F2 H σ ρ2 C2 (hd ds ρ2 (by rw [← r.1]; exact w))
theorem lenM_ (n : Nat) {x : Str} (N : Nm X n x) (hm : X.mg "len" = none) (g : gtF ρ n = some (.ml ds)) (hg : Gl X "len" := by rfl) (he : starEach [.Name x p1] X.env = (false, eval (.Name x p1) X.env) :: starEach [] X.env := by rfl) (hpl : (backTo pos (starEach [] X.env)).any (·.1) = false := by rfl) :
    DX X ρ (.Call (.Name "len" p) [.Name x p1] [] pos) (.int ds.length) ρ := dx_lenM n hm (gt_of g) N.at_ N.vis N.nd N.nc hg he hpl
theorem ixM (n : Nat) {x : Str} (N : Nm X n x) (hb : DX X ρ b (.int i) ρ1) (g : gtF ρ n = some (.ml ds)) (g1 : gtF ρ1 n = some (.ml ds)) (h : atI ds i = some d) (f : isFr d = true := by rfl) (hs : PlainIx b := by intro _ _; rfl) : DX X ρ (.Subscript (.Name x p1) b pos) d ρ1 :=
  dx_ixM n hb (gt_of g) (gt_of g1) h f hs N.at_ N.vis N.nd N.nc
theorem atN_ {α : Type} {ds : List α} {j : Nat} {d : α} (h : ds[j]? = some d) : atI ds (j : Int) = some d := by
  have hj := (List.getElem?_eq_some_iff.mp h).1
  unfold atI ixN
  rw [if_pos (by omega), if_pos (by omega)]
  simpa using h
theorem atI_ {α : Type} {ds : List α} {i : Int} {d : α} (h0 : 0 ≤ i) (h : ds[i.toNat]? = some d) : atI ds i = some d := by
  have := atN_ h
  rwa [Int.toNat_of_nonneg h0] at this
theorem atL_ {α : Type} {ds : List α} {d : α} (h : ds[ds.length - 1]? = some d) : atI ds (-1) = some d := by
  have hj := (List.getElem?_eq_some_iff.mp h).1
  have e : (-1 + (ds.length : Int)).toNat = ds.length - 1 := by omega
  unfold atI ixN
  rw [if_neg (by omega), if_pos (by omega), e]
  exact h
end
end DL
namespace DL
open PySem L2 Evl
section
variable {X : Cx} {ρ ρ1 ρ2 ρ3 : Rho} {e a b c iter : Expr} {es : List Expr} {sts body orelse : List Stmt} {d d1 d2 x y z : D} {ds : List D} {k : DK} {n m : Nat} {i j : Int} {pos p1 p2 p : Pos} {kk : Nat} {as : List Ag}
/-! ### types -/
theorem dx_tyn {x : Str} {T : String} (hm : X.mg x = none) (hv : bootBuiltins x = some (.type T)) (hg : Gl X x := by rfl) (hn : x ≠ "__name__" := by decide) (hdb : (x == ("__debug__" : Str)) = false := by decide) : DX X ρ (.Name x pos) (.ty T) ρ := fun B F H σ τ Q C k =>
  sE_of (pe_bltn (v := .ty T) hg hm hv rfl hn hdb) (k _ F H (C.push (.ty T)))
def tyD : D → Option String
  | .non => some "NoneType" | .bl _ => some "bool" | .int _ => some "int" | .str _ => some "str"
  | .nd false .tup _ => some "tuple" | .nd false .lst _ => some "list" | .nd false .sq _ => some "list"
  | _ => none
theorem rep_ty {K : PySem.W.Frag} {F H : Hp} {v : V} {T : String} (e : Ex F H) (r : Rep K F v x) (h : tyD x = some T) : TyX K H v (.type T) := by
  cases r with
  | non => cases h; exact .base .non
  | bl b => cases h; exact .base (.bl b)
  | int i => cases h; exact .base (.int i)
  | str s => cases h; exact .base (.str s)
  | adr a => cases h
  | ty n => cases h
  | @nd p sh xs ds q hl hc =>
    have q := q.mono e
    cases sh with
    | tup =>
      cases h
      rcases q with (q | ⟨o', q⟩) | ⟨o, its, n, h1, h2, _⟩
      · exact .base (.tup q)
      · exact .fTuple q
      · exact .kTuple h1 h2
    | lst => cases h; exact .base (.lst q)
    | sq =>
      cases h
      rcases q with (q | ⟨o', q⟩) | ⟨o, its, n, h1, h2, _⟩
      · exact .base (.lst q)
      · exact .base (.frz q)
      · exact .kList h1 h2
    | dk ks => cases h
    | dt ks => cases h
    | ins C fs => cases h
theorem tyD_fr {T : String} (h : tyD x = some T) (hs : ∀ sh ds, x = .nd false sh ds → isFrs ds = true) : isFr x = true := by
  cases x with
  | nd m sh ds =>
    cases m with
    | false => simp [isFr, hs sh ds rfl]
    | true => simp [tyD] at h
  | hol v => simp [tyD] at h
  | _ => rfl
theorem dx_isi {bb : Bool} {x' : Str} {S T : String} (hm : X.mg "isinstance" = none) (hT : X.mg x' = none) (h : DX X ρ e x ρ1) (f : isFr x = true) (ht : tyD x = some S) (hv : bootBuiltins x' = some (.type T)) (hb : kitB S T = some bb)
    (hgT : Gl X x' := by rfl) (hnT : x' ≠ "__name__" := by decide) (hdT : (x' == ("__debug__" : Str)) = false := by decide) (hg : Gl X "isinstance" := by rfl) (he : starEach [e, .Name x' p1] X.env = (false, eval e X.env) :: starEach [.Name x' p1] X.env := by rfl) (hs2 : starEach [.Name x' p1] X.env = (false, eval (.Name x' p1) X.env) :: starEach [] X.env := by rfl)
    (hpl : (backTo pos (starEach [.Name x' p1] X.env)).any (·.1) = false := by rfl) : DX X ρ (.Call (.Name "isinstance" p) [e, .Name x' p1] [] pos) (.bl bb) ρ1 :=
  dx_cb call_isi hm (by decide +kernel) (da_two h (dx_tyn hT hv hgT hnT hdT) f rfl he hs2) (fun B F H σ τ vs Q C r k => by
    obtain ⟨v, u, rfl, hv', hu⟩ := r.two
    cases hu
    exact ⟨v, .ty T, _, _, bb, rfl, .ty T, rep_ty C.fh hv' ht, kit_ty hb, k _ F H (C.push (.bl bb))⟩) hg (by decide) (by decide) he hpl
/-! short forms -/
theorem lend_ {x : Str} (n : Nat) (N : Nm X n x) (g : gtF ρ n = some d1) (hr : DL X ρ es as ρ2) (hs : starEach (.Name x p1 :: es) X.env = (false, eval (.Name x p1) X.env) :: starEach es X.env := by rfl) : DL X ρ (.Name x p1 :: es) (.l n d :: as) ρ2 :=
  dl_lend n (gt_of g) hr N.at_ N.vis N.nd N.nc hs
theorem setL_ {x : Str} {t : Nat} (n : Nat) (N : Nm X n x) (he : DX X ρ e d ρ1) (hb : DX X ρ1 b (.int i) ρ2) (g0 : gtF ρ1 n = some (.ml ds)) (g : gtF ρ2 n = some (.ml ds)) (hi : ixN ds.length i = some t) (u : Up ρ2 n (.ml (ds.set t d)) ρ3) (f : isFr d = true) (fs : isFrs ds = true) (h : k.nx ρ3) {tpos : Pos}
    (ha : ∀ v, assign (.Subscript (.Name x p1) b tpos) X.env v = (do
      let ov ← holding [v] (eval (.Name x p1) X.env)
      let iv ← holding [v, ov] (eval b X.env)
      standAt tpos
      holding [v, ov, iv] (setItem ov iv v)
      release [v, ov, iv] []) := by intro _; rfl)
    (hs : swapsWithSole [.Subscript (.Name x p1) b tpos] e pos.line X.env = pure false := by rfl) (hw : swappedStores [.Subscript (.Name x p1) b tpos] e X.env = pure none := by rfl)
    (h1 : (assignEach [.Subscript (.Name x p1) b tpos] X.env).map (·.2) = [assign (.Subscript (.Name x p1) b tpos) X.env] := by rfl) : D1 X ρ (.Assign [.Subscript (.Name x p1) b tpos] e pos) k :=
  d1_setL n he hb (gt_of g0) (gt_of g) hi u h f fs N.at_ N.vis N.nd N.nc ha hs hw h1
theorem bt_list : bootBuiltins "list" = some (.type "list") := by decide +kernel
theorem bt_tuple : bootBuiltins "tuple" = some (.type "tuple") := by decide +kernel
theorem bt_bool : bootBuiltins "bool" = some (.type "bool") := by decide +kernel
theorem bt_str : bootBuiltins "str" = some (.type "str") := by decide +kernel
theorem bt_int : bootBuiltins "int" = some (.type "int") := by decide +kernel
/-! plain nested data -/
mutual
def sameOk : D → Bool
  | .non => true | .bl _ => true | .int _ => true | .str _ => true
  | .nd m .tup ds => !m && sameOks ds && decide (ds.length < 1000000)
  | .nd m .lst ds => !m && sameOks ds && decide (ds.length < 1000000)
  | _ => false
def sameOks : List D → Bool
  | [] => true
  | d :: r => sameOk d && sameOks r
end
mutual
theorem sameOk_py : ∀ {d : D}, sameOk d = true → pyOk d = true
  | .non, _ => rfl | .int _, _ => rfl | .str _, _ => rfl
  | .bl _, h => rfl
  | .nd m .tup ds, h => by simp only [sameOk, Bool.and_eq_true] at h; simp [pyOk, sameOks_py h.1.2]; simpa using h.1.1
  | .nd m .lst ds, h => by simp only [sameOk, Bool.and_eq_true] at h; simp [pyOk, sameOks_py h.1.2]; simpa using h.1.1
  | .nd m .sq ds, h => by simp [sameOk] at h
  | .nd m (.dk _) ds, h => by simp [sameOk] at h
  | .nd m (.dt _) ds, h => by simp [sameOk] at h
  | .nd m (.ins _ _) ds, h => by simp [sameOk] at h
  | .adr _, h => by simp [sameOk] at h
  | .ty _, h => by simp [sameOk] at h
  | .hol _, h => by simp [sameOk] at h
theorem sameOks_py : ∀ {ds : List D}, sameOks ds = true → pyOks ds = true
  | [], _ => rfl
  | d :: r, h => by simp only [sameOks, Bool.and_eq_true] at h; simp [pyOks, sameOk_py h.1, sameOks_py h.2]
end
theorem sameOks_get : ∀ {ds : List D} {t : Nat} {y : D} {m : Nat}, sameOks ds = true → dpDs ds ≤ m → ds[t]? = some y → sameOk y = true ∧ dpD y ≤ m
  | [], t, y, m, _, _, q => by simp at q
  | d :: r, 0, y, m, h, hd, q => by
    simp only [sameOks, Bool.and_eq_true] at h
    simp [dpDs] at hd
    simp at q
    subst q
    exact ⟨h.1, by omega⟩
  | d :: r, t + 1, y, m, h, hd, q => by
    simp only [sameOks, Bool.and_eq_true] at h
    simp [dpDs] at hd
    exact sameOks_get h.2 (by omega) (by simpa using q)
theorem sameOk_get {sh : Sh} {m : Nat} {t : Nat} {y : D} (h : sameOk (.nd false sh ds) = true) (hd : dpDs ds ≤ m) (q : ds[t]? = some y) : sameOk y = true ∧ dpD y ≤ m ∧ isFr y = true := by
  have hs : sameOks ds = true := by cases sh <;> simp [sameOk] at h <;> exact h.1
  obtain ⟨a, b⟩ := sameOks_get hs hd q
  exact ⟨a, b, pyOk_fr (sameOk_py a)⟩
end
end DL
namespace DL
open PySem L2 Evl
/-! ### arguments whose answers are not told outright -/
def DAR (X : Cx) (ρ : Rho) (es : List Expr) (QA : List D → Rho → Prop) : Prop := ∀ (B : Bs) (F H : Hp) (σ : L2.St) (τ : List (V × D)) (Q : List V → Hp → Prop), Cov X.K B F H σ ρ τ →
  (∀ vs ds ρ' F' H', QA ds ρ' → Cov X.K B F' H' σ ρ' τ → Reps X.K F' vs ds → Q vs H') → sA X es σ H Q
section
variable {X : Cx} {ρ ρ1 ρ2 ρ3 : Rho} {e a b c iter : Expr} {es : List Expr} {sts body orelse : List Stmt} {d d1 d2 x y z : D} {ds : List D} {k : DK} {n m : Nat} {i j : Int} {pos p1 p2 p : Pos} {kk : Nat} {as : List Ag} {QQ Q2 : D → Rho → Prop} {QA : List D → Rho → Prop}
theorem dar_nil (h : QA [] ρ) : DAR X ρ [] QA := fun B F H σ τ Q C k => sA_of pa_nil (k [] [] ρ F H h C .nil)
theorem dar_cons (h : DXR X ρ e fun d ρ1 => isFr d = true ∧ DAR X ρ1 es fun ds ρ2 => QA (d :: ds) ρ2) (hs : starEach (e :: es) X.env = (false, eval e X.env) :: starEach es X.env := by rfl) : DAR X ρ (e :: es) QA := fun B F H σ τ Q C k =>
  sA_of (pa_cons peS paS hs) (h B F H σ τ _ C fun v d ρ1 F1 H1 q C1 => q.2 B F1 H1 σ _ _ C1 fun vs ds ρ2 F2 H2 q2 C2 r => k _ _ _ F2 H2 q2 C2.pop (.cons (C2.rep q.1) r))
theorem DA.r (h : DA X ρ es ds ρ1) (q : QA ds ρ1) : DAR X ρ es QA := fun B F H σ τ Q C k => h B F H σ τ Q C fun vs F' H' C' r => k vs ds ρ1 F' H' q C' r
theorem dxr_tup {q} (h : DAR X ρ es fun ds ρ' => ds.length ≤ 1000 ∧ QQ (.tup ds) ρ') : DXR X ρ (.Tuple es q pos) QQ := fun B F H σ τ Q C k =>
  sE_of (pe_tup paS) (h B F H σ τ _ C fun vs ds ρ1 F1 H1 q C1 r => ⟨by rw [r.1]; exact Nat.le_trans q.1 (by decide), fun p hp => k _ _ _ _ _ q.2 ((C1.laid (o := .tup vs) hp).push (.nd (.inl (.inl upd_same)) r.1 fun j v d h1 h2 => (r.2 j v d h1 h2).mono (Ex.new (none_F C1.fh hp))))⟩)
theorem dxr_lst (h : DAR X ρ es fun ds ρ' => ds.length ≤ 1000 ∧ QQ (.ml ds) ρ') : DXR X ρ (.List es pos) QQ := fun B F H σ τ Q C k =>
  sE_of (pe_lst paS) (h B F H σ τ _ C fun vs ds ρ1 F1 H1 q C1 r => ⟨by rw [r.1]; exact Nat.le_trans q.1 (by decide), fun p hp => k _ _ _ _ _ q.2 (C1.alloc (o := .lst vs) hp rfl upd_same r.1 r.2)⟩)
end
end DL
namespace DL
open PySem L2 Evl
section
variable {X : Cx} {ρ ρ1 ρ2 ρ3 : Rho} {e a b c iter : Expr} {es : List Expr} {sts body orelse : List Stmt} {d d1 d2 x y z : D} {ds zs : List D} {k : DK} {n m : Nat} {i j : Int} {pos p1 p2 p : Pos} {kk : Nat} {as : List Ag}
/-! ### lists: +, *, slices -/
theorem rep_lst' {K : PySem.W.Frag} {F : Hp} {v : V} (h : Rep K F v (.nd false .lst ds)) : ∃ p xs, v = .ref p ∧ F p = some (.lst xs) ∧ Reps K F xs ds := rep_lst h
theorem dx_cat (ha : DX X ρ a (.lst ds) ρ1) (hb : DX X ρ1 b (.lst zs) ρ2) (hl : ds.length + zs.length ≤ sizeLine) (f : isFrs ds = true) (f2 : isFrs zs = true) : DX X ρ (.BinOp a .Add b pos) (.ml (ds ++ zs)) ρ2 := fun B F H σ τ Q C k =>
  sE_of (pe_op op_cat peS peS) (ha B F H σ τ _ C fun v F1 H1 C1 => hb B F1 H1 σ _ _ C1 fun u F2 H2 C2 => by
    obtain ⟨q, xs, rfl, h1, r1⟩ := rep_lst (C2.pop.rep (by simp [isFr, f]))
    obtain ⟨q', ys, rfl, h2, r2⟩ := rep_lst (C2.rep (by simp [isFr, f2]))
    refine ⟨q, q', xs, ys, rfl, rfl, C2.fh _ _ h1, C2.fh _ _ h2, by rw [r1.1, r2.1]; exact hl, fun l hl => k _ _ _ (C2.pop2.alloc (o := .lst (xs ++ ys)) hl rfl upd_same (by simp [r1.1, r2.1]) fun j x d e1 e2 => ?_)⟩
    by_cases hj : j < xs.length
    · rw [List.getElem?_append_left hj] at e1
      rw [List.getElem?_append_left (by rw [← r1.1]; exact hj)] at e2
      exact r1.2 j x d e1 e2
    · rw [List.getElem?_append_right (by omega)] at e1
      rw [List.getElem?_append_right (by rw [← r1.1]; omega), ← r1.1] at e2
      exact r2.2 _ x d e1 e2)
theorem repl_get {α : Type} {xs : List α} : ∀ {n j : Nat} {x : α}, (List.replicate n xs).flatten[j]? = some x → xs[j % xs.length]? = some x
  | 0, j, x, h => by simp at h
  | n + 1, j, x, h => by
    rw [List.replicate_succ, List.flatten_cons] at h
    by_cases hj : j < xs.length
    · rw [List.getElem?_append_left hj] at h
      rwa [Nat.mod_eq_of_lt hj]
    · rw [List.getElem?_append_right (by omega)] at h
      have := repl_get h
      rwa [← Nat.mod_eq_sub_mod (by omega)] at this
theorem dx_repL (ha : DX X ρ a (.lst ds) ρ1) (hb : DX X ρ1 b (.int i) ρ2) (hi : -2 ^ 63 ≤ i ∧ i < 2 ^ 63) (hl : ds.length * i.toNat ≤ sizeLine) (f : isFrs ds = true) : DX X ρ (.BinOp a .Mult b pos) (.ml (List.replicate i.toNat ds).flatten) ρ2 := fun B F H σ τ Q C k =>
  sE_of (pe_op op_rep peS peS) (ha B F H σ τ _ C fun v F1 H1 C1 => hb B F1 H1 σ _ _ C1 fun u F2 H2 C2 => by
    obtain ⟨q, xs, rfl, h1, r1⟩ := rep_lst (C2.pop.rep (by simp [isFr, f]))
    rw [rep_int (C2.rep rfl)]
    refine ⟨q, i, xs, rfl, rfl, C2.fh _ _ h1, hi.1, hi.2, by rw [r1.1]; exact hl, fun l hl => k _ _ _ (C2.pop2.alloc (o := .lst (List.replicate i.toNat xs).flatten) hl rfl upd_same (by simp [r1.1]) fun j x d e1 e2 => ?_)⟩
    have e1 := repl_get e1
    have e2 := repl_get e2
    rw [r1.1] at e1
    exact r1.2 _ x d e1 e2)
/-- a part of a slice -/
def sP (X : Cx) (e : Option Expr) : TO := fun σ H Q => ∀ (pins : List (Addr × Obj)) s, L2.Inv X pins σ H s → wpAny (model X.prog X.w) X.A (evalPart e X.env) (fun u s' => ∃ o H', L2.Inv X pins σ H' s' ∧ IsPart u o ∧ Q o H') X.xe s
theorem poS {e : Option Expr} : PO X e (sP X e) := ⟨fun pins s _ _ _ I h => h pins s I⟩
theorem sP_of {e : Option Expr} {t : TO} {σ : L2.St} {H : Hp} {Q : Option Int → Hp → Prop} (h : PO X e t) (q : t σ H Q) : sP X e σ H Q := fun pins s I => h.run pins s σ H Q I q
def DP (X : Cx) (ρ : Rho) (e : Option Expr) (o : Option Int) (ρ' : Rho) : Prop := ∀ (B : Bs) (F H : Hp) (σ : L2.St) (τ : List (V × D)) (Q : Option Int → Hp → Prop), Cov X.K B F H σ ρ τ → (∀ F' H', Cov X.K B F' H' σ ρ' τ → Q o H') → sP X e σ H Q
theorem dp_non : DP X ρ none none ρ := fun B F H σ τ Q C k => sP_of po_none (k F H C)
theorem dp_some (h : DX X ρ e (.int i) ρ1) : DP X ρ (some e) (some i) ρ1 := fun B F H σ τ Q C k => sP_of (po_some peS) (h B F H σ τ _ C fun v F1 H1 C1 => ⟨i, rep_int (C1.rep rfl), k F1 H1 C1.pop⟩)
def cutD {α : Type} (xs : List α) (lo hi : Option Int) : List α := List.take (HT.sIx xs.length xs.length hi - HT.sIx xs.length 0 lo) (List.drop (HT.sIx xs.length 0 lo) xs)
theorem cut_get {α : Type} {xs : List α} {a b j : Nat} {x : α} (h : (List.take b (List.drop a xs))[j]? = some x) : j < b ∧ xs[a + j]? = some x := by
  rw [List.getElem?_take] at h
  split at h
  · rename_i q
    rw [List.getElem?_drop] at h
    exact ⟨q, h⟩
  · cases h
/-- xs[a:b], a new list -/
theorem dx_sl {lo hi : Option Expr} {ol oh : Option Int} {sh : Sh} (ha : DX X ρ a (.nd false sh ds) ρ1) (hlo : DP X ρ1 lo ol ρ2) (hhi : DP X ρ2 hi oh ρ3) (f : isFrs ds = true) (hs : sh = .lst ∨ sh = .sq := by simp) : DX X ρ (.Subscript a (.Slice lo hi none p2) pos) (.ml (cutD ds ol oh)) ρ3 := fun B F H σ τ Q C k =>
  sE_of (pe_slice sl_list peS poS poS) (ha B F H σ τ _ C fun v F1 H1 C1 => hlo B F1 H1 σ _ _ C1 fun F2 H2 C2 => hhi B F2 H2 σ _ _ C2 fun F3 H3 C3 => by
    obtain ⟨q, xs, rfl, h1, r1⟩ := rep_seq (C3.rep (by simp [isFr, f])) hs
    refine ⟨q, xs, rfl, ex_l C3.fh h1, fun l hl => k _ _ _ (C3.pop.alloc (o := .lst (cutV xs ol oh)) hl rfl upd_same (by simp [cutV, cutD, r1.1]) fun j x d e1 e2 => ?_)⟩
    unfold cutV at e1
    unfold cutD at e2
    rw [r1.1] at e1
    exact r1.2 _ x d (cut_get e1).2 (cut_get e2).2)
end
section
variable {X : Cx} {ρ ρ1 ρ2 ρ3 ρw : Rho} {e a b c elt iter : Expr} {es ifs : List Expr} {d x y : D} {ds ds' : List D} {k : DK} {i j : Int} {n m : Nat} {pos p1 p2 p : Pos} {kk : Nat} {s : Str} {scope : Scope} {own : List (Str × Nat)} {tg : Expr}
/-! ### comprehensions over an answer that is not told outright -/
theorem dxr_lc {QQ : D → Rho → Prop} {te : TE} {wi : TI} (G : Gx X kk) (hi : PI X tg iter wi) (hb : blkC X.N X.env.scope scope own = true)
    (hs : ∀ x, foldedSetIterable iter X.env x = pure x)
    (h : ∀ (B : Bs) (F H : Hp) (σ : L2.St) (τ : List (V × D)) (Q : VK), Cov X.K B F H σ ρ τ → (∀ v d ρ' F' H', QQ d ρ' → Cov X.K B F' H' σ ρ' (τ ++ [(v, d)]) → Q v H') → tLc wi (bG X scope tg) (bI X scope ifs) (bE X scope elt) (own.map (·.2)) σ H Q) :
    DXR X ρ (.ListComp elt [⟨tg, iter, ifs, 0⟩] scope pos) QQ := fun B F H σ τ Q C k =>
  sE_of (pe_lc G.calm G.nd hi (blkOk_by hb) (fun s H C cl fp => ⟨fun pins s' σ' H' v u Q' I r q => q s H C cl fp pins s' u I r⟩) (fun s H C cl fp => ⟨fun pins s' σ' H' Q' I q => q s H C cl fp pins s' I⟩)
    (fun s H C cl fp => ⟨fun pins s' σ' H' Q' I q => q s H C cl fp pins s' I⟩) hs) (h B F H σ τ Q C k)
/-- over a frozen list -/
theorem dxr_lcL {QQ : D → Rho → Prop} {QD : List D → Rho → Prop} {x' : Str} {nn : Nat} (G : Gx X kk) (hown : own = [(x', nn)]) (he : DXR X ρ iter fun d ρ1 => ∃ ds, d = .lst ds ∧ isFrs ds = true ∧ ds.length < 1000000 ∧ QD ds ρ1) (I : List D → Nat → Rho → List D → Prop) (h0 : ∀ ds ρ1, QD ds ρ1 → ∃ ρw, Wp ρ1 [nn] ρw ∧ I ds 0 ρw [])
    (hs : ∀ ds (t : Nat) x ρ' acc, ds[t]? = some x → I ds t ρ' acc → acc.length ≤ t ∧ ∃ ρ2 bb ρ3, St ρ' nn (.v x) ρ2 ∧ Blk X scope (fun Y => DI Y ρ2 ifs bb ρ3) ∧
      (bb = true → ∃ y ρ4 ρ5, Blk X scope (fun Y => DX Y ρ3 elt y ρ4) ∧ isFr y = true ∧ Wp ρ4 [nn] ρ5 ∧ I ds (t + 1) ρ5 (acc ++ [y])) ∧ (bb = false → ∃ ρ5, Wp ρ3 [nn] ρ5 ∧ I ds (t + 1) ρ5 acc))
    (hd : ∀ ds ρ' acc, I ds ds.length ρ' acc → QQ (.ml acc) ρ') (hN : X.N[nn]? = some x' := by rfl) (hb : blkC X.N X.env.scope scope own = true := by rfl) (hl : scope.names.lookup x' = some .local := by rfl)
    (hfs : ∀ x, foldedSetIterable iter X.env x = pure x := by intro _; rfl) :
    DXR X ρ (.ListComp elt [⟨.Name x' p, iter, ifs, 0⟩] scope pos) QQ := by
  subst hown
  refine dxr_lc (te := tC .non) G (pi_list peS) hb hfs fun B F H σ τ Q C k => ?_
  refine he B F H σ τ _ C fun v d0 ρ1 F1 H1 q0 C1 => ?_
  obtain ⟨ds, rfl, f, hz, q0⟩ := q0
  obtain ⟨ρw, hw, h0⟩ := h0 ds ρ1 q0
  have fr : isFr (.lst ds) = true := by simp [isFr, f]
  obtain ⟨q, xs, rfl, hp, r⟩ := rep_lst (C1.rep fr)
  refine ⟨q, rfl, ⟨xs, .inl (.inl (C1.fh _ _ hp))⟩, fun Dl hD => ?_⟩
  have C2 := ((C1.pop.alloc (o := .lst []) (sh := .lst) (xs := []) (ds := []) hD rfl upd_same rfl (fun j x d h => by simp at h)).wipe (ns := [nn]) hw).base
  refine lc_list (xs := xs) (fun t H => ∃ F ρ' acc, Cov X.K (B.at F1) F H (wipe σ [nn]) ρ' (τ ++ [(.ref Dl, .ml acc)]) ∧ I ds t ρ' acc ∧ isFrs acc = true) ⟨F1, ρw, [], C2, h0, rfl⟩ (fun t H _ ⟨F2, ρ', acc, C3, w, fa⟩ => .inl (.inl (C3.fh _ _ (C3.f0 _ _ hp)))) ?_ ?_
  · rintro t x H hx ⟨F2, ρ', acc, C3, w, fa⟩
    have ht := (List.getElem?_eq_some_iff.mp hx).1
    obtain ⟨y, hy⟩ : ∃ y, ds[t]? = some y := ⟨_, List.getElem?_eq_some_iff.mpr ⟨by rw [← r.1]; exact ht, rfl⟩⟩
    obtain ⟨hz', ρ2, bb, ρ3, g, hi, h1, h2⟩ := hs ds t y ρ' acc hy w
    obtain ⟨q1, q2⟩ := lc_name (p1 := p) (scope := scope) (own := [(x', nn)]) G rfl g hN hl
    exact lc_turn (own := [(x', nn)]) (tg := .Name x' p) (ifs := ifs) (elt := elt) (I' := I ds (t + 1)) C3 ((r.2 t x y hx hy).mono C3.f0) (Nat.lt_of_le_of_lt hz' (Nat.lt_of_lt_of_le (by rw [r.1] at ht; omega : t < 1000000) (by decide))) fa ⟨ρ2, bb, ρ3, q1, hi, q2, h1, h2⟩ fun F H ρ' acc C q fa => ⟨F, ρ', acc, C, q, fa⟩
  · rintro H ⟨F2, ρ', acc, C3, w, fa⟩
    exact k _ _ _ F2 H (hd ds ρ' acc (by rw [← r.1]; exact w)) (C3.unbase C1.f0).back
end
end DL
namespace DL
open PySem L2 Evl
section
variable {X : Cx} {ρ ρ1 ρ2 ρ3 ρw : Rho} {e a b c elt iter : Expr} {es ifs : List Expr} {d x y : D} {ds ds' : List D} {k : DK} {i j : Int} {n m : Nat} {pos p1 p2 p : Pos} {kk : Nat} {s : Str} {scope : Scope} {own : List (Str × Nat)} {tg : Expr}
/-! ### a comprehension, apart from where its list goes -/
def TLC (X : Cx) (wi : TI) (scope : Scope) (own : List (Str × Nat)) (tg : Expr) (ifs : List Expr) (elt : Expr) (ρ : Rho) (QQ : D → Rho → Prop) : Prop := ∀ (B : Bs) (F H : Hp) (σ : L2.St) (τ : List (V × D)) (Q : VK), Cov X.K B F H σ ρ τ →
  (∀ v d ρ' F' H', QQ d ρ' → Cov X.K B F' H' σ ρ' (τ ++ [(v, d)]) → Q v H') → tLc wi (bG X scope tg) (bI X scope ifs) (bE X scope elt) (own.map (·.2)) σ H Q
def LCJ (X : Cx) (scope : Scope) (own : List (Str × Nat)) (tg iter : Expr) (ifs : List Expr) (elt : Expr) (ρ : Rho) (QQ : D → Rho → Prop) : Prop := ∃ wi, PI X tg iter wi ∧ TLC X wi scope own tg ifs elt ρ QQ
theorem LCJ.frz {QQ : D → Rho → Prop} (h : LCJ X scope own tg iter ifs elt ρ fun d ρ' => isFr (frz d) = true ∧ QQ (frz d) ρ') : LCJ X scope own tg iter ifs elt ρ QQ := by
  obtain ⟨wi, hi, h⟩ := h
  refine ⟨wi, hi, fun B F H σ τ Q C k => h B F H σ τ Q C fun v d ρ' F' H' z C' => ?_⟩
  obtain ⟨F2, C2⟩ := C'.frzTop (fr_noHol' z.1)
  exact k v (DL.frz d) ρ' F2 H' z.2 C2
theorem LCJ.dxr {QQ : D → Rho → Prop} (h : LCJ X scope own tg iter ifs elt ρ QQ) (G : Gx X kk) (hb : blkC X.N X.env.scope scope own = true := by rfl) (hs : ∀ x, foldedSetIterable iter X.env x = pure x := by intro _; rfl) : DXR X ρ (.ListComp elt [⟨tg, iter, ifs, 0⟩] scope pos) QQ := by
  obtain ⟨wi, hi, h⟩ := h
  exact dxr_lc (te := tC .non) G hi hb hs h
/-- x = [..] -/
theorem LCJ.set {QQ : D → Rho → Prop} {y : Str} (h : LCJ X scope own tg iter ifs elt ρ QQ) (G : Gx X kk) (n : Nat) (N : Nl X n y) (hk : ∀ d ρ1, QQ d ρ1 → ∃ ρ2, St ρ1 n (.v d) ρ2 ∧ k.nx ρ2) (hl : List.lookup y X.env.scope.names = some NameKind.local)
    (hsw : swapsWith (elt.ListComp [⟨tg, iter, ifs, 0⟩] scope pos) (some (.Name y p1)) p2.line X.env = pure true) (hb : blkC X.N X.env.scope scope own = true := by rfl) (hs : ∀ x, foldedSetIterable iter X.env x = pure x := by intro _; rfl) :
    D1 X ρ (.Assign [.Name y p1] (.ListComp elt [⟨tg, iter, ifs, 0⟩] scope pos) p2) k := fun B F H σ τ E C L => by
  obtain ⟨wi, hi, h⟩ := h
  refine s1_of (ps_setLc G.calm G.nd N.at_ hl hsw hi (blkOk_by hb) (fun s H C cl fp => ⟨fun pins s' σ' H' v u Q' I r q => q s H C cl fp pins s' u I r⟩) (fun s H C cl fp => ⟨fun pins s' σ' H' Q' I q => q s H C cl fp pins s' I⟩)
    (fun s H C cl fp => ⟨fun pins s' σ' H' Q' I q => q s H C cl fp pins s' I⟩) hs) (h B F H σ τ _ C fun v d ρ1 F1 H1 q C1 => ?_)
  obtain ⟨ρ2, g, z⟩ := hk d ρ1 q
  exact L.nx F1 H1 _ ρ2 (C1.assign g) z

theorem lcL_ {QQ : D → Rho → Prop} {QD : List D → Rho → Prop} {x' : Str} {nn : Nat} (G : Gx X kk) (hown : own = [(x', nn)]) (he : DXR X ρ iter fun d ρ1 => ∃ ds, d = .lst ds ∧ isFrs ds = true ∧ ds.length < 1000000 ∧ QD ds ρ1) (I : List D → Nat → Rho → List D → Prop) (h0 : ∀ ds ρ1, QD ds ρ1 → ∃ ρw, Wp ρ1 [nn] ρw ∧ I ds 0 ρw [])
    (hs : ∀ ds (t : Nat) x ρ' acc, ds[t]? = some x → I ds t ρ' acc → acc.length ≤ t ∧ ∃ ρ2 bb ρ3, St ρ' nn (.v x) ρ2 ∧ Blk X scope (fun Y => DI Y ρ2 ifs bb ρ3) ∧
      (bb = true → ∃ y ρ4 ρ5, Blk X scope (fun Y => DX Y ρ3 elt y ρ4) ∧ isFr y = true ∧ Wp ρ4 [nn] ρ5 ∧ I ds (t + 1) ρ5 (acc ++ [y])) ∧ (bb = false → ∃ ρ5, Wp ρ3 [nn] ρ5 ∧ I ds (t + 1) ρ5 acc))
    (hd : ∀ ds ρ' acc, I ds ds.length ρ' acc → QQ (.ml acc) ρ') (hN : X.N[nn]? = some x' := by rfl) (hl : scope.names.lookup x' = some .local := by rfl)
    (_u : True := trivial) :
    LCJ X scope own (.Name x' p) iter ifs elt ρ QQ := by
  subst hown
  refine ⟨_, pi_list peS, fun B F H σ τ Q C k => ?_⟩
  refine he B F H σ τ _ C fun v d0 ρ1 F1 H1 q0 C1 => ?_
  obtain ⟨ds, rfl, f, hz, q0⟩ := q0
  obtain ⟨ρw, hw, h0⟩ := h0 ds ρ1 q0
  have fr : isFr (.lst ds) = true := by simp [isFr, f]
  obtain ⟨q, xs, rfl, hp, r⟩ := rep_lst (C1.rep fr)
  refine ⟨q, rfl, ⟨xs, .inl (.inl (C1.fh _ _ hp))⟩, fun Dl hD => ?_⟩
  have C2 := ((C1.pop.alloc (o := .lst []) (sh := .lst) (xs := []) (ds := []) hD rfl upd_same rfl (fun j x d h => by simp at h)).wipe (ns := [nn]) hw).base
  refine lc_list (xs := xs) (fun t H => ∃ F ρ' acc, Cov X.K (B.at F1) F H (wipe σ [nn]) ρ' (τ ++ [(.ref Dl, .ml acc)]) ∧ I ds t ρ' acc ∧ isFrs acc = true) ⟨F1, ρw, [], C2, h0, rfl⟩ (fun t H _ ⟨F2, ρ', acc, C3, w, fa⟩ => .inl (.inl (C3.fh _ _ (C3.f0 _ _ hp)))) ?_ ?_
  · rintro t x H hx ⟨F2, ρ', acc, C3, w, fa⟩
    have ht := (List.getElem?_eq_some_iff.mp hx).1
    obtain ⟨y, hy⟩ : ∃ y, ds[t]? = some y := ⟨_, List.getElem?_eq_some_iff.mpr ⟨by rw [← r.1]; exact ht, rfl⟩⟩
    obtain ⟨hz', ρ2, bb, ρ3, g, hi, h1, h2⟩ := hs ds t y ρ' acc hy w
    obtain ⟨q1, q2⟩ := lc_name (p1 := p) (scope := scope) (own := [(x', nn)]) G rfl g hN hl
    exact lc_turn (own := [(x', nn)]) (tg := .Name x' p) (ifs := ifs) (elt := elt) (I' := I ds (t + 1)) C3 ((r.2 t x y hx hy).mono C3.f0) (Nat.lt_of_le_of_lt hz' (Nat.lt_of_lt_of_le (by rw [r.1] at ht; omega : t < 1000000) (by decide))) fa ⟨ρ2, bb, ρ3, q1, hi, q2, h1, h2⟩ fun F H ρ' acc C q fa => ⟨F, ρ', acc, C, q, fa⟩
  · rintro H ⟨F2, ρ', acc, C3, w, fa⟩
    exact k _ _ _ F2 H (hd ds ρ' acc (by rw [← r.1]; exact w)) (C3.unbase C1.f0).back

theorem lcR_ {QQ : D → Rho → Prop} {a : Expr} {x' : Str} {nn : Nat} (G : Gx X kk) (hown : own = [(x', nn)]) (hm : X.mg "range" = none) (ha : DA X ρ [a] [.int i] ρ1) (hn : 0 ≤ i ∧ i < 1000000) (hw : Wp ρ1 [nn] ρw) (I : Nat → Rho → List D → Prop) (h0 : I 0 ρw [])
    (hs : ∀ (t : Nat) ρ' acc, (t : Int) < i → I t ρ' acc → acc.length ≤ t ∧ ∃ ρ2 bb ρ3, St ρ' nn (.v (.int t)) ρ2 ∧ Blk X scope (fun Y => DI Y ρ2 ifs bb ρ3) ∧
      (bb = true → ∃ y ρ4 ρ5, Blk X scope (fun Y => DX Y ρ3 elt y ρ4) ∧ isFr y = true ∧ Wp ρ4 [nn] ρ5 ∧ I (t + 1) ρ5 (acc ++ [y])) ∧ (bb = false → ∃ ρ5, Wp ρ3 [nn] ρ5 ∧ I (t + 1) ρ5 acc))
    (hd : ∀ ρ' acc, I i.toNat ρ' acc → QQ (.ml acc) ρ') (hN : X.N[nn]? = some x' := by rfl) (hl : scope.names.lookup x' = some .local := by rfl)
    (hg : Gl X "range" := by rfl) (hst : starEach [a] X.env = [(false, eval a X.env)] := by rfl) (_u : True := trivial) :
    LCJ X scope own (.Name x' p) (.Call (.Name "range" p1) [a] [] p2) ifs elt ρ QQ := by
  subst hown
  refine ⟨_, pi_range1 hg hm paS hst, fun B F H σ τ Q C k => ?_⟩
  refine ha B F H σ τ _ C fun vs F1 H1 C1 r => ?_
  obtain ⟨v, rfl, hv⟩ := r.one
  rw [rep_int hv]
  refine ⟨i, rfl, by omega, by omega, fun Dl hD => ?_⟩
  have C2 := (C1.alloc (o := .lst []) (sh := .lst) (xs := []) (ds := []) hD rfl upd_same rfl (fun j x d h => by simp at h)).wipe (ns := [nn]) hw
  refine lc_range (lo := 0) (n := i.toNat) (fun t H => ∃ F ρ' acc, Cov X.K B F H (wipe σ [nn]) ρ' (τ ++ [(.ref Dl, .ml acc)]) ∧ I t ρ' acc ∧ isFrs acc = true) ⟨F1, ρw, [], C2, h0, rfl⟩ ?_ ?_
  · rintro t H ht ⟨F2, ρ', acc, C3, w, fa⟩
    obtain ⟨hz, ρ2, bb, ρ3, g, hi, h1, h2⟩ := hs t ρ' acc (by omega) w
    have e0 : (0 : Int) + (t : Int) = (t : Int) := by omega
    rw [e0]
    obtain ⟨q1, q2⟩ := lc_name (p1 := p) (scope := scope) (own := [(x', nn)]) G rfl g hN hl
    exact lc_turn (own := [(x', nn)]) (tg := .Name x' p) (ifs := ifs) (elt := elt) (I' := I (t + 1)) C3 (.int _) (Nat.lt_of_le_of_lt hz (Nat.lt_of_lt_of_le (by omega : t < 1000000) (by decide))) fa ⟨ρ2, bb, ρ3, q1, hi, q2, h1, h2⟩ fun F H ρ' acc C q fa => ⟨F, ρ', acc, C, q, fa⟩
  · rintro H ⟨F2, ρ', acc, C3, w, fa⟩
    exact k _ _ _ F2 H (hd ρ' acc w) C3.back
end
end DL
namespace DL
open PySem L2 Evl
/-- a text by its signs -/
def sx (l : List Nat) : Str := ⟨l.toArray⟩
theorem sx_len (l : List Nat) : (sx l).length = l.length := by simp [sx, Str.length]
theorem sx_cps (l : List Nat) : (sx l).cps.toList = l := by simp [sx]
theorem sx_inj {l r : List Nat} (h : sx l = sx r) : l = r := by rw [← sx_cps l, h, sx_cps]
theorem sx_app (l r : List Nat) : sx l ++ sx r = sx (l ++ r) := by
  show Str.append (sx l) (sx r) = _
  simp [sx, Str.append]
theorem sx_cut (l : List Nat) (lo hi : Option Int) : cutS (sx l) lo hi = sx (cutD l lo hi) := by
  unfold cutS cutD
  rw [sx_cps, sx_len]
  rfl
section
variable {X : Cx} {ρ ρ1 ρ2 ρ3 : Rho} {e a b c iter : Expr} {es : List Expr} {sts body orelse : List Stmt} {d d1 d2 x y z : D} {ds zs : List D} {k : DK} {n m : Nat} {i j : Int} {pos p1 p2 p : Pos} {kk : Nat} {as : List Ag} {s u w : Str} {l r : List Nat} {ch : Nat}
theorem sIx_nat (n d b : Nat) : HT.sIx n d (some (b : Int)) = min b n := by
  show (if (b : Int) < 0 then ((b : Int) + (n : Int)).toNat else min (b : Int).toNat n) = _
  rw [if_neg (by omega), Int.toNat_natCast]
theorem cutD_nat {α : Type} (l : List α) {a b : Nat} (hab : a ≤ b) (hb : b ≤ l.length) : cutD l (some (a : Int)) (some (b : Int)) = (l.drop a).take (b - a) := by
  unfold cutD
  rw [sIx_nat, sIx_nat, Nat.min_eq_left hb, Nat.min_eq_left (by omega)]
theorem cutD_to {α : Type} (l : List α) (b : Nat) : cutD l none (some (b : Int)) = l.take b := by
  unfold cutD
  rw [sIx_nat]
  show List.take (min b l.length - 0) (List.drop 0 l) = _
  rw [Nat.sub_zero, List.drop_zero]
  rcases Nat.le_total b l.length with h | h
  · rw [Nat.min_eq_left h]
  · rw [Nat.min_eq_right h, List.take_length, List.take_of_length_le h]
theorem cutD_from {α : Type} (l : List α) (a : Nat) : cutD l (some (a : Int)) none = l.drop a := by
  unfold cutD
  rw [sIx_nat]
  show List.take (l.length - min a l.length) (List.drop (min a l.length) l) = _
  rcases Nat.le_total a l.length with h | h
  · rw [Nat.min_eq_left h, List.take_of_length_le (by simp)]
  · rw [Nat.min_eq_right h, List.drop_length, List.drop_eq_nil_of_le h, List.take_nil]
/-- s[a:b] of a text -/
theorem dx_slS {lo hi : Option Expr} {ol oh : Option Int} (ha : DX X ρ a (.str (sx l)) ρ1) (hlo : DP X ρ1 lo ol ρ2) (hhi : DP X ρ2 hi oh ρ3) (hl : l.length ≤ sizeLine) : DX X ρ (.Subscript a (.Slice lo hi none p2) pos) (.str (sx (cutD l ol oh))) ρ3 := fun B F H σ τ Q C k =>
  sE_of (pe_slice sl_str peS poS poS) (ha B F H σ τ _ C fun v F1 H1 C1 => hlo B F1 H1 σ _ _ C1 fun F2 H2 C2 => hhi B F2 H2 σ _ _ C2 fun F3 H3 C3 => by
    rw [rep_str (C3.rep rfl)]
    refine ⟨sx l, rfl, by rw [sx_len]; exact hl, ?_⟩
    rw [sx_cut]
    exact k _ F3 H3 (C3.pop.push (.str _)))
theorem dx_ixSx (ha : DX X ρ a (.str (sx l)) ρ1) (hb : DX X ρ1 b (.int i) ρ2) (h : atI l i = some ch) (hl : l.length ≤ sizeLine) (hs : PlainIx b := by intro _ _; rfl) : DX X ρ (.Subscript a b pos) (.str (sx [ch])) ρ2 :=
  dx_ixS ha hb (by rw [sx_cps]; exact h) (by rw [sx_len]; exact hl) hs
theorem dx_addSx (ha : DX X ρ a (.str (sx l)) ρ1) (hb : DX X ρ1 b (.str (sx r)) ρ2) (hc : l.length + r.length ≤ sizeLine) : DX X ρ (.BinOp a .Add b pos) (.str (sx (l ++ r))) ρ2 :=
  (dx_adds ha hb (by rw [sx_len, sx_len]; exact hc)).to (by rw [sx_app])
/-- a sign in a text -/
theorem dx_inS (ha : DX X ρ a (.str (sx [ch])) ρ1) (hb : DX X ρ1 b (.str (sx l)) ρ2) (hm : behindInMarks .In b = false := by rfl) : DX X ρ (.Compare a [.In] [b] pos) (.bl (decide (ch ∈ l))) ρ2 :=
  dx_op (t := sE X a) ha hb rfl rfl (pe_cmpR op_in_sign peS peS hm) fun F H v u Q r1 r2 e k => ⟨ch, sx l, rep_str r1, rep_str r2, by rw [sx_cps]; exact k _ (.bl _)⟩
theorem dx_ninS (ha : DX X ρ a (.str (sx [ch])) ρ1) (hb : DX X ρ1 b (.str (sx l)) ρ2) (hm : behindInMarks .NotIn b = false := by rfl) : DX X ρ (.Compare a [.NotIn] [b] pos) (.bl (!decide (ch ∈ l))) ρ2 :=
  dx_op (t := sE X a) ha hb rfl rfl (pe_cmpR op_notIn_sign peS peS hm) fun F H v u Q r1 r2 e k => ⟨ch, sx l, rep_str r1, rep_str r2, by rw [sx_cps]; exact k _ (.bl _)⟩
theorem dt_inS (ha : DX X ρ a (.str (sx [ch])) ρ1) (hb : DX X ρ1 b (.str (sx l)) ρ2) (hm : behindInMarks .In b = false := by rfl) : DT X ρ (.Compare a [.In] [b] pos) (decide (ch ∈ l)) ρ2 :=
  dt_op op_in_sign ha hb rfl rfl hm fun F H v u Q r1 r2 e k => ⟨ch, sx l, rep_str r1, rep_str r2, by rw [sx_cps]; exact k⟩
theorem dt_ninS (ha : DX X ρ a (.str (sx [ch])) ρ1) (hb : DX X ρ1 b (.str (sx l)) ρ2) (hm : behindInMarks .NotIn b = false := by rfl) : DT X ρ (.Compare a [.NotIn] [b] pos) (!decide (ch ∈ l)) ρ2 :=
  dt_op op_notIn_sign ha hb rfl rfl hm fun F H v u Q r1 r2 e k => ⟨ch, sx l, rep_str r1, rep_str r2, by rw [sx_cps]; exact k⟩
/-- x in a list or tuple of plain things -/
def flD : D → Option V
  | .non => some .non | .bl b => some (.bl b) | .int i => some (.int i) | .str s => some (.str s)
  | _ => none
def flDs : List D → Option (List V)
  | [] => some []
  | d :: r => (flD d).bind fun v => (flDs r).map (v :: ·)
theorem flD_rep {K : PySem.W.Frag} {F : Hp} {v v' : V} (r : Rep K F v x) (h : flD x = some v') : v = v' ∧ flatV v = true ∧ isFr x = true := by
  cases r <;> simp [flD] at h <;> subst h <;> exact ⟨rfl, rfl, rfl⟩
theorem flDs_rep {K : PySem.W.Frag} {F : Hp} : ∀ {ds : List D} {vs vs' : List V}, Reps K F vs ds → flDs ds = some vs' → vs = vs' ∧ vs.all flatV = true ∧ isFrs ds = true
  | [], vs, vs', r, h => by simp [flDs] at h; subst h; rw [r.unnil]; exact ⟨rfl, rfl, rfl⟩
  | d :: ds, vs, vs', r, h => by
    obtain ⟨v, us, rfl, h1, h2⟩ := r.uncons
    simp only [flDs] at h
    cases e : flD d with
    | none => rw [e] at h; cases h
    | some w =>
      rw [e] at h
      cases e2 : flDs ds with
      | none => rw [e2] at h; cases h
      | some ws =>
        rw [e2] at h
        cases h
        obtain ⟨q1, q2, q3⟩ := flD_rep h1 e
        obtain ⟨q4, q5, q6⟩ := flDs_rep h2 e2
        subst q1 q4
        exact ⟨rfl, by simp [q2, q5], by simp [isFrs, q3, q6]⟩
theorem flD_fr {v : V} (h : flD x = some v) : isFr x = true := by cases x <;> simp [flD] at h <;> rfl
theorem flDs_fr : ∀ {ds : List D} {vs : List V}, flDs ds = some vs → isFrs ds = true
  | [], _, _ => rfl
  | d :: r, vs, h => by
    simp only [flDs] at h
    cases e : flD d with
    | none => rw [e] at h; cases h
    | some w =>
      rw [e] at h
      cases e2 : flDs r with
      | none => rw [e2] at h; cases h
      | some ws => simp [isFrs, flD_fr e, flDs_fr e2]
theorem seq_sub {K : PySem.W.Frag} {F H : Hp} {v : V} {sh : Sh} (e : Ex F H) (h : Rep K F v (.nd false sh ds)) (hs : sh = .lst ∨ sh = .tup ∨ sh = .sq) : ∃ p xs, v = .ref p ∧ (SqL K H p xs ∨ SqT K H p xs) ∧ Reps K F xs ds := by
  rcases hs with hs | rfl | hs
  · obtain ⟨p, xs, h1, h2, h3⟩ := rep_seq h (.inl hs); exact ⟨p, xs, h1, .inl (ex_l e h2), h3⟩
  · obtain ⟨p, xs, h1, h2, h3⟩ := rep_tup h; exact ⟨p, xs, h1, .inr (ex_t e h2), h3⟩
  · obtain ⟨p, xs, h1, h2, h3⟩ := rep_seq h (.inr hs); exact ⟨p, xs, h1, .inl (ex_l e h2), h3⟩
theorem dt_inL {sh : Sh} {v : V} {vs : List V} (ha : DX X ρ a x ρ1) (hb : DX X ρ1 b (.nd false sh ds) ρ2) (hx : flD x = some v) (hd : flDs ds = some vs) (hs : sh = .lst ∨ sh = .tup ∨ sh = .sq := by simp) (hm : behindInMarks .In b = false := by rfl) : DT X ρ (.Compare a [.In] [b] pos) (inV v vs) ρ2 :=
  dt_op op_in_seq ha hb (flD_fr hx) (by simp [isFr, flDs_fr hd]) hm fun F H v' u Q r1 r2 e k => by
    obtain ⟨p, xs, rfl, h1, h2⟩ := seq_sub e r2 hs
    obtain ⟨rfl, f1, _⟩ := flD_rep r1 hx
    obtain ⟨rfl, f2, _⟩ := flDs_rep h2 hd
    exact ⟨p, xs, rfl, h1, f1, f2, k⟩
theorem dt_ninL {sh : Sh} {v : V} {vs : List V} (ha : DX X ρ a x ρ1) (hb : DX X ρ1 b (.nd false sh ds) ρ2) (hx : flD x = some v) (hd : flDs ds = some vs) (hs : sh = .lst ∨ sh = .tup ∨ sh = .sq := by simp) (hm : behindInMarks .NotIn b = false := by rfl) : DT X ρ (.Compare a [.NotIn] [b] pos) (!inV v vs) ρ2 :=
  dt_op op_notIn_seq ha hb (flD_fr hx) (by simp [isFr, flDs_fr hd]) hm fun F H v' u Q r1 r2 e k => by
    obtain ⟨p, xs, rfl, h1, h2⟩ := seq_sub e r2 hs
    obtain ⟨rfl, f1, _⟩ := flD_rep r1 hx
    obtain ⟨rfl, f2, _⟩ := flDs_rep h2 hd
    exact ⟨p, xs, rfl, h1, f1, f2, k⟩
/-- int(text), str(int), all(list of truth values) -/
theorem dx_intS {i : Int} (hm : X.mg "int" = none) (h : DX X ρ e (.str s) ρ1) (hn : intText? s = some i) (hl : s.length ≤ 640) (hg : Gl X "int" := by rfl) (he : starEach [e] X.env = (false, eval e X.env) :: starEach [] X.env := by rfl) (hpl : (backTo pos (starEach [] X.env)).any (·.1) = false := by rfl) :
    DX X ρ (.Call (.Name "int" p) [e] [] pos) (.int i) ρ1 :=
  dx_ct call_int_str hm (by decide +kernel) (da_one h rfl he) (fun B F H σ τ vs Q C r k => by
    obtain ⟨v, rfl, hv⟩ := r.one
    rw [rep_str hv]
    exact ⟨s, i, rfl, hn, hl, k _ F H (C.push (.int _))⟩) hg (by decide) (by decide) he hpl
theorem dx_strI (hm : X.mg "str" = none) (h : DX X ρ e (.int i) ρ1) (hl : i.natAbs.log2 < 1920) (hg : Gl X "str" := by rfl) (he : starEach [e] X.env = (false, eval e X.env) :: starEach [] X.env := by rfl) (hpl : (backTo pos (starEach [] X.env)).any (·.1) = false := by rfl) :
    DX X ρ (.Call (.Name "str" p) [e] [] pos) (.str (Str.ofString (toString i))) ρ1 :=
  dx_ct call_str_int hm (by decide +kernel) (da_one h rfl he) (fun B F H σ τ vs Q C r k => by
    obtain ⟨v, rfl, hv⟩ := r.one
    rw [rep_int hv]
    exact ⟨i, rfl, hl, k _ F H (C.push (.str _))⟩) hg (by decide) (by decide) he hpl
theorem reps_bl {K : PySem.W.Frag} {F : Hp} : ∀ {bs : List Bool} {vs : List V}, Reps K F vs (bs.map D.bl) → vs = bs.map V.bl
  | [], vs, r => by rw [r.unnil]; rfl
  | b :: bs, vs, r => by
    obtain ⟨v, us, rfl, h1, h2⟩ := r.uncons
    rw [rep_bl h1, reps_bl h2]
    rfl
theorem dx_all {bs : List Bool} (G : Gx X kk) (hm : X.mg "all" = none) (h : DX X ρ e (.lst (bs.map D.bl)) ρ1) (hg : Gl X "all" := by rfl) (he : starEach [e] X.env = (false, eval e X.env) :: starEach [] X.env := by rfl) (hpl : (backTo pos (starEach [] X.env)).any (·.1) = false := by rfl) :
    DX X ρ (.Call (.Name "all" p) [e] [] pos) (.bl (bs.all id)) ρ1 :=
  dx_cb (cr_all G.calm) hm (by decide +kernel) (da_one h (by simp [isFr]; exact isFrs_map bs fun _ => rfl) he) (fun B F H σ τ vs Q C r k => by
    obtain ⟨v, rfl, hv⟩ := r.one
    obtain ⟨q, xs, rfl, h1, r1⟩ := rep_seq hv (.inl rfl)
    rw [reps_bl r1] at h1
    exact ⟨q, bs, rfl, ex_l C.fh h1, k _ F H (C.push (.bl _))⟩) hg (by decide) (by decide) he hpl
/-- s.index(t) where t is found -/
theorem dx_indexS {apos cpos : Pos} (G : Gx X kk) (ha : DX X ρ a (.str u) ρ1) (hb : DX X ρ1 b (.str w) ρ2) (hi : Txt.index0 u w = some n)
    (hb1 : attributeBase a "index" X.env (eval a X.env) = eval a X.env := by rfl)
    (hfew : ((backTo cpos (starEach [b] X.env)).all (fun x => !x.1) && (backToKw cpos (keywordEach [] X.env)).all (fun x => x.1.isSome)
      && decide (([b] : List Expr).length + ([] : List Keyword).length + (if ([] : List Keyword).isEmpty then 0 else 1) < 30)) = true := by rfl)
    (hline : (apos.endLine == cpos.line) = true := by rfl) (hst : starEach [b] X.env = (false, eval b X.env) :: starEach [] X.env := by rfl) (hplain : (backTo cpos (starEach [] X.env)).any (·.1) = false := by rfl) :
    DX X ρ (.Call (.Attribute a "index" apos) [b] [] cpos) (.int (n : Int)) ρ2 := fun B F H σ τ Q C k =>
  sE_of (pe_bmS PySem.F.plainAttrs_str PySem.F.slot_str_index PySem.F.type_str_index (mt_indexX (W := fun _ _ _ _ => False) G.calm (fun u s' h => by obtain ⟨_, _, _, _, _, _, _, _, _, _, _, _, _, _, _, _, hF⟩ := h; exact hF.elim)) peS (pa_cons peS pa_nil hst) hb1 hfew hline hst hplain) (ha B F H σ τ _ C fun v F1 H1 C1 => by
    rw [rep_str (C1.rep rfl)]
    refine ⟨rfl, hb B F1 H1 σ _ _ C1 fun v2 F2 H2 C2 => ?_⟩
    rw [rep_str (C2.rep rfl)]
    refine ⟨u, w, rfl, rfl, fun k' hk => ?_, fun hk => by rw [hi] at hk; cases hk⟩
    rw [hi] at hk
    cases hk
    exact k _ F2 H2 (C2.pop2.push (.int _)))
end
end DL
namespace DL
open PySem L2 Evl
section
variable {X : Cx} {ρ ρ1 ρ2 ρ3 ρw : Rho} {e a b c elt iter : Expr} {es ifs : List Expr} {sts body : List Stmt} {d x y : D} {ds ds' : List D} {k : DK} {i j : Int} {n m : Nat} {pos p1 p2 p : Pos} {kk : Nat} {s : Str} {scope : Scope} {own : List (Str × Nat)} {tg : Expr} {l : List Nat}
/-- [.. for c in text] -/
theorem lcS_ {QQ : D → Rho → Prop} {x' : Str} {nn : Nat} (G : Gx X kk) (hown : own = [(x', nn)]) (he : DX X ρ iter (.str (sx l)) ρ1) (hz : l.length < 1000000) (hw : Wp ρ1 [nn] ρw) (I : Nat → Rho → List D → Prop) (h0 : I 0 ρw [])
    (hs : ∀ (t : Nat) ch ρ' acc, l[t]? = some ch → I t ρ' acc → acc.length ≤ t ∧ ∃ ρ2 bb ρ3, St ρ' nn (.v (.str (sx [ch]))) ρ2 ∧ Blk X scope (fun Y => DI Y ρ2 ifs bb ρ3) ∧
      (bb = true → ∃ y ρ4 ρ5, Blk X scope (fun Y => DX Y ρ3 elt y ρ4) ∧ isFr y = true ∧ Wp ρ4 [nn] ρ5 ∧ I (t + 1) ρ5 (acc ++ [y])) ∧ (bb = false → ∃ ρ5, Wp ρ3 [nn] ρ5 ∧ I (t + 1) ρ5 acc))
    (hd : ∀ ρ' acc, I l.length ρ' acc → QQ (.ml acc) ρ') (hN : X.N[nn]? = some x' := by rfl) (hl : scope.names.lookup x' = some .local := by rfl) :
    LCJ X scope own (.Name x' p) iter ifs elt ρ QQ := by
  subst hown
  refine ⟨_, pi_str peS, fun B F H σ τ Q C k => ?_⟩
  refine he B F H σ τ _ C fun v F1 H1 C1 => ?_
  refine ⟨sx l, rep_str (C1.rep rfl), fun Dl hD => ?_⟩
  have C2 := (C1.pop.alloc (o := .lst []) (sh := .lst) (xs := []) (ds := []) hD rfl upd_same rfl (fun j x d h => by simp at h)).wipe (ns := [nn]) hw
  have hsz : (sx l).cps.size = l.length := by simp [sx]
  refine ⟨fun t m H => m = l.length - t ∧ t ≤ l.length ∧ ∃ F ρ' acc, Cov X.K B F H (wipe σ [nn]) ρ' (τ ++ [(.ref Dl, .ml acc)]) ∧ I t ρ' acc ∧ isFrs acc = true, ⟨l.length, by simp, Nat.zero_le _, F1, ρw, [], C2, h0, rfl⟩, ?_⟩
  rintro t m H ⟨rfl, ht, F2, ρ', acc, C3, w, fa⟩
  by_cases hlt : t < l.length
  · refine .inr ⟨by show t < (sx l).cps.size; rw [hsz]; exact hlt, fun H' => ∃ F ρ' acc, Cov X.K B F H' (wipe σ [nn]) ρ' (τ ++ [(.ref Dl, .ml acc)]) ∧ I (t + 1) ρ' acc ∧ isFrs acc = true, fun H' q => ⟨l.length - (t + 1), by omega, rfl, hlt, q⟩, fun x H' y => ?_⟩
    obtain ⟨rfl, c, hc, rfl⟩ := y
    have hc : l[t]? = some c := by simpa [sx] using hc
    obtain ⟨hz', ρ2, bb, ρ3, g, hi, h1, h2⟩ := hs t c ρ' acc hc w
    obtain ⟨q1, q2⟩ := lc_name (p1 := p) (scope := scope) (own := [(x', nn)]) G rfl g hN hl
    exact lc_turn (own := [(x', nn)]) (tg := .Name x' p) (ifs := ifs) (elt := elt) (I' := I (t + 1)) C3 (.str (sx [c])) (Nat.lt_of_le_of_lt hz' (Nat.lt_of_lt_of_le (by omega : t < 1000000) (by decide))) fa ⟨ρ2, bb, ρ3, q1, hi, q2, h1, h2⟩ fun F H ρ' acc C q fa => ⟨F, ρ', acc, C, q, fa⟩
  · have et : t = l.length := by omega
    subst et
    exact .inl ⟨by show (sx l).cps.size ≤ _; rw [hsz]; exact Nat.le_refl _, k _ _ _ F2 H (hd ρ' acc w) C3.back⟩
/-- an expression that a comprehension is, told outright -/
theorem LCJ.dx (h : LCJ X scope own tg iter ifs elt ρ fun d' ρ' => d' = d ∧ ρ' = ρ1) (G : Gx X kk) (hb : blkC X.N X.env.scope scope own = true := by rfl) (hs : ∀ x, foldedSetIterable iter X.env x = pure x := by intro _; rfl) : DX X ρ (.ListComp elt [⟨tg, iter, ifs, 0⟩] scope pos) d ρ1 := dxr_of (h.dxr G hb hs)
/-- for c in text, the text by its signs -/
theorem forSx_ {tg : Expr} (G : Gx X kk) (he : DX X ρ e (.str (sx l)) ρ1) (I : Nat → Rho → Prop) (h0 : I 0 ρ1)
    (hs : ∀ (t : Nat) c ρ', l[t]? = some c → I t ρ' → ∃ ρ'', DG X ρ' tg (.str (sx [c])) ρ'' ∧ DS X ρ'' body { k with nx := I (t + 1), ct := I (t + 1), bk := k.nx }) (hd : ∀ ρ', I l.length ρ' → k.nx ρ')
    (hfs : ∀ x, foldedSetIterable e X.env x = pure x := by intro _; rfl) : D1 X ρ (.For tg e body [] pos) k :=
  d1_forS G he I h0 (fun t c ρ' hc => hs t c ρ' (by simpa [sx] using hc)) (fun ρ' q => hd ρ' (by simpa [sx] using q)) hfs
theorem dx_strx {q} (h : s = sx l) : DX X ρ (.Constant (.str s) q pos) (.str (sx l)) ρ := (dx_str).to (by rw [h])
theorem dx_lenx (hm : X.mg "len" = none) (h : DX X ρ e (.str (sx l)) ρ1) (hs : l.length ≤ sizeLine) (hg : Gl X "len" := by rfl) (he : starEach [e] X.env = (false, eval e X.env) :: starEach [] X.env := by rfl) (hpl : (backTo pos (starEach [] X.env)).any (·.1) = false := by rfl) :
    DX X ρ (.Call (.Name "len" p) [e] [] pos) (.int l.length) ρ1 := by
  have := dx_len (p := p) (pos := pos) hm h (n := l.length) (by simp [lenD, sx_len]) rfl (by intro s e; cases e; rw [sx_len]; exact hs) hg he hpl
  exact this
end
end DL
namespace DL
open PySem L2 Evl
section
variable {X : Cx} {ρ ρ1 ρ2 ρ3 ρw : Rho} {e a b c elt iter : Expr} {es ifs : List Expr} {sts body : List Stmt} {d x y : D} {ds ds' : List D} {k : DK} {i j : Int} {n m : Nat} {pos p1 p2 p : Pos} {kk : Nat} {s u w : Str} {scope : Scope} {own : List (Str × Nat)} {tg : Expr} {l r : List Nat}
theorem op_mul_str {X : Cx} : OpR X (binaryOp Operator.Mult) fun x y H Q => ∃ i n, x = V.str i ∧ y = V.int n ∧ MulOk i n ∧ Q (V.str (Txt.mul i n)) H := fun pins s σ H x y v u Q I rx ry h => by
  obtain ⟨i, n, rfl, rfl, ok, q⟩ := h
  obtain ⟨t, rfl⟩ := rx
  obtain ⟨t', rfl⟩ := ry
  exact PySem.SB.mul ok fun t'' k => ⟨V.str (Txt.mul i n), H, Inv.tok I k, ⟨t'', rfl⟩, q⟩
theorem dx_mulS (ha : DX X ρ a (.str s) ρ1) (hb : DX X ρ1 b (.int i) ρ2) (ok : MulOk s i) : DX X ρ (.BinOp a .Mult b pos) (.str (Txt.mul s i)) ρ2 :=
  dx_op (t := sE X a) ha hb rfl rfl (pe_op op_mul_str peS peS) fun F H v u Q r1 r2 e k => ⟨s, i, rep_str r1, rep_int r2, ok, k _ (.str _)⟩
/-- s.partition(t) -/
theorem dx_partS {apos cpos : Pos} (ha : DX X ρ a (.str s) ρ1) (hb : DX X ρ1 b (.str w) ρ2) (hw : (w.length == 0) = false) (hl : s.length ≤ sizeLine)
    (hst : starEach [b] X.env = [(false, eval b X.env)] := by rfl) (hb1 : attributeBase a "partition" X.env (eval a X.env) = eval a X.env := by rfl) (hline : (apos.endLine == cpos.line) = true := by rfl) :
    DX X ρ (.Call (.Attribute a "partition" apos) [b] [] cpos) (.tup [.str (Txt.partition s w).1, .str (Txt.partition s w).2.1, .str (Txt.partition s w).2.2]) ρ2 := fun B F H σ τ Q C k =>
  sE_of (pe_partition peS peS hst hb1 hline) (ha B F H σ τ _ C fun v F1 H1 C1 => by
    rw [rep_str (C1.rep rfl)]
    refine ⟨⟨s, rfl⟩, hb B F1 H1 σ _ _ C1 fun v2 F2 H2 C2 => ?_⟩
    rw [rep_str (C2.rep rfl)]
    refine ⟨s, w, rfl, rfl, hw, hl, fun p hp => k _ _ _ ((C2.pop2.laid (o := .tup [.str (Txt.partition s w).1, .str (Txt.partition s w).2.1, .str (Txt.partition s w).2.2]) hp).push (.nd (.inl (.inl upd_same)) rfl fun j v d h1 h2 => ?_))⟩
    match j with
    | 0 => cases h1; cases h2; exact .str _
    | 1 => cases h1; cases h2; exact .str _
    | 2 => cases h1; cases h2; exact .str _
    | j + 3 => cases h1)
/-- s.startswith(t) -/
theorem dx_startsS {apos cpos : Pos} (ha : DX X ρ a (.str s) ρ1) (hb : DX X ρ1 b (.str w) ρ2)
    (hst : starEach [b] X.env = [(false, eval b X.env)] := by rfl) (hb1 : attributeBase a "startswith" X.env (eval a X.env) = eval a X.env := by rfl) (hline : (apos.endLine == cpos.line) = true := by rfl) :
    DX X ρ (.Call (.Attribute a "startswith" apos) [b] [] cpos) (.bl (Txt.startswith s w)) ρ2 := fun B F H σ τ Q C k =>
  sE_of (pe_m1 PySem.F.slot_str_startswith PySem.F.type_str_startswith mt_startswith peS peS hst hb1 hline) (ha B F H σ τ _ C fun v F1 H1 C1 => by
    rw [rep_str (C1.rep rfl)]
    refine ⟨⟨s, rfl⟩, hb B F1 H1 σ _ _ C1 fun v2 F2 H2 C2 => ?_⟩
    rw [rep_str (C2.rep rfl)]
    exact ⟨s, w, rfl, rfl, k _ F2 H2 (C2.pop2.push (.bl _))⟩)
/-! texts by their signs -/
theorem sx_eta (s : Str) : s = sx s.cps.toList := by simp [sx]
theorem starts_one (l : List Nat) (c : Nat) : Txt.startswith (sx l) (sx [c]) = decide (l[0]? = some c) := by
  have h := StrLaws.subAt_one (sx l) c 0
  unfold Txt.startswith
  rw [Bool.eq_iff_iff]
  simp only [Bool.and_eq_true, decide_eq_true_eq]
  rw [sx_cps] at h
  exact h
theorem index_one {l : List Nat} {c i : Nat} (h : l[i]? = some c) (h2 : ∀ j, j < i → ¬ l[j]? = some c) : Txt.index0 (sx l) (sx [c]) = some i := by
  unfold Txt.index0
  rcases StrLaws.occ_head (sx l) (sx [c]) 1 (Nat.le_refl 1) with ⟨_, q⟩ | ⟨i', r', q1, q2, q3⟩
  · exact absurd ((StrLaws.subAt_one (sx l) c i).mpr (by rw [sx_cps]; exact h)) (q i)
  · rw [q1]
    have a1 := (StrLaws.subAt_one (sx l) c i').mp q2
    rw [sx_cps] at a1
    rcases Nat.lt_trichotomy i i' with z | z | z
    · exact absurd ((StrLaws.subAt_one (sx l) c i).mpr (by rw [sx_cps]; exact h)) (q3 i z)
    · subst z; rfl
    · exact absurd a1 (h2 i' z)
theorem tl_sx (l : List Nat) : TL.tl (sx l) = l := by simp [TL.tl, sx]
theorem part_app {p q : List Nat} {c : Nat} (h : ¬ c ∈ p) : Txt.partition (sx (p ++ c :: q)) (sx [c]) = (sx p, sx [c], sx q) := by
  have := TL.partition_app (y := sx [c]) (s := c) (S := []) (tl_sx [c]) (a := sx p) (b := sx q) (by rw [tl_sx]; exact h)
  rw [sx_app, sx_app] at this
  simpa using this
theorem part_none {p : List Nat} {c : Nat} (h : ¬ c ∈ p) : Txt.partition (sx p) (sx [c]) = (sx p, sx [], sx []) := by
  have := TL.partition_none (y := sx [c]) (s := c) (S := []) (tl_sx [c]) (a := sx p) (by rw [tl_sx]; exact h)
  rw [this]
  rfl
end
end DL
namespace DL
open PySem L2 Evl
section
variable {X : Cx} {ρ ρ1 ρ2 : Rho} {e a b : Expr} {pos : Pos} {l r : List Nat} {QQ : D → Rho → Prop}
/-! texts put together, an answer that is not told outright among them -/
theorem dxr_add1 (ha : DX X ρ a (.str (sx l)) ρ1) (hb : DXR X ρ1 b fun d ρ' => ∃ r, d = .str (sx r) ∧ l.length + r.length ≤ sizeLine ∧ QQ (.str (sx (l ++ r))) ρ') : DXR X ρ (.BinOp a .Add b pos) QQ := fun B F H σ τ Q C k =>
  sE_of (pe_op op_add_str peS peS) (ha B F H σ τ _ C fun v F1 H1 C1 => hb B F1 H1 σ _ _ C1 fun u d ρ' F2 H2 q C2 => by
    obtain ⟨r, rfl, hc, q⟩ := q
    refine ⟨sx l, sx r, rep_str (C2.pop.rep rfl), rep_str (C2.rep rfl), by rw [sx_len, sx_len]; exact hc, ?_⟩
    rw [sx_app]
    exact k _ _ _ F2 H2 q (C2.pop2.push (.str _)))
theorem dxr_add2 (ha : DXR X ρ a fun d ρ1 => ∃ l r ρ2, d = .str (sx l) ∧ DX X ρ1 b (.str (sx r)) ρ2 ∧ l.length + r.length ≤ sizeLine ∧ QQ (.str (sx (l ++ r))) ρ2) : DXR X ρ (.BinOp a .Add b pos) QQ := fun B F H σ τ Q C k =>
  sE_of (pe_op op_add_str peS peS) (ha B F H σ τ _ C fun v d ρ1 F1 H1 q C1 => by
    obtain ⟨l, r, ρ2, rfl, hb, hc, q⟩ := q
    refine hb B F1 H1 σ _ _ C1 fun u F2 H2 C2 => ?_
    refine ⟨sx l, sx r, rep_str (C2.pop.rep rfl), rep_str (C2.rep rfl), by rw [sx_len, sx_len]; exact hc, ?_⟩
    rw [sx_app]
    exact k _ _ _ F2 H2 q (C2.pop2.push (.str _)))
end
end DL
namespace Tm
open PySem L2 DL
local macro_rules | `(tactic| walk_at "n") => `(tactic| (first | exact ⟨rfl, .inl rfl, rfl, rfl⟩ | exact ⟨rfl, .inr (.inl rfl), rfl, rfl⟩ | exact ⟨rfl, .inr (.inr rfl), rfl, rfl⟩))
local macro_rules | `(tactic| walk_at "nl") => `(tactic| (first | exact ⟨⟨rfl, .inl rfl, rfl, rfl⟩, .inl rfl, .inl rfl⟩ | exact ⟨⟨rfl, .inr (.inl rfl), rfl, rfl⟩, .inr rfl, .inl rfl⟩))
local macro_rules | `(tactic| walk_at "st") => `(tactic| (first | exact .z | exact .s (.z) | exact .s (.s (.z)) | exact .s (.s (.s (.z))) | exact .s (.s (.s (.s (.z)))) | exact .s (.s (.s (.s (.s (.z))))) | exact .s (.s (.s (.s (.s (.s (.z)))))) | exact .s (.s (.s (.s (.s (.s (.s (.z))))))) | exact .s (.s (.s (.s (.s (.s (.s (.s (.z)))))))) | exact .s (.s (.s (.s (.s (.s (.s (.s (.s (.z))))))))) | exact .s (.s (.s (.s (.s (.s (.s (.s (.s (.s (.z)))))))))) | exact .s (.s (.s (.s (.s (.s (.s (.s (.s (.s (.s (.z))))))))))) | exact .s (.s (.s (.s (.s (.s (.s (.s (.s (.s (.s (.s (.z)))))))))))) | exact .s (.s (.s (.s (.s (.s (.s (.s (.s (.s (.s (.s (.s (.z))))))))))))) | exact .s (.s (.s (.s (.s (.s (.s (.s (.s (.s (.s (.s (.s (.s (.z)))))))))))))) | exact .s (.s (.s (.s (.s (.s (.s (.s (.s (.s (.s (.s (.s (.s (.s (.z))))))))))))))) | exact .s (.s (.s (.s (.s (.s (.s (.s (.s (.s (.s (.s (.s (.s (.s (.s (.z)))))))))))))))) | exact .s (.s (.s (.s (.s (.s (.s (.s (.s (.s (.s (.s (.s (.s (.s (.s (.s (.z))))))))))))))))) | exact .s (.s (.s (.s (.s (.s (.s (.s (.s (.s (.s (.s (.s (.s (.s (.s (.s (.s (.z)))))))))))))))))) | exact .s (.s (.s (.s (.s (.s (.s (.s (.s (.s (.s (.s (.s (.s (.s (.s (.s (.s (.s (.z))))))))))))))))))) | exact .s (.s (.s (.s (.s (.s (.s (.s (.s (.s (.s (.s (.s (.s (.s (.s (.s (.s (.s (.s (.z)))))))))))))))))))) | exact .s (.s (.s (.s (.s (.s (.s (.s (.s (.s (.s (.s (.s (.s (.s (.s (.s (.s (.s (.s (.s (.z)))))))))))))))))))))))
local macro_rules | `(tactic| walk_at "up") => `(tactic| (first | exact .v | exact .p | exact .s (.v) | exact .s (.p) | exact .s (.s (.v)) | exact .s (.s (.p)) | exact .s (.s (.s (.v))) | exact .s (.s (.s (.p))) | exact .s (.s (.s (.s (.v)))) | exact .s (.s (.s (.s (.p)))) | exact .s (.s (.s (.s (.s (.v))))) | exact .s (.s (.s (.s (.s (.p))))) | exact .s (.s (.s (.s (.s (.s (.v)))))) | exact .s (.s (.s (.s (.s (.s (.s (.v))))))) | exact .s (.s (.s (.s (.s (.s (.s (.s (.v)))))))) | exact .s (.s (.s (.s (.s (.s (.s (.s (.s (.v))))))))) | exact .s (.s (.s (.s (.s (.s (.s (.s (.s (.s (.v)))))))))) | exact .s (.s (.s (.s (.s (.s (.s (.s (.s (.s (.s (.v))))))))))) | exact .s (.s (.s (.s (.s (.s (.s (.s (.s (.s (.s (.s (.v)))))))))))) | exact .s (.s (.s (.s (.s (.s (.s (.s (.s (.s (.s (.s (.s (.v))))))))))))) | exact .s (.s (.s (.s (.s (.s (.s (.s (.s (.s (.s (.s (.s (.s (.v)))))))))))))) | exact .s (.s (.s (.s (.s (.s (.s (.s (.s (.s (.s (.s (.s (.s (.s (.v)))))))))))))))))
local macro_rules | `(tactic| walk_at "g") => `(tactic| exact ⟨rfl, rfl⟩)
local macro_rules | `(tactic| walk_at "fr") => `(tactic| (first | rfl | assumption | exact frs_ints _ | exact fr_scr _ | exact isFrs_map _ fun _ => rfl | (simp [isFr, isFrs, *]; done)))
local macro_rules | `(tactic| walk_at "mul") => `(tactic| (first | exact .inr ⟨by decide, by decide⟩ | exact .inl ⟨by decide, by decide⟩ | exact .inl ⟨by omega, by omega⟩ | exact .inr ⟨by omega, by omega⟩))
local macro_rules | `(tactic| walk_at "pos") => `(tactic| (first | decide | omega))
local macro_rules | `(tactic| walk_at "div") => `(tactic| (first | exact ⟨by decide, by decide⟩))
local macro_rules | `(tactic| walk_at "rng") => `(tactic| (first | decide | omega | (simp; omega)))
local macro_rules | `(tactic| walk_at "pre") => `(tactic| (first | trivial | assumption | omega | (refine ⟨?_, ?_⟩ <;> omega)))
def top (i : Nat) : Stmt := PySem.Challenge.pw_tablemates_k03_number_texts_are_read.main.body.getD i (.Pass ⟨0, 0, 0, 0⟩)
abbrev intL (l : List Int) : List D := l.map D.int
abbrev scr (ns : List Int) : D := .nd false .sq (ns.map D.int)
theorem frs_ints : ∀ ns : List Int, isFrs (ns.map D.int) = true
  | [] => rfl
  | n :: r => by simp [isFrs, isFr, frs_ints r]
theorem fr_scr (ns : List Int) : isFr (scr ns) = true := by simp [isFr, frs_ints]
section
variable {P : Program} {w : World} {K : PySem.W.Frag} {mg : Str → Option Value} {base : Heap}
abbrev sFraction : Stmt := top 2
abbrev NFraction : List Str := ["n", "d", "common"]
theorem scFraction : FnScope NFraction ["n", "d"] (defScope sFraction) := ⟨rfl, rfl, rfl, by decide +kernel, rfl, by decide +kernel, by decide +kernel⟩
def frN (n d : Int) : Int := if d < 0 then -n else n
def frD (d : Int) : Int := if d < 0 then -d else d
def frG (n d : Int) : Nat := Nat.gcd (frN n d).natAbs (frD d).natAbs
abbrev frac (n d : Int) : D := .tup [.int (frN n d / (frG n d : Int)), .int (frD d / (frG n d : Int))]
theorem log2_le {n b : Nat} (h : n < 2 ^ b) : n.log2 ≤ b := by
  by_cases e : n = 0
  · subst e; simp
  · have := (Nat.log2_lt e).mpr h; omega
theorem frG_pos {n d : Int} (h : d ≠ 0) : 0 < frG n d := Nat.gcd_pos_of_pos_right _ (by unfold frD; split <;> omega)
theorem frG_le {n d : Int} (h : d ≠ 0) : frG n d ≤ d.natAbs := by
  have := Nat.gcd_le_right (n := (frD d).natAbs) (frN n d).natAbs (by unfold frD; split <;> omega)
  unfold frG
  have e : (frD d).natAbs = d.natAbs := by unfold frD; split <;> omega
  omega
abbrev PhFraction : Phi := Fx (α := Int × Int) (fun a => [.int a.1, .int a.2]) (fun a => a.2 ≠ 0 ∧ a.2.natAbs < 2 ^ 8000) (fun a => frac a.1 a.2) (fun a => [.int a.1, .int a.2])
theorem cal_fraction (T : Top K mg "fraction" sFraction ["n", "d"]) (zGcd : mg "gcd" = some (.builtin "math.gcd")) : Cal P w K mg base 1 "fraction" PhFraction := by
  refine T.cal (k := 0) scFraction [false, false] rfl (by decide) (fun ds kk h => ?_) (fun f cdv A outer s H E G ds kk h => ?_)
  · obtain ⟨⟨n, d⟩, rfl, _⟩ := h
    exact ⟨rfl, fun i d q q2 => by
      match i, q, q2 with
      | 0, _, q2 => cases q2; rfl
      | 1, _, q2 => cases q2; rfl⟩
  · obtain ⟨⟨n, d⟩, rfl, ⟨hd, hs⟩, h⟩ := h
    have hd : d ≠ 0 := hd
    have hs : d.natAbs < 2 ^ 8000 := hs
    have h : kk (frac n d) [.int n, .int d] := h
    show DS _ [.v (.int n), .v (.int d), .no] _ _
    have n0 : Nl (cxOf CX0 P w K mg base NFraction "fraction" (defScope sFraction) f cdv A outer s H E).nox 0 "n" := by walk_at "nl"
    have n1 : Nl (cxOf CX0 P w K mg base NFraction "fraction" (defScope sFraction) f cdv A outer s H E).nox 1 "d" := by walk_at "nl"
    have n2 : Nl (cxOf CX0 P w K mg base NFraction "fraction" (defScope sFraction) f cdv A outer s H E).nox 2 "common" := by walk_at "nl"
    refine ds_mid (fun ρ => ρ = [.v (.int (frN n d)), .v (.int (frD d)), .no]) (d1_if (dt_cmp (vx 1 n1.toNm rfl rfl) dx_int rfl) (fun hb => ?_) (fun hb => ?_)) (fun ρ e => ?_)
    · have hb := of_decide_eq_true hb
      refine ds_cons (set_ G 0 n0 (dx_neg (vx 0 n0.toNm rfl rfl)) (by walk_at "st") ?_ rfl)
      refine ds_cons (set_ G 1 n1 (dx_neg (vx 1 n1.toNm rfl rfl)) (by walk_at "st") (ds_nil ?_) rfl)
      simp [frN, frD, hb]
    · have hb := of_decide_eq_false hb
      refine ds_nil ?_
      simp [frN, frD, hb]
    subst e
    refine ds_cons (set_ G 2 n2 (d := .int (frG n d : Int)) (dx_gcd zGcd (vx 0 n0.toNm rfl rfl) (vx 1 n1.toNm rfl rfl)) (by walk_at "st") ?_ rfl)
    have hg := frG_pos (n := n) hd
    have hg2 := frG_le (n := n) hd
    have hc : ∀ i : Int, CDivW i (frG n d : Int) := fun i => ⟨by omega, by
      have := log2_le (n := frG n d) (b := 8000) (by omega)
      show (frG n d).log2 < 9000
      omega⟩
    exact ds_cons (d1_ret (dx_tup (hl := by simp) (da_cons (dx_fdivW (vx 0 n0.toNm rfl rfl) (vx 2 n2.toNm rfl rfl) (hc _)) (da_cons (dx_fdivW (vx 1 n1.toNm rfl rfl) (vx 2 n2.toNm rfl rfl) (hc _)) da_nil))) ⟨_, (.v (.v .nil)), h⟩)
theorem frac_ok {n d : Int} (hd : d ≠ 0) : 1 ≤ frD d / (frG n d : Int) ∧ frN n d / (frG n d : Int) * d = n * (frD d / (frG n d : Int)) ∧ Nat.gcd (frN n d / (frG n d : Int)).natAbs (frD d / (frG n d : Int)).natAbs = 1 ∧ (frN n d / (frG n d : Int)).natAbs ≤ n.natAbs ∧ (frD d / (frG n d : Int)).natAbs ≤ d.natAbs := by
  have hg := frG_pos (n := n) hd
  have d1 : (frG n d : Int) ∣ frN n d := Int.ofNat_dvd_left.mpr (Nat.gcd_dvd_left _ _)
  have d2 : (frG n d : Int) ∣ frD d := Int.ofNat_dvd_left.mpr (Nat.gcd_dvd_right _ _)
  have hD : 0 < frD d := by unfold frD; split <;> omega
  obtain ⟨u, hu⟩ := d2
  obtain ⟨o, ho⟩ := d1
  have hgz : (frG n d : Int) ≠ 0 := by omega
  have e1 : frN n d / (frG n d : Int) = o := by rw [ho]; exact Int.mul_ediv_cancel_left _ hgz
  have e2 : frD d / (frG n d : Int) = u := by rw [hu]; exact Int.mul_ediv_cancel_left _ hgz
  rw [e1, e2]
  have hupos : 1 ≤ u := by
    rcases Int.lt_or_le 0 u with q | q
    · exact q
    · exfalso
      have : (frG n d : Int) * u ≤ 0 := Int.mul_nonpos_of_nonneg_of_nonpos (by omega) q
      omega
  have aN : (frN n d).natAbs = n.natAbs := by unfold frN; split <;> omega
  have aD : (frD d).natAbs = d.natAbs := by unfold frD; split <;> omega
  have mN : (frN n d).natAbs = frG n d * o.natAbs := by rw [ho, Int.natAbs_mul]; rfl
  have mD : (frD d).natAbs = frG n d * u.natAbs := by rw [hu, Int.natAbs_mul]; rfl
  refine ⟨hupos, ?_, ?_, ?_, ?_⟩
  · have key : frN n d * d = n * frD d := by unfold frN frD; split <;> first | rfl | rw [Int.neg_mul, Int.mul_neg]
    rw [ho, hu] at key
    have k2 : (frG n d : Int) * (o * d) = (frG n d : Int) * (n * u) := by rw [← Int.mul_assoc, key, ← Int.mul_assoc, Int.mul_comm n, Int.mul_assoc]
    exact Int.eq_of_mul_eq_mul_left hgz k2
  · have : frG n d = Nat.gcd (frG n d * o.natAbs) (frG n d * u.natAbs) := by rw [← mN, ← mD]; rfl
    rw [Nat.gcd_mul_left] at this
    exact Nat.eq_of_mul_eq_mul_left hg (by rw [← this, Nat.mul_one])
  · rw [← aN, mN]; exact Nat.le_mul_of_pos_left _ hg
  · rw [← aD, mD]; exact Nat.le_mul_of_pos_left _ hg

theorem mulW_of {i j : Int} {b : Nat} (hi : i.natAbs < 2 ^ b) (hj : j.natAbs < 2 ^ b) (hb : b + b < 1000000) : CMulW i j := by
  have h1 := log2_le hi
  have h2 := log2_le hj
  show i.natAbs.log2 + j.natAbs.log2 < 1000000
  omega
/-- the greatest common divisor by rests: as many turns as are needed -/
theorem turn_ok {x y B : Nat} (h1 : y < x) (h2 : x * y < 2 ^ (B + 1)) (h3 : y ≠ 0) : x % y < y ∧ y * (x % y) < 2 ^ B := by
  have h := Nat.mod_lt x (Nat.pos_of_ne_zero h3)
  refine ⟨h, ?_⟩
  have e := Nat.div_add_mod x y
  have q : 1 ≤ x / y := (Nat.one_le_div_iff (Nat.pos_of_ne_zero h3)).mpr (Nat.le_of_lt h1)
  have e2 : y + x % y ≤ x := by
    have : y * 1 ≤ y * (x / y) := Nat.mul_le_mul_left y q
    omega
  have e3 : (x % y) * 2 ≤ x := by omega
  have e4 : y * ((x % y) * 2) ≤ y * x := Nat.mul_le_mul_left y e3
  rw [Nat.pow_succ] at h2
  rw [Nat.mul_comm x y] at h2
  have e5 : y * ((x % y) * 2) = (y * (x % y)) * 2 := by rw [Nat.mul_assoc]
  omega
abbrev sLawGcd : Stmt := top 14
abbrev NLawGcd : List Str := ["_law_a", "_law_b", "_law_turn", "_law_rest"]
theorem scLawGcd : FnScope NLawGcd ["_law_a", "_law_b"] (defScope sLawGcd) := ⟨rfl, rfl, rfl, by decide +kernel, rfl, by decide +kernel, by decide +kernel⟩
abbrev PhLawGcd : Phi := Fx (α := Int × Int) (fun a => [.int a.1, .int a.2]) (fun a => a.1.natAbs < 2 ^ 400 ∧ a.2.natAbs < 2 ^ 400) (fun a => .int ((Nat.gcd a.1.natAbs a.2.natAbs : Nat) : Int)) (fun a => [.int a.1, .int a.2])
theorem cal_law_gcd (T : Top K mg "_law_gcd" sLawGcd ["_law_a", "_law_b"]) (zAbs : mg "abs" = none) (zInt : mg "int" = none) (zRange : mg "range" = none) : Cal P w K mg base 1 "_law_gcd" PhLawGcd := by
  refine T.cal (k := 0) scLawGcd [false, false] rfl (by decide) (fun ds kk h => ?_) (fun f cdv A outer s H E G ds kk h => ?_)
  · obtain ⟨⟨a, b⟩, rfl, _⟩ := h
    exact ⟨rfl, fun i d q q2 => by
      match i, q, q2 with
      | 0, _, q2 => cases q2; rfl
      | 1, _, q2 => cases q2; rfl⟩
  · obtain ⟨⟨a, b⟩, rfl, hp, h⟩ := h
    have hp : a.natAbs < 2 ^ 400 ∧ b.natAbs < 2 ^ 400 := hp
    have h : kk (.int ((Nat.gcd a.natAbs b.natAbs : Nat) : Int)) [.int a, .int b] := h
    show DS _ [.v (.int a), .v (.int b), .no, .no] _ _
    have n0 : Nl (cxOf CX0 P w K mg base NLawGcd "_law_gcd" (defScope sLawGcd) f cdv A outer s H E).nox 0 "_law_a" := by walk_at "nl"
    have n1 : Nl (cxOf CX0 P w K mg base NLawGcd "_law_gcd" (defScope sLawGcd) f cdv A outer s H E).nox 1 "_law_b" := by walk_at "nl"
    have n2 : Nl (cxOf CX0 P w K mg base NLawGcd "_law_gcd" (defScope sLawGcd) f cdv A outer s H E).nox 2 "_law_turn" := by walk_at "nl"
    have n3 : Nl (cxOf CX0 P w K mg base NLawGcd "_law_gcd" (defScope sLawGcd) f cdv A outer s H E).nox 3 "_law_rest" := by walk_at "nl"
    have ret : ∀ (x : Nat) (s1 s2 s3 : Sl), x = Nat.gcd a.natAbs b.natAbs → DS (cxOf CX0 P w K mg base NLawGcd "_law_gcd" (defScope sLawGcd) f cdv A outer s H E).nox [.v (.int x), s1, s2, s3] ((defBody sLawGcd).drop 3) (kfn [false, false] [.int a, .int b] kk) := fun x s1 s2 s3 e => by
      subst e
      exact ds_cons (d1_ret (vx 0 n0.toNm rfl rfl) ⟨_, (.v (.v .nil)), h⟩)
    have ab : ∀ i : Int, D.int (if i < 0 then -i else i) = .int ((i.natAbs : Nat) : Int) := fun i => by
      congr 1
      split <;> omega
    refine ds_cons (set_ G 0 n0 ((dx_abs zAbs (vx 0 n0.toNm rfl rfl)).to (ab a)) (by walk_at "st") ?_ rfl)
    refine ds_cons (set_ G 1 n1 ((dx_abs zAbs (vx 1 n1.toNm rfl rfl)).to (ab b)) (by walk_at "st") ?_ rfl)
    refine ds_cons (d1_forR1 G zRange (da_one dx_int) (by decide) (fun t ρ => ∃ (x y : Nat) (s2 s3 : Sl), ρ = [.v (.int x), .v (.int y), s2, s3] ∧ Nat.gcd x y = Nat.gcd a.natAbs b.natAbs ∧ (t = 0 → x < 2 ^ 400 ∧ y < 2 ^ 400) ∧ (1 ≤ t → y < x ∧ x * y < 2 ^ (801 - t))) ⟨_, _, _, _, rfl, rfl, fun _ => hp, fun q => by omega⟩ (fun t ρ ht hI => ?_) (fun ρ hI => ?_))
    · obtain ⟨x, y, s2, s3, rfl, hg, h0, h1⟩ := hI
      refine ⟨_, gname G 2 n2 (by walk_at "st"), ?_⟩
      refine ds_cons (d1_if (dt_cmp (vx 1 n1.toNm rfl rfl) dx_int rfl) (fun hb => ?_) (fun hb => ?_))
      · have hb := of_decide_eq_true hb
        have hy : y = 0 := by omega
        subst hy
        exact ds_cons (d1_brk (ret x _ _ _ (by rw [← hg, Nat.gcd_zero_right])))
      · have hb := of_decide_eq_false hb
        have hy : y ≠ 0 := by omega
        refine ds_nil ?_
        refine ds_cons (set_ G 3 n3 (d := .int ((x % y : Nat) : Int)) (DX.to (dx_mod (i := x) (j := y) (dx_int1 zInt (vx 0 n0.toNm rfl rfl)) (vx 1 n1.toNm rfl rfl) (by omega)) rfl) (by walk_at "st") ?_ rfl)
        refine ds_cons (set_ G 0 n0 (vx 1 n1.toNm rfl rfl) (by walk_at "st") ?_ rfl)
        refine ds_cons (set_ G 1 n1 (vx 3 n3.toNm rfl rfl) (by walk_at "st") ?_ rfl)
        refine ds_nil ⟨y, x % y, _, _, rfl, ?_, fun q => by omega, fun _ => ?_⟩
        · rw [← hg, Nat.gcd_comm x y, Nat.gcd_rec y x, Nat.gcd_comm]
        · cases t with
          | zero =>
            obtain ⟨a1, a2⟩ := h0 rfl
            have q := Nat.mod_lt x (Nat.pos_of_ne_zero hy)
            refine ⟨q, ?_⟩
            have : y * (x % y) < 2 ^ 400 * 2 ^ 400 := Nat.mul_lt_mul'' a2 (by omega)
            rw [← Nat.pow_add] at this
            exact this
          | succ t =>
            obtain ⟨a1, a2⟩ := h1 (by omega)
            by_cases hbig : t ≤ 799
            · have e : 801 - (t + 1) = (801 - (t + 1 + 1)) + 1 := by omega
              rw [e] at a2
              exact turn_ok (B := 801 - (t + 1 + 1)) a1 a2 hy
            · exfalso
              have e : 801 - (t + 1) = 0 := by omega
              rw [e] at a2
              have : x * y < 1 := a2
              have : 1 * 1 ≤ x * y := Nat.mul_le_mul (by omega) (by omega)
              omega
    · obtain ⟨x, y, s2, s3, rfl, hg, h0, h1⟩ := hI
      obtain ⟨a1, a2⟩ := h1 (by decide)
      have a2 : x * y < 1 := a2
      have hy : y = 0 := by
        cases y with
        | zero => rfl
        | succ y =>
          have : 1 * 1 ≤ x * (y + 1) := Nat.mul_le_mul (by omega) (by omega)
          omega
      subst hy
      exact ret x _ _ _ (by rw [← hg, Nat.gcd_zero_right])

abbrev sLawCell : Stmt := top 11
abbrev NLawCell : List Str := ["_law_script", "_law_k"]
theorem scLawCell : FnScope NLawCell ["_law_script", "_law_k"] (defScope sLawCell) := ⟨rfl, rfl, rfl, by decide +kernel, rfl, by decide +kernel, by decide +kernel⟩
def cellF (ns : List Int) (k : Int) : Int := ns.getD k.toNat 0
abbrev PhLawCell : Phi := Fx (α := List Int × Int) (fun (ns, k) => [scr ns, .int k]) (fun (ns, k) => 0 ≤ k) (fun (ns, k) => .int (cellF ns k)) (fun (ns, k) => [scr ns, .int k])
theorem cal_law_cell (T : Top K mg "_law_cell" sLawCell ["_law_script", "_law_k"]) (hl : mg "len" = none) : Cal P w K mg base 1 "_law_cell" PhLawCell := by
  refine T.cal (k := 0) scLawCell [false, false] rfl (by decide) (fun ds kk h => ?_) (fun f cdv A outer s H E G ds kk h => ?_)
  · obtain ⟨⟨ns, k⟩, rfl, _⟩ := h
    exact ⟨rfl, fun i d q q2 => by
      match i, q, q2 with
      | 0, _, q2 => cases q2; exact fr_scr ns
      | 1, _, q2 => cases q2; rfl⟩
  · obtain ⟨⟨ns, k⟩, rfl, h0, h⟩ := h
    have h0 : 0 ≤ k := h0
    have n0 : Nm (cxOf CX0 P w K mg base NLawCell "_law_cell" (defScope sLawCell) f cdv A outer s H E).nox 0 "_law_script" := by walk_at "n"
    have n1 : Nm (cxOf CX0 P w K mg base NLawCell "_law_cell" (defScope sLawCell) f cdv A outer s H E).nox 1 "_law_k" := by walk_at "n"
    refine ds_cons (d1_if (dt_lt (vx 1 n1 rfl rfl) (dx_len hl (vx 0 n0 rfl (fr_scr ns)) rfl (fr_scr ns))) (fun hb => ?_) (fun hb => ?_))
    · have hb := of_decide_eq_true hb
      simp at hb
      have hk : k.toNat < ns.length := by omega
      refine ds_cons (d1_ret (dx_ixQ (d := .int (cellF ns k)) (vx 0 n0 rfl (fr_scr ns)) (vx 1 n1 rfl rfl) ?_ (frs_ints ns)) ⟨_, .v (.v .nil), h⟩)
      unfold atI ixN cellF
      rw [if_pos h0]
      simp [hb, hk]
    · have hb := of_decide_eq_false hb
      simp at hb
      refine ds_nil (ds_cons (d1_ret dx_int ⟨_, .v (.v .nil), ?_⟩))
      have : cellF ns k = 0 := by
        unfold cellF
        rw [List.getD_eq_getElem?_getD, List.getElem?_eq_none (by omega)]; rfl
      have h : kk (.int (cellF ns k)) [scr ns, .int k] := h
      rw [this] at h
      exact h
abbrev sLawSame : Stmt := top 16
abbrev NLawSame : List Str := ["_law_actual", "_law_due", "_law_k"]
theorem scLawSame : FnScope NLawSame ["_law_actual", "_law_due"] (defScope sLawSame) := ⟨rfl, rfl, rfl, by decide +kernel, rfl, by decide +kernel, by decide +kernel⟩
abbrev PhLawSame (n : Nat) : Phi := Fx (α := D) (fun x => [x, x]) (fun x => sameOk x = true ∧ dpD x ≤ n) (fun _ => .bl true) (fun x => [x, x])
structure Isi (mg : Str → Option Value) : Prop where
  zi : mg "isinstance" = none
  zl : mg "list" = none
  zt : mg "tuple" = none
  zb : mg "bool" = none
  zs : mg "str" = none
  zn : mg "int" = none
theorem cal_law_same_at (T : Top K mg "_law_same" sLawSame ["_law_actual", "_law_due"]) (Z : Isi mg) (zLen : mg "len" = none) (zRange : mg "range" = none) (n : Nat) (IH : ∀ m, n = m + 1 → Cal P w K mg base n "_law_same" (PhLawSame m)) : Cal P w K mg base (n + 1) "_law_same" (PhLawSame n) := by
  refine T.cal (k := n) scLawSame [false, false] rfl (by decide) (fun ds kk h => ?_) (fun f cdv A outer s H E G ds kk h => ?_)
  · obtain ⟨x, rfl, ⟨hx, _⟩, _⟩ := h
    exact ⟨rfl, fun i d q q2 => by
      match i, q, q2 with
      | 0, _, q2 => cases q2; exact pyOk_fr (sameOk_py hx)
      | 1, _, q2 => cases q2; exact pyOk_fr (sameOk_py hx)⟩
  · obtain ⟨x, rfl, ⟨hx, hd⟩, h⟩ := h
    have h : kk (.bl true) [x, x] := h
    have n0 : Nm (cxOf CX0 P w K mg base NLawSame "_law_same" (defScope sLawSame) f cdv A outer s H E).nox 0 "_law_actual" := by walk_at "n"
    have n1 : Nm (cxOf CX0 P w K mg base NLawSame "_law_same" (defScope sLawSame) f cdv A outer s H E).nox 1 "_law_due" := by walk_at "n"
    have n2 : Nl (cxOf CX0 P w K mg base NLawSame "_law_same" (defScope sLawSame) f cdv A outer s H E).nox 2 "_law_k" := by walk_at "nl"
    show DS _ [.v x, .v x, .no] _ _
    have fx : isFr x = true := pyOk_fr (sameOk_py hx)
    cases x with
    | non =>
      refine ds_cons (d1_if (DW.t (dw_or (dt_val (dx_isi (bb := false) Z.zi Z.zl (vx 1 n1 rfl rfl) rfl rfl bt_list (by decide +kernel))) (fun _ => (dw_or1 (dt_val (dx_isi (bb := false) Z.zi Z.zt (vx 1 n1 rfl rfl) rfl rfl bt_tuple (by decide +kernel))))))) (fun hb => by simp at hb) (fun hb => ds_nil ?_))
      exact ds_cons (d1_if (dt_isN (vx 1 n1 rfl rfl)) (fun _ => ds_cons (d1_ret (dx_isN (vx 0 n0 rfl rfl)) ⟨_, (.v (.v .nil)), h⟩)) (fun hb => by cases hb))
    | bl b =>
      refine ds_cons (d1_if (DW.t (dw_or (dt_val (dx_isi (bb := false) Z.zi Z.zl (vx 1 n1 rfl rfl) rfl rfl bt_list (by decide +kernel))) (fun _ => (dw_or1 (dt_val (dx_isi (bb := false) Z.zi Z.zt (vx 1 n1 rfl rfl) rfl rfl bt_tuple (by decide +kernel))))))) (fun hb => by simp at hb) (fun hb => ds_nil ?_))
      refine ds_cons (d1_if (dt_isN (vx 1 n1 rfl rfl)) (fun hb => by cases hb) (fun hb => ds_nil ?_))
      refine ds_cons (d1_if (dt_val (dx_isi (bb := true) Z.zi Z.zb (vx 1 n1 rfl rfl) rfl rfl bt_bool (by decide +kernel))) (fun hb => ?_) (fun hb => by cases hb))
      exact ds_cons (d1_ret (DX.to (d1 := .bl true) (dx_and (dx_isi (bb := true) Z.zi Z.zb (vx 0 n0 rfl rfl) rfl rfl bt_bool (by decide +kernel)) (fun _ => (dx_one (dx_cmp (vx 0 n0 rfl rfl) (vx 1 n1 rfl rfl) rfl)))) (by simp [eqD])) ⟨_, (.v (.v .nil)), h⟩)
    | int i =>
      refine ds_cons (d1_if (DW.t (dw_or (dt_val (dx_isi (bb := false) Z.zi Z.zl (vx 1 n1 rfl rfl) rfl rfl bt_list (by decide +kernel))) (fun _ => (dw_or1 (dt_val (dx_isi (bb := false) Z.zi Z.zt (vx 1 n1 rfl rfl) rfl rfl bt_tuple (by decide +kernel))))))) (fun hb => by simp at hb) (fun hb => ds_nil ?_))
      refine ds_cons (d1_if (dt_isN (vx 1 n1 rfl rfl)) (fun hb => by cases hb) (fun hb => ds_nil ?_))
      refine ds_cons (d1_if (dt_val (dx_isi (bb := false) Z.zi Z.zb (vx 1 n1 rfl rfl) rfl rfl bt_bool (by decide +kernel))) (fun hb => by cases hb) (fun hb => ds_nil ?_))
      refine ds_cons (d1_if (dt_val (dx_isi (bb := false) Z.zi Z.zs (vx 1 n1 rfl rfl) rfl rfl bt_str (by decide +kernel))) (fun hb => by cases hb) (fun hb => ds_nil ?_))
      exact ds_cons (d1_ret (DX.to (d1 := .bl true) (dx_and (dx_isi (bb := true) Z.zi Z.zn (vx 0 n0 rfl rfl) rfl rfl bt_int (by decide +kernel)) (fun _ => (dx_and (dx_not (dx_isi (bb := false) Z.zi Z.zb (vx 0 n0 rfl rfl) rfl rfl bt_bool (by decide +kernel))) (fun _ => (dx_one (dx_cmp (vx 0 n0 rfl rfl) (vx 1 n1 rfl rfl) rfl)))))) (by simp)) ⟨_, (.v (.v .nil)), h⟩)
    | str u =>
      refine ds_cons (d1_if (DW.t (dw_or (dt_val (dx_isi (bb := false) Z.zi Z.zl (vx 1 n1 rfl rfl) rfl rfl bt_list (by decide +kernel))) (fun _ => (dw_or1 (dt_val (dx_isi (bb := false) Z.zi Z.zt (vx 1 n1 rfl rfl) rfl rfl bt_tuple (by decide +kernel))))))) (fun hb => by simp at hb) (fun hb => ds_nil ?_))
      refine ds_cons (d1_if (dt_isN (vx 1 n1 rfl rfl)) (fun hb => by cases hb) (fun hb => ds_nil ?_))
      refine ds_cons (d1_if (dt_val (dx_isi (bb := false) Z.zi Z.zb (vx 1 n1 rfl rfl) rfl rfl bt_bool (by decide +kernel))) (fun hb => by cases hb) (fun hb => ds_nil ?_))
      refine ds_cons (d1_if (dt_val (dx_isi (bb := true) Z.zi Z.zs (vx 1 n1 rfl rfl) rfl rfl bt_str (by decide +kernel))) (fun hb => ?_) (fun hb => by cases hb))
      exact ds_cons (d1_ret (DX.to (d1 := .bl true) (dx_and (dx_isi (bb := true) Z.zi Z.zs (vx 0 n0 rfl rfl) rfl rfl bt_str (by decide +kernel)) (fun _ => (dx_one (dx_cmp (vx 0 n0 rfl rfl) (vx 1 n1 rfl rfl) rfl)))) (by simp)) ⟨_, (.v (.v .nil)), h⟩)
    | adr a => simp [sameOk] at hx
    | ty a => simp [sameOk] at hx
    | hol a => simp [sameOk] at hx
    | nd m sh ds =>
      cases m with
      | true => simp [isFr] at fx
      | false =>
        have fs : isFrs ds = true := by simpa [isFr] using fx
        have hlt : ds.length < 1000000 := by cases sh <;> simp [sameOk] at hx <;> omega
        obtain ⟨m, rfl⟩ : ∃ m, n = m + 1 := by simp [dpD] at hd; exact ⟨n - 1, by omega⟩
        have C1 := IH m rfl
        have hy : ∀ (t : Nat) y, ds[t]? = some y → sameOk y = true ∧ dpD y ≤ m ∧ isFr y = true := fun t y q => sameOk_get (sh := sh) hx (by simpa [dpD] using hd) q
        cases sh with
        | tup =>
          refine ds_cons (d1_if (DW.t (dw_or (dt_val (dx_isi (bb := false) Z.zi Z.zl (vx 1 n1 rfl fx) fx rfl bt_list (by decide +kernel))) (fun _ => (dw_or1 (dt_val (dx_isi (bb := true) Z.zi Z.zt (vx 1 n1 rfl fx) fx rfl bt_tuple (by decide +kernel))))))) (fun hb => ?_) (fun hb => by simp at hb))
          refine ds_cons (d1_if (DW.t (dw_or (dt_cmp (dx_isi (bb := false) Z.zi Z.zl (vx 1 n1 rfl fx) fx rfl bt_list (by decide +kernel)) (dx_isi (bb := false) Z.zi Z.zl (vx 0 n0 rfl fx) fx rfl bt_list (by decide +kernel)) rfl) (fun _ => (dw_or1 (dt_cmp (dx_isi (bb := true) Z.zi Z.zt (vx 1 n1 rfl fx) fx rfl bt_tuple (by decide +kernel)) (dx_isi (bb := true) Z.zi Z.zt (vx 0 n0 rfl fx) fx rfl bt_tuple (by decide +kernel)) rfl))))) (fun hb => by simp [eqD] at hb) (fun hb => ds_nil ?_))
          refine ds_cons (d1_if (dt_cmp (dx_len zLen (vx 0 n0 rfl fx) rfl fx) (dx_len zLen (vx 1 n1 rfl fx) rfl fx) rfl) (fun hb => by simp at hb) (fun hb => ds_nil ?_))
          refine ds_cons (d1_forR1 G zRange (da_one (dx_len zLen (vx 1 n1 rfl fx) rfl fx)) (by omega) (fun t ρ => ∃ s, ρ = [.v (.nd false .tup ds), .v (.nd false .tup ds), s]) ⟨_, rfl⟩ (fun t ρ ht ⟨s, e⟩ => ?_) (fun ρ ⟨s, e⟩ => ?_))
          · subst e
            obtain ⟨y, q⟩ : ∃ y, ds[t]? = some y := ⟨_, List.getElem?_eq_some_iff.mpr ⟨by simpa using ht, rfl⟩⟩
            obtain ⟨y1, y2, y3⟩ := hy t y q
            refine ⟨_, gname G 2 n2 (by walk_at "st"), ?_⟩
            refine ds_cons (d1_if (dt_not (dt_val (call_ G C1 (Nat.le_refl _) (by walk_at "g") y (dl_val (dx_ixT (vx 0 n0 rfl fx) (vx 2 n2.toNm rfl rfl) (atN_ q) fs) (dl_val (dx_ixT (vx 1 n1 rfl fx) (vx 2 n2.toNm rfl rfl) (atN_ q) fs) dl_nil y3) y3) rfl ⟨y1, y2⟩ (.v (.v .nil)) (.v (.v .nil))))) (fun hb => by cases hb) (fun hb => ds_nil (ds_nil ⟨_, rfl⟩)))
          · subst e
            exact ds_cons (d1_ret dx_bl ⟨_, (.v (.v .nil)), h⟩)
        | lst =>
          refine ds_cons (d1_if (DW.t (dw_or (b2 := false) (dt_val (dx_isi (bb := true) Z.zi Z.zl (vx 1 n1 rfl fx) fx rfl bt_list (by decide +kernel))) (fun hb => by cases hb))) (fun hb => ?_) (fun hb => by simp at hb))
          refine ds_cons (d1_if (DW.t (dw_or (dt_cmp (dx_isi (bb := true) Z.zi Z.zl (vx 1 n1 rfl fx) fx rfl bt_list (by decide +kernel)) (dx_isi (bb := true) Z.zi Z.zl (vx 0 n0 rfl fx) fx rfl bt_list (by decide +kernel)) rfl) (fun _ => (dw_or1 (dt_cmp (dx_isi (bb := false) Z.zi Z.zt (vx 1 n1 rfl fx) fx rfl bt_tuple (by decide +kernel)) (dx_isi (bb := false) Z.zi Z.zt (vx 0 n0 rfl fx) fx rfl bt_tuple (by decide +kernel)) rfl))))) (fun hb => by simp [eqD] at hb) (fun hb => ds_nil ?_))
          refine ds_cons (d1_if (dt_cmp (dx_len zLen (vx 0 n0 rfl fx) rfl fx) (dx_len zLen (vx 1 n1 rfl fx) rfl fx) rfl) (fun hb => by simp at hb) (fun hb => ds_nil ?_))
          refine ds_cons (d1_forR1 G zRange (da_one (dx_len zLen (vx 1 n1 rfl fx) rfl fx)) (by omega) (fun t ρ => ∃ s, ρ = [.v (.nd false .lst ds), .v (.nd false .lst ds), s]) ⟨_, rfl⟩ (fun t ρ ht ⟨s, e⟩ => ?_) (fun ρ ⟨s, e⟩ => ?_))
          · subst e
            obtain ⟨y, q⟩ : ∃ y, ds[t]? = some y := ⟨_, List.getElem?_eq_some_iff.mpr ⟨by simpa using ht, rfl⟩⟩
            obtain ⟨y1, y2, y3⟩ := hy t y q
            refine ⟨_, gname G 2 n2 (by walk_at "st"), ?_⟩
            refine ds_cons (d1_if (dt_not (dt_val (call_ G C1 (Nat.le_refl _) (by walk_at "g") y (dl_val (dx_ixL (vx 0 n0 rfl fx) (vx 2 n2.toNm rfl rfl) (atN_ q) fs) (dl_val (dx_ixL (vx 1 n1 rfl fx) (vx 2 n2.toNm rfl rfl) (atN_ q) fs) dl_nil y3) y3) rfl ⟨y1, y2⟩ (.v (.v .nil)) (.v (.v .nil))))) (fun hb => by cases hb) (fun hb => ds_nil (ds_nil ⟨_, rfl⟩)))
          · subst e
            exact ds_cons (d1_ret dx_bl ⟨_, (.v (.v .nil)), h⟩)
        | sq => simp [sameOk] at hx
        | dk ks => simp [sameOk] at hx
        | dt ks => simp [sameOk] at hx
        | ins a b => simp [sameOk] at hx
theorem cal_law_same (T : Top K mg "_law_same" sLawSame ["_law_actual", "_law_due"]) (Z : Isi mg) (zLen : mg "len" = none) (zRange : mg "range" = none) : ∀ n : Nat, Cal P w K mg base (n + 1) "_law_same" (PhLawSame n)
  | 0 => cal_law_same_at T Z zLen zRange 0 fun m e => by cases e
  | n + 1 => cal_law_same_at T Z zLen zRange (n + 1) fun m e => by cases e; exact cal_law_same T Z zLen zRange n
abbrev bx (l : List Int) (a : Int) : D := .ml [.lst (intL l), .int a]
theorem fr_lst (l : List Int) : isFr (.lst (intL l)) = true := by simp [isFr, frs_ints]
theorem frs_bx (l : List Int) (a : Int) : isFrs [.lst (intL l), .int a] = true := by simp [isFrs, isFr, frs_ints]
def drF (l : List Int) (a m : Int) : Int := if a < l.length then l.getD a.toNat 0 % m else 0
theorem drF_bd (l : List Int) (a m : Int) (h : 0 < m) : 0 ≤ drF l a m ∧ drF l a m < m := by
  unfold drF
  split
  · exact ⟨Int.emod_nonneg _ (by omega), Int.emod_lt_of_pos _ h⟩
  · omega
abbrev sLawDraw : Stmt := top 13
abbrev NLawDraw : List Str := ["_law_box", "_law_many", "_law_at"]
theorem scLawDraw : FnScope NLawDraw ["_law_box", "_law_many"] (defScope sLawDraw) := ⟨rfl, rfl, rfl, by decide +kernel, rfl, by decide +kernel, by decide +kernel⟩
abbrev PhLawDraw : Phi := Fx (α := List Int × Int × Int) (fun a => [bx a.1 a.2.1, .int a.2.2]) (fun a => 0 ≤ a.2.1 ∧ 0 < a.2.2) (fun a => .int (drF a.1 a.2.1 a.2.2)) (fun a => [bx a.1 (a.2.1 + 1), .int a.2.2])
theorem cal_law_draw (T : Top K mg "_law_draw" sLawDraw ["_law_box", "_law_many"]) (zInt : mg "int" = none) (zLen : mg "len" = none) : Cal P w K mg base 1 "_law_draw" PhLawDraw := by
  refine T.cal (k := 0) scLawDraw [true, false] rfl (by decide) (fun ds kk h => ?_) (fun f cdv A outer s H E G ds kk h => ?_)
  · obtain ⟨⟨l, a, m⟩, rfl, _⟩ := h
    exact ⟨rfl, fun i d q q2 => by
      match i, q, q2 with
      | 1, _, q2 => cases q2; rfl⟩
  · obtain ⟨⟨l, a, m⟩, rfl, hp, h⟩ := h
    have hp : 0 ≤ a ∧ 0 < m := hp
    have h : kk (.int (drF l a m)) [bx l (a + 1), .int m] := h
    show DS _ [.p (bx l a), .v (.int m), .no] _ _
    have n0 : Nm (cxOf CX0 P w K mg base NLawDraw "_law_draw" (defScope sLawDraw) f cdv A outer s H E).nox 0 "_law_box" := by walk_at "n"
    have n1 : Nm (cxOf CX0 P w K mg base NLawDraw "_law_draw" (defScope sLawDraw) f cdv A outer s H E).nox 1 "_law_many" := by walk_at "n"
    have n2 : Nl (cxOf CX0 P w K mg base NLawDraw "_law_draw" (defScope sLawDraw) f cdv A outer s H E).nox 2 "_law_at" := by walk_at "nl"
    refine ds_cons (set_ G 2 n2 (ixM 0 n0 dx_int rfl rfl rfl) (by walk_at "st") ?_ rfl)
    refine ds_cons (setL_ 0 n0 (dx_bin (vx 2 n2.toNm rfl rfl) dx_int rfl) dx_int rfl rfl rfl (by walk_at "up") rfl (frs_bx l a) ?_)
    refine ds_cons (d1_if (dt_cmp (vx 2 n2.toNm rfl rfl) (dx_len zLen (ixM 0 n0 dx_int rfl rfl rfl (fr_lst l)) rfl (fr_lst l)) rfl) (fun hb => ?_) (fun hb => ?_))
    · have hb := of_decide_eq_true hb
      have hb : a < l.length := by simpa [intL] using hb
      obtain ⟨y, q⟩ : ∃ y, l[a.toNat]? = some y := ⟨_, List.getElem?_eq_some_iff.mpr ⟨by omega, rfl⟩⟩
      have hat : atI (intL l) a = some (.int y) := atI_ hp.1 (by simp [intL, q])
      refine ds_cons (d1_ret (dx_mod (dx_int1 zInt (dx_ixL (ixM 0 n0 dx_int rfl rfl rfl (fr_lst l)) (vx 2 n2.toNm rfl rfl) hat (frs_ints l))) (vx 1 n1 rfl rfl) hp.2) ⟨_, (.p (.v .nil)), ?_⟩)
      have e : drF l a m = y % m := by unfold drF; rw [if_pos hb]; simp [q]
      rw [e] at h
      exact h
    · have hb := of_decide_eq_false hb
      have hb : ¬ a < l.length := by simpa [intL] using hb
      refine ds_nil (ds_cons (d1_ret dx_int ⟨_, (.p (.v .nil)), ?_⟩))
      have e : drF l a m = 0 := by unfold drF; rw [if_neg hb]
      rw [e] at h
      exact h
abbrev sLawDigits : Stmt := top 12
abbrev NLawDigits : List Str := ["_law_script", "_law_first", "_law_last", "_law_digits_here", "_law_k", "_law_cell_here", "_law_turn", "_law_seed"]
theorem scLawDigits : FnScope NLawDigits ["_law_script", "_law_first", "_law_last"] (defScope sLawDigits) := ⟨rfl, rfl, rfl, by decide +kernel, rfl, by decide +kernel, by decide +kernel⟩
/-- some figures from 0 to 999, not more than m -/
def Digs (m : Nat) (l : List Int) : Prop := l.length ≤ m ∧ ∀ x, x ∈ l → 0 ≤ x ∧ x ≤ 999
theorem Digs.snoc {m m' : Nat} {l : List Int} {x : Int} (h : Digs m l) (hl : m + 1 ≤ m') (h0 : 0 ≤ x) (h1 : x ≤ 999) : Digs m' (l ++ [x]) := by
  refine ⟨by have := h.1; simp; omega, fun y q => ?_⟩
  rcases List.mem_append.mp q with q | q
  · exact h.2 y q
  · simp at q; subst q; exact ⟨h0, h1⟩
theorem Digs.mono {m m' : Nat} {l : List Int} (h : Digs m l) (hl : m ≤ m') : Digs m' l := ⟨Nat.le_trans h.1 hl, h.2⟩
theorem intL_snoc (l : List Int) (x : Int) : intL (l ++ [x]) = intL l ++ [.int x] := by simp [intL]
theorem sz_ok {n : Nat} (h : n < 1000000) : n < sizeLine := Nat.lt_of_lt_of_le h (by decide)
abbrev PhLawDigits : Phi := Rx (α := List Int × Int × Int) (fun (ns, a, b) => [scr ns, .int a, .int b]) (fun (ns, a, b) => 0 ≤ a ∧ a ≤ b ∧ b ≤ 63) (fun (ns, a, b) d os => ∃ l, d = .ml (intL l) ∧ os = [scr ns, .int a, .int b] ∧ Digs 3780 l)
theorem cal_law_digits (T : Top K mg "_law_digits" sLawDigits ["_law_script", "_law_first", "_law_last"]) (CLawCell : Cal P w K mg base 1 "_law_cell" PhLawCell) (zInt : mg "int" = none) (zRange : mg "range" = none) : Cal P w K mg base 2 "_law_digits" PhLawDigits := by
  refine T.cal (k := 1) scLawDigits [false, false, false] rfl (by decide) (fun ds kk h => ?_) (fun f cdv A outer s H E G ds kk h => ?_)
  · obtain ⟨⟨ns, a, b⟩, rfl, _⟩ := h
    exact ⟨rfl, fun i d q q2 => by
      match i, q, q2 with
      | 0, _, q2 => cases q2; exact fr_scr ns
      | 1, _, q2 => cases q2; rfl
      | 2, _, q2 => cases q2; rfl⟩
  · obtain ⟨⟨ns, a, b⟩, rfl, hp, h⟩ := h
    have hp : 0 ≤ a ∧ a ≤ b ∧ b ≤ 63 := hp
    have h : ∀ l, Digs 3780 l → kk (.ml (intL l)) [scr ns, .int a, .int b] := fun l hl => h _ _ ⟨l, rfl, rfl, hl⟩
    show DS _ [.v (scr ns), .v (.int a), .v (.int b), .no, .no, .no, .no, .no] _ _
    have n0 : Nm (cxOf CX0 P w K mg base NLawDigits "_law_digits" (defScope sLawDigits) f cdv A outer s H E).nox 0 "_law_script" := by walk_at "n"
    have n1 : Nm (cxOf CX0 P w K mg base NLawDigits "_law_digits" (defScope sLawDigits) f cdv A outer s H E).nox 1 "_law_first" := by walk_at "n"
    have n2 : Nm (cxOf CX0 P w K mg base NLawDigits "_law_digits" (defScope sLawDigits) f cdv A outer s H E).nox 2 "_law_last" := by walk_at "n"
    have n3 : Nl (cxOf CX0 P w K mg base NLawDigits "_law_digits" (defScope sLawDigits) f cdv A outer s H E).nox 3 "_law_digits_here" := by walk_at "nl"
    have n4 : Nl (cxOf CX0 P w K mg base NLawDigits "_law_digits" (defScope sLawDigits) f cdv A outer s H E).nox 4 "_law_k" := by walk_at "nl"
    have n5 : Nl (cxOf CX0 P w K mg base NLawDigits "_law_digits" (defScope sLawDigits) f cdv A outer s H E).nox 5 "_law_cell_here" := by walk_at "nl"
    have n6 : Nl (cxOf CX0 P w K mg base NLawDigits "_law_digits" (defScope sLawDigits) f cdv A outer s H E).nox 6 "_law_turn" := by walk_at "nl"
    have n7 : Nl (cxOf CX0 P w K mg base NLawDigits "_law_digits" (defScope sLawDigits) f cdv A outer s H E).nox 7 "_law_seed" := by walk_at "nl"
    refine ds_cons (set_ G 3 n3 (dx_lst da_nil) (by walk_at "st") ?_ rfl)
    refine ds_cons (d1_forR2 G zRange (da_two (vx 1 n1 rfl rfl) (vx 2 n2 rfl rfl)) (by omega) (fun t ρ => ∃ l s4 s5 s6 s7, ρ = [.v (scr ns), .v (.int a), .v (.int b), .v (.ml (intL l)), s4, s5, s6, s7] ∧ Digs (60 * t) l) ⟨[], _, _, _, _, rfl, by simp, by simp⟩ (fun t ρ ht hI => ?_) (fun ρ hI => ?_))
    · obtain ⟨l, s4, s5, s6, s7, rfl, hl⟩ := hI
      refine ⟨_, gname G 4 n4 (by walk_at "st"), ?_⟩
      refine ds_cons (set_ G 5 n5 (d := .int (cellF ns (a + t))) (call_ G CLawCell (by decide) (by walk_at "g") (ns, a + t) (dl_val (vx 0 n0 rfl (fr_scr ns)) (dl_val (vx 4 n4.toNm rfl rfl) dl_nil) (fr_scr ns)) rfl (by show (0 : Int) ≤ a + t; omega) (.v (.v .nil)) (.v (.v .nil))) (by walk_at "st") ?_ rfl)
      refine ds_mid (fun ρ => ∃ c', ρ = [.v (scr ns), .v (.int a), .v (.int b), .v (.ml (intL l)), .v (.int (a + t)), .v (.int c'), s6, s7]) (d1_if (dt_cmp (vx 5 n5.toNm rfl rfl) dx_int rfl) (fun hb => ?_) (fun hb => ?_)) (fun ρ ⟨c', e⟩ => ?_)
      · refine ds_cons (set_ G 5 n5 (dx_bin dx_int (dx_mul dx_int (vx 5 n5.toNm rfl rfl) (by walk_at "mul")) rfl) (by walk_at "st") (ds_nil ⟨_, rfl⟩) rfl)
      · exact ds_nil ⟨_, rfl⟩
      subst e
      refine ds_cons (d1_if (dt_cmp (vx 5 n5.toNm rfl rfl) (dx_pow dx_int dx_int ⟨by decide, by decide, by decide⟩) rfl) (fun hb => ?_) (fun hb => ?_))
      · refine ds_cons (d1_forR1 G zRange (da_one dx_int) (by decide) (fun u ρ => ∃ l' c2 s1, ρ = [.v (scr ns), .v (.int a), .v (.int b), .v (.ml (intL l')), .v (.int (a + t)), .v (.int c2), s1, s7] ∧ Digs (60 * t + u) l') ⟨l, _, _, rfl, hl⟩ (fun u ρ hu hI => ?_) (fun ρ hI => ?_))
        · obtain ⟨l', c2, s1, rfl, hl'⟩ := hI
          have hu : u < 60 := hu
          refine ⟨_, gname G 6 n6 (by walk_at "st"), ?_⟩
          refine ds_cons (d1_if (dt_cmp (vx 5 n5.toNm rfl rfl) dx_int rfl) (fun hb => ?_) (fun hb => ?_))
          · refine ds_cons (app_ 3 n3.toNm rfl (dx_mod (dx_int1 zInt (vx 5 n5.toNm rfl rfl)) dx_int (by decide)) rfl (by walk_at "up") (sz_ok (by have := hl'.1; simp; omega)) rfl (frs_ints _) ?_)
            refine ds_cons (set_ G 5 n5 (dx_fdivW (vx 5 n5.toNm rfl rfl) dx_int ⟨by decide, by decide⟩) (by walk_at "st") ?_ rfl)
            exact ds_nil (ds_nil ⟨l' ++ [c2 % 1000], _, _, by rw [intL_snoc], hl'.snoc (by omega) (by omega) (by omega)⟩)
          · exact ds_nil (ds_nil ⟨l', _, _, rfl, hl'.mono (by omega)⟩)
        · obtain ⟨l', c2, s1, rfl, hl'⟩ := hI
          exact ds_nil (ds_nil ⟨l', _, _, _, _, rfl, hl'.mono (by simp; omega)⟩)
      · refine ds_cons (set_ G 7 n7 (dx_mod (dx_int1 zInt (dx_bin (dx_bin (dx_mul (vx 5 n5.toNm rfl rfl) dx_int (by walk_at "mul")) (dx_mul (vx 4 n4.toNm rfl rfl) dx_int (by walk_at "mul")) rfl) dx_int rfl)) dx_int (by decide)) (by walk_at "st") ?_ rfl)
        refine ds_cons (d1_forR1 G zRange (da_one dx_int) (by decide) (fun u ρ => ∃ l' s1 sd, ρ = [.v (scr ns), .v (.int a), .v (.int b), .v (.ml (intL l')), .v (.int (a + t)), .v (.int c'), s1, .v (.int sd)] ∧ Digs (60 * t + u) l') ⟨l, _, _, rfl, hl⟩ (fun u ρ hu hI => ?_) (fun ρ hI => ?_))
        · obtain ⟨l', s1, sd, rfl, hl'⟩ := hI
          have hu : u < 12 := hu
          refine ⟨_, gname G 6 n6 (by walk_at "st"), ?_⟩
          refine ds_cons (set_ G 7 n7 (dx_mod (dx_int1 zInt (dx_bin (dx_bin (dx_mul (vx 7 n7.toNm rfl rfl) dx_int (by walk_at "mul")) (dx_mul dx_int (vx 6 n6.toNm rfl rfl) (by walk_at "mul")) rfl) dx_int rfl)) dx_int (by decide)) (by walk_at "st") ?_ rfl)
          refine ds_cons (app_ 3 n3.toNm rfl (dx_mod (dx_int1 zInt (dx_fdivW (vx 7 n7.toNm rfl rfl) dx_int ⟨by decide, by decide⟩)) dx_int (by decide)) rfl (by walk_at "up") (sz_ok (by have := hl'.1; simp; omega)) rfl (frs_ints _) ?_)
          exact ds_nil ⟨l' ++ [_], _, _, by rw [intL_snoc], hl'.snoc (by omega) (by omega) (by omega)⟩
        · obtain ⟨l', s1, sd, rfl, hl'⟩ := hI
          exact ds_nil (ds_nil ⟨l', _, _, _, _, rfl, hl'.mono (by simp; omega)⟩)
    · obtain ⟨l, s4, s5, s6, s7, rfl, hl⟩ := hI
      exact ds_cons (d1_ret (vmov 3 n3.toNm rfl (by walk_at "st")) ⟨_, (.v (.v (.v .nil))), h l (hl.mono (by omega))⟩)
def digs : List Nat := [48, 49, 50, 51, 52, 53, 54, 55, 56, 57]
theorem digsE : Str.ofString "0123456789" = sx digs := by decide +kernel
theorem dotE : Str.ofString "." = sx [46] := by decide +kernel
theorem minE : Str.ofString "-" = sx [45] := by decide +kernel
theorem empE : Str.ofString "" = sx [] := by decide +kernel
theorem sz1 {n : Nat} (h : n < 1000) : n ≤ sizeLine := Nat.le_trans (Nat.le_of_lt h) (by decide)
theorem digs_iff : ∀ {c : Nat}, c ∈ digs ↔ 48 ≤ c ∧ c ≤ 57 := by intro c; simp [digs]; omega
def adF (l : List Nat) : Bool := decide (0 < l.length) && decide (∀ c, c ∈ l → c ∈ digs)
def vl (l : List Nat) : Int := (NumText.digitsVal l : Nat)
theorem int_ok {l : List Nat} (h : adF l = true) (hl : l.length ≤ 600) : intText? (sx l) = some (vl l) := by
  unfold adF at h
  simp only [Bool.and_eq_true, decide_eq_true_eq] at h
  have e := intText_digits (x := sx l) (by rw [sx_cps]; exact fun c q => digs_iff.mp (h.2 c q)) (by rw [sx_cps]; intro q; rw [q] at h; simp at h) (by rw [sx_len]; omega)
  rw [sx_cps] at e
  exact e
theorem ad_app {a b : List Nat} (h : adF a = true) (h2 : adF b = true) : adF (a ++ b) = true := by
  unfold adF at *
  simp only [Bool.and_eq_true, decide_eq_true_eq] at *
  refine ⟨by simp; omega, fun c q => ?_⟩
  rcases List.mem_append.mp q with q | q
  · exact h.2 c q
  · exact h2.2 c q
theorem val_bd : ∀ (l : List Nat) (n : Nat), (∀ c, c ∈ l → c ∈ digs) → l.foldl (fun acc c => acc * 10 + (c - 48)) n < (n + 1) * 10 ^ l.length
  | [], n, _ => by simp
  | c :: r, n, h => by
    have hc := digs_iff.mp (h c (by simp))
    have := val_bd r (n * 10 + (c - 48)) fun x q => h x (by simp [q])
    have e : (n * 10 + (c - 48) + 1) * 10 ^ r.length ≤ ((n + 1) * 10) * 10 ^ r.length := Nat.mul_le_mul_right _ (by omega)
    have e2 : (n + 1) * 10 ^ (c :: r).length = ((n + 1) * 10) * 10 ^ r.length := by rw [List.length_cons, Nat.pow_succ, Nat.mul_assoc, Nat.mul_comm 10]
    rw [List.foldl_cons, e2]
    omega
theorem vl_bd {l : List Nat} (h : adF l = true) (hl : l.length ≤ 18) : (vl l).natAbs < 2 ^ 60 := by
  unfold adF at h
  simp only [Bool.and_eq_true, decide_eq_true_eq] at h
  have := val_bd l 0 h.2
  have e : (10 : Nat) ^ l.length ≤ 10 ^ 18 := Nat.pow_le_pow_right (by decide) hl
  have e2 : (10 : Nat) ^ 18 < 2 ^ 60 := by decide
  unfold vl NumText.digitsVal
  omega
/-- before the first point, behind it -/
def bef (l : List Nat) : List Nat := l.takeWhile (· != 46)
def aft (l : List Nat) : List Nat := l.drop ((bef l).length + 1)
theorem split_dot : ∀ {l : List Nat}, 46 ∈ l → l = bef l ++ 46 :: aft l ∧ ¬ 46 ∈ bef l
  | [], h => by simp at h
  | c :: r, h => by
    by_cases e : c = 46
    · subst e
      exact ⟨by simp [bef, aft], by simp [bef]⟩
    · have := split_dot (l := r) (by rcases List.mem_cons.mp h with q | q; exact absurd q.symm e; exact q)
      have eb : bef (c :: r) = c :: bef r := by unfold bef; rw [List.takeWhile_cons, if_pos (by simpa using e)]
      have ea : aft (c :: r) = aft r := by unfold aft; rw [eb]; rfl
      rw [eb, ea]
      refine ⟨?_, ?_⟩
      · rw [List.cons_append, ← this.1]
      · intro q
        rcases List.mem_cons.mp q with q | q
        · exact e q.symm
        · exact this.2 q
abbrev f2 (a b : Int) : D := .tup [.int a, .int b]
def fA (n d : Int) : Int := frN n d / (frG n d : Int)
def fB (n d : Int) : Int := frD d / (frG n d : Int)
theorem f2_one (n : Int) : f2 (fA n 1) (fB n 1) = f2 n 1 := by
  have hg : frG n 1 = 1 := by unfold frG frD; simp
  unfold fA fB
  rw [hg]
  simp [frN, frD]
def decF (l : List Nat) : D :=
  if 46 ∈ l then
    if adF (bef l) = true ∧ (bef l).length ≤ 12 ∧ adF (aft l) = true ∧ (aft l).length ≤ 6 then f2 (fA (vl (bef l ++ aft l)) (10 ^ (aft l).length)) (fB (vl (bef l ++ aft l)) (10 ^ (aft l).length)) else .non
  else if adF l = true ∧ l.length ≤ 12 then f2 (vl l) 1 else .non
def negD : D → D
  | .nd false .tup [.int a, b] => .tup [.int (-a), b]
  | d => d
def numbF (l : List Nat) : D := if l[0]? = some 45 then negD (decF (l.drop 1)) else decF l
theorem decF_two (l : List Nat) : decF l = .non ∨ ∃ a b, decF l = f2 a b := by
  unfold decF
  split <;> split
  · exact .inr ⟨_, _, rfl⟩
  · exact .inl rfl
  · exact .inr ⟨_, _, rfl⟩
  · exact .inl rfl
theorem dec_ok (l : List Nat) : sameOk (decF l) = true ∧ dpD (decF l) ≤ 1 ∧ isFr (decF l) = true := by
  rcases decF_two l with e | ⟨a, b, e⟩ <;> rw [e]
  · exact ⟨rfl, by simp [dpD], rfl⟩
  · exact ⟨rfl, by simp [dpD, dpDs], rfl⟩
theorem numb_ok (l : List Nat) : sameOk (numbF l) = true ∧ dpD (numbF l) ≤ 1 ∧ isFr (numbF l) = true := by
  unfold numbF
  split
  · rcases decF_two (l.drop 1) with e | ⟨a, b, e⟩ <;> rw [e]
    · exact ⟨rfl, by simp [negD, dpD], rfl⟩
    · exact ⟨rfl, by simp [negD, dpD, dpDs], rfl⟩
  · exact dec_ok l
abbrev sLawLowest : Stmt := top 15
abbrev NLawLowest : List Str := ["_law_n", "_law_d", "_law_common"]
theorem scLawLowest : FnScope NLawLowest ["_law_n", "_law_d"] (defScope sLawLowest) := ⟨rfl, rfl, rfl, by decide +kernel, rfl, by decide +kernel, by decide +kernel⟩
abbrev PhLawLowest : Phi := Fx (α := Int × Int) (fun a => [.int a.1, .int a.2]) (fun a => a.2 ≠ 0 ∧ a.1.natAbs < 2 ^ 400 ∧ a.2.natAbs < 2 ^ 400) (fun a => f2 (fA a.1 a.2) (fB a.1 a.2)) (fun a => [.int a.1, .int a.2])
theorem cal_law_lowest (T : Top K mg "_law_lowest" sLawLowest ["_law_n", "_law_d"]) (CLawGcd : Cal P w K mg base 1 "_law_gcd" PhLawGcd) : Cal P w K mg base 2 "_law_lowest" PhLawLowest := by
  refine T.cal (k := 1) scLawLowest [false, false] rfl (by decide) (fun ds kk h => ?_) (fun f cdv A outer s H E G ds kk h => ?_)
  · obtain ⟨⟨n, d⟩, rfl, _⟩ := h
    exact ⟨rfl, fun i d q q2 => by
      match i, q, q2 with
      | 0, _, q2 => cases q2; rfl
      | 1, _, q2 => cases q2; rfl⟩
  · obtain ⟨⟨n, d⟩, rfl, ⟨hd, hs1, hs⟩, h⟩ := h
    have hd : d ≠ 0 := hd
    have hs1 : n.natAbs < 2 ^ 400 := hs1
    have hs : d.natAbs < 2 ^ 400 := hs
    have h : kk (f2 (fA n d) (fB n d)) [.int n, .int d] := h
    show DS _ [.v (.int n), .v (.int d), .no] _ _
    have n0 : Nl (cxOf CX0 P w K mg base NLawLowest "_law_lowest" (defScope sLawLowest) f cdv A outer s H E).nox 0 "_law_n" := by walk_at "nl"
    have n1 : Nl (cxOf CX0 P w K mg base NLawLowest "_law_lowest" (defScope sLawLowest) f cdv A outer s H E).nox 1 "_law_d" := by walk_at "nl"
    have n2 : Nl (cxOf CX0 P w K mg base NLawLowest "_law_lowest" (defScope sLawLowest) f cdv A outer s H E).nox 2 "_law_common" := by walk_at "nl"
    refine ds_mid (fun ρ => ρ = [.v (.int (frN n d)), .v (.int (frD d)), .no]) (d1_if (dt_cmp (vx 1 n1.toNm rfl rfl) dx_int rfl) (fun hb => ?_) (fun hb => ?_)) (fun ρ e => ?_)
    · have hb := of_decide_eq_true hb
      refine ds_cons (set_ G 0 n0 (dx_bin dx_int (vx 0 n0.toNm rfl rfl) rfl) (by walk_at "st") ?_ rfl)
      refine ds_cons (set_ G 1 n1 (dx_bin dx_int (vx 1 n1.toNm rfl rfl) rfl) (by walk_at "st") (ds_nil ?_) rfl)
      simp [frN, frD, hb]
    · have hb := of_decide_eq_false hb
      refine ds_nil ?_
      simp [frN, frD, hb]
    subst e
    have hg := frG_pos (n := n) hd
    have hg2 := frG_le (n := n) hd
    have hN : (frN n d).natAbs < 2 ^ 400 := by have : (frN n d).natAbs = n.natAbs := by unfold frN; split <;> omega
                                               omega
    have hD : (frD d).natAbs < 2 ^ 400 := by have : (frD d).natAbs = d.natAbs := by unfold frD; split <;> omega
                                             omega
    refine ds_cons (set_ G 2 n2 (d := .int (frG n d : Int)) (call_ G CLawGcd (by decide) (by walk_at "g") (frN n d, frD d) (dl_val (vx 0 n0.toNm rfl rfl) (dl_val (vx 1 n1.toNm rfl rfl) dl_nil)) rfl ⟨hN, hD⟩ (.v (.v .nil)) (.v (.v .nil))) (by walk_at "st") ?_ rfl)
    have hc : ∀ i : Int, CDivW i (frG n d : Int) := fun i => ⟨by omega, by
      have := log2_le (n := frG n d) (b := 400) (by omega)
      show (frG n d).log2 < 9000
      omega⟩
    exact ds_cons (d1_ret (dx_tup (hl := by simp) (da_cons (dx_fdivW (vx 0 n0.toNm rfl rfl) (vx 2 n2.toNm rfl rfl) (hc _)) (da_cons (dx_fdivW (vx 1 n1.toNm rfl rfl) (vx 2 n2.toNm rfl rfl) (hc _)) da_nil))) ⟨_, (.v (.v .nil)), h⟩)

theorem pw (n : Nat) (h : n ≤ 6) : (10 : Int) ^ n ≠ 0 ∧ ((10 : Int) ^ n).natAbs < 2 ^ 8000 := by
  have h1 : ∀ n : Fin 7, (10 : Int) ^ n.val ≠ 0 ∧ ((10 : Int) ^ n.val).natAbs < 2 ^ 30 := by decide
  have h2 := h1 ⟨n, by omega⟩
  have h8 : (2 : Nat) ^ 30 < 2 ^ 8000 := Nat.pow_lt_pow_right (by decide) (by decide)
  exact ⟨h2.1, Nat.lt_trans h2.2 h8⟩

theorem p10 : ∀ k : Fin 7, atI [D.int 1, .int 10, .int 100, .int 1000, .int 10000, .int 100000, .int 1000000] ((k.val : Nat) : Int) = some (.int (10 ^ k.val)) := fun k => match k with
  | ⟨0, _⟩ => rfl | ⟨1, _⟩ => rfl | ⟨2, _⟩ => rfl | ⟨3, _⟩ => rfl | ⟨4, _⟩ => rfl | ⟨5, _⟩ => rfl | ⟨6, _⟩ => rfl
theorem pw30 (n : Nat) (h : n ≤ 6) : ((10 : Int) ^ n).natAbs < 2 ^ 60 := by
  have h1 : ∀ n : Fin 7, ((10 : Int) ^ n.val).natAbs < 2 ^ 60 := by decide
  exact h1 ⟨n, by omega⟩
theorem DT.to' {X : Cx} {ρ ρ' : Rho} {e : Expr} {b b' : Bool} (h : DT X ρ e b ρ') (q : b = b') : DT X ρ e b' ρ' := q ▸ h

abbrev sAllDigits : Stmt := top 7
abbrev NAllDigits : List Str := ["text", "char"]
theorem scAllDigits : FnScope NAllDigits ["text"] (defScope sAllDigits) := ⟨rfl, rfl, rfl, by decide +kernel, rfl, by decide +kernel, by decide +kernel⟩
abbrev PhAllDigits : Phi := Fx (α := List Nat) (fun l => [.str (sx l)]) (fun l => l.length < 900) (fun l => .bl (adF l)) (fun l => [.str (sx l)])
theorem cal_all_digits (T : Top K mg "_all_digits" sAllDigits ["text"]) (hD : ∃ tk, mg "DIGITS" = some (.str (sx digs) tk)) (zAll : mg "all" = none) (zLen : mg "len" = none) : Cal P w K mg base 1 "_all_digits" PhAllDigits := by
  refine T.cal (k := 0) scAllDigits [false] rfl (by decide) (fun ds kk h => ?_) (fun f cdv A outer s H E G ds kk h => ?_)
  · obtain ⟨l, rfl, _⟩ := h
    exact ⟨rfl, fun i d q q2 => by
      match i, q, q2 with
      | 0, _, q2 => cases q2; rfl⟩
  · obtain ⟨l, rfl, hp, h⟩ := h
    have hp : l.length < 900 := hp
    have h : kk (.bl (adF l)) [.str (sx l)] := h
    obtain ⟨tkhD, hD⟩ := hD
    show DS _ [.v (.str (sx l)), .no] _ _
    have n0 : Nm (cxOf CX0 P w K mg base NAllDigits "_all_digits" (defScope sAllDigits) f cdv A outer s H E).nox 0 "text" := by walk_at "n"
    have ball : ((l.map fun c => decide (c ∈ digs)).all id) = decide (∀ c, c ∈ l → c ∈ digs) := by
      rw [Bool.eq_iff_iff]
      simp
    refine ds_cons (d1_ret (d := .bl (adF l)) (DX.to (dx_and (b1 := decide (0 < l.length)) (b2 := decide (∀ c, c ∈ l → c ∈ digs)) (DX.to (dx_cmp (dx_lenx zLen (vx 0 n0 rfl rfl) (sz1 (by omega))) dx_int rfl) (by congr 1; exact decide_eq_decide.mpr (by omega))) (fun _ => dx_one (DX.to (dx_all (bs := l.map fun c => decide (c ∈ digs)) G zAll (dx_frzL (LCJ.dx (d := .ml ((l.map fun c => decide (c ∈ digs)).map D.bl)) (lcS_ (own := [("char", 1)]) (nn := 1) G rfl (vx 0 n0 rfl rfl) (by omega) (.cons (by walk_at "st") .nil)
        (fun t ρ' acc => ρ' = [.v (.str (sx l)), .no] ∧ acc = ((l.take t).map fun c => decide (c ∈ digs)).map D.bl) ⟨rfl, by simp⟩ ?hs (fun ρ' acc q => by obtain ⟨q1, q2⟩ := q; exact ⟨by rw [q2, List.take_length], q1⟩)) G) (isFrs_map _ fun _ => rfl))) (congrArg D.bl ball)))) rfl) ⟨_, (.v .nil), h⟩)
    case hs =>
      rintro t ch ρ' acc hch ⟨rfl, rfl⟩
      have htl := (List.getElem?_eq_some_iff.mp hch).1
      refine ⟨by simp; omega, _, true, _, by walk_at "st", di_nil_blk, fun _ => ⟨.bl (decide (ch ∈ digs)), _, _, fun s0 H0 C0 cl0 fp0 => dx_inS (vx 1 (by walk_at "n") rfl rfl) (dx_glob (v := .str (sx digs)) hD ⟨tkhD, rfl⟩ (fun _ => .str _) (by rfl)), rfl, .cons (by walk_at "st") .nil, rfl, ?_⟩, fun q => by cases q⟩
      rw [List.take_add_one, hch]
      simp

abbrev sLawAllDigits : Stmt := top 17
abbrev NLawAllDigits : List Str := ["_law_text_here", "_law_char"]
theorem scLawAllDigits : FnScope NLawAllDigits ["_law_text_here"] (defScope sLawAllDigits) := ⟨rfl, rfl, rfl, by decide +kernel, rfl, by decide +kernel, by decide +kernel⟩
abbrev PhLawAllDigits : Phi := Fx (α := List Nat) (fun l => [.str (sx l)]) (fun l => l.length < 900) (fun l => .bl (adF l)) (fun l => [.str (sx l)])
theorem cal_law_all_digits (T : Top K mg "_law_all_digits" sLawAllDigits ["_law_text_here"]) (zLen : mg "len" = none) : Cal P w K mg base 1 "_law_all_digits" PhLawAllDigits := by
  refine T.cal (k := 0) scLawAllDigits [false] rfl (by decide) (fun ds kk h => ?_) (fun f cdv A outer s H E G ds kk h => ?_)
  · obtain ⟨l, rfl, _⟩ := h
    exact ⟨rfl, fun i d q q2 => by
      match i, q, q2 with
      | 0, _, q2 => cases q2; rfl⟩
  · obtain ⟨l, rfl, hp, h⟩ := h
    have hp : l.length < 900 := hp
    have h : kk (.bl (adF l)) [.str (sx l)] := h
    show DS _ [.v (.str (sx l)), .no] _ _
    have n0 : Nm (cxOf CX0 P w K mg base NLawAllDigits "_law_all_digits" (defScope sLawAllDigits) f cdv A outer s H E).nox 0 "_law_text_here" := by walk_at "n"
    have n1 : Nl (cxOf CX0 P w K mg base NLawAllDigits "_law_all_digits" (defScope sLawAllDigits) f cdv A outer s H E).nox 1 "_law_char" := by walk_at "nl"
    refine ds_cons (forSx_ G (vx 0 n0 rfl rfl) (fun t ρ => ∃ s1, ρ = [.v (.str (sx l)), s1] ∧ ∀ c, c ∈ l.take t → c ∈ digs) ⟨_, rfl, by simp⟩ (fun t c ρ hc hI => ?_) (fun ρ hI => ?_))
    · obtain ⟨s1, rfl, hI⟩ := hI
      refine ⟨_, gname G 1 n1 (by walk_at "st"), ?_⟩
      refine ds_cons (d1_if (dt_ninS (vx 1 n1.toNm rfl rfl) (dx_strx digsE)) (fun hb => ?_) (fun hb => ?_))
      · have hb : ¬ c ∈ digs := by simpa using hb
        have e : adF l = false := by
          unfold adF
          rw [decide_eq_false (p := ∀ c, c ∈ l → c ∈ digs) (fun q => hb (q c (List.mem_iff_getElem?.mpr ⟨t, hc⟩))), Bool.and_false]
        rw [e] at h
        exact ds_cons (d1_ret dx_bl ⟨_, (.v .nil), h⟩)
      · have hb : c ∈ digs := by simpa using hb
        refine ds_nil (ds_nil ⟨_, rfl, fun c' q => ?_⟩)
        rw [List.take_add_one, hc] at q
        rcases List.mem_append.mp q with q | q
        · exact hI c' q
        · simp at q; subst q; exact hb
    · obtain ⟨s1, rfl, hI⟩ := hI
      rw [List.take_length] at hI
      have e : adF l = decide (0 < l.length) := by
        unfold adF
        rw [decide_eq_true (p := ∀ c, c ∈ l → c ∈ digs) hI, Bool.and_true]
      rw [e] at h
      exact ds_cons (d1_ret (d := .bl (decide (0 < l.length))) (DX.to (dx_cmp (dx_lenx zLen (vx 0 n0 rfl rfl) (sz1 (by omega))) dx_int rfl) (by congr 1; exact decide_eq_decide.mpr (by omega))) ⟨_, (.v .nil), h⟩)

abbrev sReadDecimal : Stmt := top 8
abbrev NReadDecimal : List Str := ["text", "whole", "point", "more", "scale", "_"]
theorem scReadDecimal : FnScope NReadDecimal ["text"] (defScope sReadDecimal) := ⟨rfl, rfl, rfl, by decide +kernel, rfl, by decide +kernel, by decide +kernel⟩
abbrev PhReadDecimal : Phi := Fx (α := List Nat) (fun l => [.str (sx l)]) (fun l => l.length < 900) (fun l => decF l) (fun l => [.str (sx l)])
theorem cal_read_decimal (T : Top K mg "read_decimal" sReadDecimal ["text"]) (CAllDigits : Cal P w K mg base 1 "_all_digits" PhAllDigits) (CFraction : Cal P w K mg base 1 "fraction" PhFraction) (hW : ∃ tk, mg "WHOLE_DIGITS" = some (.int 12 tk)) (hM : ∃ tk, mg "MORE_DIGITS" = some (.int 6 tk)) (zInt : mg "int" = none) (zLen : mg "len" = none) : Cal P w K mg base 2 "read_decimal" PhReadDecimal := by
  refine T.cal (k := 1) scReadDecimal [false] rfl (by decide) (fun ds kk h => ?_) (fun f cdv A outer s H E G ds kk h => ?_)
  · obtain ⟨l, rfl, _⟩ := h
    exact ⟨rfl, fun i d q q2 => by
      match i, q, q2 with
      | 0, _, q2 => cases q2; rfl⟩
  · obtain ⟨l, rfl, hp, h⟩ := h
    have hp : l.length < 900 := hp
    have h : kk (decF l) [.str (sx l)] := h
    obtain ⟨tkhW, hW⟩ := hW
    obtain ⟨tkhM, hM⟩ := hM
    show DS _ [.v (.str (sx l)), .no, .no, .no, .no, .no] _ _
    have n0 : Nm (cxOf CX0 P w K mg base NReadDecimal "read_decimal" (defScope sReadDecimal) f cdv A outer s H E).nox 0 "text" := by walk_at "n"
    have n1 : Nl (cxOf CX0 P w K mg base NReadDecimal "read_decimal" (defScope sReadDecimal) f cdv A outer s H E).nox 1 "whole" := by walk_at "nl"
    have n2 : Nl (cxOf CX0 P w K mg base NReadDecimal "read_decimal" (defScope sReadDecimal) f cdv A outer s H E).nox 2 "point" := by walk_at "nl"
    have n3 : Nl (cxOf CX0 P w K mg base NReadDecimal "read_decimal" (defScope sReadDecimal) f cdv A outer s H E).nox 3 "more" := by walk_at "nl"
    have n4 : Nl (cxOf CX0 P w K mg base NReadDecimal "read_decimal" (defScope sReadDecimal) f cdv A outer s H E).nox 4 "scale" := by walk_at "nl"
    have n5 : Nl (cxOf CX0 P w K mg base NReadDecimal "read_decimal" (defScope sReadDecimal) f cdv A outer s H E).nox 5 "_" := by walk_at "nl"
    have gW : ∀ {ρ : Rho} {pos : Pos}, DX (cxOf CX0 P w K mg base NReadDecimal "read_decimal" (defScope sReadDecimal) f cdv A outer s H E).nox ρ (.Name "WHOLE_DIGITS" pos) (.int 12) ρ := dx_glob (v := .int 12) hW ⟨tkhW, rfl⟩ (fun _ => .int _) rfl
    have gM : ∀ {ρ : Rho} {pos : Pos}, DX (cxOf CX0 P w K mg base NReadDecimal "read_decimal" (defScope sReadDecimal) f cdv A outer s H E).nox ρ (.Name "MORE_DIGITS" pos) (.int 6) ρ := dx_glob (v := .int 6) hM ⟨tkhM, rfl⟩ (fun _ => .int _) rfl
    by_cases hdot : 46 ∈ l
    · obtain ⟨es, hnd⟩ := split_dot hdot
      have hlen : l.length = (bef l).length + 1 + (aft l).length := by have := congrArg List.length es; simp at this; omega
      have hpt : Txt.partition (sx l) (sx [46]) = (sx (bef l), sx [46], sx (aft l)) := by
        have := part_app (q := aft l) hnd
        rwa [← es] at this
      refine ds_cons (d1_asg (DX.to (d1 := .tup [.str (sx (bef l)), .str (sx [46]), .str (sx (aft l))]) (dx_partS (vx 0 n0 rfl rfl) (dx_strx dotE) rfl (by rw [sx_len]; exact sz1 (by omega))) (by rw [hpt])) (dg_tup (N := 0) G (dgs_name (kk := 1) G 1 (by walk_at "st") (dgs_name (kk := 1) G 2 (by walk_at "st") (dgs_name (kk := 1) G 3 (by walk_at "st") dgs_nil)))) ?_)
      have hres : decF l = if adF (bef l) = true ∧ (bef l).length ≤ 12 ∧ adF (aft l) = true ∧ (aft l).length ≤ 6 then f2 (fA (vl (bef l ++ aft l)) (10 ^ (aft l).length)) (fB (vl (bef l ++ aft l)) (10 ^ (aft l).length)) else .non := by unfold decF; rw [if_pos hdot]
      rw [hres] at h
      generalize bef l = a at *
      generalize aft l = b at *
      refine ds_cons (d1_if (DW.t (dw_or (dt_not (dt_val (call_ G CAllDigits (by decide) (by walk_at "g") a (dl_val (vx 1 n1.toNm rfl rfl) dl_nil) rfl (by show a.length < 900; omega) (.v .nil) (.v .nil)))) (fun _ => dw_or1 (dt_cmp (dx_lenx zLen (vx 1 n1.toNm rfl rfl) (sz1 (by omega))) gW rfl)))) (fun hb => ?_) (fun hb => ?_))
      · have : ¬ (adF a = true ∧ a.length ≤ 12 ∧ adF b = true ∧ b.length ≤ 6) := by
          rintro ⟨q1, q2, _⟩
          replace hb : (!adF a || decide ((12 : Int) < (a.length : Int))) = true := hb
          rw [q1] at hb
          simp at hb
          omega
        rw [if_neg this] at h
        exact ds_cons (d1_ret dx_non ⟨_, (.v .nil), h⟩)
      replace hb : (!adF a || decide ((12 : Int) < (a.length : Int))) = false := hb
      simp only [Bool.or_eq_false_iff, Bool.not_eq_false', decide_eq_false_iff_not] at hb
      refine ds_nil ?_
      refine ds_cons (d1_if (dt_cmp (vx 2 n2.toNm rfl rfl) (dx_strx empE) rfl) (fun hb => by exfalso; have := sx_inj (of_decide_eq_true hb); simp at this) (fun _ => ds_nil ?_))
      refine ds_cons (d1_if (DW.t (dw_or (dt_not (dt_val (call_ G CAllDigits (by decide) (by walk_at "g") b (dl_val (vx 3 n3.toNm rfl rfl) dl_nil) rfl (by show b.length < 900; omega) (.v .nil) (.v .nil)))) (fun _ => dw_or1 (dt_cmp (dx_lenx zLen (vx 3 n3.toNm rfl rfl) (sz1 (by omega))) gM rfl)))) (fun hb2 => ?_) (fun hb2 => ?_))
      · have : ¬ (adF a = true ∧ a.length ≤ 12 ∧ adF b = true ∧ b.length ≤ 6) := by
          rintro ⟨_, _, q1, q2⟩
          replace hb2 : (!adF b || decide ((6 : Int) < (b.length : Int))) = true := hb2
          rw [q1] at hb2
          simp at hb2
          omega
        rw [if_neg this] at h
        exact ds_cons (d1_ret dx_non ⟨_, (.v .nil), h⟩)
      replace hb2 : (!adF b || decide ((6 : Int) < (b.length : Int))) = false := hb2
      simp only [Bool.or_eq_false_iff, Bool.not_eq_false', decide_eq_false_iff_not] at hb2
      rw [if_pos ⟨hb.1, by omega, hb2.1, by omega⟩] at h
      refine ds_nil ?_
      refine ds_cons (set_ G 4 n4 dx_int (by walk_at "st") ?_ rfl)
      refine ds_cons (forSx_ G (vx 3 n3.toNm rfl rfl) (fun t ρ => ∃ s5, ρ = [.v (.str (sx l)), .v (.str (sx a)), .v (.str (sx [46])), .v (.str (sx b)), .v (.int (10 ^ t)), s5]) ⟨_, rfl⟩ (fun t c ρ hc hI => ?_) (fun ρ hI => ?_))
      · obtain ⟨s5, rfl⟩ := hI
        refine ⟨_, gname G 5 n5 (by walk_at "st"), ?_⟩
        refine ds_cons (set_ G 4 n4 (d := .int (10 ^ (t + 1))) (DX.to (dx_mul (vx 4 n4.toNm rfl rfl) dx_int (by walk_at "mul")) (by rw [Int.pow_succ])) (by walk_at "st") (ds_nil ⟨_, rfl⟩) rfl)
      · obtain ⟨s5, rfl⟩ := hI
        have hin := int_ok (ad_app hb.1 hb2.1) (by simp; omega)
        have hpow : (10 : Int) ^ b.length ≠ 0 ∧ ((10 : Int) ^ b.length).natAbs < 2 ^ 8000 := pw b.length (by omega)
        exact ds_cons (d1_ret (call_ G CFraction (by decide) (by walk_at "g") (vl (a ++ b), 10 ^ b.length) (dl_val (dx_intS zInt (dx_addSx (vx 1 n1.toNm rfl rfl) (vx 3 n3.toNm rfl rfl) (sz1 (by omega))) hin (by rw [sx_len]; simp; omega)) (dl_val (vx 4 n4.toNm rfl rfl) dl_nil)) rfl hpow (.v (.v .nil)) (.v (.v .nil))) ⟨_, (.v .nil), h⟩)
    · have hpt : Txt.partition (sx l) (sx [46]) = (sx l, sx [], sx []) := part_none hdot
      refine ds_cons (d1_asg (DX.to (d1 := .tup [.str (sx l), .str (sx []), .str (sx [])]) (dx_partS (vx 0 n0 rfl rfl) (dx_strx dotE) rfl (by rw [sx_len]; exact sz1 (by omega))) (by rw [hpt])) (dg_tup (N := 0) G (dgs_name (kk := 1) G 1 (by walk_at "st") (dgs_name (kk := 1) G 2 (by walk_at "st") (dgs_name (kk := 1) G 3 (by walk_at "st") dgs_nil)))) ?_)
      have hres : decF l = if adF l = true ∧ l.length ≤ 12 then f2 (vl l) 1 else .non := by unfold decF; rw [if_neg hdot]
      rw [hres] at h
      refine ds_cons (d1_if (DW.t (dw_or (dt_not (dt_val (call_ G CAllDigits (by decide) (by walk_at "g") l (dl_val (vx 1 n1.toNm rfl rfl) dl_nil) rfl hp (.v .nil) (.v .nil)))) (fun _ => dw_or1 (dt_cmp (dx_lenx zLen (vx 1 n1.toNm rfl rfl) (sz1 (by omega))) gW rfl)))) (fun hb => ?_) (fun hb => ?_))
      · have : ¬ (adF l = true ∧ l.length ≤ 12) := by
          rintro ⟨q1, q2⟩
          replace hb : (!adF l || decide ((12 : Int) < (l.length : Int))) = true := hb
          rw [q1] at hb
          simp at hb
          omega
        rw [if_neg this] at h
        exact ds_cons (d1_ret dx_non ⟨_, (.v .nil), h⟩)
      replace hb : (!adF l || decide ((12 : Int) < (l.length : Int))) = false := hb
      simp only [Bool.or_eq_false_iff, Bool.not_eq_false', decide_eq_false_iff_not] at hb
      rw [if_pos ⟨hb.1, by omega⟩] at h
      refine ds_nil ?_
      refine ds_cons (d1_if (dt_cmp (vx 2 n2.toNm rfl rfl) (dx_strx empE) rfl) (fun _ => ?_) (fun hb => by exfalso; exact (of_decide_eq_false hb) rfl))
      exact ds_cons (d1_ret (dx_tup (hl := by simp) (da_cons (dx_intS zInt (vx 1 n1.toNm rfl rfl) (int_ok hb.1 (by omega)) (by rw [sx_len]; omega)) (da_cons dx_int da_nil))) ⟨_, (.v .nil), h⟩)

abbrev sReadNumber : Stmt := top 9
abbrev NReadNumber : List Str := ["text", "x"]
theorem scReadNumber : FnScope NReadNumber ["text"] (defScope sReadNumber) := ⟨rfl, rfl, rfl, by decide +kernel, rfl, by decide +kernel, by decide +kernel⟩
abbrev PhReadNumber : Phi := Fx (α := List Nat) (fun l => [.str (sx l)]) (fun l => l.length < 900) (fun l => numbF l) (fun l => [.str (sx l)])
theorem cal_read_number (T : Top K mg "read_number" sReadNumber ["text"]) (CReadDecimal : Cal P w K mg base 2 "read_decimal" PhReadDecimal) : Cal P w K mg base 3 "read_number" PhReadNumber := by
  refine T.cal (k := 2) scReadNumber [false] rfl (by decide) (fun ds kk h => ?_) (fun f cdv A outer s H E G ds kk h => ?_)
  · obtain ⟨l, rfl, _⟩ := h
    exact ⟨rfl, fun i d q q2 => by
      match i, q, q2 with
      | 0, _, q2 => cases q2; rfl⟩
  · obtain ⟨l, rfl, hp, h⟩ := h
    have hp : l.length < 900 := hp
    have h : kk (numbF l) [.str (sx l)] := h
    show DS _ [.v (.str (sx l)), .no] _ _
    have n0 : Nm (cxOf CX0 P w K mg base NReadNumber "read_number" (defScope sReadNumber) f cdv A outer s H E).nox 0 "text" := by walk_at "n"
    have n1 : Nl (cxOf CX0 P w K mg base NReadNumber "read_number" (defScope sReadNumber) f cdv A outer s H E).nox 1 "x" := by walk_at "nl"
    have hst := starts_one l 45
    by_cases hm : l[0]? = some 45
    · have hres : numbF l = negD (decF (l.drop 1)) := if_pos hm
      rw [hres] at h
      have hl2 : (l.drop 1).length < 900 := by simp; omega
      refine ds_cons (d1_if (bb := false) (dt_not (bb := true) (dt_val (DX.to (dx_startsS (vx 0 n0 rfl rfl) (dx_strx minE)) (by rw [hst, decide_eq_true hm])))) (fun hb => by cases hb) (fun _ => ds_nil ?_))
      refine ds_cons (set_ G 1 n1 (d := decF (l.drop 1)) (call_ G CReadDecimal (by decide) (by walk_at "g") (l.drop 1) (dl_val (d := .str (sx (l.drop 1))) (DX.to (dx_slS (vx 0 n0 rfl rfl) (dp_some (i := ((1 : Nat) : Int)) dx_int) dp_non (sz1 (by omega))) (by rw [cutD_from])) dl_nil) rfl hl2 (.v .nil) (.v .nil)) (by walk_at "st") ?_ rfl)
      rcases decF_two (l.drop 1) with e | ⟨a, b, e⟩
      · rw [e] at h ⊢
        exact ds_cons (d1_if (dt_isN (vx 1 n1.toNm rfl rfl)) (fun _ => ds_cons (d1_ret dx_non ⟨_, (.v .nil), h⟩)) (fun hb => by cases hb))
      · rw [e] at h ⊢
        exact ds_cons (d1_if (dt_isN (vx 1 n1.toNm rfl rfl)) (fun hb => by cases hb) (fun _ => ds_nil (ds_cons (d1_ret (dx_tup (hl := by simp) (da_cons (dx_neg (dx_ixT (vx 1 n1.toNm rfl rfl) dx_int rfl)) (da_cons (dx_ixT (vx 1 n1.toNm rfl rfl) dx_int rfl) da_nil))) ⟨_, (.v .nil), h⟩))))
    · have hres : numbF l = decF l := if_neg hm
      rw [hres] at h
      exact ds_cons (d1_if (bb := true) (dt_not (bb := false) (dt_val (DX.to (dx_startsS (vx 0 n0 rfl rfl) (dx_strx minE)) (by rw [hst, decide_eq_false hm])))) (fun _ => ds_cons (d1_ret (call_ G CReadDecimal (by decide) (by walk_at "g") l (dl_val (vx 0 n0 rfl rfl) dl_nil) rfl hp (.v .nil) (.v .nil)) ⟨_, (.v .nil), h⟩)) (fun hb => by cases hb))

abbrev sLawOwnDecimal : Stmt := top 18
abbrev NLawOwnDecimal : List Str := ["_law_text_here", "_law_whole", "_law_more", "_law_at"]
theorem scLawOwnDecimal : FnScope NLawOwnDecimal ["_law_text_here"] (defScope sLawOwnDecimal) := ⟨rfl, rfl, rfl, by decide +kernel, rfl, by decide +kernel, by decide +kernel⟩
abbrev PhLawOwnDecimal : Phi := Fx (α := List Nat) (fun l => [.str (sx l)]) (fun l => l.length < 900) (fun l => decF l) (fun l => [.str (sx l)])
theorem cal_law_own_decimal (T : Top K mg "_law_own_decimal" sLawOwnDecimal ["_law_text_here"]) (CAd : Cal P w K mg base 1 "_law_all_digits" PhLawAllDigits) (CLow : Cal P w K mg base 2 "_law_lowest" PhLawLowest) (zInt : mg "int" = none) (zLen : mg "len" = none) : Cal P w K mg base 3 "_law_own_decimal" PhLawOwnDecimal := by
  refine T.cal (k := 2) scLawOwnDecimal [false] rfl (by decide) (fun ds kk h => ?_) (fun f cdv A outer s H E G ds kk h => ?_)
  · obtain ⟨l, rfl, _⟩ := h
    exact ⟨rfl, fun i d q q2 => by
      match i, q, q2 with
      | 0, _, q2 => cases q2; rfl⟩
  · obtain ⟨l, rfl, hp, h⟩ := h
    have hp : l.length < 900 := hp
    have h : kk (decF l) [.str (sx l)] := h
    show DS _ [.v (.str (sx l)), .no, .no, .no] _ _
    have n0 : Nm (cxOf CX0 P w K mg base NLawOwnDecimal "_law_own_decimal" (defScope sLawOwnDecimal) f cdv A outer s H E).nox 0 "_law_text_here" := by walk_at "n"
    have n1 : Nl (cxOf CX0 P w K mg base NLawOwnDecimal "_law_own_decimal" (defScope sLawOwnDecimal) f cdv A outer s H E).nox 1 "_law_whole" := by walk_at "nl"
    have n2 : Nl (cxOf CX0 P w K mg base NLawOwnDecimal "_law_own_decimal" (defScope sLawOwnDecimal) f cdv A outer s H E).nox 2 "_law_more" := by walk_at "nl"
    have n3 : Nl (cxOf CX0 P w K mg base NLawOwnDecimal "_law_own_decimal" (defScope sLawOwnDecimal) f cdv A outer s H E).nox 3 "_law_at" := by walk_at "nl"
    refine ds_cons (set_ G 1 n1 (vx 0 n0 rfl rfl) (by walk_at "st") ?_ rfl)
    refine ds_cons (set_ G 2 n2 (dx_strx empE) (by walk_at "st") ?_ rfl)
    have fin : ∀ (a b : List Nat) (s3 : Sl), a.length < 900 → b.length ≤ 6 → (b = [] ∨ adF b = true) → ∀ R : D, R = (if adF a = true ∧ a.length ≤ 12 then f2 (fA (vl (a ++ b)) (10 ^ b.length)) (fB (vl (a ++ b)) (10 ^ b.length)) else .non) → kk R [.str (sx l)] →
        DS (cxOf CX0 P w K mg base NLawOwnDecimal "_law_own_decimal" (defScope sLawOwnDecimal) f cdv A outer s H E).nox [.v (.str (sx l)), .v (.str (sx a)), .v (.str (sx b)), s3] ((defBody sLawOwnDecimal).drop 3) (kfn [false] [.str (sx l)] kk) := fun a b s3 ha hb had R hR hk => by
      subst hR
      refine ds_cons (d1_if (DW.t (dw_or (dt_not (dt_val (call_ G CAd (by decide) (by walk_at "g") a (dl_val (vx 1 n1.toNm rfl rfl) dl_nil) rfl ha (.v .nil) (.v .nil)))) (fun _ => dw_or1 (dt_cmp (dx_lenx zLen (vx 1 n1.toNm rfl rfl) (sz1 (by omega))) dx_int rfl)))) (fun hb2 => ?_) (fun hb2 => ?_))
      · have : ¬ (adF a = true ∧ a.length ≤ 12) := by
          rintro ⟨q1, q2⟩
          replace hb2 : (!adF a || decide ((12 : Int) < (a.length : Int))) = true := hb2
          rw [q1] at hb2
          simp at hb2
          omega
        rw [if_neg this] at hk
        exact ds_cons (d1_ret dx_non ⟨_, (.v .nil), hk⟩)
      replace hb2 : (!adF a || decide ((12 : Int) < (a.length : Int))) = false := hb2
      simp only [Bool.or_eq_false_iff, Bool.not_eq_false', decide_eq_false_iff_not] at hb2
      rw [if_pos ⟨hb2.1, by omega⟩] at hk
      have hab : adF (a ++ b) = true := by
        rcases had with rfl | q
        · rw [List.append_nil]; exact hb2.1
        · exact ad_app hb2.1 q
      have hin := int_ok hab (by simp; omega)
      have hbd := vl_bd hab (by simp; omega)
      have hpw := pw b.length hb
      have h400 : (2 : Nat) ^ 60 < 2 ^ 400 := Nat.pow_lt_pow_right (by decide) (by decide)
      have hp30 : ((10 : Int) ^ b.length).natAbs < 2 ^ 60 := pw30 b.length hb
      have hat : atI [D.int 1, .int 10, .int 100, .int 1000, .int 10000, .int 100000, .int 1000000] (b.length : Int) = some (.int (10 ^ b.length)) := p10 ⟨b.length, by omega⟩
      exact ds_nil (ds_cons (d1_ret (call_ G CLow (by decide) (by walk_at "g") (vl (a ++ b), 10 ^ b.length) (dl_val (dx_intS zInt (dx_addSx (vx 1 n1.toNm rfl rfl) (vx 2 n2.toNm rfl rfl) (sz1 (by omega))) hin (by rw [sx_len]; simp; omega)) (dl_val (dx_ixL (dx_frzL (dx_lst (hl := by simp) (da_cons dx_int (da_cons dx_int (da_cons dx_int (da_cons dx_int (da_cons dx_int (da_cons dx_int (da_cons dx_int da_nil))))))))) (dx_lenx zLen (vx 2 n2.toNm rfl rfl) (sz1 (by omega))) hat) dl_nil)) rfl ⟨hpw.1, by show (vl (a ++ b)).natAbs < 2 ^ 400; omega, by show ((10 : Int) ^ b.length).natAbs < 2 ^ 400; omega⟩ (.v (.v .nil)) (.v (.v .nil))) ⟨_, (.v .nil), hk⟩))
    by_cases hdot : 46 ∈ l
    · obtain ⟨es, hnd⟩ := split_dot hdot
      have hlen : l.length = (bef l).length + 1 + (aft l).length := by have := congrArg List.length es; simp at this; omega
      have hix : Txt.index0 (sx l) (sx [46]) = some (bef l).length := by
        have hget : (bef l ++ 46 :: aft l)[(bef l).length]? = some 46 := by rw [List.getElem?_append_right (Nat.le_refl _)]; simp
        rw [← es] at hget
        refine index_one hget (fun j hj q => ?_)
        have q : (bef l ++ 46 :: aft l)[j]? = some 46 := by rw [← es]; exact q
        rw [List.getElem?_append_left hj] at q
        exact hnd (List.mem_iff_getElem?.mpr ⟨j, q⟩)
      have hbt : l.take (bef l).length = bef l := by
        have : (bef l ++ 46 :: aft l).take (bef l).length = bef l := List.take_left
        rwa [← es] at this
      have hres : decF l = if adF (bef l) = true ∧ (bef l).length ≤ 12 ∧ adF (aft l) = true ∧ (aft l).length ≤ 6 then f2 (fA (vl (bef l ++ aft l)) (10 ^ (aft l).length)) (fB (vl (bef l ++ aft l)) (10 ^ (aft l).length)) else .non := by unfold decF; rw [if_pos hdot]
      rw [hres] at h
      refine ds_mid (fun ρ => ρ = [.v (.str (sx l)), .v (.str (sx (bef l))), .v (.str (sx (aft l))), .v (.int ((bef l).length : Int))] ∧ adF (aft l) = true ∧ (aft l).length ≤ 6) (d1_if (bb := true) (DT.to' (dt_inS (dx_strx dotE) (vx 0 n0 rfl rfl)) (decide_eq_true hdot)) (fun _ => ?_) (fun hb => by cases hb)) (fun ρ hJ => ?_)
      · refine ds_cons (set_ G 3 n3 (dx_indexS G (vx 0 n0 rfl rfl) (dx_strx dotE) hix) (by walk_at "st") ?_ rfl)
        refine ds_cons (set_ G 1 n1 (d := .str (sx (bef l))) (DX.to (dx_slS (vx 0 n0 rfl rfl) dp_non (dp_some (vx 3 n3.toNm rfl rfl)) (sz1 (by omega))) (by rw [cutD_to, hbt])) (by walk_at "st") ?_ rfl)
        refine ds_cons (set_ G 2 n2 (d := .str (sx (aft l))) (DX.to (dx_slS (vx 0 n0 rfl rfl) (dp_some (i := (((bef l).length + 1 : Nat) : Int)) (dx_bin (vx 3 n3.toNm rfl rfl) dx_int rfl)) dp_non (sz1 (by omega))) (by rw [cutD_from]; rfl)) (by walk_at "st") ?_ rfl)
        refine ds_cons (d1_if (DW.t (dw_or (dt_not (dt_val (call_ G CAd (by decide) (by walk_at "g") (aft l) (dl_val (vx 2 n2.toNm rfl rfl) dl_nil) rfl (by show (aft l).length < 900; omega) (.v .nil) (.v .nil)))) (fun _ => dw_or1 (dt_cmp (dx_lenx zLen (vx 2 n2.toNm rfl rfl) (sz1 (by omega))) dx_int rfl)))) (fun hb => ?_) (fun hb => ?_))
        · have : ¬ (adF (bef l) = true ∧ (bef l).length ≤ 12 ∧ adF (aft l) = true ∧ (aft l).length ≤ 6) := by
            rintro ⟨_, _, q1, q2⟩
            replace hb : (!adF (aft l) || decide ((6 : Int) < ((aft l).length : Int))) = true := hb
            rw [q1] at hb
            simp at hb
            omega
          rw [if_neg this] at h
          exact ds_cons (d1_ret dx_non ⟨_, (.v .nil), h⟩)
        · replace hb : (!adF (aft l) || decide ((6 : Int) < ((aft l).length : Int))) = false := hb
          simp only [Bool.or_eq_false_iff, Bool.not_eq_false', decide_eq_false_iff_not] at hb
          exact ds_nil (ds_nil ⟨rfl, hb.1, by omega⟩)
      · obtain ⟨rfl, hj1, hj2⟩ := hJ
        refine fin (bef l) (aft l) _ (by omega) hj2 (.inr hj1) _ ?_ h
        simp [hj1, hj2]
    · refine ds_cons (d1_if (bb := false) (DT.to' (dt_inS (dx_strx dotE) (vx 0 n0 rfl rfl)) (decide_eq_false hdot)) (fun hb => by cases hb) (fun _ => ds_nil ?_))
      refine fin l [] _ hp (by simp) (.inl rfl) _ ?_ h
      unfold decF
      rw [if_neg hdot, List.append_nil]
      show (if adF l = true ∧ l.length ≤ 12 then f2 (vl l) 1 else .non) = if adF l = true ∧ l.length ≤ 12 then f2 (fA (vl l) 1) (fB (vl l) 1) else .non
      rw [f2_one (vl l)]

abbrev sLawOwnNumber : Stmt := top 19
abbrev NLawOwnNumber : List Str := ["_law_text_here", "_law_x"]
theorem scLawOwnNumber : FnScope NLawOwnNumber ["_law_text_here"] (defScope sLawOwnNumber) := ⟨rfl, rfl, rfl, by decide +kernel, rfl, by decide +kernel, by decide +kernel⟩
abbrev PhLawOwnNumber : Phi := Fx (α := List Nat) (fun l => [.str (sx l)]) (fun l => l.length < 900) (fun l => numbF l) (fun l => [.str (sx l)])
theorem cal_law_own_number (T : Top K mg "_law_own_number" sLawOwnNumber ["_law_text_here"]) (COwn : Cal P w K mg base 3 "_law_own_decimal" PhLawOwnDecimal) : Cal P w K mg base 4 "_law_own_number" PhLawOwnNumber := by
  refine T.cal (k := 3) scLawOwnNumber [false] rfl (by decide) (fun ds kk h => ?_) (fun f cdv A outer s H E G ds kk h => ?_)
  · obtain ⟨l, rfl, _⟩ := h
    exact ⟨rfl, fun i d q q2 => by
      match i, q, q2 with
      | 0, _, q2 => cases q2; rfl⟩
  · obtain ⟨l, rfl, hp, h⟩ := h
    have hp : l.length < 900 := hp
    have h : kk (numbF l) [.str (sx l)] := h
    show DS _ [.v (.str (sx l)), .no] _ _
    have n0 : Nm (cxOf CX0 P w K mg base NLawOwnNumber "_law_own_number" (defScope sLawOwnNumber) f cdv A outer s H E).nox 0 "_law_text_here" := by walk_at "n"
    have n1 : Nl (cxOf CX0 P w K mg base NLawOwnNumber "_law_own_number" (defScope sLawOwnNumber) f cdv A outer s H E).nox 1 "_law_x" := by walk_at "nl"
    have ht : (sx (l.take 1) = sx [45]) ↔ l[0]? = some 45 := by
      constructor
      · intro q
        have q := sx_inj q
        cases l with
        | nil => simp at q
        | cons a r => simp at q; simp [q]
      · intro q
        cases l with
        | nil => simp at q
        | cons a r => simp at q; simp [q]
    by_cases hm : l[0]? = some 45
    · have hres : numbF l = negD (decF (l.drop 1)) := if_pos hm
      rw [hres] at h
      have hl2 : (l.drop 1).length < 900 := by simp; omega
      refine ds_cons (d1_if (bb := true) (DT.to' (dt_cmp (x := .str (sx (l.take 1))) (y := .str (sx [45])) (DX.to (dx_slS (vx 0 n0 rfl rfl) dp_non (dp_some (i := ((1 : Nat) : Int)) dx_int) (sz1 (by omega))) (by rw [cutD_to])) (dx_strx minE) rfl) (decide_eq_true (ht.mpr hm))) (fun _ => ?_) (fun hb => by cases hb))
      refine ds_cons (set_ G 1 n1 (d := decF (l.drop 1)) (call_ G COwn (by decide) (by walk_at "g") (l.drop 1) (dl_val (d := .str (sx (l.drop 1))) (DX.to (dx_slS (vx 0 n0 rfl rfl) (dp_some (i := ((1 : Nat) : Int)) dx_int) dp_non (sz1 (by omega))) (by rw [cutD_from])) dl_nil) rfl hl2 (.v .nil) (.v .nil)) (by walk_at "st") ?_ rfl)
      rcases decF_two (l.drop 1) with e | ⟨a, b, e⟩
      · rw [e] at h ⊢
        exact ds_cons (d1_if (dt_isN (vx 1 n1.toNm rfl rfl)) (fun _ => ds_cons (d1_ret dx_non ⟨_, (.v .nil), h⟩)) (fun hb => by cases hb))
      · rw [e] at h ⊢
        have h : kk (.tup [.int (-a), .int b]) [.str (sx l)] := h
        exact ds_cons (d1_if (dt_isN (vx 1 n1.toNm rfl rfl)) (fun hb => by cases hb) (fun _ => ds_nil (ds_cons (d1_ret (d := .tup [.int (-a), .int b]) (dx_tup (hl := by simp) (da_cons (DX.to (dx_bin dx_int (dx_ixT (vx 1 n1.toNm rfl rfl) dx_int rfl) rfl) (congrArg D.int (Int.zero_sub a))) (da_cons (dx_ixT (vx 1 n1.toNm rfl rfl) dx_int rfl) da_nil))) ⟨_, (.v .nil), h⟩))))
    · have hres : numbF l = decF l := if_neg hm
      rw [hres] at h
      exact ds_cons (d1_if (bb := false) (DT.to' (dt_cmp (x := .str (sx (l.take 1))) (y := .str (sx [45])) (DX.to (dx_slS (vx 0 n0 rfl rfl) dp_non (dp_some (i := ((1 : Nat) : Int)) dx_int) (sz1 (by omega))) (by rw [cutD_to])) (dx_strx minE) rfl) (decide_eq_false (fun q => hm (ht.mp q)))) (fun hb => by cases hb) (fun _ => ds_nil (ds_cons (d1_ret (call_ G COwn (by decide) (by walk_at "g") l (dl_val (vx 0 n0 rfl rfl) dl_nil) rfl hp (.v .nil) (.v .nil)) ⟨_, (.v .nil), h⟩))))
def Txt60 (n : Nat) (l : List Nat) : Prop := l.length ≤ n
theorem drN {l : List Int} {a m : Int} (h : 0 < m) : ∃ k : Nat, drF l a m = (k : Int) ∧ (k : Int) < m := by
  have := drF_bd l a m h
  exact ⟨(drF l a m).toNat, by omega, by omega⟩
abbrev sLawDigitText : Stmt := top 20
abbrev NLawDigitText : List Str := ["_law_box", "_law_many", "_law_text_here", "_law_k"]
theorem scLawDigitText : FnScope NLawDigitText ["_law_box", "_law_many"] (defScope sLawDigitText) := ⟨rfl, rfl, rfl, by decide +kernel, rfl, by decide +kernel, by decide +kernel⟩
abbrev PhLawDigitText : Phi := Rx (α := List Int × Int × Nat) (fun a => [bx a.1 a.2.1, .int a.2.2]) (fun a => 0 ≤ a.2.1 ∧ a.2.2 ≤ 20) (fun a d os => ∃ t a', d = .str (sx t) ∧ os = [bx a.1 a', .int a.2.2] ∧ 0 ≤ a' ∧ t.length ≤ 20)
theorem cal_law_digit_text (T : Top K mg "_law_digit_text" sLawDigitText ["_law_box", "_law_many"]) (CLawDraw : Cal P w K mg base 1 "_law_draw" PhLawDraw) (zRange : mg "range" = none) : Cal P w K mg base 2 "_law_digit_text" PhLawDigitText := by
  refine T.cal (k := 1) scLawDigitText [true, false] rfl (by decide) (fun ds kk h => ?_) (fun f cdv A outer s H E G ds kk h => ?_)
  · obtain ⟨⟨l, a, m⟩, rfl, _⟩ := h
    exact ⟨rfl, fun i d q q2 => by
      match i, q, q2 with
      | 1, _, q2 => cases q2; rfl⟩
  · obtain ⟨⟨l, a, m⟩, rfl, hp, h⟩ := h
    have hp : 0 ≤ a ∧ m ≤ 20 := hp
    have h : ∀ t a', 0 ≤ a' → t.length ≤ 20 → kk (.str (sx t)) [bx l a', .int m] := fun t a' h1 h2 => h _ _ ⟨t, a', rfl, rfl, h1, h2⟩
    show DS _ [.p (bx l a), .v (.int m), .no, .no] _ _
    have n0 : Nm (cxOf CX0 P w K mg base NLawDigitText "_law_digit_text" (defScope sLawDigitText) f cdv A outer s H E).nox 0 "_law_box" := by walk_at "n"
    have n1 : Nm (cxOf CX0 P w K mg base NLawDigitText "_law_digit_text" (defScope sLawDigitText) f cdv A outer s H E).nox 1 "_law_many" := by walk_at "n"
    have n2 : Nl (cxOf CX0 P w K mg base NLawDigitText "_law_digit_text" (defScope sLawDigitText) f cdv A outer s H E).nox 2 "_law_text_here" := by walk_at "nl"
    have n3 : Nl (cxOf CX0 P w K mg base NLawDigitText "_law_digit_text" (defScope sLawDigitText) f cdv A outer s H E).nox 3 "_law_k" := by walk_at "nl"
    refine ds_cons (set_ G 2 n2 (dx_strx empE) (by walk_at "st") ?_ rfl)
    refine ds_cons (d1_forR1 (i := (m : Int)) G zRange (da_one (vx 1 n1 rfl rfl)) (by omega) (fun t ρ => ∃ x a' s3, ρ = [.p (bx l a'), .v (.int m), .v (.str (sx x)), s3] ∧ 0 ≤ a' ∧ x.length = t) ⟨[], a, _, rfl, hp.1, rfl⟩ (fun t ρ ht hI => ?_) (fun ρ hI => ?_) (by omega))
    · obtain ⟨x, a', s3, rfl, h0, hx⟩ := hI
      have ht : t < m := by simpa using ht
      refine ⟨_, gname G 3 n3 (by walk_at "st"), ?_⟩
      obtain ⟨k, ek, hk⟩ := drN (l := l) (a := a') (m := 10) (by decide)
      obtain ⟨ch, hch⟩ : ∃ ch, digs[k]? = some ch := ⟨_, List.getElem?_eq_some_iff.mpr ⟨by show k < 10; omega, rfl⟩⟩
      refine ds_cons (set_ G 2 n2 (dx_addSx (vx 2 n2.toNm rfl rfl) (dx_ixSx (i := drF l a' 10) (ch := ch) (dx_strx digsE) (call_ G CLawDraw (by decide) (by walk_at "g") (l, a', 10) (lend_ 0 n0 rfl (dl_val dx_int dl_nil)) rfl ⟨h0, by show (0 : Int) < 10; decide⟩ (.l (by walk_at "up") (.v .nil)) (.l .p (.v .nil))) (by rw [ek]; exact atN_ hch) (sz1 (by decide))) (sz1 (by simp; omega))) (by walk_at "st") ?_ rfl)
      exact ds_nil ⟨x ++ [ch], a' + 1, _, rfl, by omega, by simp [hx]⟩
    · obtain ⟨x, a', s3, rfl, h0, hx⟩ := hI
      exact ds_cons (d1_ret (vx 2 n2.toNm rfl rfl) ⟨_, (.p (.v .nil)), h x a' h0 (by simp at hx; omega)⟩)
def anyT : Str := Str.ofString " !\"#$&'()*+,-./0123456789:;<=>?@ABCDEFGHIJKLMNOPQRSTUVWXYZ[\\]^_`abcdefghijklmnopqrstuvwxyz{|}~"
def anyL : List Nat := anyT.cps.toList
theorem anyE : anyT = sx anyL := sx_eta _
theorem any_len : anyL.length = 94 := by decide +kernel
abbrev sLawAny : Stmt := top 21
abbrev NLawAny : List Str := ["_law_box", "_law_chars"]
theorem scLawAny : FnScope NLawAny ["_law_box"] (defScope sLawAny) := ⟨rfl, rfl, rfl, by decide +kernel, rfl, by decide +kernel, by decide +kernel⟩
abbrev PhLawAny : Phi := Rx (α := List Int × Int) (fun a => [bx a.1 a.2]) (fun a => 0 ≤ a.2) (fun a d os => ∃ c, d = .str (sx [c]) ∧ os = [bx a.1 (a.2 + 1)])
theorem cal_law_any (T : Top K mg "_law_any" sLawAny ["_law_box"]) (CLawDraw : Cal P w K mg base 1 "_law_draw" PhLawDraw) : Cal P w K mg base 2 "_law_any" PhLawAny := by
  refine T.cal (k := 1) scLawAny [true] rfl (by decide) (fun ds kk h => ?_) (fun f cdv A outer s H E G ds kk h => ?_)
  · obtain ⟨⟨l, a⟩, rfl, _⟩ := h
    exact ⟨rfl, fun i d q q2 => by
      match i, q, q2 with
      | 0, q, _ => cases q⟩
  · obtain ⟨⟨l, a⟩, rfl, hp, h⟩ := h
    have hp : 0 ≤ a := hp
    have h : ∀ c, kk (.str (sx [c])) [bx l (a + 1)] := fun c => h _ _ ⟨c, rfl, rfl⟩
    show DS _ [.p (bx l a), .no] _ _
    have n0 : Nm (cxOf CX0 P w K mg base NLawAny "_law_any" (defScope sLawAny) f cdv A outer s H E).nox 0 "_law_box" := by walk_at "n"
    have n1 : Nl (cxOf CX0 P w K mg base NLawAny "_law_any" (defScope sLawAny) f cdv A outer s H E).nox 1 "_law_chars" := by walk_at "nl"
    refine ds_cons (set_ G 1 n1 (d := .str (sx anyL)) (dx_strx anyE) (by walk_at "st") ?_ rfl)
    obtain ⟨k, ek, hk⟩ := drN (l := l) (a := a) (m := 94) (by decide)
    obtain ⟨ch, hch⟩ : ∃ ch, anyL[k]? = some ch := ⟨_, List.getElem?_eq_some_iff.mpr ⟨by rw [any_len]; omega, rfl⟩⟩
    exact ds_cons (d1_ret (dx_ixSx (i := drF l a 94) (ch := ch) (vx 1 n1.toNm rfl rfl) (call_ G CLawDraw (by decide) (by walk_at "g") (l, a, 94) (lend_ 0 n0 rfl (dl_val dx_int dl_nil)) rfl ⟨hp, by show (0 : Int) < 94; decide⟩ (.l (by walk_at "up") (.v .nil)) (.l .p (.v .nil))) (by rw [ek]; exact atN_ hch) (sz1 (by rw [any_len]; decide))) ⟨_, (.p .nil), h ch⟩)
theorem mul0 {n : Nat} (h : n < 3) : MulOk (sx [48]) (n : Int) ∧ ∃ z : List Nat, Txt.mul (sx [48]) (n : Int) = sx z ∧ z.length ≤ 2 := by
  have : n = 0 ∨ n = 1 ∨ n = 2 := by omega
  rcases this with rfl | rfl | rfl
  · exact ⟨⟨by decide, fun q => absurd (by decide) q, fun q => absurd (by decide) q⟩, [], by decide +kernel, by decide⟩
  · exact ⟨⟨by decide, fun _ q => by revert q; decide, fun _ q => by revert q; decide⟩, [48], by decide +kernel, by decide⟩
  · exact ⟨⟨by decide, fun _ _ => by decide, fun _ _ => by decide⟩, [48, 48], by decide +kernel, by decide⟩
abbrev sLawText : Stmt := top 22
abbrev NLawText : List Str := ["_law_box", "_law_text_here", "_law_k", "_law_change", "_law_at"]
theorem scLawText : FnScope NLawText ["_law_box"] (defScope sLawText) := ⟨rfl, rfl, rfl, by decide +kernel, rfl, by decide +kernel, by decide +kernel⟩
abbrev PhLawText : Phi := Rx (α := List Int × Int) (fun a => [bx a.1 a.2]) (fun a => 0 ≤ a.2) (fun a d os => ∃ t a', d = .str (sx t) ∧ os = [bx a.1 a'] ∧ 0 ≤ a' ∧ t.length ≤ 100)
theorem cal_law_text (T : Top K mg "_law_text" sLawText ["_law_box"]) (CLawDraw : Cal P w K mg base 1 "_law_draw" PhLawDraw) (CAny : Cal P w K mg base 2 "_law_any" PhLawAny) (CDt : Cal P w K mg base 2 "_law_digit_text" PhLawDigitText) (zLen : mg "len" = none) (zRange : mg "range" = none) : Cal P w K mg base 3 "_law_text" PhLawText := by
  refine T.cal (k := 2) scLawText [true] rfl (by decide) (fun ds kk h => ?_) (fun f cdv A outer s H E G ds kk h => ?_)
  · obtain ⟨⟨l, a⟩, rfl, _⟩ := h
    exact ⟨rfl, fun i d q q2 => by
      match i, q, q2 with
      | 0, q, _ => cases q⟩
  · obtain ⟨⟨l, a⟩, rfl, hp, h⟩ := h
    have hp : 0 ≤ a := hp
    have h : ∀ t a', 0 ≤ a' → t.length ≤ 100 → kk (.str (sx t)) [bx l a'] := fun t a' h1 h2 => h _ _ ⟨t, a', rfl, rfl, h1, h2⟩
    show DS _ [.p (bx l a), .no, .no, .no, .no] _ _
    have n0 : Nm (cxOf CX0 P w K mg base NLawText "_law_text" (defScope sLawText) f cdv A outer s H E).nox 0 "_law_box" := by walk_at "n"
    have n1 : Nl (cxOf CX0 P w K mg base NLawText "_law_text" (defScope sLawText) f cdv A outer s H E).nox 1 "_law_text_here" := by walk_at "nl"
    have n2 : Nl (cxOf CX0 P w K mg base NLawText "_law_text" (defScope sLawText) f cdv A outer s H E).nox 2 "_law_k" := by walk_at "nl"
    have n3 : Nl (cxOf CX0 P w K mg base NLawText "_law_text" (defScope sLawText) f cdv A outer s H E).nox 3 "_law_change" := by walk_at "nl"
    have n4 : Nl (cxOf CX0 P w K mg base NLawText "_law_text" (defScope sLawText) f cdv A outer s H E).nox 4 "_law_at" := by walk_at "nl"
    refine ds_cons (d1_if (dt_cmp (call_ G CLawDraw (by decide) (by walk_at "g") (l, a, 8) (lend_ 0 n0 rfl (dl_val dx_int dl_nil)) rfl ⟨hp, by show (0 : Int) < 8; decide⟩ (.l (by walk_at "up") (.v .nil)) (.l .p (.v .nil))) dx_int rfl) (fun _ => ?_) (fun _ => ds_nil ?_))
    · refine ds_cons (set_ G 1 n1 (dx_strx empE) (by walk_at "st") ?_ rfl)
      obtain ⟨m, em, hm⟩ := drN (l := l) (a := a + 1) (m := 7) (by decide)
      refine ds_cons (d1_forR1 (i := (m : Int)) G zRange (da_one (DX.to (call_ G CLawDraw (by decide) (by walk_at "g") (l, a + 1, 7) (lend_ 0 n0 rfl (dl_val dx_int dl_nil)) rfl ⟨by show (0 : Int) ≤ a + 1; omega, by show (0 : Int) < 7; decide⟩ (.l (by walk_at "up") (.v .nil)) (.l .p (.v .nil))) (congrArg D.int em))) (by omega) (fun t ρ => ∃ x a' s2, ρ = [.p (bx l a'), .v (.str (sx x)), s2, .no, .no] ∧ 0 ≤ a' ∧ x.length = t) ⟨[], a + 1 + 1, _, rfl, by omega, rfl⟩ (fun t ρ ht hI => ?_) (fun ρ hI => ?_) (by omega))
      · obtain ⟨x, a', s2, rfl, h0, hx⟩ := hI
        have ht : t < m := by simpa using ht
        refine ⟨_, gname G 2 n2 (by walk_at "st"), ?_⟩
        refine ds_cons (setR_ G 1 n1 (QQ := fun d ρ => ∃ c, d = .str (sx (x ++ [c])) ∧ ρ = [.p (bx l (a' + 1)), .v (.str (sx x)), .v (.int t), .no, .no]) (dxr_add1 (vx 1 n1.toNm rfl rfl) (callR_ G CAny (by decide) (by walk_at "g") (l, a') (lend_ 0 n0 rfl dl_nil) rfl h0 ?q (.l .p .nil))) (fun d ρ hq => ?_) rfl)
        case q =>
          rintro d os ⟨c, rfl, rfl⟩
          exact ⟨_, .l .p .nil, [c], rfl, sz1 (by simp; omega), c, rfl, rfl⟩
        obtain ⟨c, rfl, rfl⟩ := hq
        exact ⟨_, by walk_at "st", ds_nil ⟨x ++ [c], a' + 1, _, rfl, by omega, by simp [hx]⟩⟩
      · obtain ⟨x, a', s2, rfl, h0, hx⟩ := hI
        exact ds_cons (d1_ret (vx 1 n1.toNm rfl rfl) ⟨_, (.p .nil), h x a' h0 (by simp at hx; omega)⟩)
    obtain ⟨m, em, hm⟩ := drN (l := l) (a := a + 1) (m := 5) (by decide)
    obtain ⟨x, hx, hxl⟩ : ∃ x : List Nat, atI [D.str (sx []), .str (sx [45]), .str (sx []), .str (sx [45]), .str (sx [45, 45])] (m : Int) = some (.str (sx x)) ∧ x.length ≤ 2 := by
      have : m = 0 ∨ m = 1 ∨ m = 2 ∨ m = 3 ∨ m = 4 := by omega
      rcases this with rfl | rfl | rfl | rfl | rfl <;> exact ⟨_, rfl, by simp⟩
    refine ds_cons (set_ G 1 n1 (d := .str (sx x)) (dx_ixL (i := drF l (a + 1) 5) (dx_frzL (dx_lst (hl := by simp) (da_cons (dx_strx empE) (da_cons (dx_strx minE) (da_cons (dx_strx empE) (da_cons (dx_strx minE) (da_cons (dx_strx (l := [45, 45]) (by decide +kernel)) da_nil))))))) (call_ G CLawDraw (by decide) (by walk_at "g") (l, a + 1, 5) (lend_ 0 n0 rfl (dl_val dx_int dl_nil)) rfl ⟨by show (0 : Int) ≤ a + 1; omega, by show (0 : Int) < 5; decide⟩ (.l (by walk_at "up") (.v .nil)) (.l .p (.v .nil))) (by rw [em]; exact hx)) (by walk_at "st") ?_ rfl)
    obtain ⟨z, ez, hz⟩ := drN (l := l) (a := a + 1 + 1) (m := 3) (by decide)
    obtain ⟨ok0, y, ey, hy⟩ := mul0 (n := z) (by omega)
    obtain ⟨m2, em2, hm2⟩ := drN (l := l) (a := a + 1 + 1 + 1) (m := 7) (by decide)
    obtain ⟨cnt, hcnt, hcl⟩ : ∃ c : Nat, atI [D.int 1, .int 2, .int 3, .int 11, .int 12, .int 13, .int 0] (m2 : Int) = some (.int (c : Int)) ∧ c ≤ 20 := by
      have : m2 = 0 ∨ m2 = 1 ∨ m2 = 2 ∨ m2 = 3 ∨ m2 = 4 ∨ m2 = 5 ∨ m2 = 6 := by omega
      rcases this with rfl | rfl | rfl | rfl | rfl | rfl | rfl
      · exact ⟨1, rfl, by decide⟩
      · exact ⟨2, rfl, by decide⟩
      · exact ⟨3, rfl, by decide⟩
      · exact ⟨11, rfl, by decide⟩
      · exact ⟨12, rfl, by decide⟩
      · exact ⟨13, rfl, by decide⟩
      · exact ⟨0, rfl, by decide⟩
    refine ds_cons (setR_ G 1 n1 (QQ := fun d ρ => ∃ t a', d = .str (sx t) ∧ t.length ≤ 30 ∧ 0 ≤ a' ∧ ρ = [.p (bx l a'), .v (.str (sx x)), .no, .no, .no])
      (dxr_add1 (l := x ++ y) (dx_addSx (vx 1 n1.toNm rfl rfl) (DX.to (d1 := .str (sx y)) (dx_mulS (i := (z : Int)) (dx_strx (l := [48]) (by decide +kernel)) (DX.to (call_ G CLawDraw (by decide) (by walk_at "g") (l, a + 1 + 1, 3) (lend_ 0 n0 rfl (dl_val dx_int dl_nil)) rfl ⟨by show (0 : Int) ≤ a + 1 + 1; omega, by show (0 : Int) < 3; decide⟩ (.l (by walk_at "up") (.v .nil)) (.l .p (.v .nil))) (congrArg D.int ez)) ok0) (by rw [ey])) (sz1 (by omega)))
        (callR_ G CDt (by decide) (by walk_at "g") (l, a + 1 + 1 + 1 + 1, cnt) (lend_ 0 n0 rfl (dl_val (dx_ixL (i := drF l (a + 1 + 1 + 1) 7) (dx_frzL (dx_lst (hl := by simp) (da_cons dx_int (da_cons dx_int (da_cons dx_int (da_cons dx_int (da_cons dx_int (da_cons dx_int (da_cons dx_int da_nil))))))))) (call_ G CLawDraw (by decide) (by walk_at "g") (l, a + 1 + 1 + 1, 7) (lend_ 0 n0 rfl (dl_val dx_int dl_nil)) rfl ⟨by show (0 : Int) ≤ a + 1 + 1 + 1; omega, by show (0 : Int) < 7; decide⟩ (.l (by walk_at "up") (.v .nil)) (.l .p (.v .nil))) (by rw [em2]; exact hcnt)) dl_nil)) rfl ⟨by show (0 : Int) ≤ a + 1 + 1 + 1 + 1; omega, hcl⟩ ?q (.l .p (.v .nil)))) (fun d ρ hq => ?_) rfl)
    case q =>
      rintro d os ⟨t, a', rfl, rfl, h1, h2⟩
      exact ⟨_, .l .p (.v .nil), t, rfl, sz1 (by simp; omega), x ++ y ++ t, a', rfl, by simp; omega, h1, rfl⟩
    obtain ⟨t, a', rfl, htl, ha', rfl⟩ := hq
    refine ⟨_, by walk_at "st", ?_⟩
    refine ds_mid (fun ρ => ∃ t a', t.length ≤ 60 ∧ 0 ≤ a' ∧ ρ = [.p (bx l a'), .v (.str (sx t)), .no, .no, .no]) (d1_if (dt_cmp (call_ G CLawDraw (by decide) (by walk_at "g") (l, a', 2) (lend_ 0 n0 rfl (dl_val dx_int dl_nil)) rfl ⟨ha', by show (0 : Int) < 2; decide⟩ (.l (by walk_at "up") (.v .nil)) (.l .p (.v .nil))) dx_int rfl) (fun _ => ?_) (fun _ => ds_nil ⟨t, a' + 1, by omega, by omega, rfl⟩)) (fun ρ hJ => ?_)
    · obtain ⟨m3, em3, hm3⟩ := drN (l := l) (a := a' + 1) (m := 8) (by decide)
      refine ds_cons (setR_ G 1 n1 (QQ := fun d ρ => ∃ t' a'', d = .str (sx t') ∧ t'.length ≤ 60 ∧ 0 ≤ a'' ∧ ρ = [.p (bx l a''), .v (.str (sx t)), .no, .no, .no])
        (dxr_add2 (dxr_add1 (l := t ++ [46]) (dx_addSx (vx 1 n1.toNm rfl rfl) (dx_strx dotE) (sz1 (by simp; omega)))
          (callR_ G CDt (by decide) (by walk_at "g") (l, a' + 1 + 1, m3) (lend_ 0 n0 rfl (dl_val (DX.to (call_ G CLawDraw (by decide) (by walk_at "g") (l, a' + 1, 8) (lend_ 0 n0 rfl (dl_val dx_int dl_nil)) rfl ⟨by show (0 : Int) ≤ a' + 1; omega, by show (0 : Int) < 8; decide⟩ (.l (by walk_at "up") (.v .nil)) (.l .p (.v .nil))) (congrArg D.int em3)) dl_nil)) rfl ⟨by show (0 : Int) ≤ a' + 1 + 1; omega, by show m3 ≤ 20; omega⟩ ?q (.l .p (.v .nil))))) (fun d ρ hq => ?_) rfl)
      case q =>
        rintro d os ⟨t2, a3, rfl, rfl, h1, h2⟩
        obtain ⟨z2, ez2, hz2⟩ := drN (l := l) (a := a3) (m := 2) (by decide)
        obtain ⟨ok2, y2, ey2, hy2⟩ := mul0 (n := z2) (by omega)
        exact ⟨_, .l .p (.v .nil), t2, rfl, sz1 (by simp; omega), t ++ [46] ++ t2, y2, _, rfl, DX.to (d1 := .str (sx y2)) (dx_mulS (i := (z2 : Int)) (dx_strx (l := [48]) (by decide +kernel)) (DX.to (call_ G CLawDraw (by decide) (by walk_at "g") (l, a3, 2) (lend_ 0 n0 rfl (dl_val dx_int dl_nil)) rfl ⟨h1, by show (0 : Int) < 2; decide⟩ (.l .p (.v .nil)) (.l .p (.v .nil))) (congrArg D.int ez2)) ok2) (by rw [ey2]), sz1 (by simp; omega), t ++ [46] ++ t2 ++ y2, a3 + 1, rfl, by simp; omega, by omega, rfl⟩
      obtain ⟨t', a'', rfl, q1, q2, rfl⟩ := hq
      exact ⟨_, by walk_at "st", ds_nil ⟨t', a'', q1, q2, rfl⟩⟩
    obtain ⟨t, a', htl, ha', rfl⟩ := hJ
    refine ds_cons (set_ G 3 n3 (d := .int (drF l a' 6)) (call_ G CLawDraw (by decide) (by walk_at "g") (l, a', 6) (lend_ 0 n0 rfl (dl_val dx_int dl_nil)) rfl ⟨ha', by show (0 : Int) < 6; decide⟩ (.l (by walk_at "up") (.v .nil)) (.l .p (.v .nil))) (by walk_at "st") ?_ rfl)
    obtain ⟨p, ep, hpl⟩ := drN (l := l) (a := a' + 1) (m := (t.length : Int) + 1) (by omega)
    refine ds_cons (set_ G 4 n4 (d := .int (p : Int)) (DX.to (call_ G CLawDraw (by decide) (by walk_at "g") (l, a' + 1, (t.length : Int) + 1) (lend_ 0 n0 rfl (dl_val (dx_bin (dx_lenx zLen (vx 1 n1.toNm rfl rfl) (sz1 (by omega))) dx_int rfl) dl_nil)) rfl ⟨by show (0 : Int) ≤ a' + 1; omega, by show (0 : Int) < t.length + 1; omega⟩ (.l (by walk_at "up") (.v .nil)) (.l .p (.v .nil))) (congrArg D.int ep)) (by walk_at "st") ?_ rfl)
    have hsz : t.length ≤ sizeLine := sz1 (by omega)
    have tk : D.str (sx (cutD t none (some (p : Int)))) = .str (sx (t.take p)) := by rw [cutD_to]
    have dr : D.str (sx (cutD t (some (p : Int)) none)) = .str (sx (t.drop p)) := by rw [cutD_from]
    generalize drF l a' 6 = ch
    refine ds_mid (fun ρ => ∃ t a', t.length ≤ 70 ∧ 0 ≤ a' ∧ ρ = [.p (bx l a'), .v (.str (sx t)), .no, .v (.int ch), .v (.int p)]) (d1_if (dt_cmp (vx 3 n3.toNm rfl rfl) dx_int rfl) (fun _ => ?_) (fun _ => ds_nil ⟨t, a' + 1 + 1, by omega, by omega, rfl⟩)) (fun ρ hJ => ?_)
    · refine ds_cons (setR_ G 1 n1 (QQ := fun d ρ => ∃ t', d = .str (sx t') ∧ t'.length ≤ 70 ∧ ρ = [.p (bx l (a' + 1 + 1 + 1)), .v (.str (sx t)), .no, .v (.int ch), .v (.int p)])
        (dxr_add2 (dxr_add1 (DX.to (dx_slS (vx 1 n1.toNm rfl rfl) dp_non (dp_some (vx 4 n4.toNm rfl rfl)) hsz) tk) (callR_ G CAny (by decide) (by walk_at "g") (l, a' + 1 + 1) (lend_ 0 n0 rfl dl_nil) rfl (by show (0 : Int) ≤ a' + 1 + 1; omega) ?q (.l .p .nil)))) (fun d ρ hq => ?_) rfl)
      case q =>
        rintro d os ⟨c, rfl, rfl⟩
        exact ⟨_, .l .p .nil, [c], rfl, sz1 (by simp; omega), t.take p ++ [c], t.drop p, _, rfl, DX.to (dx_slS (vx 1 n1.toNm rfl rfl) (dp_some (vx 4 n4.toNm rfl rfl)) dp_non hsz) dr, sz1 (by simp; omega), t.take p ++ [c] ++ t.drop p, rfl, by simp; omega, rfl⟩
      obtain ⟨t', rfl, q1, rfl⟩ := hq
      exact ⟨_, by walk_at "st", ds_nil ⟨t', a' + 1 + 1 + 1, q1, by omega, rfl⟩⟩
    obtain ⟨t, a', htl, ha', rfl⟩ := hJ
    have hsz : t.length ≤ sizeLine := sz1 (by omega)
    have tk : D.str (sx (cutD t none (some (p : Int)))) = .str (sx (t.take p)) := by rw [cutD_to]
    have dr1 : D.str (sx (cutD t (some ((p + 1 : Nat) : Int)) none)) = .str (sx (t.drop (p + 1))) := by rw [cutD_from]
    refine ds_mid (fun ρ => ∃ t, t.length ≤ 80 ∧ ρ = [.p (bx l a'), .v (.str (sx t)), .no, .v (.int ch), .v (.int p)]) (d1_if (dt_cmp (vx 3 n3.toNm rfl rfl) dx_int rfl) (fun _ => ?_) (fun _ => ds_nil ⟨t, by omega, rfl⟩)) (fun ρ hJ => ?_)
    · refine ds_cons (set_ G 1 n1 (dx_addSx (DX.to (dx_slS (vx 1 n1.toNm rfl rfl) dp_non (dp_some (vx 4 n4.toNm rfl rfl)) hsz) tk) (DX.to (dx_slS (vx 1 n1.toNm rfl rfl) (dp_some (i := ((p + 1 : Nat) : Int)) (dx_bin (vx 4 n4.toNm rfl rfl) dx_int rfl)) dp_non hsz) dr1) (sz1 (by simp; omega))) (by walk_at "st") (ds_nil ⟨_, by simp; omega, rfl⟩) rfl)
    obtain ⟨t, htl, rfl⟩ := hJ
    exact ds_cons (d1_ret (vx 1 n1.toNm rfl rfl) ⟨_, (.p .nil), h t a' ha' (by omega)⟩)
abbrev sLaw : Stmt := top 23
abbrev NLaw : List Str := ["_law_script", "_law_box", "_law_turn", "_law_text_here"]
theorem scLaw : FnScope NLaw ["_law_script"] (defScope sLaw) := ⟨rfl, rfl, rfl, by decide +kernel, rfl, by decide +kernel, by decide +kernel⟩
theorem cal_law (CLawDigits : Cal P w K mg base 2 "_law_digits" PhLawDigits) (CLawText : Cal P w K mg base 3 "_law_text" PhLawText) (CLawSame : Cal P w K mg base 2 "_law_same" (PhLawSame 1)) (CReadDecimal : Cal P w K mg base 2 "read_decimal" PhReadDecimal) (CReadNumber : Cal P w K mg base 3 "read_number" PhReadNumber) (COwnD : Cal P w K mg base 3 "_law_own_decimal" PhLawOwnDecimal) (COwnN : Cal P w K mg base 4 "_law_own_number" PhLawOwnNumber)
    (zRange : mg "range" = none) {fa : Addr} {fd : FuncData} (F : Fun K "law" "law" sLaw fa fd) : FnOk P w K mg base CX0 5 fa fd ["_law_script"] (spD K (lawPhi 63 fun _ => True)) := by
  refine fnD F scLaw [false] rfl (by decide) (fun ds kk h => ?_) (fun cdv A outer s H E G ds kk h => ?_)
  · obtain ⟨ns, rfl, _⟩ := h
    exact ⟨rfl, fun i d q q2 => by
      match i, q, q2 with
      | 0, _, q2 => cases q2; exact fr_scr ns⟩
  · obtain ⟨ns, rfl, ⟨hl, _⟩, h⟩ := h
    have h : kk (.bl true) [scr ns] := h
    show DS _ [.v (scr ns), .no, .no, .no] _ _
    have n0 : Nm (cxOf CX0 P w K mg base NLaw "law" (defScope sLaw) fa cdv A outer s H E).nox 0 "_law_script" := by walk_at "n"
    have n1 : Nl (cxOf CX0 P w K mg base NLaw "law" (defScope sLaw) fa cdv A outer s H E).nox 1 "_law_box" := by walk_at "nl"
    have n2 : Nl (cxOf CX0 P w K mg base NLaw "law" (defScope sLaw) fa cdv A outer s H E).nox 2 "_law_turn" := by walk_at "nl"
    have n3 : Nl (cxOf CX0 P w K mg base NLaw "law" (defScope sLaw) fa cdv A outer s H E).nox 3 "_law_text_here" := by walk_at "nl"
    refine ds_cons (setR_ G 1 n1 (QQ := fun d ρ => ∃ l, d = bx l 0 ∧ ρ = [.v (scr ns), .no, .no, .no]) (dxr_lst (dar_cons (DXR.frz (callR_ G CLawDigits (by decide) (by walk_at "g") (ns, 0, 63) (dl_val (vx 0 n0 rfl (fr_scr ns)) (dl_val dx_int (dl_val dx_int dl_nil)) (fr_scr ns)) rfl (by show (0 : Int) ≤ 0 ∧ (0 : Int) ≤ 63 ∧ (63 : Int) ≤ 63; omega) ?q (.v (.v (.v .nil))))))) (fun d ρ hq => ?_) rfl)
    case q =>
      rintro d os ⟨l, rfl, rfl, _⟩
      have e : frz (.ml (intL l)) = .lst (intL l) := frz_ml (frs_ints l)
      refine ⟨_, .v (.v (.v .nil)), ?_⟩
      rw [e]
      exact ⟨fr_lst l, fr_lst l, (da_one dx_int).r ⟨by simp, l, rfl, rfl⟩⟩
    obtain ⟨l, rfl, rfl⟩ := hq
    refine ⟨_, by walk_at "st", ?_⟩
    refine ds_cons (d1_forR1 G zRange (da_one dx_int) (by decide) (fun t ρ => ∃ a s2 s3, ρ = [.v (scr ns), .v (bx l a), s2, s3] ∧ 0 ≤ a) ⟨0, _, _, rfl, by decide⟩ (fun t ρ ht hI => ?_) (fun ρ hI => ?_))
    · obtain ⟨a, s2, s3, rfl, ha⟩ := hI
      refine ⟨_, gname G 2 n2 (by walk_at "st"), ?_⟩
      refine ds_cons (setR_ G 3 n3 (QQ := fun d ρ => ∃ t' a', d = .str (sx t') ∧ t'.length ≤ 100 ∧ 0 ≤ a' ∧ ρ = [.v (scr ns), .v (bx l a'), .v (.int t), s3]) (callR_ G CLawText (by decide) (by walk_at "g") (l, a) (lend_ 1 n1.toNm rfl dl_nil) rfl ha ?q (.l (.s .v) .nil)) (fun d ρ hq => ?_) rfl)
      case q =>
        rintro d os ⟨t', a', rfl, rfl, h1, h2⟩
        exact ⟨_, .l (by walk_at "up") .nil, t', a', rfl, h2, h1, rfl⟩
      obtain ⟨x, a', rfl, hx, ha', rfl⟩ := hq
      refine ⟨_, by walk_at "st", ?_⟩
      have hxl : x.length < 900 := by omega
      obtain ⟨o1, o2, o3⟩ := dec_ok x
      obtain ⟨p1, p2, p3⟩ := numb_ok x
      refine ds_cons (d1_if (dt_not (dt_val (call_ G CLawSame (by decide) (by walk_at "g") (decF x) (dl_val (d := decF x) (call_ G CReadDecimal (by decide) (by walk_at "g") x (dl_val (vx 3 n3.toNm rfl rfl) dl_nil) rfl hxl (.v .nil) (.v .nil)) (dl_val (d := decF x) (call_ G COwnD (by decide) (by walk_at "g") x (dl_val (vx 3 n3.toNm rfl rfl) dl_nil) rfl hxl (.v .nil) (.v .nil)) dl_nil o3) o3) rfl ⟨o1, o2⟩ (.v (.v .nil)) (.v (.v .nil))))) (fun hb => by cases hb) (fun _ => ds_nil ?_))
      refine ds_cons (d1_if (dt_not (dt_val (call_ G CLawSame (by decide) (by walk_at "g") (numbF x) (dl_val (d := numbF x) (call_ G CReadNumber (by decide) (by walk_at "g") x (dl_val (vx 3 n3.toNm rfl rfl) dl_nil) rfl hxl (.v .nil) (.v .nil)) (dl_val (d := numbF x) (call_ G COwnN (by decide) (by walk_at "g") x (dl_val (vx 3 n3.toNm rfl rfl) dl_nil) rfl hxl (.v .nil) (.v .nil)) dl_nil p3) p3) rfl ⟨p1, p2⟩ (.v (.v .nil)) (.v (.v .nil))))) (fun hb => by cases hb) (fun _ => ds_nil (ds_nil ⟨a', _, _, rfl, ha'⟩)))
    · obtain ⟨a, s2, s3, rfl, ha⟩ := hI
      exact ds_cons (d1_ret dx_bl ⟨_, (.v .nil), h⟩)
theorem all_mk {h : Heap} {fa : Addr} {tk tk2 tk3 : Tok} (X : K.In h) (G : h.Ns mainGlobals mg) (hfa : mg "law" = some (.ref fa)) (t1 : TopF K "fraction" sFraction) (t2 : TopF K "_all_digits" sAllDigits) (t3 : TopF K "read_decimal" sReadDecimal) (t4 : TopF K "read_number" sReadNumber) (t5 : TopF K "_law_cell" sLawCell) (t6 : TopF K "_law_digits" sLawDigits) (t7 : TopF K "_law_draw" sLawDraw) (t8 : TopF K "_law_gcd" sLawGcd) (t9 : TopF K "_law_lowest" sLawLowest) (t10 : TopF K "_law_same" sLawSame) (t11 : TopF K "_law_all_digits" sLawAllDigits) (t12 : TopF K "_law_own_decimal" sLawOwnDecimal) (t13 : TopF K "_law_own_number" sLawOwnNumber) (t14 : TopF K "_law_digit_text" sLawDigitText) (t15 : TopF K "_law_any" sLawAny) (t16 : TopF K "_law_text" sLawText) (t17 : TopF K "law" sLaw)
    (z1 : NoF K "range") (z2 : NoF K "int") (z3 : NoF K "len") (z4 : NoF K "all") (z5 : NoF K "isinstance") (z6 : NoF K "list") (z7 : NoF K "tuple") (z8 : NoF K "bool") (z9 : NoF K "str") (z10 : NoF K "abs") (g1 : PySem.W.nsIn K mainGlobals "gcd" = some (some (.builtin "math.gcd"))) (g2 : PySem.W.nsIn K mainGlobals "DIGITS" = some (some (.str (Str.ofString "0123456789") tk))) (g3 : PySem.W.nsIn K mainGlobals "WHOLE_DIGITS" = some (some (.int 12 tk2))) (g4 : PySem.W.nsIn K mainGlobals "MORE_DIGITS" = some (some (.int 6 tk3))) :
    ∃ fd : FuncData, (∀ (s : Shared) (v : Value), BindsTo s fd ⟨[v], []⟩ [("_law_script", v)]) ∧ ∀ base : Heap, K.In base → base.Ns mainGlobals mg → FnOk P w K mg base CX0 5 fa fd ["_law_script"] (spD K (lawPhi 63 fun _ => True)) := by
  have z1 := z1.no X G
  have z2 := z2.no X G
  have z3 := z3.no X G
  have z4 := z4.no X G
  have z10 := z10.no X G
  have Z : Isi mg := ⟨z5.no X G, z6.no X G, z7.no X G, z8.no X G, z9.no X G, z2⟩
  have g1 := PySem.W.mg_of X G g1
  have g2 := PySem.W.mg_of X G g2
  have g3 := PySem.W.mg_of X G g3
  have g4 := PySem.W.mg_of X G g4
  rw [digsE] at g2
  have t1 := t1.top (ps := ["n", "d"]) X G fun _ _ _ _ _ _ us hl => match us, hl with | [_, _], _ => rfl
  have t2 := t2.top (ps := ["text"]) X G fun _ _ _ _ _ _ us hl => match us, hl with | [_], _ => rfl
  have t3 := t3.top (ps := ["text"]) X G fun _ _ _ _ _ _ us hl => match us, hl with | [_], _ => rfl
  have t4 := t4.top (ps := ["text"]) X G fun _ _ _ _ _ _ us hl => match us, hl with | [_], _ => rfl
  have t5 := t5.top (ps := ["_law_script", "_law_k"]) X G fun _ _ _ _ _ _ us hl => match us, hl with | [_, _], _ => rfl
  have t6 := t6.top (ps := ["_law_script", "_law_first", "_law_last"]) X G fun _ _ _ _ _ _ us hl => match us, hl with | [_, _, _], _ => rfl
  have t7 := t7.top (ps := ["_law_box", "_law_many"]) X G fun _ _ _ _ _ _ us hl => match us, hl with | [_, _], _ => rfl
  have t8 := t8.top (ps := ["_law_a", "_law_b"]) X G fun _ _ _ _ _ _ us hl => match us, hl with | [_, _], _ => rfl
  have t9 := t9.top (ps := ["_law_n", "_law_d"]) X G fun _ _ _ _ _ _ us hl => match us, hl with | [_, _], _ => rfl
  have t10 := t10.top (ps := ["_law_actual", "_law_due"]) X G fun _ _ _ _ _ _ us hl => match us, hl with | [_, _], _ => rfl
  have t11 := t11.top (ps := ["_law_text_here"]) X G fun _ _ _ _ _ _ us hl => match us, hl with | [_], _ => rfl
  have t12 := t12.top (ps := ["_law_text_here"]) X G fun _ _ _ _ _ _ us hl => match us, hl with | [_], _ => rfl
  have t13 := t13.top (ps := ["_law_text_here"]) X G fun _ _ _ _ _ _ us hl => match us, hl with | [_], _ => rfl
  have t14 := t14.top (ps := ["_law_box", "_law_many"]) X G fun _ _ _ _ _ _ us hl => match us, hl with | [_, _], _ => rfl
  have t15 := t15.top (ps := ["_law_box"]) X G fun _ _ _ _ _ _ us hl => match us, hl with | [_], _ => rfl
  have t16 := t16.top (ps := ["_law_box"]) X G fun _ _ _ _ _ _ us hl => match us, hl with | [_], _ => rfl
  refine t17.law (ps := ["_law_script"]) X G hfa (fun s v _ _ _ _ _ _ => .of_eq rfl) fun fd F base _ _ => ?_
  have cd := cal_law_draw (P := P) (w := w) (base := base) t7 z2 z3
  have cr := cal_read_decimal (P := P) (w := w) (base := base) t3 (cal_all_digits t2 ⟨tk, g2⟩ z4 z3) (cal_fraction t1 g1) ⟨tk2, g3⟩ ⟨tk3, g4⟩ z2 z3
  have co := cal_law_own_decimal (P := P) (w := w) (base := base) t12 (cal_law_all_digits t11 z3) (cal_law_lowest t9 (cal_law_gcd t8 z10 z2 z1)) z2 z3
  exact cal_law (cal_law_digits t6 (cal_law_cell t5 z3) z2 z1) (cal_law_text t16 cd (cal_law_any t15 cd) (cal_law_digit_text t14 cd z1) z3 z1) (cal_law_same t10 Z z3 z1 1) cr (cal_read_number t4 cr) co (cal_law_own_number t13 co) z1 F
end
end Tm
open PySem PySem.W PyProof.Rows Tm DL in
set_option maxRecDepth 100000 in
set_option maxHeartbeats 0 in
theorem PySem.Challenge.cw_tablemates_k03_number_texts_are_read_holds : PySem.Challenge.rw_tablemates_k03_number_texts_are_read.Holds := by
  w_on; o_law; k_head; (case hw => w_witness2)
  k_fill
  refine DL.Top.law (l := PySem.Challenge.rw_tablemates_k03_number_texts_are_read) (n := 63) (kf := 5) (x := "_law_script") (st := sLaw) rfl (by decide) rfl ⟨rfl, by decide, by decide⟩ (fun w h Y => PySem.W.kIn_of Y) ?F
  case F =>
    intro w mg fa h KX G hmg
    refine' all_mk KX G hmg ?t1 ?t2 ?t3 ?t4 ?t5 ?t6 ?t7 ?t8 ?t9 ?t10 ?t11 ?t12 ?t13 ?t14 ?t15 ?t16 ?t17 ?z1 ?z2 ?z3 ?z4 ?z5 ?z6 ?z7 ?z8 ?z9 ?z10 ?g1 ?g2 ?g3 ?g4
    case t1 => refine' TopF.mk ?a ?l ?c ?k; (case a => k_is); (case l => k_is); (case c => k_is); (case k => k_is)
    case t2 => refine' TopF.mk ?a ?l ?c ?k; (case a => k_is); (case l => k_is); (case c => k_is); (case k => k_is)
    case t3 => refine' TopF.mk ?a ?l ?c ?k; (case a => k_is); (case l => k_is); (case c => k_is); (case k => k_is)
    case t4 => refine' TopF.mk ?a ?l ?c ?k; (case a => k_is); (case l => k_is); (case c => k_is); (case k => k_is)
    case t5 => refine' TopF.mk ?a ?l ?c ?k; (case a => k_is); (case l => k_is); (case c => k_is); (case k => k_is)
    case t6 => refine' TopF.mk ?a ?l ?c ?k; (case a => k_is); (case l => k_is); (case c => k_is); (case k => k_is)
    case t7 => refine' TopF.mk ?a ?l ?c ?k; (case a => k_is); (case l => k_is); (case c => k_is); (case k => k_is)
    case t8 => refine' TopF.mk ?a ?l ?c ?k; (case a => k_is); (case l => k_is); (case c => k_is); (case k => k_is)
    case t9 => refine' TopF.mk ?a ?l ?c ?k; (case a => k_is); (case l => k_is); (case c => k_is); (case k => k_is)
    case t10 => refine' TopF.mk ?a ?l ?c ?k; (case a => k_is); (case l => k_is); (case c => k_is); (case k => k_is)
    case t11 => refine' TopF.mk ?a ?l ?c ?k; (case a => k_is); (case l => k_is); (case c => k_is); (case k => k_is)
    case t12 => refine' TopF.mk ?a ?l ?c ?k; (case a => k_is); (case l => k_is); (case c => k_is); (case k => k_is)
    case t13 => refine' TopF.mk ?a ?l ?c ?k; (case a => k_is); (case l => k_is); (case c => k_is); (case k => k_is)
    case t14 => refine' TopF.mk ?a ?l ?c ?k; (case a => k_is); (case l => k_is); (case c => k_is); (case k => k_is)
    case t15 => refine' TopF.mk ?a ?l ?c ?k; (case a => k_is); (case l => k_is); (case c => k_is); (case k => k_is)
    case t16 => refine' TopF.mk ?a ?l ?c ?k; (case a => k_is); (case l => k_is); (case c => k_is); (case k => k_is)
    case t17 => refine' TopF.mk ?a ?l ?c ?k; (case a => k_is); (case l => k_is); (case c => k_is); (case k => k_is)
    case z1 => unfold NoF; k_is
    case z2 => unfold NoF; k_is
    case z3 => unfold NoF; k_is
    case z4 => unfold NoF; k_is
    case z5 => unfold NoF; k_is
    case z6 => unfold NoF; k_is
    case z7 => unfold NoF; k_is
    case z8 => unfold NoF; k_is
    case z9 => unfold NoF; k_is
    case z10 => unfold NoF; k_is
    case g1 => k_is
    case g2 => k_is
    case g3 => k_is
    case g4 => k_is
#print axioms PySem.Challenge.cw_tablemates_k03_number_texts_are_read_holds
