import PyProof.Rows.All
import Wide.All
import OpenK.AllK
import Wide.FinOn
import HandS.ForMost
import HandS.ForExc
import HandS.Wide
import HandS.CallSlots
import HandS.Comp
import HandS.TryOnly
import HandS.IsInst
import HandS.TupAny
import HandS.Zip
import HandS.TupLe
import PyProof.NeKinds
import HandS.ExcOwn
import HandS.ExcCtx
import KE.SortData
import HandS.EndBits
import HandS.RaiseMore
import HandS.Text
import HandS.Conv
import HandS.ExcIs
import HandS.TryMany
import KE.GoesMore
import PyProof.Draws
import KE.GoesZip
import KE.GoesEnum
import HandS.SortInts
import HandS.SetFor
import HandS.Deep
import PySem.Challenge.RW_lentwork_k12_sheets_refused
set_option Elab.async false
set_option linter.all false
set_option maxRecDepth 100000
set_option maxHeartbeats 4000000
/-! SimA: plain data D, plain heaps, plain computations M, and what it means that an expression or a statement of the text
    computes one of them (DE, DT, DA, DS). Over the hand layer's judgements. -/
namespace Lw
open PySem L2

abbrev Fg := PySem.W.Frag

/-- plain data: tuples and lists that are never written are values -/
inductive D where
  | non | bl (b : Bool) | int (i : Int) | str (x : Str)
  | ref (n : Nat) | exn (c : Str) (a : Addr) | emp | tup (xs : List D) | lst (xs : List D)

mutual
def Rep (K : Fg) (F : Hp) (m : List Addr) : D → V → Prop
  | .non, v => v = .non
  | .bl b, v => v = .bl b
  | .int i, v => v = .int i
  | .str x, v => v = .str x
  | .ref n, v => ∃ a, m[n]? = some a ∧ v = .ref a
  | .exn _ a, v => v = .ref a
  | .emp, v => ∃ a, F a = some (.dK []) ∧ v = .ref a
  | .tup xs, v => ∃ a vs, v = .ref a ∧ SqT K F a vs ∧ RepL K F m xs vs
  | .lst xs, v => ∃ a vs, v = .ref a ∧ SqL K F a vs ∧ RepL K F m xs vs
def RepL (K : Fg) (F : Hp) (m : List Addr) : List D → List V → Prop
  | [], vs => vs = []
  | d :: ds, vs => ∃ v r, vs = v :: r ∧ Rep K F m d v ∧ RepL K F m ds r
end

structure Ext (F : Hp) (m : List Addr) (F' : Hp) (m' : List Addr) : Prop where
  sub : ∀ a o, F a = some o → F' a = some o
  pre : ∀ (i : Nat) a, m[i]? = some a → m'[i]? = some a

section
variable {K : Fg} {F F' F2 H : Hp} {m m' m2 : List Addr}
theorem Ext.refl : Ext F m F m := ⟨fun _ _ h => h, fun _ _ h => h⟩
theorem Ext.trans (a : Ext F m F' m') (b : Ext F' m' F2 m2) : Ext F m F2 m2 := ⟨fun x o h => b.sub x o (a.sub x o h), fun i x h => b.pre i x (a.pre i x h)⟩
theorem Rd.up {a : Addr} {u : HO} (s : ∀ a o, F a = some o → H a = some o) (h : Rd F a u) : Rd H a u := by
  rcases h with h | ⟨o, h⟩
  · exact .inl (s _ _ h)
  · exact .inr ⟨o, s _ _ h⟩
theorem SqT.up {a : Addr} {xs : List V} (s : ∀ a o, F a = some o → H a = some o) (h : SqT K F a xs) : SqT K H a xs := by
  rcases h with h | h
  · exact .inl (Rd.up s h)
  · exact .inr h
theorem SqL.up {a : Addr} {xs : List V} (s : ∀ a o, F a = some o → H a = some o) (h : SqL K F a xs) : SqL K H a xs := by
  rcases h with h | h
  · exact .inl (Rd.up s h)
  · exact .inr h
mutual
theorem Rep.ext (e : Ext F m F' m') : ∀ (d : D) (v : V), Rep K F m d v → Rep K F' m' d v
  | .non, _, h => h
  | .bl _, _, h => h
  | .int _, _, h => h
  | .str _, _, h => h
  | .ref n, v, h => by
    unfold Rep at h ⊢
    obtain ⟨a, q, h⟩ := h
    exact ⟨a, e.pre _ _ q, h⟩
  | .exn _ _, _, h => h
  | .emp, v, h => by
    unfold Rep at h ⊢
    obtain ⟨a, q, h⟩ := h
    exact ⟨a, e.sub _ _ q, h⟩
  | .tup xs, v, h => by
    unfold Rep at h ⊢
    obtain ⟨a, vs, h1, h2, h3⟩ := h
    exact ⟨a, vs, h1, SqT.up e.sub h2, RepL.ext e xs vs h3⟩
  | .lst xs, v, h => by
    unfold Rep at h ⊢
    obtain ⟨a, vs, h1, h2, h3⟩ := h
    exact ⟨a, vs, h1, SqL.up e.sub h2, RepL.ext e xs vs h3⟩
theorem RepL.ext (e : Ext F m F' m') : ∀ (ds : List D) (vs : List V), RepL K F m ds vs → RepL K F' m' ds vs
  | [], _, h => h
  | d :: ds, vs, h => by
    unfold RepL at h ⊢
    obtain ⟨v, r, h1, h2, h3⟩ := h
    exact ⟨v, r, h1, Rep.ext e d v h2, RepL.ext e ds r h3⟩
end
theorem RepL.length : ∀ {ds : List D} {vs : List V}, RepL K F m ds vs → vs.length = ds.length
  | [], vs, h => by
    unfold RepL at h
    rw [h]
    rfl
  | d :: ds, vs, h => by
    unfold RepL at h
    obtain ⟨v, r, h1, h2, h3⟩ := h
    rw [h1, List.length_cons, List.length_cons, RepL.length h3]
theorem RepL.get : ∀ {ds : List D} {vs : List V} {i : Nat} {d : D}, RepL K F m ds vs → ds[i]? = some d → ∃ v, vs[i]? = some v ∧ Rep K F m d v
  | [], _, _, _, _, e => by simp at e
  | d :: ds, vs, 0, x, h, e => by
    unfold RepL at h
    obtain ⟨v, r, h1, h2, h3⟩ := h
    simp at e
    subst e
    exact ⟨v, by rw [h1]; rfl, h2⟩
  | d :: ds, vs, i + 1, x, h, e => by
    unfold RepL at h
    obtain ⟨v, r, h1, h2, h3⟩ := h
    obtain ⟨u, q1, q2⟩ := RepL.get (i := i) (d := x) h3 (by simpa using e)
    exact ⟨u, by rw [h1]; simpa using q1, q2⟩
theorem RepL.nil : RepL K F m [] [] := by
  unfold RepL
  rfl
theorem RepL.cons {d : D} {v : V} {ds : List D} {vs : List V} (h : Rep K F m d v) (t : RepL K F m ds vs) : RepL K F m (d :: ds) (v :: vs) := by
  unfold RepL
  exact ⟨v, vs, rfl, h, t⟩
theorem RepL.append : ∀ {ds es : List D} {vs us : List V}, RepL K F m ds vs → RepL K F m es us → RepL K F m (ds ++ es) (vs ++ us)
  | [], es, vs, us, h, t => by
    unfold RepL at h
    rw [h]
    exact t
  | d :: ds, es, vs, us, h, t => by
    unfold RepL at h
    obtain ⟨v, r, h1, h2, h3⟩ := h
    rw [h1]
    exact RepL.cons h2 (RepL.append h3 t)
theorem RepL.of_get : ∀ {ds : List D} {vs : List V}, vs.length = ds.length → (∀ (i : Nat) d v, ds[i]? = some d → vs[i]? = some v → Rep K F m d v) → RepL K F m ds vs
  | [], vs, hl, _ => by
    have : vs = [] := List.length_eq_zero_iff.mp hl
    rw [this]
    exact RepL.nil
  | d :: ds, [], hl, _ => by simp at hl
  | d :: ds, v :: vs, hl, h => RepL.cons (h 0 d v rfl rfl) (RepL.of_get (by simpa using hl) fun i x y h1 h2 => h (i + 1) x y (by simpa using h1) (by simpa using h2))
end

/-! ### plain heaps -/
inductive Cell where
  | lst (xs : List D) | dk (kvs : List (Key × D)) | ins (c : Str) (fs : List (Str × D)) | dead | dkL (kvs : List (Key × D))
/-- it may be written -/
def trk : Cell → Bool
  | .dead => false
  | .dkL _ => false
  | _ => true
abbrev AH := List Cell

/-- what a def was called with: the objects that stand outside of the plain heap, and the plain heap's places -/
structure Fm where
  H0 : Hp
  F0 : Hp
  m0 : List Addr

def RepK (K : Fg) (F : Hp) (m : List Addr) {κ : Type} : List (κ × D) → List (κ × V) → Prop := Paired fun p q => p.1 = q.1 ∧ Rep K F m p.2 q.2

def CellOk (K : Fg) (mg : Str → Option Value) (F : Hp) (m : List Addr) (H : Hp) (a : Addr) : Cell → Prop
  | .dead => True
  | .dkL kvs => ∃ o vs, F a = some (.frz o (.dK vs)) ∧ RepK K F m kvs vs
  | .lst xs => F a = none ∧ ∃ vs, H a = some (.lst vs) ∧ RepL K F m xs vs
  | .dk kvs => F a = none ∧ ∃ vs, H a = some (.dK vs) ∧ RepK K F m kvs vs
  | .ins c fs => F a = none ∧ ∃ C dx vs, mg c = some (.ref C) ∧ H a = some (.ins C dx vs) ∧ RepK K F m fs vs

structure Sim (K : Fg) (mg : Str → Option Value) (fr : Fm) (F : Hp) (m : List Addr) (ah : AH) (H : Hp) : Prop where
  sub : ∀ a o, F a = some o → H a = some o
  len : m.length = ah.length
  nod : m.Nodup
  cells : ∀ (i : Nat) c, ah[i]? = some c → ∃ a, m[i]? = some a ∧ CellOk K mg F m H a c
  frame : ∀ a o, fr.H0 a = some o → a ∉ fr.m0 → H a = some o
  young : ∀ a, a ∈ m → a ∉ fr.m0 → fr.H0 a = none
  pre : ∀ (i : Nat) a, fr.m0[i]? = some a → m[i]? = some a
  there : ∀ a, a ∈ m → ∃ o, H a = some o
  old : ∀ a o, F a = some o → fr.F0 a = some o ∨ fr.H0 a = none ∨ a ∈ fr.m0

section
variable {K : Fg} {mg : Str → Option Value} {fr : Fm} {F F' H H' : Hp} {m m' : List Addr} {ah : AH}
theorem Paired.imp {α β : Type} {R S : α → β → Prop} (h : ∀ a b, R a b → S a b) : ∀ {xs : List α} {ys : List β}, Paired R xs ys → Paired S xs ys
  | _, _, .nil => .nil
  | _, _, .cons r t => .cons (h _ _ r) (Paired.imp h t)
theorem RepK.ext {κ : Type} {xs : List (κ × D)} {ys : List (κ × V)} (e : Ext F m F' m') (h : RepK K F m xs ys) : RepK K F' m' xs ys :=
  Paired.imp (fun _ _ r => ⟨r.1, Rep.ext e _ _ r.2⟩) h
theorem CellOk.ext {a : Addr} : ∀ {c : Cell}, CellOk K mg F m H a c → Ext F m F' m' → (trk c = true → F' a = none) → (trk c = true → H' a = H a) → CellOk K mg F' m' H' a c
  | .dead, h, _, _, _ => trivial
  | .dkL kvs, ⟨o, vs, h1, h2⟩, e, _, _ => ⟨o, vs, e.sub _ _ h1, RepK.ext e h2⟩
  | .lst xs, ⟨f, vs, h1, h2⟩, e, n, q => ⟨n rfl, vs, by rw [q rfl]; exact h1, RepL.ext e _ _ h2⟩
  | .dk kvs, ⟨f, vs, h1, h2⟩, e, n, q => ⟨n rfl, vs, by rw [q rfl]; exact h1, RepK.ext e h2⟩
  | .ins c fs, ⟨f, C, dx, vs, h0, h1, h2⟩, e, n, q => ⟨n rfl, C, dx, vs, h0, by rw [q rfl]; exact h1, RepK.ext e h2⟩
theorem CellOk.free {a : Addr} : ∀ {c : Cell}, CellOk K mg F m H a c → trk c = true → F a = none
  | .dead, _, n => nomatch n
  | .dkL _, _, n => nomatch n
  | .lst _, h, _ => h.1
  | .dk _, h, _ => h.1
  | .ins _ _, h, _ => h.1

theorem Sim.mem0 (S : Sim K mg fr F m ah H) {a : Addr} (h : a ∈ fr.m0) : a ∈ m := by
  obtain ⟨i, hi⟩ := List.mem_iff_getElem?.mp h
  exact List.mem_of_getElem? (S.pre i a hi)
theorem Sim.fresh0 (S : Sim K mg fr F m ah H) {p : Addr} (hp : H p = none) : fr.H0 p = none := by
  cases q : fr.H0 p with
  | none => rfl
  | some o =>
    by_cases z : p ∈ fr.m0
    · obtain ⟨u, hu⟩ := S.there p (S.mem0 z)
      rw [hp] at hu
      cases hu
    · rw [S.frame p o q z] at hp
      cases hp
/-- a new thing that is never written is laid at p -/
theorem Sim.frozen {p : Addr} {o : HO} (S : Sim K mg fr F m ah H) (hp : H p = none) : Sim K mg fr (upd F p o) m ah (upd H p o) ∧ Ext F m (upd F p o) m := by
  have Fp : F p = none := by
    cases q : F p with
    | none => rfl
    | some u =>
      rw [S.sub _ _ q] at hp
      cases hp
  have e : Ext F m (upd F p o) m := ⟨fun a u h => by rw [upd_ne (ne_of_none h Fp)]; exact h, fun _ _ h => h⟩
  have nm : ∀ a, a ∈ m → a ≠ p := fun a ha z => by
    obtain ⟨u, hu⟩ := S.there a ha
    rw [z, hp] at hu
    cases hu
  refine ⟨⟨fun a u h => ?_, S.len, S.nod, fun i c h => ?_, fun a u h n => ?_, S.young, S.pre, fun a ha => ?_, fun a u h => ?_⟩, e⟩
  · by_cases z : a = p
    · subst z
      rw [upd_same] at h
      cases h
      exact upd_same
    · rw [upd_ne z] at h ⊢
      exact S.sub _ _ h
  · obtain ⟨a, q, ok⟩ := S.cells i c h
    have ne := nm a (List.mem_of_getElem? q)
    exact ⟨a, q, ok.ext e (fun z => by rw [upd_ne ne]; exact ok.free z) fun _ => by rw [upd_ne ne]⟩
  · have q := S.frame a u h n
    rw [upd_ne (ne_of_none q hp)]
    exact q
  · rw [upd_ne (nm a ha)]
    exact S.there a ha
  · by_cases z : a = p
    · exact .inr (.inl (by rw [z]; exact S.fresh0 hp))
    · rw [upd_ne z] at h
      exact S.old a u h
end

/-! ### plain computations -/
inductive Res (α : Type) where
  | ok (a : α) (h : AH) | exc (x : Str) (h : AH) | stuck
def M (α : Type) := AH → Res α
def M.pure {α : Type} (a : α) : M α := fun h => .ok a h
def M.bind {α β : Type} (x : M α) (f : α → M β) : M β := fun h => match x h with
  | .ok a h' => f a h'
  | .exc e h' => .exc e h'
  | .stuck => .stuck
instance : Monad M where
  pure := M.pure
  bind := M.bind
def stuck {α : Type} : M α := fun _ => .stuck
def throwM {α : Type} (x : Str) : M α := fun h => .exc x h
def getH : M AH := fun h => .ok h h
theorem bind_def {α β : Type} (x : M α) (f : α → M β) (h : AH) : (x >>= f) h = (match x h with
  | .ok a h' => f a h'
  | .exc e h' => .exc e h'
  | .stuck => .stuck) := rfl
theorem pure_def {α : Type} (a : α) (h : AH) : (pure a : M α) h = .ok a h := rfl
theorem M.pure_bind {α β : Type} (a : α) (f : α → M β) : (pure a >>= f : M β) = f a := rfl
theorem M.bind_assoc {α β γ : Type} (x : M α) (f : α → M β) (g : β → M γ) : (x >>= f >>= g : M γ) = x >>= fun a => f a >>= g := by
  funext h
  show (match (match x h with | .ok a h' => f a h' | .exc e h' => .exc e h' | .stuck => .stuck : Res β) with | .ok a h' => g a h' | .exc e h' => .exc e h' | .stuck => .stuck) = _
  rw [bind_def]
  cases x h <;> rfl
instance : LawfulMonad M := LawfulMonad.mk' M
  (id_map := fun x => by
    funext h
    show (match x h with | .ok a h' => Res.ok (id a) h' | .exc e h' => .exc e h' | .stuck => .stuck) = x h
    cases x h <;> rfl)
  (pure_bind := fun _ _ => rfl)
  (bind_assoc := fun x f g => M.bind_assoc x f g)

/-! ### the slots -/
abbrev Env := List (Option D)
def EnvRep (K : Fg) (F : Hp) (m : List Addr) (env : Env) (σ : St) : Prop := env.length = σ.length ∧ ∀ (i : Nat) d, env[i]? = some (some d) → ∃ v, σ[i]? = some (some v) ∧ Rep K F m d v
/-- less is known -/
def EnvLe (a b : Env) : Prop := a.length = b.length ∧ ∀ (i : Nat) d, a[i]? = some (some d) → b[i]? = some (some d)
section
variable {K : Fg} {F F' : Hp} {m m' : List Addr} {env env' : Env} {σ : St}
theorem EnvRep.ext (e : Ext F m F' m') (h : EnvRep K F m env σ) : EnvRep K F' m' env σ := ⟨h.1, fun i d q => by
  obtain ⟨v, h1, h2⟩ := h.2 i d q
  exact ⟨v, h1, Rep.ext e _ _ h2⟩⟩
theorem EnvRep.le (h : EnvRep K F m env σ) (l : EnvLe env' env) : EnvRep K F m env' σ := ⟨l.1.trans h.1, fun i d q => h.2 i d (l.2 i d q)⟩
theorem EnvRep.set {i : Nat} {d : D} {v : V} (h : EnvRep K F m env σ) (r : Rep K F m d v) : EnvRep K F m (env.set i (some d)) (σ.set i (some v)) := by
  refine ⟨by simpa using h.1, fun j x q => ?_⟩
  by_cases hj : i = j
  · subst hj
    by_cases hl : i < env.length
    · rw [List.getElem?_set_self hl] at q
      cases q
      exact ⟨v, by rw [List.getElem?_set_self (by rw [← h.1]; exact hl)], r⟩
    · rw [List.getElem?_eq_none (by simpa using hl)] at q
      cases q
  · rw [List.getElem?_set_ne hj] at q
    obtain ⟨u, h1, h2⟩ := h.2 j x q
    exact ⟨u, by rw [List.getElem?_set_ne hj]; exact h1, h2⟩
theorem EnvLe.refl (e : Env) : EnvLe e e := ⟨rfl, fun _ _ h => h⟩
theorem EnvLe.nil : EnvLe [] [] := EnvLe.refl []
theorem EnvLe.keep {x : Option D} {a b : Env} (h : EnvLe a b) : EnvLe (x :: a) (x :: b) := ⟨by simp [h.1], fun i d q => by
  cases i with
  | zero => exact q
  | succ i => exact h.2 i d (by simpa using q)⟩
theorem EnvLe.drop {x : Option D} {a b : Env} (h : EnvLe a b) : EnvLe (none :: a) (x :: b) := ⟨by simp [h.1], fun i d q => by
  cases i with
  | zero => simp at q
  | succ i => exact h.2 i d (by simpa using q)⟩
theorem EnvLe.trans {a b c : Env} (h : EnvLe a b) (k : EnvLe b c) : EnvLe a c := ⟨h.1.trans k.1, fun i d q => k.2 i d (h.2 i d q)⟩
end

/-! ### what is wanted of a state: a reading made of a plain computation -/
/-- behind a computation's result -/
def TK {α β : Type} (K : Fg) (mg : Str → Option Value) (fr : Fm) (W : WX) (R : Hp → List Addr → α → β → Prop) (σ : St) (F : Hp) (m : List Addr) (r : Res α) (Q : β → Hp → Prop) : Prop :=
  match r with
  | .ok d ah => ∀ F' m' v H', Ext F m F' m' → Sim K mg fr F' m' ah H' → R F' m' d v → Q v H'
  | .exc x ah => ∀ F' m' C H', Ext F m F' m' → Sim K mg fr F' m' ah H' → mg x = some (.ref C) → W (.ref C) none σ H'
  | .stuck => False
/-- the reading -/
def TC {α β : Type} (K : Fg) (mg : Str → Option Value) (W : WX) (R : Hp → List Addr → α → β → Prop) (env : Env) (mc : M α) : St → Hp → (β → Hp → Prop) → Prop := fun σ H Q =>
  ∃ fr F m ah, Sim K mg fr F m ah H ∧ EnvRep K F m env σ ∧ TK K mg fr W R σ F m (mc ah) Q
abbrev RB : Hp → List Addr → Bool → Bool → Prop := fun _ _ a b => a = b
section
variable {K : Fg} {mg : Str → Option Value} {fr : Fm} {W : WX} {env : Env} {σ : St} {F F' H : Hp} {m m' : List Addr} {ah : AH} {α β γ δ : Type} {R : Hp → List Addr → α → β → Prop} {S : Hp → List Addr → γ → δ → Prop}
theorem TK.ext {r : Res α} {Q : β → Hp → Prop} (e : Ext F m F' m') (h : TK K mg fr W R σ F m r Q) : TK K mg fr W R σ F' m' r Q := by
  cases r with
  | ok d a => exact fun F2 m2 v H' e2 s r => h F2 m2 v H' (e.trans e2) s r
  | exc x a => exact fun F2 m2 C H' e2 s r => h F2 m2 C H' (e.trans e2) s r
  | stuck => exact h
/-- the first part runs, the rest is wanted behind it -/
theorem TK.step {ma : M α} {k : α → M γ} {Q : δ → Hp → Prop} (s : Sim K mg fr F m ah H) (er : EnvRep K F m env σ) (h : TK K mg fr W S σ F m ((ma >>= k) ah) Q) {P : β → Hp → Prop}
    (hP : ∀ F1 m1 ah1 d v H1, Ext F m F1 m1 → Sim K mg fr F1 m1 ah1 H1 → EnvRep K F1 m1 env σ → R F1 m1 d v → TK K mg fr W S σ F1 m1 (k d ah1) Q → P v H1) : TC K mg W R env ma σ H P := by
  refine ⟨fr, F, m, ah, s, er, ?_⟩
  rw [bind_def] at h
  cases hr : ma ah with
  | ok d a =>
    rw [hr] at h
    exact fun F' m' v H' e s' r => hP F' m' a d v H' e s' (er.ext e) r (TK.ext e h)
  | exc x a =>
    rw [hr] at h
    exact h
  | stuck =>
    rw [hr] at h
    exact h
end

/-! ### the judgements -/
section
variable (X : Cx) (W : WX) (env : Env)
abbrev DE (e : Expr) (mc : M D) : Prop := PE X e (TC X.K X.mg W (Rep X.K) env mc)
abbrev DT (e : Expr) (mc : M Bool) : Prop := PT X e (TC X.K X.mg W RB env mc)
abbrev DA (es : List Expr) (mc : M (List D)) : Prop := PA X es (TC X.K X.mg W (RepL X.K) env mc)
end

theorem PE.from {X : Cx} {e : Expr} {t t' : TE} (h : PE X e t) (i : ∀ σ H Q, t' σ H Q → t σ H Q) : PE X e t' := ⟨fun pins s σ H Q I q => h.run pins s σ H Q I (i σ H Q q)⟩
theorem PT.from {X : Cx} {e : Expr} {t t' : TT} (h : PT X e t) (i : ∀ σ H Q, t' σ H Q → t σ H Q) : PT X e t' := ⟨fun pins s σ H Q I q => h.run pins s σ H Q I (i σ H Q q)⟩
theorem PA.from {X : Cx} {e : List Expr} {t t' : TA} (h : PA X e t) (i : ∀ σ H Q, t' σ H Q → t σ H Q) : PA X e t' := ⟨fun pos pins s σ H Q I q => h.run pos pins s σ H Q I (i σ H Q q)⟩
theorem PS.from {X : Cx} {e : Stmt} {t t' : TS} (h : PS X e t) (i : ∀ D σ H, t' D σ H → t D σ H) : PS X e t' := ⟨fun pins s σ H D I q => h.run pins s σ H D I (i D σ H q)⟩
theorem PSs.from {X : Cx} {e : List Stmt} {t t' : TS} (h : PSs X e t) (i : ∀ D σ H, t' D σ H → t D σ H) : PSs X e t' := ⟨fun pins s σ H D I q => h.run pins s σ H D I (i D σ H q)⟩

section
variable {X : Cx} {fr : Fm} {W : WX} {env : Env} {pos : Pos}
/-! ### names and constants -/
theorem de_int {i : Int} {j} : DE X W env (.Constant (.int i) j pos) (pure (.int i)) := PE.from pe_int fun σ H Q ⟨fr, F, m, ah, s, er, k⟩ => k F m _ H Ext.refl s (by unfold Rep; rfl)
theorem de_bl {b : Bool} {j} : DE X W env (.Constant (.bool b) j pos) (pure (.bl b)) := PE.from pe_bl fun σ H Q ⟨fr, F, m, ah, s, er, k⟩ => k F m _ H Ext.refl s (by unfold Rep; rfl)
theorem de_non {j} : DE X W env (.Constant .none j pos) (pure .non) := PE.from pe_non fun σ H Q ⟨fr, F, m, ah, s, er, k⟩ => k F m _ H Ext.refl s (by unfold Rep; rfl)
theorem de_str {x : Str} {j} : DE X W env (.Constant (.str x) j pos) (pure (.str x)) := PE.from pe_str fun σ H Q ⟨fr, F, m, ah, s, er, k⟩ => k F m _ H Ext.refl s (by unfold Rep; rfl)
/-- the name in slot i -/
theorem de_var (i : Nat) {x : Str} {d : D} (he : env[i]? = some (some d) := by rfl) (hN : X.N[i]? = some x := by rfl) (hv : Vis X.env.scope x := by first | exact Or.inl rfl | exact Or.inr (Or.inl rfl) | exact Or.inr (Or.inr rfl)) (hd : (x == ("__debug__" : Str)) = false := by decide)
    (hcd : (x == ("__classdict__" : Str)) = false := by decide) : DE X W env (.Name x pos) (pure d) := PE.from (pv i hN hv hd hcd) fun σ H Q ⟨fr, F, m, ah, s, er, k⟩ => by
  obtain ⟨v, h1, h2⟩ := er.2 i d he
  exact ⟨v, h1, k F m _ H Ext.refl s h2⟩

/-! ### two-place operations -/
/-- a rule of values, read of data -/
def OpD (X : Cx) (r : R2) (op : D → D → M D) : Prop := ∀ (fr : Fm) (W : WX) (σ : St) (F : Hp) (m : List Addr) (ah : AH) (H : Hp) (d e : D) (x y : V) (Q : VK), Sim X.K X.mg fr F m ah H → Rep X.K F m d x → Rep X.K F m e y →
  TK X.K X.mg fr W (Rep X.K) σ F m (op d e ah) Q → r x y H Q
theorem tOp_from {r : R2} {op : D → D → M D} {ma mb : M D} (hr : OpD X r op) : ∀ σ H Q, TC X.K X.mg W (Rep X.K) env (do let x ← ma; let y ← mb; op x y) σ H Q →
    tOp r (TC X.K X.mg W (Rep X.K) env ma) (TC X.K X.mg W (Rep X.K) env mb) σ H Q := fun σ H Q ⟨fr, F, m, ah, s, er, k⟩ =>
  TK.step s er k fun F1 m1 ah1 d v H1 e1 s1 er1 r1 k1 => TK.step s1 er1 k1 fun F2 m2 ah2 d2 v2 H2 e2 s2 er2 r2 k2 =>
    hr fr W σ F2 m2 ah2 H2 d d2 v v2 Q s2 (Rep.ext e2 _ _ r1) r2 k2
theorem de_op {a b : Expr} {ma mb : M D} {op : Operator} {r : R2} {f : D → D → M D} (ho : OpR X (binaryOp op) r) (hr : OpD X r f) (ha : DE X W env a ma) (hb : DE X W env b mb) : DE X W env (.BinOp a op b pos) (do let x ← ma; let y ← mb; f x y) :=
  PE.from (pe_op ho ha hb) (tOp_from hr)
theorem de_cmp {a b : Expr} {ma mb : M D} {op : CmpOp} {r : R2} {f : D → D → M D} (ho : OpR X (compareOp op) r) (hr : OpD X r f) (ha : DE X W env a ma) (hb : DE X W env b mb) (hm : behindInMarks op b = false) :
    DE X W env (.Compare a [op] [b] pos) (do let x ← ma; let y ← mb; f x y) := PE.from (pe_cmpR ho ha hb hm) (tOp_from hr)

/-! ints -/
def int2 (f : Int → Int → D) : D → D → M D := fun x y => match x, y with
  | .int i, .int j => pure (f i j)
  | _, _ => stuck
theorem TK.stuck_of {α β : Type} {K : Fg} {mg : Str → Option Value} {R : Hp → List Addr → α → β → Prop} {σ : St} {F : Hp} {m : List Addr} {Q : β → Hp → Prop} (h : TK K mg fr W R σ F m (Res.stuck : Res α) Q) : False := h
theorem int2_ok {g : Int → Int → V} {f : Int → Int → D} (h : ∀ i j K F m, Rep K F m (f i j) (g i j)) : OpD X (rI0 g) (int2 f) := by
  intro fr W σ F m ah H d e x y Q s rx ry k
  cases d <;> try exact (TK.stuck_of k).elim
  cases e <;> try exact (TK.stuck_of k).elim
  rename_i i j
  unfold Rep at rx ry
  exact ⟨i, j, rx, ry, k F m _ H Ext.refl s (h i j _ _ _)⟩
end
end Lw

/-! SimB: statements. -/
namespace Lw
open PySem L2

/-- a block's end: on with the names' values t, a result, out of the loop, to the loop's next turn -/
inductive Out (τ β : Type) where
  | nx (t : τ) | ret (d : D) | bk (b : β) | ct (b : β)
def ores {τ' τ β : Type} (k : τ' → M (Out τ β)) : Res (Out τ' β) → Res (Out τ β)
  | .ok (.nx t) h' => k t h'
  | .ok (.ret d) h' => .ok (.ret d) h'
  | .ok (.bk b) h' => .ok (.bk b) h'
  | .ok (.ct b) h' => .ok (.ct b) h'
  | .exc e h' => .exc e h'
  | .stuck => .stuck
def obind {τ' τ β : Type} (x : M (Out τ' β)) (k : τ' → M (Out τ β)) : M (Out τ β) := fun h => ores k (x h)
section
variable {τ τ' β α : Type}
theorem obind_nx (t : τ') (k : τ' → M (Out τ β)) : obind (pure (.nx t)) k = k t := rfl
theorem obind_ret (d : D) (k : τ' → M (Out τ β)) : obind (pure (.ret d)) k = pure (.ret d) := rfl
theorem obind_bk (b : β) (k : τ' → M (Out τ β)) : obind (pure (.bk b)) k = pure (.bk b) := rfl
theorem obind_ct (b : β) (k : τ' → M (Out τ β)) : obind (pure (.ct b)) k = pure (.ct b) := rfl
theorem obind_stuck (k : τ' → M (Out τ β)) : obind stuck k = stuck := rfl
theorem obind_throw (x : Str) (k : τ' → M (Out τ β)) : obind (throwM x) k = throwM x := rfl
theorem obind_bind (x : M α) (f : α → M (Out τ' β)) (k : τ' → M (Out τ β)) : obind (x >>= f) k = x >>= fun a => obind (f a) k := by
  funext h
  show ores k ((x >>= f) h) = _
  rw [bind_def, bind_def]
  cases x h <;> rfl
theorem obind_ite (c : Bool) (a b : M (Out τ' β)) (k : τ' → M (Out τ β)) : obind (if c = true then a else b) k = if c = true then obind a k else obind b k := by
  cases c <;> rfl
theorem obind_self (x : M (Out τ β)) : obind x (fun t => pure (.nx t)) = x := by
  funext h
  show ores _ (x h) = x h
  cases x h with
  | ok o _ => cases o <;> rfl
  | exc _ _ => rfl
  | stuck => rfl
end
/-- behind a loop's turn -/
def lres {τ β : Type} (k : τ → M (Out τ β)) : Res (Out τ τ) → Res (Out τ β)
  | .ok (.nx t) h' => k t h'
  | .ok (.ct t) h' => k t h'
  | .ok (.bk t) h' => .ok (.nx t) h'
  | .ok (.ret d) h' => .ok (.ret d) h'
  | .exc e h' => .exc e h'
  | .stuck => .stuck
def lbind {τ β : Type} (x : M (Out τ τ)) (k : τ → M (Out τ β)) : M (Out τ β) := fun h => lres k (x h)
/-- over items -/
def forM {τ β : Type} : List D → τ → (D → τ → M (Out τ τ)) → M (Out τ β)
  | [], t, _ => pure (.nx t)
  | x :: r, t, f => lbind (f x t) fun t' => forM r t' f
/-- while, at most so many turns -/
def whileM {τ β : Type} : Nat → τ → (τ → M Bool) → (τ → M (Out τ τ)) → M (Out τ β)
  | 0, _, _, _ => stuck
  | n + 1, t, c, f => do
    let b ← c t
    if b = true then lbind (f t) fun t' => whileM n t' c f else pure (.nx t)
/-- a def's value -/
def dres {τ β : Type} : Res (Out τ β) → Res D
  | .ok (.nx _) h' => .ok .non h'
  | .ok (.ret d) h' => .ok d h'
  | .ok _ _ => .stuck
  | .exc e h' => .exc e h'
  | .stuck => .stuck
def defM {τ β : Type} (x : M (Out τ β)) : M D := fun h => dres (x h)
theorem defM_nx {τ β : Type} (t : τ) : defM (pure (.nx t) : M (Out τ β)) = pure .non := rfl
theorem defM_ret {τ β : Type} (d : D) : defM (pure (.ret d) : M (Out τ β)) = pure d := rfl
theorem defM_stuck {τ β : Type} : defM (stuck : M (Out τ β)) = stuck := rfl
theorem defM_throw {τ β : Type} (x : Str) : defM (throwM x : M (Out τ β)) = throwM x := rfl
theorem defM_bind {τ β α : Type} (x : M α) (f : α → M (Out τ β)) : defM (x >>= f) = x >>= fun a => defM (f a) := by
  funext h
  show dres ((x >>= f) h) = _
  rw [bind_def, bind_def]
  cases x h <;> rfl
theorem defM_ite {τ β : Type} (c : Bool) (a b : M (Out τ β)) : defM (if c = true then a else b) = if c = true then defM a else defM b := by
  cases c <;> rfl

/-- behind a block's result -/
def TO {τ β : Type} (K : Fg) (mg : Str → Option Value) (fr : Fm) (W : WX) (ex : Env) (mk : τ → Env) (lp : β → Env) (F : Hp) (m : List Addr) (r : Res (Out τ β)) (Dn : Ends) : Prop :=
  match r with
  | .ok (.nx t) ah => ∀ F' m' σ' H', Ext F m F' m' → Sim K mg fr F' m' ah H' → EnvRep K F' m' (mk t) σ' → Dn.nx σ' H'
  | .ok (.ret d) ah => ∀ F' m' v H', Ext F m F' m' → Sim K mg fr F' m' ah H' → Rep K F' m' d v → Dn.rt v H'
  | .ok (.bk b) ah => ∀ F' m' σ' H', Ext F m F' m' → Sim K mg fr F' m' ah H' → EnvRep K F' m' (lp b) σ' → Dn.bk σ' H'
  | .ok (.ct b) ah => ∀ F' m' σ' H', Ext F m F' m' → Sim K mg fr F' m' ah H' → EnvRep K F' m' (lp b) σ' → Dn.ct σ' H'
  | .exc x ah => ∀ F' m' C σ' H', Ext F m F' m' → Sim K mg fr F' m' ah H' → EnvRep K F' m' ex σ' → mg x = some (.ref C) → W (.ref C) none σ' H'
  | .stuck => False
def TB {τ β : Type} (K : Fg) (mg : Str → Option Value) (W : WX) (ex env : Env) (mk : τ → Env) (lp : β → Env) (mc : M (Out τ β)) : TS := fun Dn σ H =>
  ∃ fr F m ah, Sim K mg fr F m ah H ∧ EnvRep K F m env σ ∧ TO K mg fr W ex mk lp F m (mc ah) Dn
abbrev DS {τ β : Type} (X : Cx) (W : WX) (ex env : Env) (mk : τ → Env) (lp : β → Env) (sts : List Stmt) (mc : M (Out τ β)) : Prop := PSs X sts (TB X.K X.mg W ex env mk lp mc)

theorem PT.ex {X : Cx} {α : Type} {e : Expr} {t : α → TT} (h : ∀ a, PT X e (t a)) : PT X e (fun σ H Q => ∃ a, t a σ H Q) :=
  ⟨fun pins s σ H Q I ⟨a, q⟩ => (h a).run pins s σ H Q I q⟩
theorem PSs.ex {X : Cx} {α : Type} {sts : List Stmt} {t : α → TS} (h : ∀ a, PSs X sts (t a)) : PSs X sts (fun D σ H => ∃ a, t a D σ H) :=
  ⟨fun pins s σ H D I ⟨a, q⟩ => (h a).run pins s σ H D I q⟩

section
variable {K : Fg} {mg : Str → Option Value} {fr : Fm} {W : WX} {ex env : Env} {σ : St} {F F' H : Hp} {m m' : List Addr} {ah : AH} {α α' τ τ' β γ : Type} {R : Hp → List Addr → α → γ → Prop} {mk : τ → Env} {mk' : τ' → Env} {lp : β → Env} {Dn : Ends}
theorem TO.ext {r : Res (Out τ β)} (e : Ext F m F' m') (h : TO K mg fr W ex mk lp F m r Dn) : TO K mg fr W ex mk lp F' m' r Dn := by
  cases r with
  | ok o a =>
    cases o with
    | nx t => exact fun F2 m2 v H' e2 s r => h F2 m2 v H' (e.trans e2) s r
    | ret t => exact fun F2 m2 v H' e2 s r => h F2 m2 v H' (e.trans e2) s r
    | bk t => exact fun F2 m2 v H' e2 s r => h F2 m2 v H' (e.trans e2) s r
    | ct t => exact fun F2 m2 v H' e2 s r => h F2 m2 v H' (e.trans e2) s r
  | exc x a => exact fun F2 m2 C σ' H' e2 s r => h F2 m2 C σ' H' (e.trans e2) s r
  | stuck => exact h
theorem TO.step {ma : M α} {k : α → M (Out τ β)} (s : Sim K mg fr F m ah H) (er : EnvRep K F m env σ) (hx : EnvLe ex env) (h : TO K mg fr W ex mk lp F m ((ma >>= k) ah) Dn) {P : γ → Hp → Prop}
    (hP : ∀ F1 m1 ah1 d v H1, Ext F m F1 m1 → Sim K mg fr F1 m1 ah1 H1 → EnvRep K F1 m1 env σ → R F1 m1 d v → TO K mg fr W ex mk lp F1 m1 (k d ah1) Dn → P v H1) : TC K mg W R env ma σ H P := by
  refine ⟨fr, F, m, ah, s, er, ?_⟩
  rw [bind_def] at h
  cases hr : ma ah with
  | ok d a =>
    rw [hr] at h
    exact fun F' m' v H' e s' r => hP F' m' a d v H' e s' (er.ext e) r (TO.ext e h)
  | exc x a =>
    rw [hr] at h
    exact fun F' m' C H' e s' q => h F' m' C σ H' e s' ((er.le hx).ext e) q
  | stuck =>
    rw [hr] at h
    exact h
/-- a block, then another -/
theorem TO.obind {ma : M (Out τ' β)} {k : τ' → M (Out τ β)} (h : TO K mg fr W ex mk lp F m (obind ma k ah) Dn) :
    TO K mg fr W ex mk' lp F m (ma ah) { Dn with nx := fun σ' H' => ∃ t, TB K mg W ex (mk' t) mk lp (k t) Dn σ' H' } := by
  have h : TO K mg fr W ex mk lp F m (ores k (ma ah)) Dn := h
  cases hr : ma ah with
  | ok o a =>
    rw [hr] at h
    cases o with
    | nx t => exact fun F' m' σ' H' e s r => ⟨t, fr, F', m', a, s, r, TO.ext e h⟩
    | ret t => exact h
    | bk t => exact h
    | ct t => exact h
  | exc x a =>
    rw [hr] at h
    exact h
  | stuck =>
    rw [hr] at h
    exact h
end

section
variable {X : Cx} {fr : Fm} {W : WX} {ex env : Env} {pos : Pos} {τ τ' β : Type} {mk : τ → Env} {mk' : τ' → Env} {lp : β → Env} {rest : List Stmt}
theorem ds_nil {t : τ} (h : EnvLe (mk t) env) : DS X W ex env mk lp [] (pure (.nx t)) := PSs.from pss_nil fun Dn σ H ⟨fr, F, m, ah, s, er, k⟩ => k F m σ H Ext.refl s (er.le h)
theorem ds_pass {mc : M (Out τ β)} (h : DS X W ex env mk lp rest mc) : DS X W ex env mk lp (.Pass pos :: rest) mc := PSs.from (pss_cons ps_pass h) fun Dn σ H q => q
theorem ds_ret {e : Expr} {me : M D} (he : DE X W env e me) (hx : EnvLe ex env) : DS X W ex env mk lp (.Return (some e) pos :: rest) (do let d ← me; pure (.ret d)) :=
  PSs.from (pss_cons (ps_ret he) pss_never) fun Dn σ H ⟨fr, F, m, ah, s, er, k⟩ => TO.step s er hx k fun F1 m1 ah1 d v H1 e1 s1 er1 r1 k1 => k1 F1 m1 v H1 Ext.refl s1 r1
theorem ds_retN : DS X W ex env mk lp (.Return none pos :: rest) (pure (.ret .non)) :=
  PSs.from (pss_cons ps_retN pss_never) fun Dn σ H ⟨fr, F, m, ah, s, er, k⟩ => k F m _ H Ext.refl s (by unfold Rep; rfl)
theorem ds_break {b : β} (h : EnvLe (lp b) env) : DS X W ex env mk lp (.Break pos :: rest) (pure (.bk b)) :=
  PSs.from (pss_cons ps_break pss_never) fun Dn σ H ⟨fr, F, m, ah, s, er, k⟩ => k F m σ H Ext.refl s (er.le h)
theorem ds_continue {b : β} (h : EnvLe (lp b) env) : DS X W ex env mk lp (.Continue pos :: rest) (pure (.ct b)) :=
  PSs.from (pss_cons ps_continue pss_never) fun Dn σ H ⟨fr, F, m, ah, s, er, k⟩ => k F m σ H Ext.refl s (er.le h)
theorem ds_expr {e : Expr} {me : M D} {mc : M (Out τ β)} (he : DE X W env e me) (hx : EnvLe ex env) (hr : DS X W ex env mk lp rest mc) (hs : swapsWith e none pos.line X.env = pure false := by rfl) :
    DS X W ex env mk lp (.Expr e pos :: rest) (do let _ ← me; mc) :=
  PSs.from (pss_cons (ps_expr he hs) hr) fun Dn σ H ⟨fr, F, m, ah, s, er, k⟩ => TO.step s er hx k fun F1 m1 ah1 d v H1 e1 s1 er1 r1 k1 => ⟨fr, F1, m1, ah1, s1, er1, k1⟩
theorem ds_set (i : Nat) {x : Str} {pos' : Pos} {e : Expr} {me : M D} {k : D → M (Out τ β)} (hN : X.N.Nodup) (env' : D → Env) (he : DE X W env e me) (hx : EnvLe ex env) (hr : ∀ d, DS X W ex (env' d) mk lp rest (k d)) (hv : ∀ d, env.set i (some d) = env' d := by intro _; rfl)
    (hi : X.N[i]? = some x := by rfl) (hl : Loc X.env.scope x := by first | exact Or.inl rfl | exact Or.inr rfl) (hs : swapsWith e (some (.Name x pos')) pos.line X.env = pure false := by rfl) (hf : X.fn x = true ∨ X.env.scope.names.lookup x = some .local := by first | exact .inl rfl | exact .inr rfl) :
    DS X W ex env mk lp (.Assign [.Name x pos'] e pos :: rest) (me >>= k) :=
  PSs.from (pss_cons (ps_set hN hi hl he hs hf) (PSs.ex hr)) fun Dn σ H ⟨fr, F, m, ah, s, er, q⟩ => TO.step s er hx q fun F1 m1 ah1 d v H1 e1 s1 er1 r1 k1 => ⟨d, fr, F1, m1, ah1, s1, by rw [← hv d]; exact er1.set r1, k1⟩
theorem ds_if {c : Expr} {a b : List Stmt} {mc : M Bool} {ma mb : M (Out τ' β)} {k : τ' → M (Out τ β)} (hc : DT X W env c mc) (ha : DS X W ex env mk' lp a ma) (hb : DS X W ex env mk' lp b mb)
    (hx : EnvLe ex env) (hr : ∀ t, DS X W ex (mk' t) mk lp rest (k t)) : DS X W ex env mk lp (.If c a b pos :: rest) (do let t ← mc; obind (if t = true then ma else mb) k) :=
  PSs.from (pss_cons (ps_if hc ha hb) (PSs.ex hr)) fun Dn σ H ⟨fr, F, m, ah, s, er, q⟩ => TO.step s er hx q fun F1 m1 ah1 d v H1 e1 s1 er1 r1 k1 => by
    have r1 : d = v := r1
    subst r1
    cases d with
    | true => exact ⟨fr, F1, m1, ah1, s1, er1, TO.obind k1⟩
    | false => exact ⟨fr, F1, m1, ah1, s1, er1, TO.obind k1⟩
/-- a branch that does not fall through, and no other one -/
theorem ds_ifr {c : Expr} {a : List Stmt} {mc : M Bool} {ma : M (Out τ β)} {mr : M (Out τ β)} (mk0 : Empty → Env) {maE : M (Out Empty β)} (hc : DT X W env c mc) (ha : DS X W ex env mk0 lp a maE)
    (hx : EnvLe ex env) (hr : DS X W ex env mk lp rest mr) (hE : obind maE (fun e => e.elim) = ma) : DS X W ex env mk lp (.If c a [] pos :: rest) (do let t ← mc; if t = true then ma else mr) :=
  PSs.from (pss_cons (ps_if hc ha (ds_nil (X := X) (W := W) (ex := ex) (lp := lp) (mk := fun _ : Unit => env) (t := ()) (EnvLe.refl env))) hr) fun Dn σ H ⟨fr, F, m, ah, s, er, q⟩ => TO.step s er hx q fun F1 m1 ah1 d v H1 e1 s1 er1 r1 k1 => by
    have r1 : d = v := r1
    subst r1
    cases d with
    | true =>
      subst hE
      refine ⟨fr, F1, m1, ah1, s1, er1, ?_⟩
      have z := TO.obind (mk' := mk0) k1
      have z2 : TO X.K X.mg fr W ex mk0 lp F1 m1 (maE ah1) { Dn with nx := fun σ' H' => ∃ t : Empty, TB X.K X.mg W ex (mk0 t) mk lp t.elim Dn σ' H' } := z
      cases hr : maE ah1 with
      | ok o a =>
        rw [hr] at z2
        cases o with
        | nx t => exact t.elim
        | ret t => exact z2
        | bk t => exact z2
        | ct t => exact z2
      | exc x a =>
        rw [hr] at z2
        exact z2
      | stuck =>
        rw [hr] at z2
        exact z2
    | false => exact ⟨fr, F1, m1, ah1, s1, er1, fun F' m' σ' H' e' s' r' => ⟨fr, F', m', ah1, s', r', TO.ext e' k1⟩⟩
end

/-! ### targets -/
/-- what a target takes out of an item, and how the slots stand then -/
def gD {π : Type} (K : Fg) (mg : Str → Option Value) (sl : List Nat) (unp : D → Option π) (sets : π → Env → Env) : L2.TG := fun v σ H Q => ∃ fr F m ah env d p, Sim K mg fr F m ah H ∧ EnvRep K F m env σ ∧ Rep K F m d v ∧ unp d = some p ∧
    ∀ σ', EnvRep K F m (sets p env) σ' → (∀ vs : List Nat, (∀ i ∈ sl, i ∈ vs) → wipe σ' vs = wipe σ vs) → Q σ' H
abbrev DG {π : Type} (X : Cx) (tg : Expr) (sl : List Nat) (unp : D → Option π) (sets : π → Env → Env) : Prop := PG X tg (gD X.K X.mg sl unp sets)
theorem wipe_set {i : Nat} {x : Option V} : ∀ {σ : St} {vs : List Nat}, i ∈ vs → wipe (σ.set i x) vs = wipe σ vs
  | σ, [], h => by cases h
  | σ, v :: vs, h => by
    show (wipe (σ.set i x) vs).set v none = (wipe σ vs).set v none
    by_cases e : i ∈ vs
    · rw [wipe_set e]
    · have ev : i = v := by
        rcases List.mem_cons.mp h with z | z
        · exact z
        · exact absurd z e
      subst ev
      have comm : ∀ {σ : St} {vs : List Nat}, i ∉ vs → wipe (σ.set i x) vs = (wipe σ vs).set i x := by
        intro σ vs
        induction vs with
        | nil => intro _; rfl
        | cons w ws ih =>
          intro hn
          have h1 : i ≠ w := fun z => hn (by rw [z]; exact List.mem_cons_self)
          have h2 : i ∉ ws := fun z => hn (List.mem_cons_of_mem _ z)
          show (wipe (σ.set i x) ws).set w none = ((wipe σ ws).set w none).set i x
          rw [ih h2, List.set_comm _ _ h1]
      rw [comm e, List.set_set]
theorem PG.from {X : Cx} {e : Expr} {t t' : L2.TG} (h : PG X e t) (i : ∀ v σ H Q, t' v σ H Q → t v σ H Q) : PG X e t' := ⟨fun pins s σ H v u Q I r q => h.run pins s σ H v u Q I r (i v σ H Q q)⟩
section
variable {X : Cx} {fr : Fm} {pos : Pos}
theorem dg_name (i : Nat) {x : Str} (hN : X.N.Nodup) (hi : X.N[i]? = some x := by rfl) (hl : Loc X.env.scope x := by first | exact Or.inl rfl | exact Or.inr rfl) (hf : X.fn x = true ∨ X.env.scope.names.lookup x = some .local := by first | exact .inl rfl | exact .inr rfl) :
    DG X (.Name x pos) [i] (fun d => some d) (fun d env => env.set i (some d)) := PG.from (pg_name hN hi hl hf) fun v σ H Q ⟨fr, F, m, ah, env, d, p, s, er, r, e, q⟩ => by
  cases e
  exact q _ (er.set r) fun vs hv => wipe_set (hv i (by simp))
def items? : D → Option (List D)
  | .tup xs => some xs
  | .lst xs => some xs
  | _ => none
/-- several targets, one after another -/
def gDs {π : Type} (K : Fg) (mg : Str → Option Value) (sl : List Nat) (unp : List D → Option π) (sets : π → Env → Env) : L2.TGs := fun vs σ H Q => ∃ fr F m ah env ds p, Sim K mg fr F m ah H ∧ EnvRep K F m env σ ∧ RepL K F m ds vs ∧ unp ds = some p ∧
    ∀ σ', EnvRep K F m (sets p env) σ' → (∀ vs : List Nat, (∀ i ∈ sl, i ∈ vs) → wipe σ' vs = wipe σ vs) → Q σ' H
abbrev DGs {π : Type} (X : Cx) (tgs : List Expr) (sl : List Nat) (unp : List D → Option π) (sets : π → Env → Env) : Prop := PGs X tgs (gDs X.K X.mg sl unp sets)
theorem PGs.from {X : Cx} {e : List Expr} {t t' : L2.TGs} (h : PGs X e t) (i : ∀ v σ H Q, t' v σ H Q → t v σ H Q) : PGs X e t' := ⟨fun pins s σ H v u Q I r q => h.run pins s σ H v u Q I r (i v σ H Q q)⟩
theorem PG.or {X : Cx} {e : Expr} {t t' : L2.TG} (h : PG X e t) (h' : PG X e t') : PG X e (fun v σ H Q => t v σ H Q ∨ t' v σ H Q) := ⟨fun pins s σ H v u Q I r q => by
  rcases q with q | q
  · exact h.run pins s σ H v u Q I r q
  · exact h'.run pins s σ H v u Q I r q⟩
def uNil : List D → Option Unit
  | [] => some ()
  | _ => none
def uCons {π π' : Type} (u : D → Option π) (us : List D → Option π') : List D → Option (π × π')
  | [] => none
  | d :: ds => match u d with
    | some p => (match us ds with
      | some q => some (p, q)
      | none => none)
    | none => none
def unpT {π : Type} (us : List D → Option π) (d : D) : Option π := match items? d with
  | some xs => us xs
  | none => none
theorem uNil_len {ds : List D} {p : Unit} (h : uNil ds = some p) : ds = [] := by
  cases ds with
  | nil => rfl
  | cons _ _ => cases h
theorem uCons_eq {π π' : Type} {u : D → Option π} {us : List D → Option π'} {ds : List D} {p : π × π'} (h : uCons u us ds = some p) : ∃ d r, ds = d :: r ∧ u d = some p.1 ∧ us r = some p.2 := by
  cases ds with
  | nil => cases h
  | cons d r =>
    unfold uCons at h
    cases hu : u d with
    | none =>
      simp only [hu] at h
      cases h
    | some p1 =>
      simp only [hu] at h
      cases hs : us r with
      | none =>
        simp only [hs] at h
        cases h
      | some q =>
        simp only [hs] at h
        cases h
        exact ⟨d, r, rfl, hu, hs⟩
theorem dgs_nil : DGs X [] [] uNil (fun _ env => env) := PGs.from pgs_nil fun v σ H Q ⟨fr, F, m, ah, env, ds, p, s, er, r, e, q⟩ => by
  rw [uNil_len e] at r
  unfold RepL at r
  exact ⟨r, q σ er fun vs _ => rfl⟩
theorem dgs_cons {π π' : Type} {t : Expr} {ts : List Expr} {sl sl' : List Nat} {u : D → Option π} {us : List D → Option π'} {sets : π → Env → Env} {sets' : π' → Env → Env} (h : DG X t sl u sets) (hs : DGs X ts sl' us sets')
    (ha : (assignEach (t :: ts) X.env).map (·.2) = assign t X.env :: (assignEach ts X.env).map (·.2) := by rfl) : DGs X (t :: ts) (sl ++ sl') (uCons u us) (fun p env => sets' p.2 (sets p.1 env)) :=
  PGs.from (pgs_cons h hs ha) fun v σ H Q ⟨fr, F, m, ah, env, ds, p, s, er, r, e, q⟩ => by
    obtain ⟨d, rest, rfl, h1, h2⟩ := uCons_eq e
    unfold RepL at r
    obtain ⟨v1, vr, rfl, r1, r2⟩ := r
    refine ⟨v1, vr, rfl, fr, F, m, ah, env, d, p.1, s, er, r1, h1, fun σ1 er1 w1 => ⟨fr, F, m, ah, _, rest, p.2, s, er1, r2, h2, fun σ2 er2 w2 => q σ2 er2 fun vs hv => ?_⟩⟩
    rw [w2 vs fun i hi => hv i (List.mem_append_right _ hi), w1 vs fun i hi => hv i (List.mem_append_left _ hi)]
theorem uNil_l : ∀ ds p, uNil ds = some p → ds.length = 0 := fun ds p h => by rw [uNil_len h]; rfl
theorem uCons_l {π π' : Type} {u : D → Option π} {us : List D → Option π'} {n : Nat} (h : ∀ ds p, us ds = some p → ds.length = n) : ∀ ds p, uCons u us ds = some p → ds.length = n + 1 := fun ds p e => by
  obtain ⟨d, r, rfl, _, h2⟩ := uCons_eq e
  rw [List.length_cons, h r p.2 h2]
theorem dg_tup {π : Type} {es : List Expr} {k : Nat} {sl : List Nat} {us : List D → Option π} {sets : π → Env → Env} {n : Nat} (hc : X.calm = true) (h : DGs X es sl us sets) (hl : ∀ ds p, us ds = some p → ds.length = n)
    (hn : (assignEach es X.env).length = n := by rfl) (hst : (assignEach es X.env).findIdx? (·.1) = none := by rfl) : DG X (.Tuple es k pos) sl (unpT us) sets :=
  PG.from (PG.or (pg_tup hc h hn hst) (pg_lst hc h hn hst)) fun v σ H Q ⟨fr, F, m, ah, env, d, p, s, er, r, e, q⟩ => by
    unfold unpT at e
    cases d <;> try (cases e; done)
    · rename_i xs
      unfold Rep at r
      obtain ⟨a, vs, h1, h2, h3⟩ := r
      exact .inl ⟨a, vs, h1, SqT.up s.sub h2, by rw [RepL.length h3]; exact hl xs p e, fr, F, m, ah, env, xs, p, s, er, h3, e, q⟩
    · rename_i xs
      unfold Rep at r
      obtain ⟨a, vs, h1, h2, h3⟩ := r
      exact .inr ⟨a, vs, h1, SqL.up s.sub h2, by rw [RepL.length h3]; exact hl xs p e, fr, F, m, ah, env, xs, p, s, er, h3, e, q⟩
end
def liftO {α : Type} : Option α → M α
  | some a => pure a
  | none => stuck
section
variable {X : Cx} {fr : Fm} {W : WX} {ex env : Env} {pos : Pos} {τ τ' β : Type} {mk : τ → Env} {mk' : τ' → Env} {lp : β → Env} {rest : List Stmt}
/-- a, b = e -/
theorem ds_unpack {π : Type} {sl : List Nat} {tg e : Expr} {me : M D} {unp : D → Option π} {sets : π → Env → Env} {k : π → M (Out τ β)} (he : DE X W env e me) (hg : DG X tg sl unp sets) (hx : EnvLe ex env) (hr : ∀ p, DS X W ex (sets p env) mk lp rest (k p))
    (hs : swapsWithSole [tg] e pos.line X.env = pure false := by rfl) (hw : swappedStores [tg] e X.env = pure none := by rfl) (h1 : (assignEach [tg] X.env).map (·.2) = [assign tg X.env] := by rfl) :
    DS X W ex env mk lp (.Assign [tg] e pos :: rest) (do let d ← me; let p ← liftO (unp d); k p) :=
  PSs.from (pss_cons (ps_asg he hg hs hw h1) (PSs.ex hr)) fun Dn σ H ⟨fr, F, m, ah, s, er, q⟩ => TO.step s er hx q fun F1 m1 ah1 d v H1 e1 s1 er1 r1 k1 => by
    cases hp : unp d with
    | none =>
      rw [hp] at k1
      exact False.elim k1
    | some p =>
      rw [hp] at k1
      exact ⟨fr, F1, m1, ah1, env, d, p, s1, er1, r1, hp, fun σ' h' _ => ⟨p, fr, F1, m1, ah1, s1, h', k1⟩⟩
end

/-! ### what is walked -/
/-- the iterator J yields the items xs -/
structure Yl (K : Fg) (mg : Str → Option Value) (F : Hp) (m : List Addr) (xs : List D) (J : It) : Prop where
  go : ∀ (i : Nat) (fr : Fm) F1 m1 ah1 H1, Ext F m F1 m1 → Sim K mg fr F1 m1 ah1 H1 → i < xs.length → J.go i H1
  stop : ∀ (fr : Fm) F1 m1 ah1 H1, Ext F m F1 m1 → Sim K mg fr F1 m1 ah1 H1 → J.stop xs.length H1
  yld : ∀ (i : Nat) (fr : Fm) F1 m1 ah1 H1 x H2, Ext F m F1 m1 → Sim K mg fr F1 m1 ah1 H1 → i < xs.length → J.yld i H1 x H2 → ∃ F2 d, xs[i]? = some d ∧ Ext F1 m1 F2 m1 ∧ Sim K mg fr F2 m1 ah1 H2 ∧ Rep K F2 m1 d x
def TIM (K : Fg) (mg : Str → Option Value) (W : WX) (env : Env) (mi : M (List D)) : TI := fun σ H R =>
  ∃ fr F m ah, Sim K mg fr F m ah H ∧ EnvRep K F m env σ ∧ TK K mg fr W (Yl K mg) σ F m (mi ah) (fun J H' => R J H')
abbrev DI (X : Cx) (W : WX) (env : Env) (tg it : Expr) (mi : M (List D)) : Prop := PI X tg it (TIM X.K X.mg W env mi)
theorem PI.from {X : Cx} {tg e : Expr} {t t' : TI} (h : PI X tg e t) (i : ∀ σ H Q, t' σ H Q → t σ H Q) : PI X tg e t' := ⟨fun pins s σ H R I q => h.run pins s σ H R I (i σ H R q)⟩

section
variable {X : Cx} {fr : Fm} {W : WX} {ex env : Env} {pos : Pos} {τ β : Type} {mk : τ → Env} {lp : β → Env} {rest : List Stmt}
/-- for tg in it: body; rest -/
theorem ds_for {ℓ π : Type} {sl : List Nat} {tg it : Expr} {body : List Stmt} {mi : M (List D)} {unp : D → Option π} {sets : π → Env → Env} {mkL : ℓ → Env} {t0 : ℓ} {mb : π → ℓ → M (Out ℓ ℓ)} {k : ℓ → M (Out τ β)}
    (hp : PassesOwn (model X.prog X.w) X.A X.env X.xe) (hc : X.calm = true) (hi : DI X W env tg it mi) (hg : DG X tg sl unp sets) (h0 : EnvLe (mkL t0) env) (hx : EnvLe ex env)
    (hb : ∀ p t, DS X W ex (sets p (mkL t)) mkL mkL body (mb p t)) (hr : ∀ t, DS X W ex (mkL t) mk lp rest (k t)) (hs : ∀ x, foldedSetIterable it X.env x = pure x := by intro _; rfl) :
    DS X W ex env mk lp (.For tg it body [] pos :: rest) (do let xs ← mi; obind (forM xs t0 (fun x t => do let p ← liftO (unp x); mb p t)) k) := by
  refine PSs.from (pss_cons (ps_for hp hc hi hg (PSs.ex fun p => PSs.ex (hb p)) hs) (PSs.ex hr)) fun Dn σ H ⟨fr, F, m, ah, s, er, q⟩ => ?_
  refine ⟨fr, F, m, ah, s, er, ?_⟩
  rw [bind_def] at q
  cases hi' : mi ah with
  | stuck =>
    rw [hi'] at q
    exact q
  | exc x a =>
    rw [hi'] at q
    exact fun F' m' C H' e s' z => q F' m' C σ H' e s' ((er.le hx).ext e) z
  | ok xs a =>
    rw [hi'] at q
    intro F1 m1 J H1 e1 s1 y
    have q1 := TO.ext e1 q
    refine ⟨fun i n σ H => n = xs.length - i ∧ i ≤ xs.length ∧ ∃ F2 m2 ah2 t, Ext F1 m1 F2 m2 ∧ Sim X.K X.mg fr F2 m2 ah2 H ∧ EnvRep X.K F2 m2 (mkL t) σ ∧
      TO X.K X.mg fr W ex mk lp F2 m2 ((obind (forM (xs.drop i) t (fun x t => do let p ← liftO (unp x); mb p t)) k) ah2) Dn, ⟨_, rfl, Nat.zero_le _, F1, m1, a, t0, Ext.refl, s1, (er.le h0).ext e1, by rw [List.drop_zero]; exact q1⟩, ?_⟩
    rintro i n σ2 H2 ⟨rfl, hi2, F2, m2, ah2, t, e2, s2, er2, k2⟩
    by_cases hlt : i < xs.length
    · refine .inr ⟨y.go i fr F2 m2 ah2 H2 e2 s2 hlt, fun σ' H' => ∃ F3 m3 ah3 t, Ext F1 m1 F3 m3 ∧ Sim X.K X.mg fr F3 m3 ah3 H' ∧ EnvRep X.K F3 m3 (mkL t) σ' ∧
        TO X.K X.mg fr W ex mk lp F3 m3 ((obind (forM (xs.drop (i + 1)) t (fun x t => do let p ← liftO (unp x); mb p t)) k) ah3) Dn, fun σ' H' z => ⟨xs.length - (i + 1), by omega, rfl, hlt, z⟩, fun v H3 yy => ?_⟩
      obtain ⟨F3, d, hd, e3, s3, r3⟩ := y.yld i fr F2 m2 ah2 H2 v H3 e2 s2 hlt yy
      have er3 := er2.ext e3
      have k3 := TO.ext e3 k2
      have hdrop : xs.drop i = d :: xs.drop (i + 1) := by
        rw [List.drop_eq_getElem_cons hlt]
        rw [List.getElem?_eq_getElem hlt] at hd
        cases hd
        rfl
      rw [hdrop] at k3
      cases hu : unp d with
      | none =>
        have k4 : TO X.K X.mg fr W ex mk lp F3 m2 (ores k (lres (fun t' => forM (xs.drop (i + 1)) t' (fun x t => do let p ← liftO (unp x); mb p t)) ((liftO (unp d) >>= fun p => mb p t) ah2))) Dn := k3
        rw [hu] at k4
        exact False.elim k4
      | some p =>
        have k4 : TO X.K X.mg fr W ex mk lp F3 m2 (ores k (lres (fun t' => forM (xs.drop (i + 1)) t' (fun x t => do let p ← liftO (unp x); mb p t)) ((liftO (unp d) >>= fun p => mb p t) ah2))) Dn := k3
        rw [hu] at k4
        have k4 : TO X.K X.mg fr W ex mk lp F3 m2 (ores k (lres (fun t' => forM (xs.drop (i + 1)) t' (fun x t => do let p ← liftO (unp x); mb p t)) (mb p t ah2))) Dn := k4
        refine ⟨fr, F3, m2, ah2, mkL t, d, p, s3, er3, r3, hu, fun σ' er' _ => ⟨p, t, fr, F3, m2, ah2, s3, er', ?_⟩⟩
        cases hm : mb p t ah2 with
        | stuck =>
          rw [hm] at k4
          exact k4
        | exc x a =>
          rw [hm] at k4
          exact k4
        | ok o a =>
          rw [hm] at k4
          cases o with
          | nx t' => exact fun F4 m4 σ4 H4 e4 s4 r4 => ⟨F4, m4, a, t', (e2.trans e3).trans e4, s4, r4, TO.ext e4 k4⟩
          | ct t' => exact fun F4 m4 σ4 H4 e4 s4 r4 => ⟨F4, m4, a, t', (e2.trans e3).trans e4, s4, r4, TO.ext e4 k4⟩
          | bk t' => exact fun F4 m4 σ4 H4 e4 s4 r4 => ⟨t', fr, F4, m4, a, s4, r4, TO.ext e4 k4⟩
          | ret d => exact k4
    · have ei : i = xs.length := by omega
      subst ei
      refine .inl ⟨y.stop fr F2 m2 ah2 H2 e2 s2, t, fr, F2, m2, ah2, s2, er2, ?_⟩
      rw [List.drop_length] at k2
      exact k2
/-- while c: body; rest: at most n turns -/
theorem ds_while (n : Nat) {ℓ : Type} {c : Expr} {body : List Stmt} {mkL : ℓ → Env} {t0 : ℓ} {mc : ℓ → M Bool} {mb : ℓ → M (Out ℓ ℓ)} {k : ℓ → M (Out τ β)}
    (hp : PassesOwn (model X.prog X.w) X.A X.env X.xe) (hc : ∀ t, DT X W (mkL t) c (mc t)) (h0 : EnvLe (mkL t0) env) (hx : EnvLe ex env) (hxl : ∀ t, EnvLe ex (mkL t))
    (hb : ∀ t, DS X W ex (mkL t) mkL mkL body (mb t)) (hr : ∀ t, DS X W ex (mkL t) mk lp rest (k t)) :
    DS X W ex env mk lp (.While c body [] pos :: rest) (obind (whileM n t0 mc mb) k) := by
  refine PSs.from (pss_cons (ps_while hp (PT.ex hc) (PSs.ex hb)) (PSs.ex hr)) fun Dn σ H ⟨fr, F, m, ah, s, er, q⟩ => ?_
  refine ⟨fun j σ H => ∃ F2 m2 ah2 t, Sim X.K X.mg fr F2 m2 ah2 H ∧ EnvRep X.K F2 m2 (mkL t) σ ∧ TO X.K X.mg fr W ex mk lp F2 m2 ((obind (whileM j t mc mb) k) ah2) Dn, ⟨n, F, m, ah, t0, s, er.le h0, q⟩, ?_⟩
  rintro j σ2 H2 ⟨F2, m2, ah2, t, s2, er2, k2⟩
  cases j with
  | zero => exact False.elim k2
  | succ j =>
    have k3 : TO X.K X.mg fr W ex mk lp F2 m2 (ores k ((mc t >>= fun b => if b = true then lbind (mb t) fun t' => whileM j t' mc mb else pure (.nx t)) ah2)) Dn := k2
    rw [bind_def] at k3
    refine ⟨t, fr, F2, m2, ah2, s2, er2, ?_⟩
    cases hc' : mc t ah2 with
    | stuck =>
      rw [hc'] at k3
      exact k3
    | exc x a =>
      rw [hc'] at k3
      exact fun F' m' C H' e s' z => k3 F' m' C σ2 H' e s' ((er2.le (hxl t)).ext e) z
    | ok b a =>
      rw [hc'] at k3
      intro F3 m3 b' H3 e3 s3 r3
      have r3 : b = b' := r3
      subst r3
      cases b with
      | false => exact ⟨t, fr, F3, m3, a, s3, er2.ext e3, TO.ext e3 k3⟩
      | true =>
        refine ⟨fun σ' H' => ∃ F2 m2 ah2 t, Sim X.K X.mg fr F2 m2 ah2 H' ∧ EnvRep X.K F2 m2 (mkL t) σ' ∧ TO X.K X.mg fr W ex mk lp F2 m2 ((obind (whileM j t mc mb) k) ah2) Dn, fun σ' H' z => ⟨j, Nat.lt_succ_self j, z⟩, t, fr, F3, m3, a, s3, er2.ext e3, ?_⟩
        have k4 : TO X.K X.mg fr W ex mk lp F3 m3 (ores k (lres (fun t' => whileM j t' mc mb) (mb t a))) Dn := TO.ext e3 k3
        cases hm : mb t a with
        | stuck =>
          rw [hm] at k4
          exact k4
        | exc x a' =>
          rw [hm] at k4
          exact k4
        | ok o a' =>
          rw [hm] at k4
          cases o with
          | nx t' => exact fun F4 m4 σ4 H4 e4 s4 r4 => ⟨F4, m4, a', t', s4, r4, TO.ext e4 k4⟩
          | ct t' => exact fun F4 m4 σ4 H4 e4 s4 r4 => ⟨F4, m4, a', t', s4, r4, TO.ext e4 k4⟩
          | bk t' => exact fun F4 m4 σ4 H4 e4 s4 r4 => ⟨t', fr, F4, m4, a', s4, r4, TO.ext e4 k4⟩
          | ret d => exact k4
end
end Lw

/-! SimC: operations on plain data, with their rules. -/
namespace Lw
open PySem L2

def tupOf : D → Option (List D)
  | .tup xs => some xs
  | _ => none
def lstOf (h : AH) : D → Option (List D)
  | .lst xs => some xs
  | .ref n => match h[n]? with
    | some (.lst xs) => some xs
    | _ => none
  | _ => none
def seqOf (h : AH) (d : D) : Option (List D) := match d with
  | .tup xs => some xs
  | d => lstOf h d

section
variable {K : Fg} {mg : Str → Option Value} {fr : Fm} {W : WX} {σ : St} {F F' H H' : Hp} {m m' : List Addr} {ah : AH}
theorem tup_of {d : D} {v : V} {xs : List D} (r : Rep K F m d v) (h : tupOf d = some xs) : ∃ a vs, v = .ref a ∧ SqT K F a vs ∧ RepL K F m xs vs := by
  cases d <;> try (cases h; done)
  cases h
  unfold Rep at r
  exact r
theorem lst_of {d : D} {v : V} {xs : List D} (S : Sim K mg fr F m ah H) (r : Rep K F m d v) (h : lstOf ah d = some xs) : ∃ a vs, v = .ref a ∧ SqL K H a vs ∧ RepL K F m xs vs := by
  cases d <;> try (cases h; done)
  · rename_i n
    unfold Rep at r
    obtain ⟨a, h1, h2⟩ := r
    unfold lstOf at h
    cases hc : ah[n]? with
    | none =>
      simp only [hc] at h
      cases h
    | some c =>
      cases c <;> simp only [hc] at h <;> try (cases h; done)
      cases h
      obtain ⟨a', q, ok⟩ := S.cells n _ hc
      rw [h1] at q
      cases q
      obtain ⟨_, vs, h3, h4⟩ := ok
      exact ⟨a, vs, h2, SqL.of h3, h4⟩
  · cases h
    unfold Rep at r
    obtain ⟨a, vs, h1, h2, h3⟩ := r
    exact ⟨a, vs, h1, SqL.up S.sub h2, h3⟩
/-- the result is a value as it stands -/
theorem TK.val {d : D} {v : V} {Q : VK} (k : TK K mg fr W (Rep K) σ F m (.ok d ah) Q) (S : Sim K mg fr F m ah H) (r : Rep K F m d v) : Q v H := k F m v H Ext.refl S r
theorem TK.newT {ds : List D} {vs : List V} {p : Addr} {Q : VK} (k : TK K mg fr W (Rep K) σ F m (.ok (.tup ds) ah) Q) (S : Sim K mg fr F m ah H) (r : RepL K F m ds vs) (hp : H p = none) : Q (.ref p) (upd H p (.tup vs)) := by
  obtain ⟨S', e⟩ := S.frozen (o := .tup vs) hp
  refine k _ _ _ _ e S' ?_
  unfold Rep
  exact ⟨p, vs, rfl, .inl (.inl upd_same), RepL.ext e _ _ r⟩
theorem TK.newL {ds : List D} {vs : List V} {p : Addr} {Q : VK} (k : TK K mg fr W (Rep K) σ F m (.ok (.lst ds) ah) Q) (S : Sim K mg fr F m ah H) (r : RepL K F m ds vs) (hp : H p = none) : Q (.ref p) (upd H p (.lst vs)) := by
  obtain ⟨S', e⟩ := S.frozen (o := .lst vs) hp
  refine k _ _ _ _ e S' ?_
  unfold Rep
  exact ⟨p, vs, rfl, .inl (.inl upd_same), RepL.ext e _ _ r⟩
theorem Rep.int {i : Int} : Rep K F m (.int i) (.int i) := by
  unfold Rep
  rfl
theorem Rep.bl {i : Bool} : Rep K F m (.bl i) (.bl i) := by
  unfold Rep
  rfl
theorem Rep.str {i : Str} : Rep K F m (.str i) (.str i) := by
  unfold Rep
  rfl
theorem Rep.non : Rep K F m .non .non := by
  unfold Rep
  rfl
theorem Rep.tup {ds : List D} {vs : List V} {a : Addr} (h : SqT K F a vs) (r : RepL K F m ds vs) : Rep K F m (.tup ds) (.ref a) := by
  unfold Rep
  exact ⟨a, vs, rfl, h, r⟩
theorem RepL.drop : ∀ {ds : List D} {vs : List V} (n : Nat), RepL K F m ds vs → RepL K F m (ds.drop n) (vs.drop n)
  | _, _, 0, h => h
  | [], vs, n + 1, h => by
    unfold RepL at h
    rw [h]
    exact RepL.nil
  | d :: ds, vs, n + 1, h => by
    unfold RepL at h
    obtain ⟨v, r, h1, h2, h3⟩ := h
    rw [h1]
    exact RepL.drop n h3
theorem RepL.take : ∀ {ds : List D} {vs : List V} (n : Nat), RepL K F m ds vs → RepL K F m (ds.take n) (vs.take n)
  | _, _, 0, h => by
    rw [List.take_zero, List.take_zero]
    exact RepL.nil
  | [], vs, n + 1, h => by
    unfold RepL at h
    rw [h]
    exact RepL.nil
  | d :: ds, vs, n + 1, h => by
    unfold RepL at h
    obtain ⟨v, r, h1, h2, h3⟩ := h
    rw [h1]
    exact RepL.cons h2 (RepL.take n h3)
end

/-! ### computations part by part -/
section
variable {X : Cx} {fr : Fm} {W : WX} {env : Env} {pos : Pos}
/-- one-place: a rule of a value, read of data -/
def UnD (X : Cx) (r : V → Hp → VK → Prop) (op : D → M D) : Prop := ∀ (fr : Fm) (W : WX) (σ : St) (F : Hp) (m : List Addr) (ah : AH) (H : Hp) (d : D) (x : V) (Q : VK), Sim X.K X.mg fr F m ah H → Rep X.K F m d x →
  TK X.K X.mg fr W (Rep X.K) σ F m (op d ah) Q → r x H Q
theorem de_un {a : Expr} {ma : M D} {op : UnaryOp} {r : V → Hp → VK → Prop} {f : D → M D} (ho : UnR X (unaryOp op) r) (hr : UnD X r f) (ha : DE X W env a ma) : DE X W env (.UnaryOp op a pos) (do let x ← ma; f x) :=
  PE.from (pe_un ho ha) fun σ H Q ⟨fr, F, m, ah, s, er, k⟩ => TK.step s er k fun F1 m1 ah1 d v H1 e1 s1 er1 r1 k1 => hr fr W σ F1 m1 ah1 H1 d v Q s1 r1 k1

/-! arguments -/
theorem da_nil : DA X W env [] (pure []) := PA.from pa_nil fun σ H Q ⟨fr, F, m, ah, s, er, k⟩ => k F m _ H Ext.refl s RepL.nil
theorem da_cons {e : Expr} {es : List Expr} {me : M D} {ms : M (List D)} (he : DE X W env e me) (hs : DA X W env es ms) (hst : starEach (e :: es) X.env = (false, eval e X.env) :: starEach es X.env := by rfl) :
    DA X W env (e :: es) (do let x ← me; let xs ← ms; pure (x :: xs)) :=
  PA.from (pa_cons he hs hst) fun σ H Q ⟨fr, F, m, ah, s, er, k⟩ => TK.step s er k fun F1 m1 ah1 d v H1 e1 s1 er1 r1 k1 => TK.step s1 er1 k1 fun F2 m2 ah2 d2 v2 H2 e2 s2 er2 r2 k2 =>
    k2 F2 m2 _ H2 Ext.refl s2 (RepL.cons (Rep.ext e2 _ _ r1) r2)
theorem da_one {e : Expr} {me : M D} (he : DE X W env e me) (hst : starEach [e] X.env = (false, eval e X.env) :: starEach [] X.env := by rfl) : DA X W env [e] (do let x ← me; pure [x]) :=
  PA.from (pa_cons he pa_nil hst) fun σ H Q ⟨fr, F, m, ah, s, er, k⟩ => TK.step s er k fun F1 m1 ah1 d v H1 e1 s1 er1 r1 k1 => k1 F1 m1 _ H1 Ext.refl s1 (RepL.cons r1 RepL.nil)
theorem da_two {a b : Expr} {ma mb : M D} (ha : DE X W env a ma) (hb : DE X W env b mb) (hst : starEach [a, b] X.env = (false, eval a X.env) :: starEach [b] X.env := by rfl) (hst2 : starEach [b] X.env = (false, eval b X.env) :: starEach [] X.env := by rfl) :
    DA X W env [a, b] (do let x ← ma; let y ← mb; pure [x, y]) :=
  PA.from (pa_cons ha (pa_cons hb pa_nil hst2) hst) fun σ H Q ⟨fr, F, m, ah, s, er, k⟩ => TK.step s er k fun F1 m1 ah1 d v H1 e1 s1 er1 r1 k1 => TK.step s1 er1 k1 fun F2 m2 ah2 d2 v2 H2 e2 s2 er2 r2 k2 =>
    k2 F2 m2 _ H2 Ext.refl s2 (RepL.cons (Rep.ext e2 _ _ r1) (RepL.cons r2 RepL.nil))

/-! displays -/
def lenOk (n : Nat) : Bool := decide (n ≤ sizeLine)
def tupM (xs : List D) : M D := if lenOk xs.length = true then pure (.tup xs) else stuck
def lstM (xs : List D) : M D := if lenOk xs.length = true then pure (.lst xs) else stuck
theorem de_tup {es : List Expr} {ms : M (List D)} {x1} (h : DA X W env es ms) : DE X W env (.Tuple es x1 pos) (do let xs ← ms; tupM xs) :=
  PE.from (pe_tup h) fun σ H Q ⟨fr, F, m, ah, s, er, k⟩ => TK.step s er k fun F1 m1 ah1 d v H1 e1 s1 er1 r1 k1 => by
    unfold tupM at k1
    by_cases hl : lenOk d.length = true
    · rw [if_pos hl] at k1
      exact ⟨by rw [RepL.length r1]; exact of_decide_eq_true hl, fun p hp => TK.newT k1 s1 r1 hp⟩
    · rw [if_neg hl] at k1
      exact False.elim k1
theorem de_lst {es : List Expr} {ms : M (List D)} (h : DA X W env es ms) : DE X W env (.List es pos) (do let xs ← ms; lstM xs) :=
  PE.from (pe_lst h) fun σ H Q ⟨fr, F, m, ah, s, er, k⟩ => TK.step s er k fun F1 m1 ah1 d v H1 e1 s1 er1 r1 k1 => by
    unfold lstM at k1
    by_cases hl : lenOk d.length = true
    · rw [if_pos hl] at k1
      exact ⟨by rw [RepL.length r1]; exact of_decide_eq_true hl, fun p hp => TK.newL k1 s1 r1 hp⟩
    · rw [if_neg hl] at k1
      exact False.elim k1

/-! ### a new cell of the plain heap -/
theorem getElem?_snoc_cases {α : Type} {l : List α} {x y : α} {i : Nat} (h : (l ++ [x])[i]? = some y) : l[i]? = some y ∨ (i = l.length ∧ x = y) := by
  by_cases hi : i < l.length
  · rw [List.getElem?_append_left hi] at h
    exact .inl h
  · rw [List.getElem?_append_right (by omega)] at h
    have z : i - l.length = 0 := by
      cases q : i - l.length with
      | zero => rfl
      | succ n =>
        rw [q] at h
        simp at h
    rw [z] at h
    simp at h
    exact .inr ⟨by omega, h⟩
theorem Sim.laid {K : Fg} {mg : Str → Option Value} {F H : Hp} {m : List Addr} {ah : AH} {p : Addr} {o : HO} {c : Cell} (S : Sim K mg fr F m ah H) (hp : H p = none) (ok : CellOk K mg F m (upd H p o) p c) :
    Sim K mg fr F (m ++ [p]) (ah ++ [c]) (upd H p o) ∧ Ext F m F (m ++ [p]) := by
  have nm : ∀ a, a ∈ m → a ≠ p := fun a ha z => by
    obtain ⟨u, hu⟩ := S.there a ha
    rw [z, hp] at hu
    cases hu
  have e : Ext F m F (m ++ [p]) := ⟨fun _ _ h => h, fun i a h => by
    rw [List.getElem?_append_left (List.getElem?_eq_some_iff.mp h).1]
    exact h⟩
  refine ⟨⟨fun a u h => ?_, by simp [S.len], ?_, fun i x h => ?_, fun a u h n => ?_, fun a ha n => ?_, fun i a h => e.pre i a (S.pre i a h), fun a ha => ?_, S.old⟩, e⟩
  · have q := S.sub a u h
    rw [upd_ne (ne_of_none q hp)]
    exact q
  · rw [List.nodup_append]
    exact ⟨S.nod, by simp, fun a ha b hb => by
      rw [List.mem_singleton.mp hb]
      exact nm a ha⟩
  · rcases getElem?_snoc_cases h with h | ⟨hi, hx⟩
    · obtain ⟨a, q, okx⟩ := S.cells i x h
      have ne := nm a (List.mem_of_getElem? q)
      exact ⟨a, e.pre i a q, okx.ext e (fun z => okx.free z) fun _ => upd_ne ne⟩
    · refine ⟨p, ?_, ?_⟩
      · rw [hi, ← S.len, List.getElem?_append_right (Nat.le_refl _)]
        simp
      · rw [← hx]
        exact ok.ext e (fun z => ok.free z) fun _ => rfl
  · have q := S.frame a u h n
    rw [upd_ne (ne_of_none q hp)]
    exact q
  · rcases List.mem_append.mp ha with ha | ha
    · exact S.young a ha n
    · rw [List.mem_singleton.mp ha]
      exact S.fresh0 hp
  · rcases List.mem_append.mp ha with ha | ha
    · rw [upd_ne (nm a ha)]
      exact S.there a ha
    · rw [List.mem_singleton.mp ha, upd_same]
      exact ⟨_, rfl⟩
def newM (c : Cell) : M D := fun h => .ok (.ref h.length) (h ++ [c])
/-- a list that will be written -/
def lstH (xs : List D) : M D := if lenOk xs.length = true then newM (.lst xs) else stuck
theorem Sim.freeF {K : Fg} {mg : Str → Option Value} {F H : Hp} {m : List Addr} {ah : AH} {p : Addr} (S : Sim K mg fr F m ah H) (hp : H p = none) : F p = none := by
  cases q : F p with
  | none => rfl
  | some u =>
    rw [S.sub _ _ q] at hp
    cases hp
theorem TK.newH {σ : St} {F H : Hp} {m : List Addr} {ah : AH} {ds : List D} {vs : List V} {p : Addr} {Q : VK} (k : TK X.K X.mg fr W (Rep X.K) σ F m (newM (.lst ds) ah) Q) (S : Sim X.K X.mg fr F m ah H) (r : RepL X.K F m ds vs) (hp : H p = none) : Q (.ref p) (upd H p (.lst vs)) := by
  obtain ⟨S', e⟩ := S.laid (o := .lst vs) (c := .lst ds) hp ⟨S.freeF hp, vs, upd_same, r⟩
  refine k _ _ _ _ e S' ?_
  unfold Rep
  refine ⟨p, ?_, rfl⟩
  rw [← S.len, List.getElem?_append_right (Nat.le_refl _)]
  simp
theorem de_lstH {es : List Expr} {ms : M (List D)} (h : DA X W env es ms) : DE X W env (.List es pos) (do let xs ← ms; lstH xs) :=
  PE.from (pe_lst h) fun σ H Q ⟨fr, F, m, ah, s, er, k⟩ => TK.step s er k fun F1 m1 ah1 d v H1 e1 s1 er1 r1 k1 => by
    unfold lstH at k1
    by_cases hl : lenOk d.length = true
    · rw [if_pos hl] at k1
      exact ⟨by rw [RepL.length r1]; exact of_decide_eq_true hl, fun p hp => TK.newH k1 s1 r1 hp⟩
    · rw [if_neg hl] at k1
      exact False.elim k1

/-! ### + -/
/-- list + list -/
def rCatLs (K : Fg) : R2 := fun x y H Q => ∃ l b xs zs, x = .ref l ∧ y = .ref b ∧ SqL K H l xs ∧ SqL K H b zs ∧ xs.length + zs.length ≤ sizeLine ∧ ∀ p, H p = none → Q (.ref p) (upd H p (.lst (xs ++ zs)))
theorem op_catLs : OpR X (binaryOp .Add) (rCatLs X.K) := by
  intro pins s σ H x y v u Q I rx ry h
  obtain ⟨l, b, xs, zs, rfl, rfl, hH, hB, hz, q⟩ := h
  cases rx
  cases ry
  obtain ⟨its, r, hl, _⟩ := I.list hH
  obtain ⟨its2, r2, hl2, _⟩ := I.list hB
  have e1 := r.length
  have e2 := r2.length
  obtain ⟨m, F⟩ := I.fr
  obtain ⟨⟨cls, dd, data, sl⟩, ho, hc, n, hd⟩ := hl.isList
  obtain ⟨⟨cls2, dd2, data2, sl2⟩, ho2, hc2, n2, hd2⟩ := hl2.isList
  simp only at hc hd hc2 hd2
  subst hc hd hc2 hd2
  have e : its.toArray ++ its2.toArray = (its ++ its2).toArray := by simp
  refine PySem.concat_meets ⟨_, ho, rfl⟩ ⟨_, ho2, rfl⟩ noFill_list_add seq_list_add PySem.F.slot_list_add PySem.F.entry_list_add (PySem.F.args_list_add_2 _ _) (PyProof.Rows.list_addW l b its.toArray its2.toArray n n2 dd dd2 sl sl2 (by simp only [List.size_toArray]; omega)) ⟨ho, ho2, ?_⟩
  rw [e]
  exact ⟨.ref _, _, I.lnew (t' := s.toks) (r.append r2) (by rw [List.length_append]; omega), rfl, q _ I.fresh⟩
def rAddStr : R2 := fun x y H Q => ∃ i j, x = .str i ∧ y = .str j ∧ i.length + j.length ≤ sizeLine ∧ Q (.str (i ++ j)) H
def rAddAll (K : Fg) : R2 := fun x y H Q => rI0 (fun i j => .int (i + j)) x y H Q ∨ rAddStr x y H Q ∨ rCatA K x y H Q ∨ rCatLs K x y H Q
theorem op_addAll : OpR X (binaryOp .Add) (rAddAll X.K) := op_add.or (op_add_str.or (op_catA.or op_catLs))
def addM (x y : D) : M D := fun h => match x, y with
  | .int i, .int j => .ok (.int (i + j)) h
  | .str a, .str b => if lenOk (a.length + b.length) = true then .ok (.str (a ++ b)) h else .stuck
  | .tup a, .tup b => if lenOk (a.length + b.length) = true then .ok (.tup (a ++ b)) h else .stuck
  | x, y => match lstOf h x, lstOf h y with
    | some a, some b => if lenOk (a.length + b.length) = true then .ok (.lst (a ++ b)) h else .stuck
    | _, _ => .stuck
theorem add_ok : OpD X (rAddAll X.K) addM := by
  intro fr W σ F m ah H d e x y Q s rx ry k
  have ls : ∀ (a b : List D), lstOf ah d = some a → lstOf ah e = some b → TK X.K X.mg fr W (Rep X.K) σ F m (if lenOk (a.length + b.length) = true then .ok (.lst (a ++ b)) ah else .stuck) Q → rAddAll X.K x y H Q := by
    intro a b h1 h2 k
    by_cases hl : lenOk (a.length + b.length) = true
    · rw [if_pos hl] at k
      obtain ⟨p1, vs1, e1, q1, r1⟩ := lst_of s rx h1
      obtain ⟨p2, vs2, e2, q2, r2⟩ := lst_of s ry h2
      exact .inr (.inr (.inr ⟨p1, p2, vs1, vs2, e1, e2, q1, q2, by rw [RepL.length r1, RepL.length r2]; exact of_decide_eq_true hl, fun p hp => TK.newL k s (RepL.append r1 r2) hp⟩))
    · rw [if_neg hl] at k
      exact k.elim
  unfold addM at k
  split at k
  · unfold Rep at rx ry
    exact .inl ⟨_, _, rx, ry, k.val s Rep.int⟩
  · rename_i a b
    unfold Rep at rx ry
    by_cases hl : lenOk (a.length + b.length) = true
    · rw [if_pos hl] at k
      exact .inr (.inl ⟨_, _, rx, ry, of_decide_eq_true hl, k.val s Rep.str⟩)
    · rw [if_neg hl] at k
      exact k.elim
  · rename_i a b
    by_cases hl : lenOk (a.length + b.length) = true
    · rw [if_pos hl] at k
      unfold Rep at rx ry
      obtain ⟨p1, vs1, e1, q1, r1⟩ := rx
      obtain ⟨p2, vs2, e2, q2, r2⟩ := ry
      refine .inr (.inr (.inl ⟨p1, p2, vs1, vs2, e1, e2, SqT.up s.sub q1, SqT.up s.sub q2, by rw [RepL.length r1, RepL.length r2]; exact of_decide_eq_true hl, fun z => ?_, fun _ z => ?_, fun _ _ p hp => TK.newT k s (RepL.append r1 r2) hp⟩))
      · have la : a = [] := List.length_eq_zero_iff.mp (by rw [← RepL.length r1, z]; rfl)
        subst la
        exact k.val s (Rep.tup q2 r2)
      · have lb : b = [] := List.length_eq_zero_iff.mp (by rw [← RepL.length r2, z]; rfl)
        subst lb
        rw [List.append_nil] at k
        exact k.val s (Rep.tup q1 r1)
    · rw [if_neg hl] at k
      exact k.elim
  · cases h1 : lstOf ah d with
    | none =>
      rw [h1] at k
      exact k.elim
    | some a =>
      cases h2 : lstOf ah e with
      | none =>
        rw [h1, h2] at k
        exact k.elim
      | some b =>
        rw [h1, h2] at k
        exact ls a b h1 h2 k
theorem de_add {a b : Expr} {ma mb : M D} (ha : DE X W env a ma) (hb : DE X W env b mb) : DE X W env (.BinOp a .Add b pos) (do let x ← ma; let y ← mb; addM x y) := de_op op_addAll add_ok ha hb

/-! ### ints -/
def subM : D → D → M D := int2 fun i j => .int (i - j)
theorem de_sub {a b : Expr} {ma mb : M D} (ha : DE X W env a ma) (hb : DE X W env b mb) : DE X W env (.BinOp a .Sub b pos) (do let x ← ma; let y ← mb; subM x y) := de_op op_sub (int2_ok fun _ _ _ _ _ => Rep.int) ha hb
/-- ints, under a condition that is decided -/
def int2c (c : Int → Int → Bool) (f : Int → Int → D) : D → D → M D := fun x y => match x, y with
  | .int i, .int j => if c i j = true then pure (f i j) else stuck
  | _, _ => stuck
theorem int2c_ok {C : Int → Int → Prop} {c : Int → Int → Bool} {g : Int → Int → V} {f : Int → Int → D} (hc : ∀ i j, c i j = true → C i j) (h : ∀ i j K F m, Rep K F m (f i j) (g i j)) : OpD X (rI C g) (int2c c f) := by
  intro fr W σ F m ah H d e x y Q s rx ry k
  cases d <;> try exact (TK.stuck_of k).elim
  cases e <;> try exact (TK.stuck_of k).elim
  rename_i i j
  unfold Rep at rx ry
  by_cases z : c i j = true
  · have k : TK X.K X.mg fr W (Rep X.K) σ F m ((if c i j = true then pure (f i j) else stuck : M D) ah) Q := k
    rw [if_pos z] at k
    exact ⟨i, j, rx, ry, hc i j z, k F m _ H Ext.refl s (h i j _ _ _)⟩
  · have k : TK X.K X.mg fr W (Rep X.K) σ F m ((if c i j = true then pure (f i j) else stuck : M D) ah) Q := k
    rw [if_neg z] at k
    exact k.elim
/-- ints below 2 ^ 400000 together -/
def cMul (i j : Int) : Bool := decide (i.natAbs.log2 + j.natAbs.log2 < 1000000)
def mulM : D → D → M D := int2c cMul fun i j => .int (i * j)
theorem de_mul {a b : Expr} {ma mb : M D} (ha : DE X W env a ma) (hb : DE X W env b mb) : DE X W env (.BinOp a .Mult b pos) (do let x ← ma; let y ← mb; mulM x y) :=
  de_op op_mulW (int2c_ok (fun i j h => by unfold cMul at h; exact (of_decide_eq_true h : i.natAbs.log2 + j.natAbs.log2 < 1000000)) fun _ _ _ _ _ => Rep.int) ha hb
def cDiv (_ j : Int) : Bool := decide (0 < j ∧ j.natAbs.log2 < 9000)
def fdivM : D → D → M D := int2c cDiv fun i j => .int (i / j)
theorem de_fdiv {a b : Expr} {ma mb : M D} (ha : DE X W env a ma) (hb : DE X W env b mb) : DE X W env (.BinOp a .FloorDiv b pos) (do let x ← ma; let y ← mb; fdivM x y) :=
  de_op op_fdivW (int2c_ok (fun i j h => by unfold cDiv at h; exact (of_decide_eq_true h : 0 < j ∧ j.natAbs.log2 < 9000)) fun _ _ _ _ _ => Rep.int) ha hb
def cMod (_ j : Int) : Bool := decide (0 < j)
def modM : D → D → M D := int2c cMod fun i j => .int (i % j)
theorem de_mod {a b : Expr} {ma mb : M D} (ha : DE X W env a ma) (hb : DE X W env b mb) : DE X W env (.BinOp a .Mod b pos) (do let x ← ma; let y ← mb; modM x y) :=
  de_op op_mod (int2c_ok (fun i j h => of_decide_eq_true h) fun _ _ _ _ _ => Rep.int) ha hb
def cPow (i j : Int) : Bool := decide (0 ≤ j ∧ j ≤ 1000000 ∧ i.natAbs < 2 ^ 64)
def powM : D → D → M D := int2c cPow fun i j => .int (i ^ j.toNat)
theorem de_pow {a b : Expr} {ma mb : M D} (ha : DE X W env a ma) (hb : DE X W env b mb) : DE X W env (.BinOp a .Pow b pos) (do let x ← ma; let y ← mb; powM x y) :=
  de_op op_pow (int2c_ok (fun i j h => by unfold cPow at h; exact (of_decide_eq_true h : 0 ≤ j ∧ j ≤ 1000000 ∧ i.natAbs < 2 ^ 64)) fun _ _ _ _ _ => Rep.int) ha hb
def negM : D → M D
  | .int i => pure (.int (-i))
  | _ => stuck
theorem de_neg {a : Expr} {ma : M D} (ha : DE X W env a ma) : DE X W env (.UnaryOp .USub a pos) (do let x ← ma; negM x) := de_un un_neg (fun fr W σ F m ah H d x Q s r k => by
  cases d <;> try exact (TK.stuck_of k).elim
  unfold Rep at r
  exact ⟨_, r, k F m _ H Ext.refl s Rep.int⟩) ha
/-! comparisons of ints -/
def ltM : D → D → M D := int2 fun i j => .bl (decide (i < j))
def leM : D → D → M D := int2 fun i j => .bl (decide (i ≤ j))
def gtM : D → D → M D := int2 fun i j => .bl (decide (j < i))
def geM : D → D → M D := int2 fun i j => .bl (decide (j ≤ i))
theorem de_lt {a b : Expr} {ma mb : M D} (ha : DE X W env a ma) (hb : DE X W env b mb) : DE X W env (.Compare a [.Lt] [b] pos) (do let x ← ma; let y ← mb; ltM x y) := de_cmp op_lt (int2_ok fun _ _ _ _ _ => Rep.bl) ha hb (nomark _)
theorem de_le {a b : Expr} {ma mb : M D} (ha : DE X W env a ma) (hb : DE X W env b mb) : DE X W env (.Compare a [.LtE] [b] pos) (do let x ← ma; let y ← mb; leM x y) := de_cmp op_le (int2_ok fun _ _ _ _ _ => Rep.bl) ha hb (nomark _)
theorem de_gt {a b : Expr} {ma mb : M D} (ha : DE X W env a ma) (hb : DE X W env b mb) : DE X W env (.Compare a [.Gt] [b] pos) (do let x ← ma; let y ← mb; gtM x y) := de_cmp op_gt (int2_ok fun _ _ _ _ _ => Rep.bl) ha hb (nomark _)
theorem de_ge {a b : Expr} {ma mb : M D} (ha : DE X W env a ma) (hb : DE X W env b mb) : DE X W env (.Compare a [.GtE] [b] pos) (do let x ← ma; let y ← mb; geM x y) := de_cmp op_ge (int2_ok fun _ _ _ _ _ => Rep.bl) ha hb (nomark _)
/-! a op b op c, ints -/
def chainM (f g : D → D → M D) (x y : D) (mc : M D) : M D := do
  match ← f x y with
  | .bl true => do let z ← mc; g y z
  | .bl false => pure (.bl false)
  | _ => stuck
theorem de_chain {a b c : Expr} {ma mb mc : M D} {op op' : CmpOp} {r r' : R2} {f g : D → D → M D} (ho : OpR X (compareOp op) r) (hr : OpD X r f) (ho' : OpR X (compareOp op') r') (hr' : OpD X r' g) (ha : DE X W env a ma) (hb : DE X W env b mb) (hc : DE X W env c mc)
    (hm : lastMarks [op, op'] [b, c] = false := by with_unfolding_all rfl) : DE X W env (.Compare a [op, op'] [b, c] pos) (do let x ← ma; let y ← mb; chainM f g x y mc) :=
  PE.from (pe_chain ho ho' ha hb hc hm) fun σ H Q ⟨fr, F, m, ah, s, er, k⟩ => TK.step s er k fun F1 m1 ah1 d v H1 e1 s1 er1 r1 k1 => TK.step s1 er1 k1 fun F2 m2 ah2 d2 v2 H2 e2 s2 er2 r2 k2 => by
    refine hr fr W σ F2 m2 ah2 H2 d d2 v v2 _ s2 (Rep.ext e2 _ _ r1) r2 ?_
    have k3 : TK X.K X.mg fr W (Rep X.K) σ F2 m2 ((f d d2 >>= fun z => match z with | .bl true => (do let z ← mc; g d2 z) | .bl false => pure (.bl false) | _ => stuck) ah2) Q := k2
    rw [bind_def] at k3
    cases hf : f d d2 ah2 with
    | stuck =>
      rw [hf] at k3
      exact k3
    | exc x a =>
      rw [hf] at k3
      exact k3
    | ok z a =>
      rw [hf] at k3
      intro F3 m3 w H3 e3 s3 r3
      have k4 := TK.ext e3 k3
      cases z <;> try exact (TK.stuck_of k4).elim
      rename_i t
      unfold Rep at r3
      refine ⟨t, r3, ?_⟩
      cases t with
      | false => exact iteF (k4 F3 m3 _ H3 Ext.refl s3 Rep.bl)
      | true =>
        refine iteT ?_
        exact TK.step (R := Rep X.K) s3 ((er2.ext e3)) k4 fun F4 m4 ah4 d4 v4 H4 e4 s4 er4 r4 k5 => hr' fr W σ F4 m4 ah4 H4 d2 d4 v2 v4 Q s4 (Rep.ext (e3.trans e4) _ _ r2) r4 k5
theorem lt_ok : OpD X (rI0 fun i j => .bl (decide (i < j))) ltM := int2_ok fun _ _ _ _ _ => Rep.bl
theorem le_ok : OpD X (rI0 fun i j => .bl (decide (i ≤ j))) leM := int2_ok fun _ _ _ _ _ => Rep.bl

/-! ### == over data -/
mutual
def toP : D → PyData
  | .non => .none
  | .bl b => .bool b
  | .int i => .int i
  | .str x => .str x
  | .tup xs => .tuple (toPs xs)
  | .lst xs => .list (toPs xs)
  | _ => .none
def toPs : List D → List PyData
  | [] => []
  | d :: ds => toP d :: toPs ds
/-- flat data, at most so deep -/
def flatD : Nat → D → Bool
  | _, .non => true
  | _, .bl _ => true
  | _, .int _ => true
  | _, .str _ => true
  | n, .tup xs => flatDs n xs
  | n, .lst xs => flatDs n xs
  | _, _ => false
def flatDs : Nat → List D → Bool
  | _, [] => true
  | n, d :: ds => flatD n d && flatDs n ds
end
mutual
theorem dp_of {K : Fg} {F H : Hp} {m : List Addr} (sub : ∀ a o, F a = some o → H a = some o) : ∀ (d : D) (v : V), Rep K F m d v → flatD 0 d = true → Dp K H v (toP d)
  | .non, v, r, _ => by
    unfold Rep at r
    rw [r]
    exact .non
  | .bl b, v, r, _ => by
    unfold Rep at r
    rw [r]
    exact .bl b
  | .int b, v, r, _ => by
    unfold Rep at r
    rw [r]
    exact .int b
  | .str b, v, r, _ => by
    unfold Rep at r
    rw [r]
    exact .str b
  | .ref _, v, _, f => by
    unfold flatD at f
    cases f
  | .exn _ _, v, _, f => by
    unfold flatD at f
    cases f
  | .emp, v, _, f => by
    unfold flatD at f
    cases f
  | .tup xs, v, r, f => by
    unfold Rep at r
    obtain ⟨a, vs, h1, h2, h3⟩ := r
    unfold flatD at f
    rw [h1]
    exact .tup (SqT.up sub h2) (dps_of sub xs vs h3 f)
  | .lst xs, v, r, f => by
    unfold Rep at r
    obtain ⟨a, vs, h1, h2, h3⟩ := r
    unfold flatD at f
    rw [h1]
    exact .lst (SqL.up sub h2) (dps_of sub xs vs h3 f)
theorem dps_of {K : Fg} {F H : Hp} {m : List Addr} (sub : ∀ a o, F a = some o → H a = some o) : ∀ (ds : List D) (vs : List V), RepL K F m ds vs → flatDs 0 ds = true → DpAll K H vs (toPs ds)
  | [], vs, r, _ => by
    unfold RepL at r
    rw [r]
    exact .nil
  | d :: ds, vs, r, f => by
    unfold RepL at r
    obtain ⟨v, u, h1, h2, h3⟩ := r
    unfold flatDs at f
    rw [Bool.and_eq_true] at f
    rw [h1]
    exact .cons (dp_of sub d v h2 f.1) (dps_of sub ds u h3 f.2)
end
/-- a list of the heap, looked at as data -/
def lookD (h : AH) : D → D
  | .ref n => match h[n]? with
    | some (.lst xs) => .lst xs
    | _ => .ref n
  | d => d
def okD (d : D) : Bool := flatD 0 d && SeqAt.shaped (toP d)
/-- two texts; two lists of unlike lengths -/
def eqP (h : AH) (x y : D) : Option Bool := match x, y with
  | .str a, .str b => some (decide (a = b))
  | x, y => match lstOf h x, lstOf h y with
    | some xs, some ys => if xs.length = ys.length then none else some false
    | _, _ => none
def eqM (x y : D) : M D := fun h => match eqP h x y with
  | some b => .ok (.bl b) h
  | none => if (okD (lookD h x) && okD (lookD h y)) = true then .ok (.bl (PyData.eqv (toP (lookD h x)) (toP (lookD h y)))) h else .stuck
def neM (x y : D) : M D := fun h => match eqP h x y with
  | some b => .ok (.bl (!b)) h
  | none => if (okD (lookD h x) && okD (lookD h y)) = true then .ok (.bl (!PyData.eqv (toP (lookD h x)) (toP (lookD h y)))) h else .stuck
theorem dp_look {K : Fg} {mg : Str → Option Value} {F H : Hp} {m : List Addr} {ah : AH} {d : D} {v : V} (S : Sim K mg fr F m ah H) (r : Rep K F m d v) (f : flatD 0 (lookD ah d) = true) : Dp K H v (toP (lookD ah d)) := by
  cases d <;> try exact dp_of S.sub _ v r f
  rename_i n
  unfold lookD at f ⊢
  cases hc : ah[n]? with
  | none =>
    simp only [hc] at f
    unfold flatD at f
    cases f
  | some c =>
    cases c <;> simp only [hc] at f ⊢ <;> try (unfold flatD at f; cases f; done)
    rename_i xs
    obtain ⟨a, vs, h1, h2, h3⟩ := lst_of (xs := xs) S r (by unfold lstOf; simp only [hc])
    unfold flatD at f
    rw [h1]
    exact .lst h2 (dps_of S.sub xs vs h3 f)
/-- lists of unlike lengths -/
def rLen (K : Fg) (k : Bool) : R2 := fun x y H Q => ∃ a b xs ys, x = .ref a ∧ y = .ref b ∧ SqL K H a xs ∧ SqL K H b ys ∧ xs.length ≠ ys.length ∧ Q (.bl k) H
theorem op_eqLen (hu : X.A.units + 64 < cLine) : OpR X (compareOp .Eq) (rLen X.K false) := by
  intro pins s σ H x y v u Q I rx ry h
  obtain ⟨a, b, xs, ys, rfl, rfl, ha, hb, hl, q⟩ := h
  cases rx
  cases ry
  obtain ⟨its, r, p, _⟩ := I.list ha
  obtain ⟨its2, r2, p2, _⟩ := I.list hb
  have e1 := r.length
  have e2 := r2.length
  exact PySem.SeqAt.eq_list_lengthsAt p.isList p2.isList (by simp only [List.size_toArray, bne_iff_ne]; omega) (by omega) ⟨.bl false, H, I, rfl, q⟩
theorem op_neLen (hu : X.A.units + 64 < cLine) : OpR X (compareOp .NotEq) (rLen X.K true) := by
  intro pins s σ H x y v u Q I rx ry h
  obtain ⟨a, b, xs, ys, rfl, rfl, ha, hb, hl, q⟩ := h
  cases rx
  cases ry
  obtain ⟨its, r, p, _⟩ := I.list ha
  obtain ⟨its2, r2, p2, _⟩ := I.list hb
  have e1 := r.length
  have e2 := r2.length
  exact PySem.SeqAt.RcNeAt.lists_lengths p.isList p2.isList (by simp only [List.size_toArray, bne_iff_ne]; omega) (by omega) X.prog X.w X.xe _ ⟨.bl true, H, I, rfl, q⟩
def rEqX (K : Fg) : R2 := fun x y H Q => (rEq x y H Q ∨ rLen K false x y H Q) ∨ rEqD K x y H Q
def rNeX (K : Fg) : R2 := fun x y H Q => (rNe x y H Q ∨ rLen K true x y H Q) ∨ rNeD K x y H Q
theorem op_eqX (hu : X.A.units + 64 < cLine) : OpR X (compareOp .Eq) (rEqX X.K) := (op_eq.or (op_eqLen hu)).or (op_eqD hu)
theorem op_neX (hu : X.A.units + 64 < cLine) : OpR X (compareOp .NotEq) (rNeX X.K) := (op_ne.or (op_neLen hu)).or (op_neD hu)
theorem eqP_of {K : Fg} {mg : Str → Option Value} {F H : Hp} {m : List Addr} {ah : AH} {d e : D} {x y : V} {b : Bool} (s : Sim K mg fr F m ah H) (rx : Rep K F m d x) (ry : Rep K F m e y) (h : eqP ah d e = some b) :
    (∃ p q, x = .str p ∧ y = .str q ∧ b = decide (p = q)) ∨ (b = false ∧ ∃ p q xs ys, x = .ref p ∧ y = .ref q ∧ SqL K H p xs ∧ SqL K H q ys ∧ xs.length ≠ ys.length) := by
  unfold eqP at h
  split at h
  · unfold Rep at rx ry
    cases h
    exact .inl ⟨_, _, rx, ry, rfl⟩
  · split at h
    · rename_i xs ys h1 h2
      by_cases hl : xs.length = ys.length
      · rw [if_pos hl] at h
        cases h
      · rw [if_neg hl] at h
        cases h
        obtain ⟨p, vs, e1, e2, e3⟩ := lst_of s rx h1
        obtain ⟨q, us, g1, g2, g3⟩ := lst_of s ry h2
        exact .inr ⟨rfl, p, q, vs, us, e1, g1, e2, g2, by rw [RepL.length e3, RepL.length g3]; exact hl⟩
    · cases h
theorem eq_ok : OpD X (rEqX X.K) eqM := by
  intro fr W σ F m ah H d e x y Q s rx ry k
  unfold eqM at k
  cases hp : eqP ah d e with
  | some b =>
    simp only [hp] at k
    rcases eqP_of s rx ry hp with ⟨p, q, rfl, rfl, rfl⟩ | ⟨rfl, p, q, xs, ys, rfl, rfl, h1, h2, h3⟩
    · refine .inl (.inl ⟨rfl, ?_⟩)
      have e : decide ((V.str p) = .str q) = decide (p = q) := by
        by_cases z : p = q
        · rw [decide_eq_true z, decide_eq_true (by rw [z])]
        · rw [decide_eq_false z, decide_eq_false (fun y => z (V.str.inj y))]
      rw [e]
      exact k.val s Rep.bl
    · exact .inl (.inr ⟨p, q, xs, ys, rfl, rfl, h1, h2, h3, k.val s Rep.bl⟩)
  | none =>
    simp only [hp] at k
    by_cases h : (okD (lookD ah d) && okD (lookD ah e)) = true
    · rw [if_pos h] at k
      rw [Bool.and_eq_true] at h
      unfold okD at h
      rw [Bool.and_eq_true, Bool.and_eq_true] at h
      exact .inr ⟨_, _, dp_look s rx h.1.1, dp_look s ry h.2.1, h.1.2, h.2.2, k.val s Rep.bl⟩
    · rw [if_neg h] at k
      exact k.elim
theorem ne_ok : OpD X (rNeX X.K) neM := by
  intro fr W σ F m ah H d e x y Q s rx ry k
  unfold neM at k
  cases hp : eqP ah d e with
  | some b =>
    simp only [hp] at k
    rcases eqP_of s rx ry hp with ⟨p, q, rfl, rfl, rfl⟩ | ⟨rfl, p, q, xs, ys, rfl, rfl, h1, h2, h3⟩
    · refine .inl (.inl ⟨rfl, ?_⟩)
      have e : decide ((V.str p) = .str q) = decide (p = q) := by
        by_cases z : p = q
        · rw [decide_eq_true z, decide_eq_true (by rw [z])]
        · rw [decide_eq_false z, decide_eq_false (fun y => z (V.str.inj y))]
      rw [e]
      exact k.val s Rep.bl
    · exact .inl (.inr ⟨p, q, xs, ys, rfl, rfl, h1, h2, h3, k.val s Rep.bl⟩)
  | none =>
    simp only [hp] at k
    by_cases h : (okD (lookD ah d) && okD (lookD ah e)) = true
    · rw [if_pos h] at k
      rw [Bool.and_eq_true] at h
      unfold okD at h
      rw [Bool.and_eq_true, Bool.and_eq_true] at h
      exact .inr ⟨_, _, dp_look s rx h.1.1, dp_look s ry h.2.1, h.1.2, h.2.2, k.val s Rep.bl⟩
    · rw [if_neg h] at k
      exact k.elim
theorem de_eq {a b : Expr} {ma mb : M D} (hu : X.A.units + 64 < cLine) (ha : DE X W env a ma) (hb : DE X W env b mb) : DE X W env (.Compare a [.Eq] [b] pos) (do let x ← ma; let y ← mb; eqM x y) := de_cmp (op_eqX hu) eq_ok ha hb (nomark _)
theorem de_ne {a b : Expr} {ma mb : M D} (hu : X.A.units + 64 < cLine) (ha : DE X W env a ma) (hb : DE X W env b mb) : DE X W env (.Compare a [.NotEq] [b] pos) (do let x ← ma; let y ← mb; neM x y) := de_cmp (op_neX hu) ne_ok ha hb (nomark _)
end
end Lw

/-! SimD: tests, is, and/or/not, subscripts, slices, built-in calls. -/
namespace Lw
open PySem L2

section
variable {X : Cx} {W : WX} {env : Env} {pos : Pos}
/-! ### tests -/
def asB : D → M Bool
  | .bl b => pure b
  | _ => stuck
theorem dt_of {e : Expr} {t : TE} {mc : M D} (hp : PT X e (tTest t)) (i : ∀ σ H Q, TC X.K X.mg W (Rep X.K) env mc σ H Q → t σ H Q) : DT X W env e (do let x ← mc; asB x) :=
  PT.from hp fun σ H Q ⟨fr, F, m, ah, s, er, k⟩ => i σ H _ (TK.step s er k fun F1 m1 ah1 d v H1 e1 s1 er1 r1 k1 => by
    cases d <;> try exact (TK.stuck_of k1).elim
    unfold Rep at r1
    exact ⟨_, r1, k1 F1 m1 _ H1 Ext.refl s1 rfl⟩)
theorem dt_cmp {a b : Expr} {ma mb : M D} {op : CmpOp} {r : R2} {f : D → D → M D} (ho : OpR X (compareOp op) r) (hr : OpD X r f) (ha : DE X W env a ma) (hb : DE X W env b mb) (hm : behindInMarks op b = false) :
    DT X W env (.Compare a [op] [b] pos) (do let v ← (do let x ← ma; let y ← mb; f x y); asB v) := dt_of (pt_cmpR ho ha hb hm) (tOp_from hr)
/-- an expression by its truth -/
def truM (d : D) : M Bool := fun h => match d with
  | .non => .ok false h
  | .bl b => .ok b h
  | .int i => .ok (i != 0) h
  | .str x => if lenOk x.length = true then .ok ((x.length : Int) != 0) h else .stuck
  | .tup xs => .ok (!xs.isEmpty) h
  | d => match lstOf h d with
    | some xs => .ok (!xs.isEmpty) h
    | none => .stuck
theorem RepL.isEmpty {K : Fg} {F : Hp} {m : List Addr} {ds : List D} {vs : List V} (r : RepL K F m ds vs) : vs.isEmpty = ds.isEmpty := by
  cases ds with
  | nil =>
    unfold RepL at r
    rw [r]
    rfl
  | cons d ds =>
    unfold RepL at r
    obtain ⟨v, u, h1, _, _⟩ := r
    rw [h1]
    rfl
theorem tru_of {K : Fg} {mg : Str → Option Value} {fr : Fm} {W : WX} {σ : St} {F H : Hp} {m : List Addr} {ah : AH} {d : D} {v : V} {Q : Bool → Hp → Prop} (S : Sim K mg fr F m ah H) (r : Rep K F m d v) (k : TK K mg fr W RB σ F m (truM d ah) Q) : ∃ b, TruV K v H b ∧ Q b H := by
  have ls : ∀ xs, lstOf ah d = some xs → TK K mg fr W RB σ F m (.ok (!xs.isEmpty) ah) Q → ∃ b, TruV K v H b ∧ Q b H := fun xs h k => by
    obtain ⟨a, vs, h1, h2, h3⟩ := lst_of S r h
    subst h1
    exact ⟨!xs.isEmpty, .inl ⟨vs, h2, by rw [RepL.isEmpty h3]⟩, k F m _ H Ext.refl S rfl⟩
  unfold truM at k
  split at k
  · unfold Rep at r
    subst r
    exact ⟨false, rfl, k F m _ H Ext.refl S rfl⟩
  · unfold Rep at r
    subst r
    exact ⟨_, rfl, k F m _ H Ext.refl S rfl⟩
  · unfold Rep at r
    subst r
    exact ⟨_, rfl, k F m _ H Ext.refl S rfl⟩
  · rename_i x
    unfold Rep at r
    subst r
    by_cases hl : lenOk x.length = true
    · rw [if_pos hl] at k
      exact ⟨_, ⟨of_decide_eq_true hl, rfl⟩, k F m _ H Ext.refl S rfl⟩
    · rw [if_neg hl] at k
      exact k.elim
  · rename_i xs
    unfold Rep at r
    obtain ⟨a, vs, h1, h2, h3⟩ := r
    subst h1
    exact ⟨!xs.isEmpty, .inr (.inl ⟨vs, SqT.up S.sub h2, by rw [RepL.isEmpty h3]⟩), k F m _ H Ext.refl S rfl⟩
  · cases h : lstOf ah d with
    | none =>
      rw [h] at k
      exact k.elim
    | some xs =>
      rw [h] at k
      exact ls xs h k
theorem dt_tru {e : Expr} {me : M D} (ha : DE X W env e me) (he : ∀ whole, isTrue e X.env whole = (do let v ← whole; standAt e.pos; holding [v] (truthy v)) := by intro _; rfl) : DT X W env e (do let x ← me; truM x) :=
  PT.from (pt_truth ha he) fun σ H Q ⟨fr, F, m, ah, s, er, k⟩ => TK.step s er k fun F1 m1 ah1 d v H1 e1 s1 er1 r1 k1 => tru_of s1 r1 k1
theorem dt_not {a : Expr} {ma : M Bool} (ha : DT X W env a ma) : DT X W env (.UnaryOp .Not a pos) (do let t ← ma; pure (!t)) :=
  PT.from (pt_not ha) fun σ H Q ⟨fr, F, m, ah, s, er, k⟩ => TK.step s er k fun F1 m1 ah1 d v H1 e1 s1 er1 r1 k1 => by
    have r1 : d = v := r1
    subst r1
    exact k1 F1 m1 _ H1 Ext.refl s1 rfl
abbrev DW (X : Cx) (W : WX) (env : Env) (e : Expr) (mc : M Bool) : Prop := PW X e (TC X.K X.mg W RB env mc)
theorem PW.from {X : Cx} {e : Expr} {t t' : TT} (h : PW X e t) (i : ∀ σ H Q, t' σ H Q → t σ H Q) : PW X e t' := ⟨fun w pins s σ H Q I q => h.run w pins s σ H Q I (i σ H Q q)⟩
theorem dw_and1 {a : Expr} {ma : M Bool} (ha : DT X W env a ma) : DW X W env (.BoolOp .And [a] pos) ma := pw_and1 ha
theorem dw_or1 {a : Expr} {ma : M Bool} (ha : DT X W env a ma) : DW X W env (.BoolOp .Or [a] pos) ma := pw_or1 ha
theorem dw_and {a b : Expr} {rest : List Expr} {ma mb : M Bool} (ha : DT X W env a ma) (hb : DW X W env (.BoolOp .And (b :: rest) pos) mb) : DW X W env (.BoolOp .And (a :: b :: rest) pos) (do let t ← ma; if t = true then mb else pure false) :=
  PW.from (pw_and ha hb) fun σ H Q ⟨fr, F, m, ah, s, er, k⟩ => TK.step s er k fun F1 m1 ah1 d v H1 e1 s1 er1 r1 k1 => by
    have r1 : d = v := r1
    subst r1
    cases d with
    | true => exact iteT ⟨fr, F1, m1, ah1, s1, er1, k1⟩
    | false => exact iteF (k1 F1 m1 _ H1 Ext.refl s1 rfl)
theorem dw_or {a b : Expr} {rest : List Expr} {ma mb : M Bool} (ha : DT X W env a ma) (hb : DW X W env (.BoolOp .Or (b :: rest) pos) mb) : DW X W env (.BoolOp .Or (a :: b :: rest) pos) (do let t ← ma; if t = true then pure true else mb) :=
  PW.from (pw_or ha hb) fun σ H Q ⟨fr, F, m, ah, s, er, k⟩ => TK.step s er k fun F1 m1 ah1 d v H1 e1 s1 er1 r1 k1 => by
    have r1 : d = v := r1
    subst r1
    cases d with
    | true => exact iteT (k1 F1 m1 _ H1 Ext.refl s1 rfl)
    | false => exact iteF ⟨fr, F1, m1, ah1, s1, er1, k1⟩
theorem dt_w {e : Expr} {mc : M Bool} (h : DW X W env e mc) : DT X W env e mc := h.pt
/-! as values -/
theorem de_one {op : BoolOp} {a : Expr} {ma : M D} (h : DE X W env a ma) : DE X W env (.BoolOp op [a] pos) ma := pe_one h
def andV (x : D) (mb : M D) : M D := match x with
  | .bl true => mb
  | .bl false => pure (.bl false)
  | _ => stuck
def orV (x : D) (mb : M D) : M D := match x with
  | .bl true => pure (.bl true)
  | .bl false => mb
  | _ => stuck
theorem de_and {a b : Expr} {rest : List Expr} {ma mb : M D} (ha : DE X W env a ma) (hb : DE X W env (.BoolOp .And (b :: rest) pos) mb) : DE X W env (.BoolOp .And (a :: b :: rest) pos) (do let x ← ma; andV x mb) :=
  PE.from (pe_and ha hb) fun σ H Q ⟨fr, F, m, ah, s, er, k⟩ => TK.step s er k fun F1 m1 ah1 d v H1 e1 s1 er1 r1 k1 => by
    cases d <;> try exact (TK.stuck_of k1).elim
    rename_i c
    unfold Rep at r1
    refine ⟨c, r1, ?_⟩
    cases c with
    | true => exact iteT ⟨fr, F1, m1, ah1, s1, er1, k1⟩
    | false => exact iteF (k1 F1 m1 _ H1 Ext.refl s1 Rep.bl)
theorem de_or {a b : Expr} {rest : List Expr} {ma mb : M D} (ha : DE X W env a ma) (hb : DE X W env (.BoolOp .Or (b :: rest) pos) mb) : DE X W env (.BoolOp .Or (a :: b :: rest) pos) (do let x ← ma; orV x mb) :=
  PE.from (pe_or ha hb) fun σ H Q ⟨fr, F, m, ah, s, er, k⟩ => TK.step s er k fun F1 m1 ah1 d v H1 e1 s1 er1 r1 k1 => by
    cases d <;> try exact (TK.stuck_of k1).elim
    rename_i c
    unfold Rep at r1
    refine ⟨c, r1, ?_⟩
    cases c with
    | true => exact iteT (k1 F1 m1 _ H1 Ext.refl s1 Rep.bl)
    | false => exact iteF ⟨fr, F1, m1, ah1, s1, er1, k1⟩
def notV : D → M D
  | .bl b => pure (.bl (!b))
  | _ => stuck
theorem de_not {a : Expr} {ma : M D} (ha : DE X W env a ma) : DE X W env (.UnaryOp .Not a pos) (do let x ← ma; notV x) :=
  PE.from (pe_not ha) fun σ H Q ⟨fr, F, m, ah, s, er, k⟩ => TK.step s er k fun F1 m1 ah1 d v H1 e1 s1 er1 r1 k1 => by
    cases d <;> try exact (TK.stuck_of k1).elim
    unfold Rep at r1
    exact ⟨_, r1, k1 F1 m1 _ H1 Ext.refl s1 Rep.bl⟩
theorem de_ifexp {c a b : Expr} {mc : M Bool} {ma mb : M D} (hc : DT X W env c mc) (ha : DE X W env a ma) (hb : DE X W env b mb) : DE X W env (.IfExp c a b pos) (do let t ← mc; if t = true then ma else mb) :=
  PE.from (pe_ifExp hc ha hb) fun σ H Q ⟨fr, F, m, ah, s, er, k⟩ => TK.step s er k fun F1 m1 ah1 d v H1 e1 s1 er1 r1 k1 => by
    have r1 : d = v := r1
    subst r1
    cases d with
    | true => exact iteT ⟨fr, F1, m1, ah1, s1, er1, k1⟩
    | false => exact iteF ⟨fr, F1, m1, ah1, s1, er1, k1⟩

/-! ### is -/
theorem is_bl_gen {M : Model} {A : Around} {E : Value → Shared → Prop} {s : Shared} {Q : Value → Shared → Prop} {v : Value} {b : Bool} (hv : ∀ n, v ≠ .builtin n) (h : Q (.bool (v == .bool b)) s) : wpAny M A (compareOp .Is v (.bool b)) Q E s := by
  cases v <;> first | exact wpAny_pure h | exact absurd rfl (hv _)
theorem isnot_bl_gen {M : Model} {A : Around} {E : Value → Shared → Prop} {s : Shared} {Q : Value → Shared → Prop} {v : Value} {b : Bool} (hv : ∀ n, v ≠ .builtin n) (h : Q (.bool (!(v == .bool b))) s) : wpAny M A (compareOp .IsNot v (.bool b)) Q E s := by
  cases v <;> first | exact wpAny_pure h | exact absurd rfl (hv _)
theorem RelV.nob {x : V} {v : Value} (r : RelV x v) : ∀ n, v ≠ .builtin n := fun n e => by
  subst e
  cases x <;> first | (cases r; done) | (obtain ⟨t, z⟩ := r; cases z)
theorem RelV.bl_iff {x : V} {v : Value} {b : Bool} (r : RelV x v) : (v == Value.bool b) = decide (x = .bl b) := by
  cases x with
  | non => cases r; rfl
  | bl c => cases r; cases c <;> cases b <;> rfl
  | int _ => obtain ⟨t, rfl⟩ := r; rfl
  | str _ => obtain ⟨t, rfl⟩ := r; rfl
  | byt _ => obtain ⟨t, rfl⟩ := r; rfl
  | flt _ => obtain ⟨t, rfl⟩ := r; rfl
  | ref _ => cases r; rfl
  | ty _ => cases r; rfl
/-- is, the right side None, True or False -/
def rIs (neg : Bool) : R2 := fun x y H Q => (y = .non ∧ Q (.bl (xor neg (decide (x = .non)))) H) ∨ ∃ b, y = .bl b ∧ Q (.bl (xor neg (decide (x = .bl b)))) H
theorem op_isC : OpR X (compareOp .Is) (rIs false) := by
  intro pins s σ H x y v u Q I rx ry h
  rcases h with ⟨rfl, q⟩ | ⟨b, rfl, q⟩
  · exact op_isN pins s σ H x _ v u Q I rx ry ⟨rfl, by simpa using q⟩
  · cases ry
    exact is_bl_gen (RelV.nob rx) (fin_bl I q (by rw [RelV.bl_iff rx]; simp))
theorem op_isnotC : OpR X (compareOp .IsNot) (rIs true) := by
  intro pins s σ H x y v u Q I rx ry h
  rcases h with ⟨rfl, q⟩ | ⟨b, rfl, q⟩
  · exact op_notN pins s σ H x _ v u Q I rx ry ⟨rfl, by simpa using q⟩
  · cases ry
    exact isnot_bl_gen (RelV.nob rx) (fin_bl I q (by rw [RelV.bl_iff rx]; simp))
/-- the same None, True, False -/
def isC : D → D → Bool
  | .non, .non => true
  | .bl a, .bl b => a == b
  | _, _ => false
def isM (neg : Bool) (x y : D) : M D := match y with
  | .non => pure (.bl (xor neg (isC x .non)))
  | .bl b => pure (.bl (xor neg (isC x (.bl b))))
  | _ => stuck
theorem Rep.non_iff {K : Fg} {F : Hp} {m : List Addr} {d : D} {v : V} (r : Rep K F m d v) : decide (v = .non) = isC d .non := by
  cases d <;> unfold Rep at r
  · rw [r]; rfl
  · rw [r]; rfl
  · rw [r]; rfl
  · rw [r]; rfl
  · obtain ⟨a, _, h⟩ := r; rw [h]; rfl
  · rw [r]; rfl
  · obtain ⟨a, _, h⟩ := r; rw [h]; rfl
  · obtain ⟨a, _, h, _⟩ := r; rw [h]; rfl
  · obtain ⟨a, _, h, _⟩ := r; rw [h]; rfl
theorem Rep.bl_iff {K : Fg} {F : Hp} {m : List Addr} {d : D} {v : V} {b : Bool} (r : Rep K F m d v) : decide (v = .bl b) = isC d (.bl b) := by
  cases d <;> unfold Rep at r
  · rw [r]; rfl
  · rename_i c
    rw [r]
    cases c <;> cases b <;> rfl
  · rw [r]; rfl
  · rw [r]; rfl
  · obtain ⟨a, _, h⟩ := r; rw [h]; rfl
  · rw [r]; rfl
  · obtain ⟨a, _, h⟩ := r; rw [h]; rfl
  · obtain ⟨a, _, h, _⟩ := r; rw [h]; rfl
  · obtain ⟨a, _, h, _⟩ := r; rw [h]; rfl
theorem isM_ok {neg : Bool} : OpD X (rIs neg) (isM neg) := by
  intro fr W σ F m ah H d e x y Q s rx ry k
  cases e <;> try exact (TK.stuck_of k).elim
  · unfold Rep at ry
    exact .inl ⟨ry, by rw [Rep.non_iff rx]; exact TK.val k s Rep.bl⟩
  · unfold Rep at ry
    exact .inr ⟨_, ry, by rw [Rep.bl_iff rx]; exact TK.val k s Rep.bl⟩
theorem de_is {a b : Expr} {ma mb : M D} (ha : DE X W env a ma) (hb : DE X W env b mb) : DE X W env (.Compare a [.Is] [b] pos) (do let x ← ma; let y ← mb; isM false x y) := de_cmp op_isC isM_ok ha hb (nomark _)
theorem de_isnot {a b : Expr} {ma mb : M D} (ha : DE X W env a ma) (hb : DE X W env b mb) : DE X W env (.Compare a [.IsNot] [b] pos) (do let x ← ma; let y ← mb; isM true x y) := de_cmp op_isnotC isM_ok ha hb (nomark _)

/-! ### subscripts -/
def ixM (x y : D) : M D := fun h => match x, y with
  | .tup xs, .int i => (match atI xs i with
    | some d => .ok d h
    | none => .stuck)
  | .str z, .int i => if lenOk z.length = true then (match atI z.cps.toList i with
    | some c => .ok (.str ⟨#[c]⟩) h
    | none => .stuck) else .stuck
  | x, .int i => (match lstOf h x with
    | some xs => (match atI xs i with
      | some d => .ok d h
      | none => .stuck)
    | none => .stuck)
  | _, _ => .stuck
theorem RepL.atI {K : Fg} {F : Hp} {m : List Addr} {ds : List D} {vs : List V} {i : Int} {d : D} (r : RepL K F m ds vs) (h : atI ds i = some d) : ∃ v, L2.atI vs i = some v ∧ Rep K F m d v := by
  unfold L2.atI at h ⊢
  rw [RepL.length r]
  cases hj : ixN ds.length i with
  | none =>
    rw [hj] at h
    cases h
  | some j =>
    rw [hj] at h
    exact RepL.get r h
theorem ixM_ok : OpD X (rIx X.K) ixM := by
  intro fr W σ F m ah H d e x y Q s rx ry k
  unfold ixM at k
  split at k
  · rename_i xs i
    unfold Rep at ry
    obtain ⟨a, vs, h1, h2, h3⟩ := tup_of (xs := xs) rx rfl
    cases hj : atI xs i with
    | none =>
      rw [hj] at k
      exact k.elim
    | some d =>
      rw [hj] at k
      obtain ⟨v, q1, q2⟩ := RepL.atI h3 hj
      exact .inr (.inl ⟨a, vs, i, v, h1, ry, SqT.up s.sub h2, q1, k.val s q2⟩)
  · rename_i z i
    unfold Rep at rx ry
    by_cases hl : lenOk z.length = true
    · rw [if_pos hl] at k
      cases hj : atI z.cps.toList i with
      | none =>
        rw [hj] at k
        exact k.elim
      | some c =>
        rw [hj] at k
        exact .inr (.inr ⟨z, i, c, rx, ry, of_decide_eq_true hl, hj, k.val s Rep.str⟩)
    · rw [if_neg hl] at k
      exact k.elim
  · rename_i x' i _ _
    unfold Rep at ry
    cases hx : lstOf ah d with
    | none =>
      rw [hx] at k
      exact k.elim
    | some xs =>
      rw [hx] at k
      obtain ⟨a, vs, h1, h2, h3⟩ := lst_of s rx hx
      cases hj : atI xs i with
      | none =>
        simp only [hj] at k
        exact k.elim
      | some d =>
        simp only [hj] at k
        obtain ⟨v, q1, q2⟩ := RepL.atI h3 hj
        exact .inl ⟨a, vs, i, v, h1, ry, h2, q1, k.val s q2⟩
  · exact k.elim
theorem de_ix {a b : Expr} {ma mb : M D} (ha : DE X W env a ma) (hb : DE X W env b mb) (hs : PlainIx b := by exact fun _ _ => rfl) : DE X W env (.Subscript a b pos) (do let x ← ma; let y ← mb; ixM x y) := PE.from (pe_ix ix_seq ha hb hs) (tOp_from ixM_ok)

/-! ### slices -/
abbrev DO (X : Cx) (W : WX) (env : Env) (e : Option Expr) (mc : M (Option Int)) : Prop := PO X e (fun σ H Q => TC X.K X.mg W (fun _ _ a b => a = b) env mc σ H Q)
theorem do_none : DO X W env none (pure none) := ⟨fun pins s σ H Q I ⟨fr, F, m, ah, S, er, k⟩ => po_none.run pins s σ H Q I (k F m _ H Ext.refl S rfl)⟩
def asI : D → M (Option Int)
  | .int i => pure (some i)
  | _ => stuck
theorem do_some {e : Expr} {me : M D} (he : DE X W env e me) : DO X W env (some e) (do let x ← me; asI x) :=
  ⟨fun pins s σ H Q I ⟨fr, F, m, ah, S, er, k⟩ => (po_some he).run pins s σ H Q I (TK.step S er k fun F1 m1 ah1 d v H1 e1 s1 er1 r1 k1 => by
    cases d <;> try exact (TK.stuck_of k1).elim
    unfold Rep at r1
    exact ⟨_, r1, k1 F1 m1 _ H1 Ext.refl s1 rfl⟩)⟩
def cutD {α : Type} (xs : List α) (lo hi : Option Int) : List α := (xs.drop (HT.sIx xs.length 0 lo)).take (HT.sIx xs.length xs.length hi - HT.sIx xs.length 0 lo)
def sliceM (x : D) (lo hi : Option Int) : M D := fun h => match x with
  | .tup xs => .ok (.tup (cutD xs lo hi)) h
  | .str z => if lenOk z.length = true then .ok (.str (cutS z lo hi)) h else .stuck
  | x => match lstOf h x with
    | some xs => .ok (.lst (cutD xs lo hi)) h
    | none => .stuck
theorem cutD_whole {α : Type} {xs : List α} {lo hi : Option Int} (h : HT.sIx xs.length 0 lo = 0 ∧ HT.sIx xs.length xs.length hi = xs.length) : cutD xs lo hi = xs := by
  unfold cutD
  rw [h.1, h.2]
  simp
theorem RepL.cut {K : Fg} {F : Hp} {m : List Addr} {ds : List D} {vs : List V} {lo hi : Option Int} (r : RepL K F m ds vs) : RepL K F m (cutD ds lo hi) (cutV vs lo hi) := by
  unfold cutD cutV
  rw [RepL.length r]
  exact RepL.take _ (RepL.drop _ r)
def rSlAll (K : Fg) : V → Option Int → Option Int → Hp → VK → Prop := fun x lo hi H Q => rSlA K x lo hi H Q ∨ rSlL K x lo hi H Q ∨ rSlS x lo hi H Q
theorem slice_ok {fr : Fm} {W : WX} {σ : St} {F H : Hp} {m : List Addr} {ah : AH} {d : D} {v : V} {lo hi : Option Int} {Q : VK} (S : Sim X.K X.mg fr F m ah H) (r : Rep X.K F m d v) (k : TK X.K X.mg fr W (Rep X.K) σ F m (sliceM d lo hi ah) Q) : rSlAll X.K v lo hi H Q := by
  unfold sliceM at k
  split at k
  · rename_i xs
    obtain ⟨a, vs, h1, h2, h3⟩ := tup_of (xs := xs) r rfl
    refine .inl ⟨a, vs, h1, SqT.up S.sub h2, fun z => ?_, fun _ p hp => TK.newT k S (RepL.cut h3) hp⟩
    rw [RepL.length h3] at z
    rw [cutD_whole z] at k
    exact k.val S (Rep.tup h2 h3)
  · rename_i z
    unfold Rep at r
    by_cases hl : lenOk z.length = true
    · rw [if_pos hl] at k
      exact .inr (.inr ⟨z, r, of_decide_eq_true hl, k.val S Rep.str⟩)
    · rw [if_neg hl] at k
      exact k.elim
  · cases hx : lstOf ah d with
    | none =>
      rw [hx] at k
      exact k.elim
    | some xs =>
      rw [hx] at k
      obtain ⟨a, vs, h1, h2, h3⟩ := lst_of S r hx
      exact .inr (.inl ⟨a, vs, h1, h2, fun p hp => TK.newL k S (RepL.cut h3) hp⟩)
theorem sl_all : SlR X (rSlAll X.K) := sl_tupA.or (sl_list.or sl_str)
theorem de_slice {a : Expr} {lo hi : Option Expr} {ma : M D} {ml mh : M (Option Int)} {p2 : Pos} (ha : DE X W env a ma) (hl : DO X W env lo ml) (hh : DO X W env hi mh) :
    DE X W env (.Subscript a (.Slice lo hi none p2) pos) (do let x ← ma; let l ← ml; let u ← mh; sliceM x l u) :=
  PE.from (pe_slice sl_all ha hl hh) fun σ H Q ⟨fr, F, m, ah, s, er, k⟩ => TK.step s er k fun F1 m1 ah1 d v H1 e1 s1 er1 r1 k1 => TK.step s1 er1 k1 fun F2 m2 ah2 d2 v2 H2 e2 s2 er2 r2 k2 => TK.step s2 er2 k2 fun F3 m3 ah3 d3 v3 H3 e3 s3 er3 r3 k3 => by
    have r2 : d2 = v2 := r2
    have r3 : d3 = v3 := r3
    subst r2 r3
    exact slice_ok s3 (Rep.ext (e2.trans e3) _ _ r1) k3

/-! ### calls of built-in things -/
/-- a rule of a call, read of data -/
def ClD (X : Cx) (r : List V → Hp → VK → Prop) (f : List D → M D) : Prop := ∀ (fr : Fm) (W : WX) (σ : St) (F : Hp) (m : List Addr) (ah : AH) (H : Hp) (ds : List D) (vs : List V) (Q : VK), Sim X.K X.mg fr F m ah H → RepL X.K F m ds vs →
  TK X.K X.mg fr W (Rep X.K) σ F m (f ds ah) Q → r vs H Q
theorem tCB_from {r : List V → Hp → VK → Prop} {f : List D → M D} {ms : M (List D)} (hr : ClD X r f) : ∀ σ H Q, TC X.K X.mg W (Rep X.K) env (do let xs ← ms; f xs) σ H Q → tCB r (TC X.K X.mg W (RepL X.K) env ms) σ H Q :=
  fun σ H Q ⟨fr, F, m, ah, s, er, k⟩ => TK.step s er k fun F1 m1 ah1 d v H1 e1 s1 er1 r1 k1 => hr fr W σ F1 m1 ah1 H1 d v Q s1 r1 k1
theorem de_callB {x : Str} {id : String} {e : Expr} {es : List Expr} {r : List V → Hp → VK → Prop} {f : List D → M D} {ms : M (List D)} {p : Pos} (hc : CallR X (.builtin id) r) (hr : ClD X r f) (hm : X.mg x = none) (hv : bootBuiltins x = some (.builtin id)) (ha : DA X W env (e :: es) ms)
    (hg : Gl X x := by rfl) (hn : x ≠ "__name__" := by decide) (hdb : (x == ("__debug__" : Str)) = false := by decide) (he : starEach (e :: es) X.env = (false, eval e X.env) :: starEach es X.env := by rfl) (hpl : (backTo pos (starEach es X.env)).any (·.1) = false := by rfl) :
    DE X W env (.Call (.Name x p) (e :: es) [] pos) (do let xs ← ms; f xs) := PE.from (pe_callB hc hg hm hv ha hn hdb he hpl) (tCB_from hr)
theorem de_callT {x : Str} {T : String} {e : Expr} {es : List Expr} {r : List V → Hp → VK → Prop} {f : List D → M D} {ms : M (List D)} {p : Pos} (hc : CallR X (.type T) r) (hr : ClD X r f) (hm : X.mg x = none) (hv : bootBuiltins x = some (.type T)) (ha : DA X W env (e :: es) ms)
    (hg : Gl X x := by rfl) (hn : x ≠ "__name__" := by decide) (hdb : (x == ("__debug__" : Str)) = false := by decide) (he : starEach (e :: es) X.env = (false, eval e X.env) :: starEach es X.env := by rfl) (hpl : (backTo pos (starEach es X.env)).any (·.1) = false := by rfl) :
    DE X W env (.Call (.Name x p) (e :: es) [] pos) (do let xs ← ms; f xs) := PE.from (pe_callTy hc hg hm hv ha hn hdb he hpl) (tCB_from hr)
theorem RepL.one {K : Fg} {F : Hp} {m : List Addr} {d : D} {vs : List V} (r : RepL K F m [d] vs) : ∃ v, vs = [v] ∧ Rep K F m d v := by
  unfold RepL at r
  obtain ⟨v, u, h1, h2, h3⟩ := r
  unfold RepL at h3
  rw [h3] at h1
  exact ⟨v, h1, h2⟩
theorem RepL.two {K : Fg} {F : Hp} {m : List Addr} {d e : D} {vs : List V} (r : RepL K F m [d, e] vs) : ∃ v w, vs = [v, w] ∧ Rep K F m d v ∧ Rep K F m e w := by
  unfold RepL at r
  obtain ⟨v, u, h1, h2, h3⟩ := r
  obtain ⟨w, h4, h5⟩ := RepL.one h3
  rw [h4] at h1
  exact ⟨v, w, h1, h2, h5⟩
/-- one argument, two -/
def ap1 (f : D → M D) : List D → M D
  | [d] => f d
  | _ => stuck
def ap2 (f : D → D → M D) : List D → M D
  | [d, e] => f d e
  | _ => stuck
theorem ap1_ok {r : List V → Hp → VK → Prop} {f : D → M D} (h : ∀ (fr : Fm) (W : WX) (σ : St) (F : Hp) (m : List Addr) (ah : AH) (H : Hp) (d : D) (v : V) (Q : VK), Sim X.K X.mg fr F m ah H → Rep X.K F m d v →
    TK X.K X.mg fr W (Rep X.K) σ F m (f d ah) Q → r [v] H Q) : ClD X r (ap1 f) := fun fr W σ F m ah H ds vs Q s r k => by
  match ds, r, k with
  | [], _, k => exact k.elim
  | [d], r, k =>
    obtain ⟨v, rfl, r1⟩ := RepL.one r
    exact h fr W σ F m ah H d v Q s r1 k
  | _ :: _ :: _, _, k => exact k.elim
theorem ap2_ok {r : List V → Hp → VK → Prop} {f : D → D → M D} (h : ∀ (fr : Fm) (W : WX) (σ : St) (F : Hp) (m : List Addr) (ah : AH) (H : Hp) (d e : D) (v w : V) (Q : VK), Sim X.K X.mg fr F m ah H → Rep X.K F m d v → Rep X.K F m e w →
    TK X.K X.mg fr W (Rep X.K) σ F m (f d e ah) Q → r [v, w] H Q) : ClD X r (ap2 f) := fun fr W σ F m ah H ds vs Q s r k => by
  match ds, r, k with
  | [], _, k => exact k.elim
  | [_], _, k => exact k.elim
  | [d, e], r, k =>
    obtain ⟨v, w, rfl, r1, r2⟩ := RepL.two r
    exact h fr W σ F m ah H d e v w Q s r1 r2 k
  | _ :: _ :: _ :: _, _, k => exact k.elim
/-! len -/
def lenM (d : D) : M D := fun h => match d with
  | .str x => if lenOk x.length = true then .ok (.int x.length) h else .stuck
  | .tup xs => .ok (.int xs.length) h
  | d => match lstOf h d with
    | some xs => .ok (.int xs.length) h
    | none => .stuck
theorem len_ok : ClD X (fun xs H Q => ∃ x n, xs = [x] ∧ LenV X.K x H n ∧ Q (.int n) H) (ap1 lenM) := ap1_ok fun fr W σ F m ah H d v Q s r k => by
  unfold lenM at k
  split at k
  · rename_i x
    unfold Rep at r
    subst r
    by_cases hl : lenOk x.length = true
    · rw [if_pos hl] at k
      exact ⟨_, _, rfl, ⟨of_decide_eq_true hl, rfl⟩, k.val s Rep.int⟩
    · rw [if_neg hl] at k
      exact k.elim
  · rename_i xs
    obtain ⟨a, vs, h1, h2, h3⟩ := tup_of (xs := xs) r rfl
    subst h1
    exact ⟨_, _, rfl, .inr ⟨vs, SqT.up s.sub h2, rfl⟩, by rw [RepL.length h3]; exact k.val s Rep.int⟩
  · cases hx : lstOf ah d with
    | none =>
      rw [hx] at k
      exact k.elim
    | some xs =>
      rw [hx] at k
      obtain ⟨a, vs, h1, h2, h3⟩ := lst_of s r hx
      subst h1
      exact ⟨_, _, rfl, .inl ⟨vs, h2, rfl⟩, by rw [RepL.length h3]; exact k.val s Rep.int⟩
theorem de_len {e : Expr} {me : M D} {p : Pos} (hm : X.mg "len" = none) (ha : DE X W env e me) (hg : Gl X "len" := by rfl) (he : starEach [e] X.env = [(false, eval e X.env)] := by rfl) (hpl : (backTo pos (starEach [] X.env)).any (·.1) = false := by rfl) :
    DE X W env (.Call (.Name "len" p) [e] [] pos) (do let x ← me; lenM x) := by
  have h := de_callB (pos := pos) (p := p) call_len (len_ok (X := X)) hm PySem.boot_len (da_one ha he) hg (by decide) (by decide) he hpl
  rw [bind_assoc] at h
  exact h
/-! tuple(x), list(x) -/
def tupleM (d : D) : M D := fun h => match d with
  | .tup xs => .ok (.tup xs) h
  | d => match lstOf h d with
    | some xs => .ok (.tup xs) h
    | none => .stuck
theorem tuple_ok : ClD X (fun xs H Q => ∃ p ys, xs = [.ref p] ∧ ((SqL X.K H p ys ∧ ∀ l, H l = none → Q (.ref l) (upd H l (.tup ys))) ∨ (SqT X.K H p ys ∧ Q (.ref p) H))) (ap1 tupleM) := ap1_ok fun fr W σ F m ah H d v Q s r k => by
  unfold tupleM at k
  split at k
  · rename_i xs
    obtain ⟨a, vs, h1, h2, h3⟩ := tup_of (xs := xs) r rfl
    subst h1
    exact ⟨_, _, rfl, .inr ⟨SqT.up s.sub h2, k.val s (Rep.tup h2 h3)⟩⟩
  · cases hx : lstOf ah d with
    | none =>
      rw [hx] at k
      exact k.elim
    | some xs =>
      rw [hx] at k
      obtain ⟨a, vs, h1, h2, h3⟩ := lst_of s r hx
      subst h1
      exact ⟨_, _, rfl, .inl ⟨h2, fun l hl => TK.newT k s h3 hl⟩⟩
theorem de_tuple {e : Expr} {me : M D} {p : Pos} (hm : X.mg "tuple" = none) (ha : DE X W env e me) (hg : Gl X "tuple" := by rfl) (he : starEach [e] X.env = [(false, eval e X.env)] := by rfl) (hpl : (backTo pos (starEach [] X.env)).any (·.1) = false := by rfl) :
    DE X W env (.Call (.Name "tuple" p) [e] [] pos) (do let x ← me; tupleM x) := by
  have h := de_callT (pos := pos) (p := p) call_tuple_of (tuple_ok (X := X)) hm (by decide +kernel) (da_one ha he) hg (by decide) (by decide) he hpl
  rw [bind_assoc] at h
  exact h
/-- list(x), never written -/
def listM (d : D) : M D := fun h => match d with
  | .tup xs => .ok (.lst xs) h
  | d => match lstOf h d with
    | some xs => .ok (.lst xs) h
    | none => .stuck
theorem list_ok : ClD X (fun xs H Q => ∃ p ys, xs = [.ref p] ∧ (SqL X.K H p ys ∨ SqT X.K H p ys) ∧ ∀ l, H l = none → Q (.ref l) (upd H l (.lst ys))) (ap1 listM) := ap1_ok fun fr W σ F m ah H d v Q s r k => by
  unfold listM at k
  split at k
  · rename_i xs
    obtain ⟨a, vs, h1, h2, h3⟩ := tup_of (xs := xs) r rfl
    subst h1
    exact ⟨_, _, rfl, .inr (SqT.up s.sub h2), fun l hl => TK.newL k s h3 hl⟩
  · cases hx : lstOf ah d with
    | none =>
      rw [hx] at k
      exact k.elim
    | some xs =>
      rw [hx] at k
      obtain ⟨a, vs, h1, h2, h3⟩ := lst_of s r hx
      subst h1
      exact ⟨_, _, rfl, .inl h2, fun l hl => TK.newL k s h3 hl⟩
theorem de_list {e : Expr} {me : M D} {p : Pos} (hm : X.mg "list" = none) (ha : DE X W env e me) (hg : Gl X "list" := by rfl) (he : starEach [e] X.env = [(false, eval e X.env)] := by rfl) (hpl : (backTo pos (starEach [] X.env)).any (·.1) = false := by rfl) :
    DE X W env (.Call (.Name "list" p) [e] [] pos) (do let x ← me; listM x) := by
  have h := de_callT (pos := pos) (p := p) call_list_of (list_ok (X := X)) hm (by decide +kernel) (da_one ha he) hg (by decide) (by decide) he hpl
  rw [bind_assoc] at h
  exact h
/-! sum, any, all of lists -/
def intsOf : List D → Option (List Int)
  | [] => some []
  | .int i :: r => (intsOf r).map (i :: ·)
  | _ => none
def blsOf : List D → Option (List Bool)
  | [] => some []
  | .bl i :: r => (blsOf r).map (i :: ·)
  | _ => none
theorem intsOf_eq : ∀ {ds : List D} {ns : List Int}, intsOf ds = some ns → ds = ns.map D.int
  | [], ns, h => by
    cases h
    rfl
  | d :: ds, ns, h => by
    cases d <;> try (cases h; done)
    rename_i i
    have h : (intsOf ds).map (i :: ·) = some ns := h
    cases q : intsOf ds with
    | none =>
      rw [q] at h
      cases h
    | some ms =>
      rw [q] at h
      cases h
      rw [intsOf_eq q]
      rfl
theorem blsOf_eq : ∀ {ds : List D} {ns : List Bool}, blsOf ds = some ns → ds = ns.map D.bl
  | [], ns, h => by
    cases h
    rfl
  | d :: ds, ns, h => by
    cases d <;> try (cases h; done)
    rename_i i
    have h : (blsOf ds).map (i :: ·) = some ns := h
    cases q : blsOf ds with
    | none =>
      rw [q] at h
      cases h
    | some ms =>
      rw [q] at h
      cases h
      rw [blsOf_eq q]
      rfl
theorem intsOf_map (ns : List Int) : intsOf (ns.map D.int) = some ns := by
  induction ns with
  | nil => rfl
  | cons n r ih =>
    show (intsOf (r.map D.int)).map (n :: ·) = _
    rw [ih]
    rfl
theorem blsOf_map (ns : List Bool) : blsOf (ns.map D.bl) = some ns := by
  induction ns with
  | nil => rfl
  | cons n r ih =>
    show (blsOf (r.map D.bl)).map (n :: ·) = _
    rw [ih]
    rfl
theorem RepL.ints {K : Fg} {F : Hp} {m : List Addr} : ∀ {ns : List Int} {vs : List V}, RepL K F m (ns.map D.int) vs → vs = ns.map V.int
  | [], vs, r => by
    rw [List.map_nil] at r
    unfold RepL at r
    exact r
  | n :: ns, vs, r => by
    rw [List.map_cons] at r
    unfold RepL at r
    obtain ⟨v, u, h1, h2, h3⟩ := r
    unfold Rep at h2
    rw [h1, h2, RepL.ints h3]
    rfl
theorem RepL.bls {K : Fg} {F : Hp} {m : List Addr} : ∀ {ns : List Bool} {vs : List V}, RepL K F m (ns.map D.bl) vs → vs = ns.map V.bl
  | [], vs, r => by
    rw [List.map_nil] at r
    unfold RepL at r
    exact r
  | n :: ns, vs, r => by
    rw [List.map_cons] at r
    unfold RepL at r
    obtain ⟨v, u, h1, h2, h3⟩ := r
    unfold Rep at h2
    rw [h1, h2, RepL.bls h3]
    rfl
def onInts (f : List Int → D) (d : D) : M D := fun h => match lstOf h d with
  | some xs => (match intsOf xs with
    | some ns => .ok (f ns) h
    | none => .stuck)
  | none => .stuck
def onBls (f : List Bool → D) (d : D) : M D := fun h => match lstOf h d with
  | some xs => (match blsOf xs with
    | some ns => .ok (f ns) h
    | none => .stuck)
  | none => .stuck
def sumM : D → M D := onInts fun ns => .int ns.sum
def anyM : D → M D := onBls fun ns => .bl (ns.any id)
def allM : D → M D := onBls fun ns => .bl (ns.all id)
theorem sum_ok : ClD X (rSum X.K) (ap1 sumM) := ap1_ok fun fr W σ F m ah H d v Q s r k => by
  unfold sumM onInts at k
  cases hx : lstOf ah d with
  | none =>
    rw [hx] at k
    exact k.elim
  | some xs =>
    obtain ⟨a, vs, h1, h2, h3⟩ := lst_of s r hx
    cases hi : intsOf xs with
    | none =>
      simp only [hx, hi] at k
      exact k.elim
    | some ns =>
      simp only [hx, hi] at k
      rw [intsOf_eq hi] at h3
      rw [RepL.ints h3] at h2
      subst h1
      exact ⟨a, ns, rfl, h2, TK.val k s Rep.int⟩
theorem any_ok : ClD X (rAny X.K) (ap1 anyM) := ap1_ok fun fr W σ F m ah H d v Q s r k => by
  unfold anyM onBls at k
  cases hx : lstOf ah d with
  | none =>
    rw [hx] at k
    exact k.elim
  | some xs =>
    obtain ⟨a, vs, h1, h2, h3⟩ := lst_of s r hx
    cases hi : blsOf xs with
    | none =>
      simp only [hx, hi] at k
      exact k.elim
    | some ns =>
      simp only [hx, hi] at k
      rw [blsOf_eq hi] at h3
      rw [RepL.bls h3] at h2
      subst h1
      exact ⟨a, ns, rfl, h2, TK.val k s Rep.bl⟩
theorem all_ok : ClD X (rAll X.K) (ap1 allM) := ap1_ok fun fr W σ F m ah H d v Q s r k => by
  unfold allM onBls at k
  cases hx : lstOf ah d with
  | none =>
    rw [hx] at k
    exact k.elim
  | some xs =>
    obtain ⟨a, vs, h1, h2, h3⟩ := lst_of s r hx
    cases hi : blsOf xs with
    | none =>
      simp only [hx, hi] at k
      exact k.elim
    | some ns =>
      simp only [hx, hi] at k
      rw [blsOf_eq hi] at h3
      rw [RepL.bls h3] at h2
      subst h1
      exact ⟨a, ns, rfl, h2, TK.val k s Rep.bl⟩
theorem de_b1 {x : Str} {id : String} {r : List V → Hp → VK → Prop} {f : D → M D} {e : Expr} {me : M D} {p : Pos} (hc : CallR X (.builtin id) r) (hr : ClD X r (ap1 f)) (hm : X.mg x = none) (hv : bootBuiltins x = some (.builtin id)) (ha : DE X W env e me) (hg : Gl X x := by rfl)
    (hn : x ≠ "__name__" := by decide) (hdb : (x == ("__debug__" : Str)) = false := by decide) (he : starEach [e] X.env = [(false, eval e X.env)] := by rfl) (hpl : (backTo pos (starEach [] X.env)).any (·.1) = false := by rfl) :
    DE X W env (.Call (.Name x p) [e] [] pos) (do let x ← me; f x) := by
  have h := de_callB (pos := pos) (p := p) hc hr hm hv (da_one ha he) hg hn hdb he hpl
  rw [bind_assoc] at h
  exact h
theorem de_t1 {x : Str} {id : String} {r : List V → Hp → VK → Prop} {f : D → M D} {e : Expr} {me : M D} {p : Pos} (hc : CallR X (.type id) r) (hr : ClD X r (ap1 f)) (hm : X.mg x = none) (hv : bootBuiltins x = some (.type id)) (ha : DE X W env e me) (hg : Gl X x := by rfl)
    (hn : x ≠ "__name__" := by decide) (hdb : (x == ("__debug__" : Str)) = false := by decide) (he : starEach [e] X.env = [(false, eval e X.env)] := by rfl) (hpl : (backTo pos (starEach [] X.env)).any (·.1) = false := by rfl) :
    DE X W env (.Call (.Name x p) [e] [] pos) (do let x ← me; f x) := by
  have h := de_callT (pos := pos) (p := p) hc hr hm hv (da_one ha he) hg hn hdb he hpl
  rw [bind_assoc] at h
  exact h
theorem de_b2 {x : Str} {id : String} {r : List V → Hp → VK → Prop} {f : D → D → M D} {a b : Expr} {ma mb : M D} {p : Pos} (hc : CallR X (.builtin id) r) (hr : ClD X r (ap2 f)) (hm : X.mg x = none) (hv : bootBuiltins x = some (.builtin id)) (ha : DE X W env a ma) (hb : DE X W env b mb) (hg : Gl X x := by rfl)
    (hn : x ≠ "__name__" := by decide) (hdb : (x == ("__debug__" : Str)) = false := by decide) (he : starEach [a, b] X.env = (false, eval a X.env) :: starEach [b] X.env := by rfl) (he2 : starEach [b] X.env = (false, eval b X.env) :: starEach [] X.env := by rfl) (hpl : (backTo pos (starEach [b] X.env)).any (·.1) = false := by rfl) :
    DE X W env (.Call (.Name x p) [a, b] [] pos) (do let x ← ma; let y ← mb; f x y) := by
  have h := de_callB (pos := pos) (p := p) hc hr hm hv (da_two ha hb he he2) hg hn hdb he hpl
  rw [bind_assoc] at h
  have e : (fun x => (do let y ← mb; pure [x, y]) >>= ap2 f) = fun x => (do let y ← mb; f x y) := by
    funext x
    rw [bind_assoc]
    rfl
  rw [e] at h
  exact h
def maxM : D → D → M D := int2 fun i j => .int (if j > i then j else i)
def minM : D → D → M D := int2 fun i j => .int (if j < i then j else i)
theorem max2_ok : ClD X (fun xs H Q => ∃ i j, xs = [.int i, .int j] ∧ Q (.int (if j > i then j else i)) H) (ap2 maxM) := ap2_ok fun fr W σ F m ah H d e v w Q s r r2 k => by
  cases d <;> try exact (TK.stuck_of k).elim
  cases e <;> try exact (TK.stuck_of k).elim
  unfold Rep at r r2
  subst r r2
  exact ⟨_, _, rfl, TK.val k s Rep.int⟩
theorem min2_ok : ClD X (fun xs H Q => ∃ i j, xs = [.int i, .int j] ∧ Q (.int (if j < i then j else i)) H) (ap2 minM) := ap2_ok fun fr W σ F m ah H d e v w Q s r r2 k => by
  cases d <;> try exact (TK.stuck_of k).elim
  cases e <;> try exact (TK.stuck_of k).elim
  unfold Rep at r r2
  subst r r2
  exact ⟨_, _, rfl, TK.val k s Rep.int⟩
end
end Lw

/-! SimE: what is walked, comprehensions, lists that are written, calls, defs. -/
namespace Lw
open PySem L2

/-! ### frames within frames -/
section
variable {K : Fg} {mg : Str → Option Value} {fr : Fm} {F F' H H' : Hp} {m m' : List Addr} {ah ah' : AH}
theorem Sim.re (S : Sim K mg fr F m ah H) : Sim K mg ⟨H, F, m⟩ F m ah H := ⟨S.sub, S.len, S.nod, S.cells, fun _ _ h _ => h, fun a h n => absurd h n, fun _ _ h => h, S.there, fun _ _ h => .inl h⟩
theorem Sim.back (S : Sim K mg fr F m ah H) (T : Sim K mg ⟨H, F, m⟩ F' m' ah' H') : Sim K mg fr F' m' ah' H' := by
  have ym : ∀ a, a ∈ m → a ∉ fr.m0 → fr.H0 a = none := S.young
  refine ⟨T.sub, T.len, T.nod, T.cells, fun a o h n => ?_, fun a h n => ?_, fun i a h => T.pre i a (S.pre i a h), T.there, fun a o h => ?_⟩
  · refine T.frame a o (S.frame a o h n) fun z => ?_
    rw [ym a z n] at h
    cases h
  · by_cases z : a ∈ m
    · exact ym a z n
    · exact S.fresh0 (T.young a h z)
  · rcases T.old a o h with z | z | z
    · exact S.old a o z
    · exact .inr (.inl (S.fresh0 z))
    · by_cases y : a ∈ fr.m0
      · exact .inr (.inr y)
      · exact .inr (.inl (ym a z y))
/-- an object that is nobody's is written -/
theorem Sim.other {p : Addr} {o : HO} (S : Sim K mg fr F m ah H) (hF : F p = none) (hm : p ∉ m) (h0 : fr.H0 p = none) : Sim K mg fr F m ah (upd H p o) := by
  have nf : ∀ {a : Addr} {u : HO}, F a = some u → a ≠ p := fun h z => by rw [z, hF] at h; cases h
  have nm : ∀ {a : Addr}, a ∈ m → a ≠ p := fun h z => hm (by rw [← z]; exact h)
  refine ⟨fun a u h => by rw [upd_ne (nf h)]; exact S.sub a u h, S.len, S.nod, fun i c h => ?_, fun a u h n => ?_, S.young, S.pre, fun a h => by rw [upd_ne (nm h)]; exact S.there a h, S.old⟩
  · obtain ⟨a, q, ok⟩ := S.cells i c h
    exact ⟨a, q, ok.ext Ext.refl (fun z => ok.free z) fun _ => upd_ne (nm (List.mem_of_getElem? q))⟩
  · have ne : a ≠ p := fun z => by rw [z, h0] at h; cases h
    rw [upd_ne ne]
    exact S.frame a u h n
/-- it is nobody's, and never written from now on -/
theorem Sim.seal {p : Addr} {o : HO} (S : Sim K mg fr F m ah H) (hF : F p = none) (hm : p ∉ m) (h0 : fr.H0 p = none) (hp : H p = some o) : Sim K mg fr (upd F p o) m ah H ∧ Ext F m (upd F p o) m := by
  have e : Ext F m (upd F p o) m := ⟨fun a u h => by rw [upd_ne (ne_of_none h hF)]; exact h, fun _ _ h => h⟩
  have nm : ∀ {a : Addr}, a ∈ m → a ≠ p := fun h z => hm (by rw [← z]; exact h)
  refine ⟨⟨fun a u h => ?_, S.len, S.nod, fun i c h => ?_, S.frame, S.young, S.pre, S.there, fun a u h => ?_⟩, e⟩
  · by_cases z : a = p
    · rw [z, upd_same] at h
      cases h
      rw [z]
      exact hp
    · rw [upd_ne z] at h
      exact S.sub a u h
  · obtain ⟨a, q, ok⟩ := S.cells i c h
    exact ⟨a, q, ok.ext e (fun z => by rw [upd_ne (nm (List.mem_of_getElem? q))]; exact ok.free z) fun _ => rfl⟩
  · by_cases z : a = p
    · exact .inr (.inl (by rw [z]; exact h0))
    · rw [upd_ne z] at h
      exact S.old a u h
/-- what stood and was nobody's stands, and is nobody's -/
theorem Sim.kept (T : Sim K mg ⟨H, F, m⟩ F' m' ah' H') {p : Addr} {o : HO} (hp : H p = some o) (hF : F p = none) (hm : p ∉ m) : H' p = some o ∧ F' p = none ∧ p ∉ m' := by
  refine ⟨T.frame p o hp hm, ?_, fun z => ?_⟩
  · cases q : F' p with
    | none => rfl
    | some u =>
      rcases T.old p u q with z | z | z
      · have z : F p = some u := z
        rw [hF] at z
        cases z
      · have z : H p = none := z
        rw [hp] at z
        cases z
      · exact absurd z hm
  · have y : H p = none := T.young p z hm
    rw [hp] at y
    cases y
end

/-! ### what is walked -/
section
variable {X : Cx} {W : WX} {env : Env} {pos : Pos} {tg : Expr}
def iSeq (K : Fg) (tl : TE) : TI := fun σ H R => tl σ H fun x H1 => ∃ a, x = .ref a ∧ ((∃ xs, SqL K H1 a xs ∧ R (Itl K a) H1) ∨ (∃ xs, SqT K H1 a xs ∧ R (Itt K a) H1))
theorem pi_seq {l : Expr} {tl : TE} (hl : PE X l tl) : PI X tg l (iSeq X.K tl) := by
  refine ⟨fun pins s σ H R I h => ?_⟩
  refine thn (hl.run pins s σ H _ I h) fun v s1 ⟨x, H1, I1, r1, q1⟩ => ?_
  obtain ⟨a, e, q⟩ := q1
  subst e
  cases r1
  rcases q with ⟨xs, hq, q⟩ | ⟨xs, hq, q⟩
  · obtain ⟨its, rv, p, hz⟩ := I1.list hq
    refine wpAny_pyIter_list p.isList ?_
    refine ⟨s1.heap.objs.size, [s1.heap.objs.size], _, _, H1, rfl, I1.kept (t' := s1.toks) fun b o e => Heap.get?_push_of_some _ e, turn_list a _, ⟨_, Heap.get?_push_size _ rfl, rfl, rfl⟩, fun b hb => ?_, q⟩
    have e : b = s1.heap.objs.size := by simpa using hb
    subst e
    exact I1.fpOk (Nat.le_refl _) (I1.hok.fresh (Nat.le_refl _))
  · obtain ⟨its, rv, p, hz⟩ := I1.tuple hq
    refine wpAny_pyIter_tuple (show s1.heap.IsTuple a its.toArray from p) ?_
    refine ⟨s1.heap.objs.size, [s1.heap.objs.size], _, _, H1, rfl, I1.kept (t' := s1.toks) fun b o e => Heap.get?_push_of_some _ e, turn_tuple a _, ⟨_, Heap.get?_push_size _ rfl, rfl, rfl⟩, fun b hb => ?_, q⟩
    have e : b = s1.heap.objs.size := by simpa using hb
    subst e
    exact I1.fpOk (Nat.le_refl _) (I1.hok.fresh (Nat.le_refl _))
def itemsM : D → M (List D)
  | .tup xs => pure xs
  | .lst xs => pure xs
  | _ => stuck
theorem RepL.none_of {K : Fg} {F : Hp} {m : List Addr} {ds : List D} {vs : List V} {i : Nat} (r : RepL K F m ds vs) (h : ds.length ≤ i) : vs.length ≤ i := by
  rw [RepL.length r]
  exact h
theorem yl_tup {K : Fg} {mg : Str → Option Value} {F : Hp} {m : List Addr} {a : Addr} {ds : List D} {vs : List V} (h : SqT K F a vs) (r : RepL K F m ds vs) : Yl K mg F m ds (Itt K a) where
  go := fun i fr F1 m1 ah1 H1 e s hi => by
    obtain ⟨d, hd⟩ : ∃ d, ds[i]? = some d := ⟨_, List.getElem?_eq_getElem hi⟩
    obtain ⟨v, hv, _⟩ := RepL.get r hd
    exact ⟨vs, v, SqT.up s.sub (SqT.up e.sub h), hv⟩
  stop := fun fr F1 m1 ah1 H1 e s => ⟨vs, SqT.up s.sub (SqT.up e.sub h), RepL.none_of r (Nat.le_refl _)⟩
  yld := fun i fr F1 m1 ah1 H1 x H2 e s hi y => by
    obtain ⟨e2, y⟩ := y
    subst e2
    obtain ⟨d, hd⟩ : ∃ d, ds[i]? = some d := ⟨_, List.getElem?_eq_getElem hi⟩
    obtain ⟨v, hv, rv⟩ := RepL.get r hd
    have q := y vs (SqT.up s.sub (SqT.up e.sub h))
    rw [hv] at q
    cases q
    exact ⟨F1, d, hd, Ext.refl, s, Rep.ext e _ _ rv⟩
theorem yl_lst {K : Fg} {mg : Str → Option Value} {F : Hp} {m : List Addr} {a : Addr} {ds : List D} {vs : List V} (h : SqL K F a vs) (r : RepL K F m ds vs) : Yl K mg F m ds (Itl K a) where
  go := fun i fr F1 m1 ah1 H1 e s hi => by
    obtain ⟨d, hd⟩ : ∃ d, ds[i]? = some d := ⟨_, List.getElem?_eq_getElem hi⟩
    obtain ⟨v, hv, _⟩ := RepL.get r hd
    exact ⟨vs, v, SqL.up s.sub (SqL.up e.sub h), hv⟩
  stop := fun fr F1 m1 ah1 H1 e s => ⟨vs, SqL.up s.sub (SqL.up e.sub h), RepL.none_of r (Nat.le_refl _)⟩
  yld := fun i fr F1 m1 ah1 H1 x H2 e s hi y => by
    obtain ⟨e2, y⟩ := y
    subst e2
    obtain ⟨d, hd⟩ : ∃ d, ds[i]? = some d := ⟨_, List.getElem?_eq_getElem hi⟩
    obtain ⟨v, hv, rv⟩ := RepL.get r hd
    have q := y vs (SqL.up s.sub (SqL.up e.sub h))
    rw [hv] at q
    cases q
    exact ⟨F1, d, hd, Ext.refl, s, Rep.ext e _ _ rv⟩
theorem di_seq {e : Expr} {me : M D} (he : DE X W env e me) : DI X W env tg e (do let x ← me; itemsM x) :=
  PI.from (pi_seq he) fun σ H Q ⟨fr, F, m, ah, s, er, k⟩ => TK.step s er k fun F1 m1 ah1 d v H1 e1 s1 er1 r1 k1 => by
    cases d <;> try exact (TK.stuck_of k1).elim
    · rename_i xs
      obtain ⟨a, vs, h1, h2, h3⟩ := tup_of (xs := xs) r1 rfl
      exact ⟨a, h1, .inr ⟨vs, SqT.up s1.sub h2, k1 F1 m1 _ H1 Ext.refl s1 (yl_tup h2 h3)⟩⟩
    · rename_i xs
      unfold Rep at r1
      obtain ⟨a, vs, h1, h2, h3⟩ := r1
      exact ⟨a, h1, .inl ⟨vs, SqL.up s1.sub h2, k1 F1 m1 _ H1 Ext.refl s1 (yl_lst h2 h3)⟩⟩
/-- ints in a row -/
def rangeD (lo : Int) (n : Nat) : List D := (List.range n).map fun k => D.int (lo + (k : Nat))
theorem yl_range {K : Fg} {mg : Str → Option Value} {F : Hp} {m : List Addr} (lo : Int) (n : Nat) : Yl K mg F m (rangeD lo n) (Itr lo n) where
  go := fun i fr F1 m1 ah1 H1 e s hi => by
    unfold rangeD at hi
    rw [List.length_map, List.length_range] at hi
    exact hi
  stop := fun fr F1 m1 ah1 H1 e s => by
    unfold rangeD
    rw [List.length_map, List.length_range]
    exact Nat.le_refl _
  yld := fun i fr F1 m1 ah1 H1 x H2 e s hi y => by
    obtain ⟨e2, y⟩ := y
    subst e2 y
    unfold rangeD at hi
    rw [List.length_map, List.length_range] at hi
    exact ⟨F1, .int (lo + (i : Nat)), by unfold rangeD; rw [List.getElem?_map, List.getElem?_range hi]; rfl, Ext.refl, s, Rep.int⟩
def rng1M : List D → M (List D)
  | [.int j] => if -(2 ^ 62) ≤ j ∧ j < 2 ^ 62 then pure (rangeD 0 j.toNat) else stuck
  | _ => stuck
def rng2M : List D → M (List D)
  | [.int i, .int j] => if -(2 ^ 62) ≤ i ∧ i < 2 ^ 62 ∧ -(2 ^ 62) ≤ j ∧ j < 2 ^ 62 then pure (rangeD i (j - i).toNat) else stuck
  | _ => stuck
theorem di_range1 {e : Expr} {me : M D} {p : Pos} (hm : X.mg "range" = none) (he : DE X W env e me) (hg : Gl X "range" := by rfl) (hs : starEach [e] X.env = [(false, eval e X.env)] := by rfl) :
    DI X W env tg (.Call (.Name "range" p) [e] [] pos) (do let x ← me; rng1M [x]) :=
  PI.from (pi_range1 (pos := pos) (p := p) hg hm (da_one he hs) hs) fun σ H Q ⟨fr, F, m, ah, s, er, k⟩ => by
    have k' : TK X.K X.mg fr W (Yl X.K X.mg) σ F m (((do let x ← me; pure [x]) >>= rng1M) ah) (fun J H' => Q J H') := by
      rw [bind_assoc]
      exact k
    refine TK.step (R := RepL X.K) s er k' fun F1 m1 ah1 d v H1 e1 s1 er1 r1 k1 => ?_
    unfold rng1M at k1
    split at k1
    · rename_i j
      by_cases h : -(2 ^ 62) ≤ j ∧ j < 2 ^ 62
      · rw [if_pos h] at k1
        obtain ⟨v, rfl, r⟩ := RepL.one r1
        unfold Rep at r
        exact ⟨j, by rw [r], h.1, h.2, k1 F1 m1 _ H1 Ext.refl s1 (yl_range 0 j.toNat)⟩
      · rw [if_neg h] at k1
        exact (TK.stuck_of k1).elim
    · exact (TK.stuck_of k1).elim
theorem di_range2 {a b : Expr} {ma mb : M D} {p : Pos} (hm : X.mg "range" = none) (ha : DE X W env a ma) (hb : DE X W env b mb) (hg : Gl X "range" := by rfl) (hs : starEach [a, b] X.env = [(false, eval a X.env), (false, eval b X.env)] := by rfl) (hs2 : starEach [b] X.env = [(false, eval b X.env)] := by rfl) :
    DI X W env tg (.Call (.Name "range" p) [a, b] [] pos) (do let x ← ma; let y ← mb; rng2M [x, y]) :=
  PI.from (pi_range2 (pos := pos) (p := p) hg hm (da_two ha hb (by rw [hs, hs2]) hs2) hs hs2) fun σ H Q ⟨fr, F, m, ah, s, er, k⟩ => by
    have e : ((do let x ← ma; let y ← mb; pure [x, y]) >>= rng2M) = (do let x ← ma; let y ← mb; rng2M [x, y]) := by
      rw [bind_assoc]
      congr 1
      funext x
      rw [bind_assoc]
      rfl
    have k' : TK X.K X.mg fr W (Yl X.K X.mg) σ F m (((do let x ← ma; let y ← mb; pure [x, y]) >>= rng2M) ah) (fun J H' => Q J H') := by
      rw [e]
      exact k
    refine TK.step (R := RepL X.K) s er k' fun F1 m1 ah1 d v H1 e1 s1 er1 r1 k1 => ?_
    unfold rng2M at k1
    split at k1
    · rename_i i j
      by_cases h : -(2 ^ 62) ≤ i ∧ i < 2 ^ 62 ∧ -(2 ^ 62) ≤ j ∧ j < 2 ^ 62
      · rw [if_pos h] at k1
        obtain ⟨v, w, rfl, r, r2⟩ := RepL.two r1
        unfold Rep at r r2
        exact ⟨i, j, by rw [r, r2], h, k1 F1 m1 _ H1 Ext.refl s1 (yl_range i (j - i).toNat)⟩
      · rw [if_neg h] at k1
        exact (TK.stuck_of k1).elim
    · exact (TK.stuck_of k1).elim
/-- two side by side -/
def zipD (xs ys : List D) : List D := List.zipWith (fun a b => D.tup [a, b]) xs ys
def zipM : List D → M (List D)
  | [.tup xs, .tup ys] => pure (zipD xs ys)
  | [.lst xs, .lst ys] => pure (zipD xs ys)
  | _ => stuck
theorem zipD_length (xs ys : List D) : (zipD xs ys).length = min xs.length ys.length := by
  unfold zipD
  rw [List.length_zipWith]
theorem zipD_get {xs ys : List D} {i : Nat} (h : i < (zipD xs ys).length) : ∃ a b, xs[i]? = some a ∧ ys[i]? = some b ∧ (zipD xs ys)[i]? = some (.tup [a, b]) := by
  rw [zipD_length] at h
  have h1 : i < xs.length := by omega
  have h2 : i < ys.length := by omega
  refine ⟨_, _, List.getElem?_eq_getElem h1, List.getElem?_eq_getElem h2, ?_⟩
  unfold zipD
  rw [List.getElem?_zipWith, List.getElem?_eq_getElem h1, List.getElem?_eq_getElem h2]
theorem yl_zipT {K : Fg} {mg : Str → Option Value} {F : Hp} {m : List Addr} {a b : Addr} {xs ys : List D} {vs us : List V} (h : SqT K F a vs) (h' : SqT K F b us) (r : RepL K F m xs vs) (r' : RepL K F m ys us) : Yl K mg F m (zipD xs ys) (RZ.ItzT K a b) where
  go := fun i fr F1 m1 ah1 H1 e s hi => by
    obtain ⟨x, y, hx, hy, _⟩ := zipD_get hi
    obtain ⟨v, hv, _⟩ := RepL.get r hx
    obtain ⟨u, hu, _⟩ := RepL.get r' hy
    exact ⟨vs, us, v, u, SqT.up s.sub (SqT.up e.sub h), SqT.up s.sub (SqT.up e.sub h'), hv, hu⟩
  stop := fun fr F1 m1 ah1 H1 e s => by
    refine ⟨vs, us, SqT.up s.sub (SqT.up e.sub h), SqT.up s.sub (SqT.up e.sub h'), ?_⟩
    rw [zipD_length, RepL.length r, RepL.length r']
    omega
  yld := fun i fr F1 m1 ah1 H1 x H2 e s hi z => by
    obtain ⟨T, p, q, e1, e2, e3, z1, z2⟩ := z
    subst e1 e3
    obtain ⟨x, y, hx, hy, hz⟩ := zipD_get hi
    obtain ⟨v, hv, rv⟩ := RepL.get r hx
    obtain ⟨u, hu, ru⟩ := RepL.get r' hy
    have q1 := z1 vs (SqT.up s.sub (SqT.up e.sub h))
    have q2 := z2 us (SqT.up s.sub (SqT.up e.sub h'))
    rw [hv] at q1
    rw [hu] at q2
    have hp : v = p := Option.some.inj q1
    have hq : u = q := Option.some.inj q2
    rw [hp] at rv
    rw [hq] at ru
    obtain ⟨S', e'⟩ := s.frozen (o := .tup [p, q]) e2
    exact ⟨_, _, hz, e', S', Rep.tup (.inl (.inl upd_same)) (RepL.cons (Rep.ext (e.trans e') _ _ rv) (RepL.cons (Rep.ext (e.trans e') _ _ ru) RepL.nil))⟩
theorem yl_zipL {K : Fg} {mg : Str → Option Value} {F : Hp} {m : List Addr} {a b : Addr} {xs ys : List D} {vs us : List V} (h : SqL K F a vs) (h' : SqL K F b us) (r : RepL K F m xs vs) (r' : RepL K F m ys us) : Yl K mg F m (zipD xs ys) (Itz K a b) where
  go := fun i fr F1 m1 ah1 H1 e s hi => by
    obtain ⟨x, y, hx, hy, _⟩ := zipD_get hi
    obtain ⟨v, hv, _⟩ := RepL.get r hx
    obtain ⟨u, hu, _⟩ := RepL.get r' hy
    exact ⟨vs, us, v, u, SqL.up s.sub (SqL.up e.sub h), SqL.up s.sub (SqL.up e.sub h'), hv, hu⟩
  stop := fun fr F1 m1 ah1 H1 e s => by
    refine ⟨vs, us, SqL.up s.sub (SqL.up e.sub h), SqL.up s.sub (SqL.up e.sub h'), ?_⟩
    rw [zipD_length, RepL.length r, RepL.length r']
    omega
  yld := fun i fr F1 m1 ah1 H1 x H2 e s hi z => by
    obtain ⟨T, p, q, e1, e2, e3, z1, z2⟩ := z
    subst e1 e3
    obtain ⟨x, y, hx, hy, hz⟩ := zipD_get hi
    obtain ⟨v, hv, rv⟩ := RepL.get r hx
    obtain ⟨u, hu, ru⟩ := RepL.get r' hy
    have q1 := z1 vs (SqL.up s.sub (SqL.up e.sub h))
    have q2 := z2 us (SqL.up s.sub (SqL.up e.sub h'))
    rw [hv] at q1
    rw [hu] at q2
    have hp : v = p := Option.some.inj q1
    have hq : u = q := Option.some.inj q2
    rw [hp] at rv
    rw [hq] at ru
    obtain ⟨S', e'⟩ := s.frozen (o := .tup [p, q]) e2
    exact ⟨_, _, hz, e', S', Rep.tup (.inl (.inl upd_same)) (RepL.cons (Rep.ext (e.trans e') _ _ rv) (RepL.cons (Rep.ext (e.trans e') _ _ ru) RepL.nil))⟩
theorem di_zip {a b : Expr} {ma mb : M D} {p tpos : Pos} {elts : List Expr} {kk : Nat} (hm : X.mg "zip" = none) (ha : DE X W env a ma) (hb : DE X W env b mb) (hg : Gl X "zip" := by rfl) (hs : starEach [a, b] X.env = (false, eval a X.env) :: starEach [b] X.env := by rfl)
    (hs2 : starEach [b] X.env = (false, eval b X.env) :: starEach [] X.env := by rfl) (hpl : (backTo pos (starEach [b] X.env)).any (·.1) = false := by rfl) :
    DI X W env (.Tuple elts kk tpos) (.Call (.Name "zip" p) [a, b] [] pos) (do let x ← ma; let y ← mb; zipM [x, y]) :=
  PI.from (RZ.pi_zipA (pos := pos) (p := p) hg hm (da_two ha hb hs hs2) hs hpl) fun σ H Q ⟨fr, F, m, ah, s, er, k⟩ => by
    have e : ((do let x ← ma; let y ← mb; pure [x, y]) >>= zipM) = (do let x ← ma; let y ← mb; zipM [x, y]) := by
      rw [bind_assoc]
      congr 1
      funext x
      rw [bind_assoc]
      rfl
    have k' : TK X.K X.mg fr W (Yl X.K X.mg) σ F m (((do let x ← ma; let y ← mb; pure [x, y]) >>= zipM) ah) (fun J H' => Q J H') := by
      rw [e]
      exact k
    refine TK.step (R := RepL X.K) s er k' fun F1 m1 ah1 d v H1 e1 s1 er1 r1 k1 => ?_
    unfold zipM at k1
    split at k1
    · obtain ⟨v, w, rfl, r, r2⟩ := RepL.two r1
      unfold Rep at r r2
      obtain ⟨a1, vs, h1, h2, h3⟩ := r
      obtain ⟨a2, us, h1', h2', h3'⟩ := r2
      exact ⟨a1, a2, vs, us, by rw [h1, h1'], .inr ⟨SqT.up s1.sub h2, SqT.up s1.sub h2', k1 F1 m1 _ H1 Ext.refl s1 (yl_zipT h2 h2' h3 h3')⟩⟩
    · obtain ⟨v, w, rfl, r, r2⟩ := RepL.two r1
      unfold Rep at r r2
      obtain ⟨a1, vs, h1, h2, h3⟩ := r
      obtain ⟨a2, us, h1', h2', h3'⟩ := r2
      exact ⟨a1, a2, vs, us, by rw [h1, h1'], .inl ⟨SqL.up s1.sub h2, SqL.up s1.sub h2', k1 F1 m1 _ H1 Ext.refl s1 (yl_zipL h2 h2' h3 h3')⟩⟩
    · exact (TK.stuck_of k1).elim
end

/-! ### list comprehensions -/
def compM : List D → (D → M (List D)) → M (List D)
  | [], _ => pure []
  | x :: r, f => do let ys ← f x; let zs ← compM r f; pure (ys ++ zs)
/-- a computation that may not raise -/
def nores {α : Type} : Res α → Res α
  | .ok a h => .ok a h
  | _ => .stuck
def noexM {α : Type} (x : M α) : M α := fun h => nores (x h)
def lcM (xs : List D) (f : D → M (List D)) : M D := if lenOk xs.length = true then (do let ys ← noexM (compM xs f); pure (.lst ys)) else stuck
def W0 : WX := fun _ _ _ _ => False
def wipeE (env : Env) : List Nat → Env
  | [] => env
  | v :: vs => (wipeE env vs).set v none
theorem wipeE_length (env : Env) : ∀ vs : List Nat, (wipeE env vs).length = env.length
  | [] => rfl
  | v :: vs => by
    unfold wipeE
    rw [List.length_set, wipeE_length env vs]
theorem EnvRep.wipe {K : Fg} {F : Hp} {m : List Addr} {env : Env} {σ : St} (h : EnvRep K F m env σ) : ∀ vs : List Nat, EnvRep K F m (wipeE env vs) (wipe σ vs)
  | [] => h
  | v :: vs => by
    have ih := EnvRep.wipe h vs
    unfold wipeE L2.wipe
    refine ⟨by rw [List.length_set, List.length_set]; exact ih.1, fun j d q => ?_⟩
    by_cases hj : v = j
    · subst hj
      by_cases hl : v < (wipeE env vs).length
      · rw [List.getElem?_set_self hl] at q
        cases q
      · rw [List.getElem?_eq_none (by simpa using hl)] at q
        cases q
    · rw [List.getElem?_set_ne hj] at q
      obtain ⟨u, h1, h2⟩ := ih.2 j d q
      exact ⟨u, by rw [List.getElem?_set_ne hj]; exact h1, h2⟩
section
variable {X : Cx} {W : WX} {env : Env} {pos : Pos}
theorem nores_ok {α : Type} {r : Res α} {a : α} {h : AH} (e : nores r = .ok a h) : r = .ok a h := by
  cases r <;> first | exact e | cases e
/-- a part of what may not raise, behind a frame of its own -/
theorem TK.inner {K : Fg} {mg : Str → Option Value} {fr : Fm} {W : WX} {σ : St} {F H : Hp} {m : List Addr} {ah : AH} {α β γ δ : Type} {R : Hp → List Addr → α → β → Prop} {S : Hp → List Addr → γ → δ → Prop} {envB : Env} {σB : St} {ma : M α} {k : α → M γ} {Q : δ → Hp → Prop} {P : β → Hp → Prop}
    (s : Sim K mg fr F m ah H) (er : EnvRep K F m envB σB) (h : TK K mg fr W S σ F m (nores ((ma >>= k) ah)) Q)
    (hP : ∀ F1 m1 ah1 d v H1, Ext F m F1 m1 → Sim K mg ⟨H, F, m⟩ F1 m1 ah1 H1 → EnvRep K F1 m1 envB σB → R F1 m1 d v → TK K mg fr W S σ F1 m1 (nores (k d ah1)) Q → P v H1) : TC K mg W0 R envB ma σB H P := by
  refine ⟨⟨H, F, m⟩, F, m, ah, s.re, er, ?_⟩
  rw [bind_def] at h
  cases hr : ma ah with
  | ok d a =>
    rw [hr] at h
    exact fun F' m' v H' e s' r => hP F' m' a d v H' e s' (er.ext e) r (TK.ext e h)
  | exc x a =>
    rw [hr] at h
    exact h.elim
  | stuck =>
    rw [hr] at h
    exact h.elim
abbrev lcD (xs : List D) {π : Type} (unp : D → Option π) (mt : π → M Bool) (me : π → M D) : M D := lcM xs (fun x => do let p ← liftO (unp x); let t ← mt p; if t = true then (do let y ← me p; pure [y]) else pure [])
theorem lc_from {own : List (Str × Nat)} {π : Type} {sl : List Nat} {mi : M (List D)} {unp : D → Option π} {sets : π → Env → Env} {mt : π → M Bool} {me : π → M D} (hsl : ∀ i ∈ sl, i ∈ own.map (·.2)) :
    ∀ σ H Q, TC X.K X.mg W (Rep X.K) env (do let xs ← mi; lcD xs unp mt me) σ H Q → tLc (TIM X.K X.mg W env mi) (gD X.K X.mg sl unp sets) (fun σ H Q => ∃ p, TC X.K X.mg W0 RB (sets p (wipeE env (own.map (·.2)))) (mt p) σ H Q)
      (fun σ H Q => ∃ p, TC X.K X.mg W0 (Rep X.K) (sets p (wipeE env (own.map (·.2)))) (me p) σ H Q) (own.map (·.2)) σ H Q := by
  intro σ H Q ⟨fr, F, m, ah, s, er, q⟩
  refine ⟨fr, F, m, ah, s, er, ?_⟩
  rw [bind_def] at q
  cases hi' : mi ah with
  | stuck =>
    rw [hi'] at q
    exact q
  | exc x a =>
    rw [hi'] at q
    exact q
  | ok xs a =>
    rw [hi'] at q
    intro F1 m1 J H1 e1 s1 y L hL
    have q1 : TK X.K X.mg fr W (Rep X.K) σ F1 m1 (lcM xs (fun x => do let p ← liftO (unp x); let t ← mt p; if t = true then (do let y ← me p; pure [y]) else pure []) a) Q := TK.ext e1 q
    have er1 := er.ext e1
    clear q e1 er s
    by_cases hl : lenOk xs.length = true
    case neg =>
      unfold lcM at q1
      rw [if_neg hl] at q1
      exact q1.elim
    have hlen : xs.length ≤ sizeLine := of_decide_eq_true hl
    have fL : F1 L = none := s1.freeF hL
    have mL : L ∉ m1 := fun z => by
      obtain ⟨u, hu⟩ := s1.there L z
      rw [hL] at hu
      cases hu
    have hL0 := s1.fresh0 hL
    generalize hf : (fun x : D => do let p ← liftO (unp x); let t ← mt p; if t = true then (do let y ← me p; pure [y]) else pure [] : D → M (List D)) = f at q1
    have q2 : TK X.K X.mg fr W (Rep X.K) σ F1 m1 (nores ((compM xs f >>= fun ys => pure (D.lst ([] ++ ys))) a)) Q := by
      have z : TK X.K X.mg fr W (Rep X.K) σ F1 m1 ((noexM (compM xs f) >>= fun ys => pure (D.lst ys)) a) Q := by
        have z := q1
        unfold lcM at z
        rw [if_pos hl] at z
        exact z
      rw [bind_def] at z ⊢
      unfold noexM at z
      cases hcm : compM xs f a with
      | ok ys b =>
        rw [hcm] at z
        exact z
      | exc _ _ =>
        rw [hcm] at z
        exact z
      | stuck =>
        rw [hcm] at z
        exact z
    refine ⟨fun i n H => n = xs.length - i ∧ i ≤ xs.length ∧ ∃ F2 m2 ah2 acc vs, Ext F1 m1 F2 m2 ∧ Sim X.K X.mg fr F2 m2 ah2 H ∧ H L = some (.lst vs) ∧ F2 L = none ∧ L ∉ m2 ∧ RepL X.K F2 m2 acc vs ∧ acc.length ≤ i ∧
      TK X.K X.mg fr W (Rep X.K) σ F2 m2 (nores ((compM (xs.drop i) f >>= fun ys => pure (D.lst (acc ++ ys))) ah2)) Q,
      ⟨_, rfl, Nat.zero_le _, F1, m1, a, [], [], Ext.refl, s1.other fL mL hL0, upd_same, fL, mL, RepL.nil, Nat.zero_le _, by rw [List.drop_zero]; exact q2⟩, ?_⟩
    rintro i n H2 ⟨rfl, hi2, F2, m2, ah2, acc, vs, e2, s2, hL2, fL2, mL2, ra, la, k2⟩
    by_cases hlt : i < xs.length
    · refine .inr ⟨y.go i fr F2 m2 ah2 H2 e2 s2 hlt, fun H => ∃ F2 m2 ah2 acc vs, Ext F1 m1 F2 m2 ∧ Sim X.K X.mg fr F2 m2 ah2 H ∧ H L = some (.lst vs) ∧ F2 L = none ∧ L ∉ m2 ∧ RepL X.K F2 m2 acc vs ∧ acc.length ≤ i + 1 ∧
        TK X.K X.mg fr W (Rep X.K) σ F2 m2 (nores ((compM (xs.drop (i + 1)) f >>= fun ys => pure (D.lst (acc ++ ys))) ah2)) Q, fun H' z => ⟨xs.length - (i + 1), by omega, rfl, hlt, z⟩, fun v H3 yy => ?_⟩
      obtain ⟨F3, d, hd, e3, s3', r3⟩ := y.yld i _ F2 m2 ah2 H2 v H3 e2 s2.re hlt yy
      obtain ⟨hL3, fL3, mL3⟩ := s3'.kept hL2 fL2 mL2
      have s3 := s2.back s3'
      have er3 := ((er1.ext e2).ext e3)
      have hdrop : xs.drop i = d :: xs.drop (i + 1) := by
        rw [List.drop_eq_getElem_cons hlt]
        rw [List.getElem?_eq_getElem hlt] at hd
        cases hd
        rfl
      have k3 : TK X.K X.mg fr W (Rep X.K) σ F3 m2 (nores (((liftO (unp d) >>= fun p => mt p >>= fun t => (if t = true then (me p >>= fun y => pure [y]) else pure [])) >>= fun ys => compM (xs.drop (i + 1)) f >>= fun zs => pure (D.lst (acc ++ (ys ++ zs)))) ah2)) Q := by
        have z := TK.ext e3 k2
        rw [hdrop] at z
        have z2 : (compM (d :: xs.drop (i + 1)) f >>= fun ys => pure (D.lst (acc ++ ys))) = (f d >>= fun ys => compM (xs.drop (i + 1)) f >>= fun zs => pure (D.lst (acc ++ (ys ++ zs)))) := by
          show ((f d >>= fun ys => compM (xs.drop (i + 1)) f >>= fun zs => pure (ys ++ zs)) >>= fun ys => pure (D.lst (acc ++ ys))) = _
          rw [bind_assoc]
          congr 1
          funext ys
          rw [bind_assoc]
          rfl
        rw [z2, ← hf] at z
        rw [← hf]
        exact z
      cases hu : unp d with
      | none =>
        rw [hu] at k3
        exact k3.elim
      | some p =>
        rw [hu] at k3
        have k4 : TK X.K X.mg fr W (Rep X.K) σ F3 m2 (nores ((mt p >>= fun t => ((if t = true then (me p >>= fun y => pure [y]) else pure []) >>= fun ys => compM (xs.drop (i + 1)) f >>= fun zs => pure (D.lst (acc ++ (ys ++ zs))))) ah2)) Q := by
          rw [← bind_assoc]
          exact k3
        refine ⟨fr, F3, m2, ah2, wipeE env (own.map (·.2)), d, p, s3, er3.wipe _, r3, hu, fun σ4 er4 hw => ⟨?_, p, ?_⟩⟩
        · have z := hw (own.map (·.2)) hsl
          rw [z]
          clear z hw er4 σ4
          have ww : ∀ (vs ws : List Nat) (σ : St), (∀ i ∈ vs, i ∈ ws) → wipe (wipe σ vs) ws = wipe σ ws := by
            intro vs
            induction vs with
            | nil => intro _ _ _; rfl
            | cons v vs ih =>
              intro ws σ h
              show wipe ((wipe σ vs).set v none) ws = _
              rw [wipe_set (h v List.mem_cons_self), ih ws σ fun i hi => h i (List.mem_cons_of_mem _ hi)]
          exact ww _ _ _ fun i hi => hi
        · refine TK.inner s3 er4 k4 fun F5 m5 ah5 t t' H5 e5 s5' er5 r5 k5 => ?_
          have r5 : t = t' := r5
          subst r5
          obtain ⟨hL5, fL5, mL5⟩ := s5'.kept hL3 fL3 mL3
          have s5 := s3.back s5'
          cases t with
          | false =>
            refine iteF ⟨F5, m5, ah5, acc, vs, (e2.trans e3).trans e5, s5, hL5, fL5, mL5, RepL.ext (e3.trans e5) _ _ ra, by omega, ?_⟩
            exact k5
          | true =>
            refine iteT ⟨p, ?_⟩
            have k6 : TK X.K X.mg fr W (Rep X.K) σ F5 m5 (nores ((me p >>= fun y => compM (xs.drop (i + 1)) f >>= fun zs => pure (D.lst (acc ++ ([y] ++ zs)))) ah5)) Q := by
              have z : ((me p >>= fun y => pure [y]) >>= fun ys => compM (xs.drop (i + 1)) f >>= fun zs => pure (D.lst (acc ++ (ys ++ zs)))) = (me p >>= fun y => compM (xs.drop (i + 1)) f >>= fun zs => pure (D.lst (acc ++ ([y] ++ zs)))) := by
                rw [bind_assoc]
                rfl
              rw [← z]
              exact k5
            refine TK.inner s5 er5 k6 fun F7 m7 ah7 y7 v7 H7 e7 s7' er7 r7 k7 => ?_
            obtain ⟨hL7, fL7, mL7⟩ := s7'.kept hL5 fL5 mL5
            have s7 := s5.back s7'
            refine ⟨vs, hL7, ?_, F7, m7, ah7, acc ++ [y7], vs ++ [v7], ((e2.trans e3).trans e5).trans e7, s7.other fL7 mL7 hL0, upd_same, fL7, mL7, RepL.append (RepL.ext ((e3.trans e5).trans e7) _ _ ra) (RepL.cons r7 RepL.nil), by rw [List.length_append, List.length_singleton]; omega, ?_⟩
            · rw [RepL.length ra]
              omega
            · have z : (fun zs => (pure (D.lst (acc ++ ([y7] ++ zs))) : M D)) = fun zs => pure (D.lst ((acc ++ [y7]) ++ zs)) := by
                funext zs
                rw [List.append_assoc]
              rw [z] at k7
              exact k7
    · have ei : i = xs.length := by omega
      subst ei
      refine .inl ⟨y.stop fr F2 m2 ah2 H2 e2 s2, ?_⟩
      rw [List.drop_length] at k2
      have k3 : TK X.K X.mg fr W (Rep X.K) σ F2 m2 (.ok (.lst acc) ah2) Q := by
        have z : (compM [] f >>= fun ys => (pure (D.lst (acc ++ ys)) : M D)) = pure (D.lst acc) := by
          show (pure (D.lst (acc ++ [])) : M D) = _
          rw [List.append_nil]
        rw [z] at k2
        exact k2
      obtain ⟨s3, e3⟩ := s2.seal fL2 mL2 hL0 hL2
      refine k3 _ _ _ _ e3 s3 ?_
      unfold Rep
      exact ⟨L, vs, rfl, .inl (.inl upd_same), RepL.ext e3 _ _ ra⟩
theorem de_lc {elt tg iter : Expr} {ifs : List Expr} {scope : Scope} {own : List (Str × Nat)} {π : Type} {sl : List Nat} {mi : M (List D)} {unp : D → Option π} {sets : π → Env → Env} {mt : π → M Bool} {me : π → M D}
    (hc : X.calm = true) (hN : X.N.Nodup) (hi : DI X W env tg iter mi) (ok : BlkOk X.N X.env.scope scope own) (hsl : ∀ i ∈ sl, i ∈ own.map (·.2))
    (hg : ∀ (s : Shared) (H : Hp) (C : Addr) (cl : List (Str × Addr)) (fp : List Addr), DG (X.blk s H scope (compEnvC scope cl C X.env) fp) tg sl unp sets)
    (ht : ∀ (s : Shared) (H : Hp) (C : Addr) (cl : List (Str × Addr)) (fp : List Addr) (p : π), PTs (X.blk s H scope (compEnvC scope cl C X.env) fp) ifs (TC X.K X.mg W0 RB (sets p (wipeE env (own.map (·.2)))) (mt p)))
    (he : ∀ (s : Shared) (H : Hp) (C : Addr) (cl : List (Str × Addr)) (fp : List Addr) (p : π), DE (X.blk s H scope (compEnvC scope cl C X.env) fp) W0 (sets p (wipeE env (own.map (·.2)))) elt (me p))
    (hs : ∀ x, foldedSetIterable iter X.env x = pure x := by intro _; rfl) :
    DE X W env (.ListComp elt [⟨tg, iter, ifs, 0⟩] scope pos) (do let xs ← mi; lcM xs (fun x => do let p ← liftO (unp x); let t ← mt p; if t = true then (do let y ← me p; pure [y]) else pure [])) :=
  PE.from (pe_lc (g := gD X.K X.mg sl unp sets) hc hN hi ok hg (fun s H C cl fp => (⟨fun pins s' σ H' Q I ⟨p, q⟩ => (ht s H C cl fp p).run pins s' σ H' Q I q⟩ : PTs _ ifs (fun σ H Q => ∃ p, TC X.K X.mg W0 RB (sets p (wipeE env (own.map (·.2)))) (mt p) σ H Q)))
    (fun s H C cl fp => (⟨fun pins s' σ H' Q I ⟨p, q⟩ => (he s H C cl fp p).run pins s' σ H' Q I q⟩ : PE _ elt (fun σ H Q => ∃ p, TC X.K X.mg W0 (Rep X.K) (sets p (wipeE env (own.map (·.2)))) (me p) σ H Q))) hs) (lc_from hsl)
theorem ds_setLc (i : Nat) {y : Str} {py spos : Pos} {ex : Env} {τ β : Type} {mk : τ → Env} {lp : β → Env} {rest : List Stmt} {k : D → M (Out τ β)} {elt tg iter : Expr} {ifs : List Expr} {scope : Scope} {own : List (Str × Nat)} {π : Type} {sl : List Nat} {mi : M (List D)} {unp : D → Option π} {sets : π → Env → Env} {mt : π → M Bool} {me : π → M D}
    (hc : X.calm = true) (hN : X.N.Nodup) (hi : DI X W env tg iter mi) (ok : BlkOk X.N X.env.scope scope own) (hsl : ∀ i ∈ sl, i ∈ own.map (·.2))
    (hg : ∀ (s : Shared) (H : Hp) (C : Addr) (cl : List (Str × Addr)) (fp : List Addr), DG (X.blk s H scope (compEnvC scope cl C X.env) fp) tg sl unp sets)
    (ht : ∀ (s : Shared) (H : Hp) (C : Addr) (cl : List (Str × Addr)) (fp : List Addr) (p : π), PTs (X.blk s H scope (compEnvC scope cl C X.env) fp) ifs (TC X.K X.mg W0 RB (sets p (wipeE env (own.map (·.2)))) (mt p)))
    (he : ∀ (s : Shared) (H : Hp) (C : Addr) (cl : List (Str × Addr)) (fp : List Addr) (p : π), DE (X.blk s H scope (compEnvC scope cl C X.env) fp) W0 (sets p (wipeE env (own.map (·.2)))) elt (me p))
    (env' : D → Env) (hx : EnvLe ex env) (hr : ∀ d, DS X W ex (env' d) mk lp rest (k d)) (hs : ∀ x, foldedSetIterable iter X.env x = pure x := by intro _; rfl) (hv : ∀ d, env.set i (some d) = env' d := by intro _; rfl) (hy : X.N[i]? = some y := by rfl) (hyl : X.env.scope.names.lookup y = some .local := by rfl)
    (hsw : swapsWith (.ListComp elt [⟨tg, iter, ifs, 0⟩] scope pos) (some (.Name y py)) spos.line X.env = pure true := by exact sw_true rfl rfl rfl (by decide +kernel)) :
    DS X W ex env mk lp (.Assign [.Name y py] (.ListComp elt [⟨tg, iter, ifs, 0⟩] scope pos) spos :: rest) ((do let xs ← mi; lcM xs (fun x => do let p ← liftO (unp x); let t ← mt p; if t = true then (do let y ← me p; pure [y]) else pure [])) >>= k) :=
  PSs.from (pss_cons (ps_setLc (g := gD X.K X.mg sl unp sets) hc hN hy hyl hsw hi ok hg (fun s H C cl fp => (⟨fun pins s' σ H' Q I ⟨p, q⟩ => (ht s H C cl fp p).run pins s' σ H' Q I q⟩ : PTs _ ifs (fun σ H Q => ∃ p, TC X.K X.mg W0 RB (sets p (wipeE env (own.map (·.2)))) (mt p) σ H Q)))
    (fun s H C cl fp => (⟨fun pins s' σ H' Q I ⟨p, q⟩ => (he s H C cl fp p).run pins s' σ H' Q I q⟩ : PE _ elt (fun σ H Q => ∃ p, TC X.K X.mg W0 (Rep X.K) (sets p (wipeE env (own.map (·.2)))) (me p) σ H Q))) hs) (PSs.ex hr)) fun Dn σ H ⟨fr, F, m, ah, s, er, q⟩ => lc_from (sets := sets) hsl σ H (fun x H1 => gName i x σ H1 fun σ' H' => ∃ a, TB X.K X.mg W ex (env' a) mk lp (k a) Dn σ' H') (TO.step s er hx q fun F1 m1 ah1 d v H1 e1 s1 er1 r1 k1 => ⟨d, fr, F1, m1, ah1, s1, by rw [← hv d]; exact er1.set r1, k1⟩)
theorem dts_nil {X : Cx} {env : Env} : PTs X [] (TC X.K X.mg W0 RB env (pure true)) := ⟨fun pins s σ H Q I ⟨fr, F, m, ah, S, er, k⟩ => pts_nil.run pins s σ H Q I (k F m _ H Ext.refl S rfl)⟩
theorem dts_one {X : Cx} {env : Env} {c : Expr} {mc : M Bool} (h : DT X W0 env c mc) : PTs X [c] (TC X.K X.mg W0 RB env mc) := pts_one h
end
end Lw

/-! SimF: calls, defs, lists that are written. (printed by wip/genF.py) -/
namespace Lw
open PySem L2

/-! ### what a def promises -/
def spD (K : Fg) (mg : Str → Option Value) (n : Nat) (g : List D → M D) : Sp := fun vs H Q E => vs.length = n ∧ ∃ fr F m ah ds, Sim K mg fr F m ah H ∧ RepL K F m ds vs ∧ TK K mg fr (fun c d _ H => E c d H) (Rep K) [] F m (g ds ah) Q
theorem TK.wish {α β : Type} {K : Fg} {mg : Str → Option Value} {fr : Fm} {W : WX} {R : Hp → List Addr → α → β → Prop} {σ : St} {F : Hp} {m : List Addr} {r : Res α} {Q : β → Hp → Prop} (h : TK K mg fr W R σ F m r Q) :
    TK K mg fr (fun c d _ H => W c d σ H) R [] F m r Q := by
  cases r with
  | ok _ _ => exact h
  | exc _ _ => exact h
  | stuck => exact h
mutual
def noRef : D → Bool
  | .ref _ => false
  | .tup xs => noRefs xs
  | .lst xs => noRefs xs
  | _ => true
def noRefs : List D → Bool
  | [] => true
  | d :: ds => noRef d && noRefs ds
end
mutual
theorem Rep.noref {K : Fg} {F : Hp} {m m' : List Addr} : ∀ (d : D) (v : V), noRef d = true → Rep K F m d v → Rep K F m' d v
  | .non, v, _, r => by
    unfold Rep at r ⊢
    exact r
  | .bl _, v, _, r => by
    unfold Rep at r ⊢
    exact r
  | .int _, v, _, r => by
    unfold Rep at r ⊢
    exact r
  | .str _, v, _, r => by
    unfold Rep at r ⊢
    exact r
  | .ref _, v, h, r => by
    unfold noRef at h
    cases h
  | .exn _ _, v, _, r => by
    unfold Rep at r ⊢
    exact r
  | .emp, v, _, r => by
    unfold Rep at r ⊢
    exact r
  | .tup xs, v, h, r => by
    unfold noRef at h
    unfold Rep at r ⊢
    obtain ⟨a, vs, h1, h2, h3⟩ := r
    exact ⟨a, vs, h1, h2, RepL.noref xs vs h h3⟩
  | .lst xs, v, h, r => by
    unfold noRef at h
    unfold Rep at r ⊢
    obtain ⟨a, vs, h1, h2, h3⟩ := r
    exact ⟨a, vs, h1, h2, RepL.noref xs vs h h3⟩
theorem RepL.noref {K : Fg} {F : Hp} {m m' : List Addr} : ∀ (ds : List D) (vs : List V), noRefs ds = true → RepL K F m ds vs → RepL K F m' ds vs
  | [], vs, _, r => by
    unfold RepL at r ⊢
    exact r
  | d :: ds, vs, h, r => by
    unfold noRefs at h
    rw [Bool.and_eq_true] at h
    unfold RepL at r ⊢
    obtain ⟨v, u, h1, h2, h3⟩ := r
    exact ⟨v, u, h1, Rep.noref d v h.1 h2, RepL.noref ds u h.2 h3⟩
end
/-- a call of a def that looks at no list or object of the plain heap: it runs in a heap of its own -/
def pcallM (g : List D → M D) (ds : List D) : M D := fun h => if noRefs ds = true then (match g ds [] with
  | .ok d _ => if noRef d = true then .ok d h else .stuck
  | .exc x _ => .exc x h
  | .stuck => .stuck) else .stuck
section
variable {K : Fg} {mg : Str → Option Value} {fr : Fm} {F F' H H' : Hp} {m m' : List Addr} {ah ah' : AH}
theorem Sim.bare (S : Sim K mg fr F m ah H) : Sim K mg ⟨H, F, []⟩ F [] [] H := ⟨S.sub, rfl, List.nodup_nil, (fun i c h => by simp at h), (fun _ _ h _ => h), (fun a h => nomatch h), (fun i a h => by simp at h), (fun a h => nomatch h), fun _ _ h => .inl h⟩
theorem Sim.pured (S : Sim K mg fr F m ah H) (e : Ext F [] F' m') (T : Sim K mg ⟨H, F, []⟩ F' m' ah' H') : Sim K mg fr F' m ah H' ∧ Ext F m F' m := by
  have e' : Ext F m F' m := ⟨e.sub, fun _ _ h => h⟩
  have st : ∀ a o, H a = some o → H' a = some o := fun a o h => T.frame a o h (by intro z; cases z)
  refine ⟨⟨T.sub, S.len, S.nod, fun i c h => ?_, fun a o h n => st a o (S.frame a o h n), S.young, S.pre, fun a h => ?_, fun a o h => ?_⟩, e'⟩
  · obtain ⟨a, q, ok⟩ := S.cells i c h
    obtain ⟨u, hu⟩ := S.there a (List.mem_of_getElem? q)
    refine ⟨a, q, ok.ext e' (fun z => ?_) fun _ => by rw [st a u hu, hu]⟩
    cases p : F' a with
    | none => rfl
    | some o =>
      rcases T.old a o p with y | y | y
      · have y : F a = some o := y
        rw [ok.free z] at y
        cases y
      · have y : H a = none := y
        rw [hu] at y
        cases y
      · cases y
  · obtain ⟨u, hu⟩ := S.there a h
    exact ⟨u, st a u hu⟩
  · rcases T.old a o h with y | y | y
    · exact S.old a o y
    · exact .inr (.inl (S.fresh0 y))
    · cases y
end

section
variable {X : Cx} {W : WX} {env : Env} {pos : Pos} {k : Nat} {f : Addr} {fd : FuncData} {ps : List Str} {x : Str} {p : Pos} {e : Expr} {es : List Expr} {g : List D → M D} {ms : M (List D)}
/-- a call -/
theorem de_call (n : Nat) (G : FnOk X.prog X.w X.K X.mg X.base (L2N.CX X.prog X.w) k f fd ps (spD X.K X.mg n g)) (hr : Room k X.A) (hm : X.mg x = some (.ref f)) (hk : PySem.W.keepIn X.K (.ref f) = true) (hb : Binds X.K fd ps []) (tk : L2N.Takes X W) (ha : DA X W env (e :: es) ms)
    (hn : ∀ ah ds ah', ms ah = .ok ds ah' → ds.length = n) (hg : Gl X x := by rfl) (hdb : (x == ("__debug__" : Str)) = false := by decide) (he : starEach (e :: es) X.env = (false, eval e X.env) :: starEach es X.env := by rfl) (hpl : (backTo pos (starEach es X.env)).any (·.1) = false := by rfl) :
    DE X W env (.Call (.Name x p) (e :: es) [] pos) (do let xs ← ms; g xs) :=
  PE.from (pe_callS G hr hg hm hk hb (fun σ => L2N.passAt tk σ) ha hdb he hpl) fun σ H Q ⟨fr, F, m, ah, s, er, q⟩ => by
    refine ⟨fr, F, m, ah, s, er, ?_⟩
    rw [bind_def] at q
    cases hr : ms ah with
    | ok d a =>
      rw [hr] at q
      exact fun F1 m1 v H1 e1 s1 r1 => ⟨by rw [RepL.length r1]; exact hn _ _ _ hr, fr, F1, m1, a, d, s1, r1, TK.wish (TK.ext e1 q)⟩
    | exc x a =>
      rw [hr] at q
      exact q
    | stuck =>
      rw [hr] at q
      exact q
theorem de_pcall (n : Nat) (G : FnOk X.prog X.w X.K X.mg X.base (L2N.CX X.prog X.w) k f fd ps (spD X.K X.mg n g)) (hr : Room k X.A) (hm : X.mg x = some (.ref f)) (hk : PySem.W.keepIn X.K (.ref f) = true) (hb : Binds X.K fd ps []) (tk : L2N.Takes X W) (ha : DA X W env (e :: es) ms)
    (hn : ∀ ah ds ah', ms ah = .ok ds ah' → ds.length = n) (hg : Gl X x := by rfl) (hdb : (x == ("__debug__" : Str)) = false := by decide) (he : starEach (e :: es) X.env = (false, eval e X.env) :: starEach es X.env := by rfl) (hpl : (backTo pos (starEach es X.env)).any (·.1) = false := by rfl) :
    DE X W env (.Call (.Name x p) (e :: es) [] pos) (do let xs ← ms; pcallM g xs) :=
  PE.from (pe_callS G hr hg hm hk hb (fun σ => L2N.passAt tk σ) ha hdb he hpl) fun σ H Q ⟨fr, F, m, ah, s, er, q⟩ => by
    refine ⟨fr, F, m, ah, s, er, ?_⟩
    rw [bind_def] at q
    cases hr : ms ah with
    | ok ds a =>
      rw [hr] at q
      have q : TK X.K X.mg fr W (Rep X.K) σ F m (pcallM g ds a) Q := q
      intro F1 m1 v H1 e1 s1 r1
      unfold pcallM at q
      by_cases h : noRefs ds = true
      case neg =>
        rw [if_neg h] at q
        exact q.elim
      rw [if_pos h] at q
      refine ⟨by rw [RepL.length r1]; exact hn _ _ _ hr, ⟨H1, F1, []⟩, F1, [], [], ds, s1.bare, RepL.noref ds v h r1, ?_⟩
      cases hg' : g ds [] with
      | ok d b =>
        simp only [hg'] at q
        by_cases hd : noRef d = true
        · rw [if_pos hd] at q
          intro F2 m2 u H2 e2 s2 r2
          obtain ⟨s3, e3⟩ := s1.pured e2 s2
          exact q F2 m1 u H2 ⟨fun a o h => e3.sub a o (e1.sub a o h), fun i a h => e1.pre i a h⟩ s3 (Rep.noref d u hd r2)
        · rw [if_neg hd] at q
          exact q.elim
      | exc y b =>
        simp only [hg'] at q
        intro F2 m2 C H2 e2 s2 hC
        obtain ⟨s3, e3⟩ := s1.pured e2 s2
        exact q F2 m1 C H2 ⟨fun a o h => e3.sub a o (e1.sub a o h), fun i a h => e1.pre i a h⟩ s3 hC
      | stuck =>
        simp only [hg'] at q
        exact q.elim
    | exc x a =>
      rw [hr] at q
      exact q
    | stuck =>
      rw [hr] at q
      exact q
theorem hu64 {A : Around} {k : Nat} (hr : Room k A) : A.units + 64 < cLine := by
  have := hr.un
  omega
end
theorem EnvLe.noth {n : Nat} {env : Env} (h : env.length = n) : EnvLe (List.replicate n none) env := ⟨by rw [List.length_replicate, h], fun i d q => by
  rw [List.getElem?_replicate] at q
  split at q <;> cases q⟩
theorem okXN {P : Program} {w : World} {K : Fg} {mg : Str → Option Value} {base : Heap} {x qual : Str} {st : Stmt} {f : Addr} {fd : FuncData} {N ps : List Str} {k : Nat} {sp : Sp} (F : Fun K x qual st f fd) (S : FnScope N ps (defScope st)) (len : ∀ vs H Q E, sp vs H Q E → vs.length = ps.length)
    (hbody : ∀ (cdv : Value) (A : Around) (outer : List PySem.Env) (s : Shared) (H : Hp) (vs : List V) (Q : VK) (E : XK), Room k (A.deeper (PyProof.Rows.envOfC qual (defScope st) s.heap.objs.size f cdv)) → sp vs H Q E →
      ∃ t, PSs (cxOf (L2N.CX P w) P w K mg base N qual (defScope st) f cdv A outer s H E) (defBody st) t ∧ t { nx := fun _ H' => Q .non H', rt := Q } (L2.start N vs) H) : FnOk P w K mg base (L2N.CX P w) (k + 1) f fd ps sp := by
  obtain ⟨oc, od, kV, doc, pm, an, cdv, ct, osl, rfl, lk, hcd⟩ := F.ex
  exact fn_of lk hcd S len fun A outer s H vs Q E hr hsp => hbody cdv A outer s H vs Q E hr hsp
/-- a def -/
theorem fn_sim {P : Program} {w : World} {K : Fg} {mg : Str → Option Value} {base : Heap} {x qual : Str} {st : Stmt} {f : Addr} {fd : FuncData} {N ps : List Str} {k n : Nat} {τ : Type} {mk : τ → Env} {lp : Empty → Env} {mc : List D → M (Out τ Empty)} {g : List D → M D}
    (F : Fun K x qual st f fd) (S : FnScope N ps (defScope st)) (hn : ps.length = n) (hg : ∀ ds, ds.length = n → g ds = defM (mc ds))
    (h : ∀ (cdv : Value) (A : Around) (outer : List PySem.Env) (s : Shared) (H : Hp) (E : XK), Room k (A.deeper (PyProof.Rows.envOfC qual (defScope st) s.heap.objs.size f cdv)) → ∀ ds : List D, ds.length = n →
      DS (cxOf (L2N.CX P w) P w K mg base N qual (defScope st) f cdv A outer s H E) (fun c d _ H => E c d H) (List.replicate N.length none) (ds.map some ++ List.replicate (N.length - n) none) mk lp (defBody st) (mc ds)) :
    FnOk P w K mg base (L2N.CX P w) (k + 1) f fd ps (spD K mg n g) := by
  refine okXN F S (fun vs H Q E h => h.1.trans hn.symm) fun cdv A outer s H vs Q E hr hsp => ?_
  obtain ⟨hl, fr, F', m, ah, ds, S', r, q⟩ := hsp
  have hd : ds.length = n := by rw [← RepL.length r]; exact hl
  refine ⟨_, h cdv A outer s H E hr ds hd, fr, F', m, ah, S', ?_, ?_⟩
  · have hp : ps.length ≤ N.length := by
      have z := congrArg List.length S.pre
      rw [List.length_take] at z
      omega
    refine ⟨by unfold L2.start; simp [hl, hd], fun i d hi => ?_⟩
    by_cases hlt : i < ds.length
    · rw [List.getElem?_append_left (by simpa using hlt), List.getElem?_map] at hi
      cases hdi : ds[i]? with
      | none =>
        rw [hdi] at hi
        cases hi
      | some d' =>
        rw [hdi] at hi
        cases hi
        obtain ⟨v, hv, rv⟩ := RepL.get r hdi
        refine ⟨v, ?_, rv⟩
        unfold L2.start
        rw [List.getElem?_append_left (by simp; have := RepL.length r; omega), List.getElem?_map, hv]
        rfl
    · rw [List.getElem?_append_right (by simp; omega), List.getElem?_replicate] at hi
      split at hi <;> cases hi
  · rw [hg ds hd] at q
    have q : TK K mg fr (fun c d _ H => E c d H) (Rep K) [] F' m (dres (mc ds ah)) Q := q
    cases hm : mc ds ah with
    | ok o a =>
      rw [hm] at q
      cases o with
      | nx t => exact fun F2 m2 σ2 H2 e2 s2 r2 => q F2 m2 .non H2 e2 s2 Rep.non
      | ret d => exact fun F2 m2 v H2 e2 s2 r2 => q F2 m2 v H2 e2 s2 r2
      | bk b => exact b.elim
      | ct b => exact b.elim
    | exc y a =>
      rw [hm] at q
      exact fun F2 m2 C σ2 H2 e2 s2 r2 hC => q F2 m2 C H2 e2 s2 hC
    | stuck =>
      rw [hm] at q
      exact q

def app1 (f : D → M D) : List D → M D
  | [d1] => f d1
  | _ => stuck
def app2 (f : D → D → M D) : List D → M D
  | [d1, d2] => f d1 d2
  | _ => stuck
def app3 (f : D → D → D → M D) : List D → M D
  | [d1, d2, d3] => f d1 d2 d3
  | _ => stuck
def app4 (f : D → D → D → D → M D) : List D → M D
  | [d1, d2, d3, d4] => f d1 d2 d3 d4
  | _ => stuck
def app5 (f : D → D → D → D → D → M D) : List D → M D
  | [d1, d2, d3, d4, d5] => f d1 d2 d3 d4 d5
  | _ => stuck
def app6 (f : D → D → D → D → D → D → M D) : List D → M D
  | [d1, d2, d3, d4, d5, d6] => f d1 d2 d3 d4 d5 d6
  | _ => stuck
def app7 (f : D → D → D → D → D → D → D → M D) : List D → M D
  | [d1, d2, d3, d4, d5, d6, d7] => f d1 d2 d3 d4 d5 d6 d7
  | _ => stuck
def app8 (f : D → D → D → D → D → D → D → D → M D) : List D → M D
  | [d1, d2, d3, d4, d5, d6, d7, d8] => f d1 d2 d3 d4 d5 d6 d7 d8
  | _ => stuck
section
variable {X : Cx} {W : WX} {env : Env} {pos : Pos} {k : Nat} {f : Addr} {fd : FuncData} {ps : List Str} {x : Str} {p : Pos}
theorem da1 {ex1 : Expr} {mm1 : M D} (hh1 : DE X W env ex1 mm1) (ss1 : starEach [ex1] X.env = (false, eval ex1 X.env) :: starEach [] X.env := by rfl) :
    DA X W env [ex1] (do let x1 ← mm1; pure [x1]) := by
  refine PA.from (pa_cons hh1 pa_nil ss1) fun σ H Q ⟨fr, F, m, ah, s, er, q⟩ => ?_
  refine TK.step s er q fun F1 m1' ah1 d1 v1 H1 x1 y1 z1 r1 q1 => ?_
  exact q1 F1 m1' _ H1 Ext.refl y1 (RepL.cons r1 RepL.nil)
theorem len1 {mm1 : M D} (ah : AH) (ds : List D) (ah' : AH) (h : (do let x1 ← mm1; pure [x1] : M (List D)) ah = .ok ds ah') : ds.length = 1 := by
  rw [bind_def] at h
  cases h1 : mm1 ah with
  | exc _ _ => rw [h1] at h; cases h
  | stuck => rw [h1] at h; cases h
  | ok d1 a1 =>
  rw [h1] at h; dsimp only at h
  cases h
  rfl
theorem assoc1 {mm1 : M D} {g : List D → M D} : ((do let x1 ← mm1; pure [x1] : M (List D)) >>= g) = (do let x1 ← mm1; g [x1]) := by
  simp only [bind_assoc, pure_bind]
theorem de_call1 {ex1 : Expr} {mm1 : M D} {g : D → M D} (G : FnOk X.prog X.w X.K X.mg X.base (L2N.CX X.prog X.w) k f fd ps (spD X.K X.mg 1 (app1 g))) (hr : Room k X.A) (hm : X.mg x = some (.ref f)) (hk : PySem.W.keepIn X.K (.ref f) = true) (hb : Binds X.K fd ps []) (tk : L2N.Takes X W) (hh1 : DE X W env ex1 mm1)
    (hg : Gl X x := by rfl) (hdb : (x == ("__debug__" : Str)) = false := by decide) (ss1 : starEach [ex1] X.env = (false, eval ex1 X.env) :: starEach [] X.env := by rfl) (hpl : (backTo pos (starEach [] X.env)).any (·.1) = false := by rfl) :
    DE X W env (.Call (.Name x p) [ex1] [] pos) (do let x1 ← mm1; g x1) := by
  have h := de_call (pos := pos) (p := p) 1 G hr hm hk hb tk (da1 hh1 ss1) len1 hg hdb ss1 hpl
  rw [assoc1] at h
  exact h
theorem de_pcall1 {ex1 : Expr} {mm1 : M D} {g : D → M D} (G : FnOk X.prog X.w X.K X.mg X.base (L2N.CX X.prog X.w) k f fd ps (spD X.K X.mg 1 (app1 g))) (hr : Room k X.A) (hm : X.mg x = some (.ref f)) (hk : PySem.W.keepIn X.K (.ref f) = true) (hb : Binds X.K fd ps []) (tk : L2N.Takes X W) (hh1 : DE X W env ex1 mm1)
    (hg : Gl X x := by rfl) (hdb : (x == ("__debug__" : Str)) = false := by decide) (ss1 : starEach [ex1] X.env = (false, eval ex1 X.env) :: starEach [] X.env := by rfl) (hpl : (backTo pos (starEach [] X.env)).any (·.1) = false := by rfl) :
    DE X W env (.Call (.Name x p) [ex1] [] pos) (do let x1 ← mm1; pcallM (app1 g) [x1]) := by
  have h := de_pcall (pos := pos) (p := p) 1 G hr hm hk hb tk (da1 hh1 ss1) len1 hg hdb ss1 hpl
  rw [assoc1] at h
  exact h
theorem da2 {ex1 ex2 : Expr} {mm1 mm2 : M D} (hh1 : DE X W env ex1 mm1) (hh2 : DE X W env ex2 mm2) (ss1 : starEach [ex1, ex2] X.env = (false, eval ex1 X.env) :: starEach [ex2] X.env := by rfl) (ss2 : starEach [ex2] X.env = (false, eval ex2 X.env) :: starEach [] X.env := by rfl) :
    DA X W env [ex1, ex2] (do let x1 ← mm1; let x2 ← mm2; pure [x1, x2]) := by
  refine PA.from (pa_cons hh1 (pa_cons hh2 pa_nil ss2) ss1) fun σ H Q ⟨fr, F, m, ah, s, er, q⟩ => ?_
  refine TK.step s er q fun F1 m1' ah1 d1 v1 H1 x1 y1 z1 r1 q1 => ?_
  refine TK.step y1 z1 q1 fun F2 m2' ah2 d2 v2 H2 x2 y2 z2 r2 q2 => ?_
  exact q2 F2 m2' _ H2 Ext.refl y2 (RepL.cons (Rep.ext x2 _ _ r1) (RepL.cons r2 RepL.nil))
theorem len2 {mm1 mm2 : M D} (ah : AH) (ds : List D) (ah' : AH) (h : (do let x1 ← mm1; let x2 ← mm2; pure [x1, x2] : M (List D)) ah = .ok ds ah') : ds.length = 2 := by
  rw [bind_def] at h
  cases h1 : mm1 ah with
  | exc _ _ => rw [h1] at h; cases h
  | stuck => rw [h1] at h; cases h
  | ok d1 a1 =>
  rw [h1] at h; dsimp only at h
  rw [bind_def] at h
  cases h2 : mm2 a1 with
  | exc _ _ => rw [h2] at h; cases h
  | stuck => rw [h2] at h; cases h
  | ok d2 a2 =>
  rw [h2] at h; dsimp only at h
  cases h
  rfl
theorem assoc2 {mm1 mm2 : M D} {g : List D → M D} : ((do let x1 ← mm1; let x2 ← mm2; pure [x1, x2] : M (List D)) >>= g) = (do let x1 ← mm1; let x2 ← mm2; g [x1, x2]) := by
  simp only [bind_assoc, pure_bind]
theorem de_call2 {ex1 ex2 : Expr} {mm1 mm2 : M D} {g : D → D → M D} (G : FnOk X.prog X.w X.K X.mg X.base (L2N.CX X.prog X.w) k f fd ps (spD X.K X.mg 2 (app2 g))) (hr : Room k X.A) (hm : X.mg x = some (.ref f)) (hk : PySem.W.keepIn X.K (.ref f) = true) (hb : Binds X.K fd ps []) (tk : L2N.Takes X W) (hh1 : DE X W env ex1 mm1) (hh2 : DE X W env ex2 mm2)
    (hg : Gl X x := by rfl) (hdb : (x == ("__debug__" : Str)) = false := by decide) (ss1 : starEach [ex1, ex2] X.env = (false, eval ex1 X.env) :: starEach [ex2] X.env := by rfl) (ss2 : starEach [ex2] X.env = (false, eval ex2 X.env) :: starEach [] X.env := by rfl) (hpl : (backTo pos (starEach [ex2] X.env)).any (·.1) = false := by rfl) :
    DE X W env (.Call (.Name x p) [ex1, ex2] [] pos) (do let x1 ← mm1; let x2 ← mm2; g x1 x2) := by
  have h := de_call (pos := pos) (p := p) 2 G hr hm hk hb tk (da2 hh1 hh2 ss1 ss2) len2 hg hdb ss1 hpl
  rw [assoc2] at h
  exact h
theorem de_pcall2 {ex1 ex2 : Expr} {mm1 mm2 : M D} {g : D → D → M D} (G : FnOk X.prog X.w X.K X.mg X.base (L2N.CX X.prog X.w) k f fd ps (spD X.K X.mg 2 (app2 g))) (hr : Room k X.A) (hm : X.mg x = some (.ref f)) (hk : PySem.W.keepIn X.K (.ref f) = true) (hb : Binds X.K fd ps []) (tk : L2N.Takes X W) (hh1 : DE X W env ex1 mm1) (hh2 : DE X W env ex2 mm2)
    (hg : Gl X x := by rfl) (hdb : (x == ("__debug__" : Str)) = false := by decide) (ss1 : starEach [ex1, ex2] X.env = (false, eval ex1 X.env) :: starEach [ex2] X.env := by rfl) (ss2 : starEach [ex2] X.env = (false, eval ex2 X.env) :: starEach [] X.env := by rfl) (hpl : (backTo pos (starEach [ex2] X.env)).any (·.1) = false := by rfl) :
    DE X W env (.Call (.Name x p) [ex1, ex2] [] pos) (do let x1 ← mm1; let x2 ← mm2; pcallM (app2 g) [x1, x2]) := by
  have h := de_pcall (pos := pos) (p := p) 2 G hr hm hk hb tk (da2 hh1 hh2 ss1 ss2) len2 hg hdb ss1 hpl
  rw [assoc2] at h
  exact h
theorem da3 {ex1 ex2 ex3 : Expr} {mm1 mm2 mm3 : M D} (hh1 : DE X W env ex1 mm1) (hh2 : DE X W env ex2 mm2) (hh3 : DE X W env ex3 mm3) (ss1 : starEach [ex1, ex2, ex3] X.env = (false, eval ex1 X.env) :: starEach [ex2, ex3] X.env := by rfl) (ss2 : starEach [ex2, ex3] X.env = (false, eval ex2 X.env) :: starEach [ex3] X.env := by rfl) (ss3 : starEach [ex3] X.env = (false, eval ex3 X.env) :: starEach [] X.env := by rfl) :
    DA X W env [ex1, ex2, ex3] (do let x1 ← mm1; let x2 ← mm2; let x3 ← mm3; pure [x1, x2, x3]) := by
  refine PA.from (pa_cons hh1 (pa_cons hh2 (pa_cons hh3 pa_nil ss3) ss2) ss1) fun σ H Q ⟨fr, F, m, ah, s, er, q⟩ => ?_
  refine TK.step s er q fun F1 m1' ah1 d1 v1 H1 x1 y1 z1 r1 q1 => ?_
  refine TK.step y1 z1 q1 fun F2 m2' ah2 d2 v2 H2 x2 y2 z2 r2 q2 => ?_
  refine TK.step y2 z2 q2 fun F3 m3' ah3 d3 v3 H3 x3 y3 z3 r3 q3 => ?_
  exact q3 F3 m3' _ H3 Ext.refl y3 (RepL.cons (Rep.ext (x2.trans x3) _ _ r1) (RepL.cons (Rep.ext x3 _ _ r2) (RepL.cons r3 RepL.nil)))
theorem len3 {mm1 mm2 mm3 : M D} (ah : AH) (ds : List D) (ah' : AH) (h : (do let x1 ← mm1; let x2 ← mm2; let x3 ← mm3; pure [x1, x2, x3] : M (List D)) ah = .ok ds ah') : ds.length = 3 := by
  rw [bind_def] at h
  cases h1 : mm1 ah with
  | exc _ _ => rw [h1] at h; cases h
  | stuck => rw [h1] at h; cases h
  | ok d1 a1 =>
  rw [h1] at h; dsimp only at h
  rw [bind_def] at h
  cases h2 : mm2 a1 with
  | exc _ _ => rw [h2] at h; cases h
  | stuck => rw [h2] at h; cases h
  | ok d2 a2 =>
  rw [h2] at h; dsimp only at h
  rw [bind_def] at h
  cases h3 : mm3 a2 with
  | exc _ _ => rw [h3] at h; cases h
  | stuck => rw [h3] at h; cases h
  | ok d3 a3 =>
  rw [h3] at h; dsimp only at h
  cases h
  rfl
theorem assoc3 {mm1 mm2 mm3 : M D} {g : List D → M D} : ((do let x1 ← mm1; let x2 ← mm2; let x3 ← mm3; pure [x1, x2, x3] : M (List D)) >>= g) = (do let x1 ← mm1; let x2 ← mm2; let x3 ← mm3; g [x1, x2, x3]) := by
  simp only [bind_assoc, pure_bind]
theorem de_call3 {ex1 ex2 ex3 : Expr} {mm1 mm2 mm3 : M D} {g : D → D → D → M D} (G : FnOk X.prog X.w X.K X.mg X.base (L2N.CX X.prog X.w) k f fd ps (spD X.K X.mg 3 (app3 g))) (hr : Room k X.A) (hm : X.mg x = some (.ref f)) (hk : PySem.W.keepIn X.K (.ref f) = true) (hb : Binds X.K fd ps []) (tk : L2N.Takes X W) (hh1 : DE X W env ex1 mm1) (hh2 : DE X W env ex2 mm2) (hh3 : DE X W env ex3 mm3)
    (hg : Gl X x := by rfl) (hdb : (x == ("__debug__" : Str)) = false := by decide) (ss1 : starEach [ex1, ex2, ex3] X.env = (false, eval ex1 X.env) :: starEach [ex2, ex3] X.env := by rfl) (ss2 : starEach [ex2, ex3] X.env = (false, eval ex2 X.env) :: starEach [ex3] X.env := by rfl) (ss3 : starEach [ex3] X.env = (false, eval ex3 X.env) :: starEach [] X.env := by rfl) (hpl : (backTo pos (starEach [ex2, ex3] X.env)).any (·.1) = false := by rfl) :
    DE X W env (.Call (.Name x p) [ex1, ex2, ex3] [] pos) (do let x1 ← mm1; let x2 ← mm2; let x3 ← mm3; g x1 x2 x3) := by
  have h := de_call (pos := pos) (p := p) 3 G hr hm hk hb tk (da3 hh1 hh2 hh3 ss1 ss2 ss3) len3 hg hdb ss1 hpl
  rw [assoc3] at h
  exact h
theorem de_pcall3 {ex1 ex2 ex3 : Expr} {mm1 mm2 mm3 : M D} {g : D → D → D → M D} (G : FnOk X.prog X.w X.K X.mg X.base (L2N.CX X.prog X.w) k f fd ps (spD X.K X.mg 3 (app3 g))) (hr : Room k X.A) (hm : X.mg x = some (.ref f)) (hk : PySem.W.keepIn X.K (.ref f) = true) (hb : Binds X.K fd ps []) (tk : L2N.Takes X W) (hh1 : DE X W env ex1 mm1) (hh2 : DE X W env ex2 mm2) (hh3 : DE X W env ex3 mm3)
    (hg : Gl X x := by rfl) (hdb : (x == ("__debug__" : Str)) = false := by decide) (ss1 : starEach [ex1, ex2, ex3] X.env = (false, eval ex1 X.env) :: starEach [ex2, ex3] X.env := by rfl) (ss2 : starEach [ex2, ex3] X.env = (false, eval ex2 X.env) :: starEach [ex3] X.env := by rfl) (ss3 : starEach [ex3] X.env = (false, eval ex3 X.env) :: starEach [] X.env := by rfl) (hpl : (backTo pos (starEach [ex2, ex3] X.env)).any (·.1) = false := by rfl) :
    DE X W env (.Call (.Name x p) [ex1, ex2, ex3] [] pos) (do let x1 ← mm1; let x2 ← mm2; let x3 ← mm3; pcallM (app3 g) [x1, x2, x3]) := by
  have h := de_pcall (pos := pos) (p := p) 3 G hr hm hk hb tk (da3 hh1 hh2 hh3 ss1 ss2 ss3) len3 hg hdb ss1 hpl
  rw [assoc3] at h
  exact h
theorem da4 {ex1 ex2 ex3 ex4 : Expr} {mm1 mm2 mm3 mm4 : M D} (hh1 : DE X W env ex1 mm1) (hh2 : DE X W env ex2 mm2) (hh3 : DE X W env ex3 mm3) (hh4 : DE X W env ex4 mm4) (ss1 : starEach [ex1, ex2, ex3, ex4] X.env = (false, eval ex1 X.env) :: starEach [ex2, ex3, ex4] X.env := by rfl) (ss2 : starEach [ex2, ex3, ex4] X.env = (false, eval ex2 X.env) :: starEach [ex3, ex4] X.env := by rfl) (ss3 : starEach [ex3, ex4] X.env = (false, eval ex3 X.env) :: starEach [ex4] X.env := by rfl) (ss4 : starEach [ex4] X.env = (false, eval ex4 X.env) :: starEach [] X.env := by rfl) :
    DA X W env [ex1, ex2, ex3, ex4] (do let x1 ← mm1; let x2 ← mm2; let x3 ← mm3; let x4 ← mm4; pure [x1, x2, x3, x4]) := by
  refine PA.from (pa_cons hh1 (pa_cons hh2 (pa_cons hh3 (pa_cons hh4 pa_nil ss4) ss3) ss2) ss1) fun σ H Q ⟨fr, F, m, ah, s, er, q⟩ => ?_
  refine TK.step s er q fun F1 m1' ah1 d1 v1 H1 x1 y1 z1 r1 q1 => ?_
  refine TK.step y1 z1 q1 fun F2 m2' ah2 d2 v2 H2 x2 y2 z2 r2 q2 => ?_
  refine TK.step y2 z2 q2 fun F3 m3' ah3 d3 v3 H3 x3 y3 z3 r3 q3 => ?_
  refine TK.step y3 z3 q3 fun F4 m4' ah4 d4 v4 H4 x4 y4 z4 r4 q4 => ?_
  exact q4 F4 m4' _ H4 Ext.refl y4 (RepL.cons (Rep.ext ((x2.trans x3).trans x4) _ _ r1) (RepL.cons (Rep.ext (x3.trans x4) _ _ r2) (RepL.cons (Rep.ext x4 _ _ r3) (RepL.cons r4 RepL.nil))))
theorem len4 {mm1 mm2 mm3 mm4 : M D} (ah : AH) (ds : List D) (ah' : AH) (h : (do let x1 ← mm1; let x2 ← mm2; let x3 ← mm3; let x4 ← mm4; pure [x1, x2, x3, x4] : M (List D)) ah = .ok ds ah') : ds.length = 4 := by
  rw [bind_def] at h
  cases h1 : mm1 ah with
  | exc _ _ => rw [h1] at h; cases h
  | stuck => rw [h1] at h; cases h
  | ok d1 a1 =>
  rw [h1] at h; dsimp only at h
  rw [bind_def] at h
  cases h2 : mm2 a1 with
  | exc _ _ => rw [h2] at h; cases h
  | stuck => rw [h2] at h; cases h
  | ok d2 a2 =>
  rw [h2] at h; dsimp only at h
  rw [bind_def] at h
  cases h3 : mm3 a2 with
  | exc _ _ => rw [h3] at h; cases h
  | stuck => rw [h3] at h; cases h
  | ok d3 a3 =>
  rw [h3] at h; dsimp only at h
  rw [bind_def] at h
  cases h4 : mm4 a3 with
  | exc _ _ => rw [h4] at h; cases h
  | stuck => rw [h4] at h; cases h
  | ok d4 a4 =>
  rw [h4] at h; dsimp only at h
  cases h
  rfl
theorem assoc4 {mm1 mm2 mm3 mm4 : M D} {g : List D → M D} : ((do let x1 ← mm1; let x2 ← mm2; let x3 ← mm3; let x4 ← mm4; pure [x1, x2, x3, x4] : M (List D)) >>= g) = (do let x1 ← mm1; let x2 ← mm2; let x3 ← mm3; let x4 ← mm4; g [x1, x2, x3, x4]) := by
  simp only [bind_assoc, pure_bind]
theorem de_call4 {ex1 ex2 ex3 ex4 : Expr} {mm1 mm2 mm3 mm4 : M D} {g : D → D → D → D → M D} (G : FnOk X.prog X.w X.K X.mg X.base (L2N.CX X.prog X.w) k f fd ps (spD X.K X.mg 4 (app4 g))) (hr : Room k X.A) (hm : X.mg x = some (.ref f)) (hk : PySem.W.keepIn X.K (.ref f) = true) (hb : Binds X.K fd ps []) (tk : L2N.Takes X W) (hh1 : DE X W env ex1 mm1) (hh2 : DE X W env ex2 mm2) (hh3 : DE X W env ex3 mm3) (hh4 : DE X W env ex4 mm4)
    (hg : Gl X x := by rfl) (hdb : (x == ("__debug__" : Str)) = false := by decide) (ss1 : starEach [ex1, ex2, ex3, ex4] X.env = (false, eval ex1 X.env) :: starEach [ex2, ex3, ex4] X.env := by rfl) (ss2 : starEach [ex2, ex3, ex4] X.env = (false, eval ex2 X.env) :: starEach [ex3, ex4] X.env := by rfl) (ss3 : starEach [ex3, ex4] X.env = (false, eval ex3 X.env) :: starEach [ex4] X.env := by rfl) (ss4 : starEach [ex4] X.env = (false, eval ex4 X.env) :: starEach [] X.env := by rfl) (hpl : (backTo pos (starEach [ex2, ex3, ex4] X.env)).any (·.1) = false := by rfl) :
    DE X W env (.Call (.Name x p) [ex1, ex2, ex3, ex4] [] pos) (do let x1 ← mm1; let x2 ← mm2; let x3 ← mm3; let x4 ← mm4; g x1 x2 x3 x4) := by
  have h := de_call (pos := pos) (p := p) 4 G hr hm hk hb tk (da4 hh1 hh2 hh3 hh4 ss1 ss2 ss3 ss4) len4 hg hdb ss1 hpl
  rw [assoc4] at h
  exact h
theorem de_pcall4 {ex1 ex2 ex3 ex4 : Expr} {mm1 mm2 mm3 mm4 : M D} {g : D → D → D → D → M D} (G : FnOk X.prog X.w X.K X.mg X.base (L2N.CX X.prog X.w) k f fd ps (spD X.K X.mg 4 (app4 g))) (hr : Room k X.A) (hm : X.mg x = some (.ref f)) (hk : PySem.W.keepIn X.K (.ref f) = true) (hb : Binds X.K fd ps []) (tk : L2N.Takes X W) (hh1 : DE X W env ex1 mm1) (hh2 : DE X W env ex2 mm2) (hh3 : DE X W env ex3 mm3) (hh4 : DE X W env ex4 mm4)
    (hg : Gl X x := by rfl) (hdb : (x == ("__debug__" : Str)) = false := by decide) (ss1 : starEach [ex1, ex2, ex3, ex4] X.env = (false, eval ex1 X.env) :: starEach [ex2, ex3, ex4] X.env := by rfl) (ss2 : starEach [ex2, ex3, ex4] X.env = (false, eval ex2 X.env) :: starEach [ex3, ex4] X.env := by rfl) (ss3 : starEach [ex3, ex4] X.env = (false, eval ex3 X.env) :: starEach [ex4] X.env := by rfl) (ss4 : starEach [ex4] X.env = (false, eval ex4 X.env) :: starEach [] X.env := by rfl) (hpl : (backTo pos (starEach [ex2, ex3, ex4] X.env)).any (·.1) = false := by rfl) :
    DE X W env (.Call (.Name x p) [ex1, ex2, ex3, ex4] [] pos) (do let x1 ← mm1; let x2 ← mm2; let x3 ← mm3; let x4 ← mm4; pcallM (app4 g) [x1, x2, x3, x4]) := by
  have h := de_pcall (pos := pos) (p := p) 4 G hr hm hk hb tk (da4 hh1 hh2 hh3 hh4 ss1 ss2 ss3 ss4) len4 hg hdb ss1 hpl
  rw [assoc4] at h
  exact h
theorem da5 {ex1 ex2 ex3 ex4 ex5 : Expr} {mm1 mm2 mm3 mm4 mm5 : M D} (hh1 : DE X W env ex1 mm1) (hh2 : DE X W env ex2 mm2) (hh3 : DE X W env ex3 mm3) (hh4 : DE X W env ex4 mm4) (hh5 : DE X W env ex5 mm5) (ss1 : starEach [ex1, ex2, ex3, ex4, ex5] X.env = (false, eval ex1 X.env) :: starEach [ex2, ex3, ex4, ex5] X.env := by rfl) (ss2 : starEach [ex2, ex3, ex4, ex5] X.env = (false, eval ex2 X.env) :: starEach [ex3, ex4, ex5] X.env := by rfl) (ss3 : starEach [ex3, ex4, ex5] X.env = (false, eval ex3 X.env) :: starEach [ex4, ex5] X.env := by rfl) (ss4 : starEach [ex4, ex5] X.env = (false, eval ex4 X.env) :: starEach [ex5] X.env := by rfl) (ss5 : starEach [ex5] X.env = (false, eval ex5 X.env) :: starEach [] X.env := by rfl) :
    DA X W env [ex1, ex2, ex3, ex4, ex5] (do let x1 ← mm1; let x2 ← mm2; let x3 ← mm3; let x4 ← mm4; let x5 ← mm5; pure [x1, x2, x3, x4, x5]) := by
  refine PA.from (pa_cons hh1 (pa_cons hh2 (pa_cons hh3 (pa_cons hh4 (pa_cons hh5 pa_nil ss5) ss4) ss3) ss2) ss1) fun σ H Q ⟨fr, F, m, ah, s, er, q⟩ => ?_
  refine TK.step s er q fun F1 m1' ah1 d1 v1 H1 x1 y1 z1 r1 q1 => ?_
  refine TK.step y1 z1 q1 fun F2 m2' ah2 d2 v2 H2 x2 y2 z2 r2 q2 => ?_
  refine TK.step y2 z2 q2 fun F3 m3' ah3 d3 v3 H3 x3 y3 z3 r3 q3 => ?_
  refine TK.step y3 z3 q3 fun F4 m4' ah4 d4 v4 H4 x4 y4 z4 r4 q4 => ?_
  refine TK.step y4 z4 q4 fun F5 m5' ah5 d5 v5 H5 x5 y5 z5 r5 q5 => ?_
  exact q5 F5 m5' _ H5 Ext.refl y5 (RepL.cons (Rep.ext (((x2.trans x3).trans x4).trans x5) _ _ r1) (RepL.cons (Rep.ext ((x3.trans x4).trans x5) _ _ r2) (RepL.cons (Rep.ext (x4.trans x5) _ _ r3) (RepL.cons (Rep.ext x5 _ _ r4) (RepL.cons r5 RepL.nil)))))
theorem len5 {mm1 mm2 mm3 mm4 mm5 : M D} (ah : AH) (ds : List D) (ah' : AH) (h : (do let x1 ← mm1; let x2 ← mm2; let x3 ← mm3; let x4 ← mm4; let x5 ← mm5; pure [x1, x2, x3, x4, x5] : M (List D)) ah = .ok ds ah') : ds.length = 5 := by
  rw [bind_def] at h
  cases h1 : mm1 ah with
  | exc _ _ => rw [h1] at h; cases h
  | stuck => rw [h1] at h; cases h
  | ok d1 a1 =>
  rw [h1] at h; dsimp only at h
  rw [bind_def] at h
  cases h2 : mm2 a1 with
  | exc _ _ => rw [h2] at h; cases h
  | stuck => rw [h2] at h; cases h
  | ok d2 a2 =>
  rw [h2] at h; dsimp only at h
  rw [bind_def] at h
  cases h3 : mm3 a2 with
  | exc _ _ => rw [h3] at h; cases h
  | stuck => rw [h3] at h; cases h
  | ok d3 a3 =>
  rw [h3] at h; dsimp only at h
  rw [bind_def] at h
  cases h4 : mm4 a3 with
  | exc _ _ => rw [h4] at h; cases h
  | stuck => rw [h4] at h; cases h
  | ok d4 a4 =>
  rw [h4] at h; dsimp only at h
  rw [bind_def] at h
  cases h5 : mm5 a4 with
  | exc _ _ => rw [h5] at h; cases h
  | stuck => rw [h5] at h; cases h
  | ok d5 a5 =>
  rw [h5] at h; dsimp only at h
  cases h
  rfl
theorem assoc5 {mm1 mm2 mm3 mm4 mm5 : M D} {g : List D → M D} : ((do let x1 ← mm1; let x2 ← mm2; let x3 ← mm3; let x4 ← mm4; let x5 ← mm5; pure [x1, x2, x3, x4, x5] : M (List D)) >>= g) = (do let x1 ← mm1; let x2 ← mm2; let x3 ← mm3; let x4 ← mm4; let x5 ← mm5; g [x1, x2, x3, x4, x5]) := by
  simp only [bind_assoc, pure_bind]
theorem de_call5 {ex1 ex2 ex3 ex4 ex5 : Expr} {mm1 mm2 mm3 mm4 mm5 : M D} {g : D → D → D → D → D → M D} (G : FnOk X.prog X.w X.K X.mg X.base (L2N.CX X.prog X.w) k f fd ps (spD X.K X.mg 5 (app5 g))) (hr : Room k X.A) (hm : X.mg x = some (.ref f)) (hk : PySem.W.keepIn X.K (.ref f) = true) (hb : Binds X.K fd ps []) (tk : L2N.Takes X W) (hh1 : DE X W env ex1 mm1) (hh2 : DE X W env ex2 mm2) (hh3 : DE X W env ex3 mm3) (hh4 : DE X W env ex4 mm4) (hh5 : DE X W env ex5 mm5)
    (hg : Gl X x := by rfl) (hdb : (x == ("__debug__" : Str)) = false := by decide) (ss1 : starEach [ex1, ex2, ex3, ex4, ex5] X.env = (false, eval ex1 X.env) :: starEach [ex2, ex3, ex4, ex5] X.env := by rfl) (ss2 : starEach [ex2, ex3, ex4, ex5] X.env = (false, eval ex2 X.env) :: starEach [ex3, ex4, ex5] X.env := by rfl) (ss3 : starEach [ex3, ex4, ex5] X.env = (false, eval ex3 X.env) :: starEach [ex4, ex5] X.env := by rfl) (ss4 : starEach [ex4, ex5] X.env = (false, eval ex4 X.env) :: starEach [ex5] X.env := by rfl) (ss5 : starEach [ex5] X.env = (false, eval ex5 X.env) :: starEach [] X.env := by rfl) (hpl : (backTo pos (starEach [ex2, ex3, ex4, ex5] X.env)).any (·.1) = false := by rfl) :
    DE X W env (.Call (.Name x p) [ex1, ex2, ex3, ex4, ex5] [] pos) (do let x1 ← mm1; let x2 ← mm2; let x3 ← mm3; let x4 ← mm4; let x5 ← mm5; g x1 x2 x3 x4 x5) := by
  have h := de_call (pos := pos) (p := p) 5 G hr hm hk hb tk (da5 hh1 hh2 hh3 hh4 hh5 ss1 ss2 ss3 ss4 ss5) len5 hg hdb ss1 hpl
  rw [assoc5] at h
  exact h
theorem de_pcall5 {ex1 ex2 ex3 ex4 ex5 : Expr} {mm1 mm2 mm3 mm4 mm5 : M D} {g : D → D → D → D → D → M D} (G : FnOk X.prog X.w X.K X.mg X.base (L2N.CX X.prog X.w) k f fd ps (spD X.K X.mg 5 (app5 g))) (hr : Room k X.A) (hm : X.mg x = some (.ref f)) (hk : PySem.W.keepIn X.K (.ref f) = true) (hb : Binds X.K fd ps []) (tk : L2N.Takes X W) (hh1 : DE X W env ex1 mm1) (hh2 : DE X W env ex2 mm2) (hh3 : DE X W env ex3 mm3) (hh4 : DE X W env ex4 mm4) (hh5 : DE X W env ex5 mm5)
    (hg : Gl X x := by rfl) (hdb : (x == ("__debug__" : Str)) = false := by decide) (ss1 : starEach [ex1, ex2, ex3, ex4, ex5] X.env = (false, eval ex1 X.env) :: starEach [ex2, ex3, ex4, ex5] X.env := by rfl) (ss2 : starEach [ex2, ex3, ex4, ex5] X.env = (false, eval ex2 X.env) :: starEach [ex3, ex4, ex5] X.env := by rfl) (ss3 : starEach [ex3, ex4, ex5] X.env = (false, eval ex3 X.env) :: starEach [ex4, ex5] X.env := by rfl) (ss4 : starEach [ex4, ex5] X.env = (false, eval ex4 X.env) :: starEach [ex5] X.env := by rfl) (ss5 : starEach [ex5] X.env = (false, eval ex5 X.env) :: starEach [] X.env := by rfl) (hpl : (backTo pos (starEach [ex2, ex3, ex4, ex5] X.env)).any (·.1) = false := by rfl) :
    DE X W env (.Call (.Name x p) [ex1, ex2, ex3, ex4, ex5] [] pos) (do let x1 ← mm1; let x2 ← mm2; let x3 ← mm3; let x4 ← mm4; let x5 ← mm5; pcallM (app5 g) [x1, x2, x3, x4, x5]) := by
  have h := de_pcall (pos := pos) (p := p) 5 G hr hm hk hb tk (da5 hh1 hh2 hh3 hh4 hh5 ss1 ss2 ss3 ss4 ss5) len5 hg hdb ss1 hpl
  rw [assoc5] at h
  exact h
theorem da6 {ex1 ex2 ex3 ex4 ex5 ex6 : Expr} {mm1 mm2 mm3 mm4 mm5 mm6 : M D} (hh1 : DE X W env ex1 mm1) (hh2 : DE X W env ex2 mm2) (hh3 : DE X W env ex3 mm3) (hh4 : DE X W env ex4 mm4) (hh5 : DE X W env ex5 mm5) (hh6 : DE X W env ex6 mm6) (ss1 : starEach [ex1, ex2, ex3, ex4, ex5, ex6] X.env = (false, eval ex1 X.env) :: starEach [ex2, ex3, ex4, ex5, ex6] X.env := by rfl) (ss2 : starEach [ex2, ex3, ex4, ex5, ex6] X.env = (false, eval ex2 X.env) :: starEach [ex3, ex4, ex5, ex6] X.env := by rfl) (ss3 : starEach [ex3, ex4, ex5, ex6] X.env = (false, eval ex3 X.env) :: starEach [ex4, ex5, ex6] X.env := by rfl) (ss4 : starEach [ex4, ex5, ex6] X.env = (false, eval ex4 X.env) :: starEach [ex5, ex6] X.env := by rfl) (ss5 : starEach [ex5, ex6] X.env = (false, eval ex5 X.env) :: starEach [ex6] X.env := by rfl) (ss6 : starEach [ex6] X.env = (false, eval ex6 X.env) :: starEach [] X.env := by rfl) :
    DA X W env [ex1, ex2, ex3, ex4, ex5, ex6] (do let x1 ← mm1; let x2 ← mm2; let x3 ← mm3; let x4 ← mm4; let x5 ← mm5; let x6 ← mm6; pure [x1, x2, x3, x4, x5, x6]) := by
  refine PA.from (pa_cons hh1 (pa_cons hh2 (pa_cons hh3 (pa_cons hh4 (pa_cons hh5 (pa_cons hh6 pa_nil ss6) ss5) ss4) ss3) ss2) ss1) fun σ H Q ⟨fr, F, m, ah, s, er, q⟩ => ?_
  refine TK.step s er q fun F1 m1' ah1 d1 v1 H1 x1 y1 z1 r1 q1 => ?_
  refine TK.step y1 z1 q1 fun F2 m2' ah2 d2 v2 H2 x2 y2 z2 r2 q2 => ?_
  refine TK.step y2 z2 q2 fun F3 m3' ah3 d3 v3 H3 x3 y3 z3 r3 q3 => ?_
  refine TK.step y3 z3 q3 fun F4 m4' ah4 d4 v4 H4 x4 y4 z4 r4 q4 => ?_
  refine TK.step y4 z4 q4 fun F5 m5' ah5 d5 v5 H5 x5 y5 z5 r5 q5 => ?_
  refine TK.step y5 z5 q5 fun F6 m6' ah6 d6 v6 H6 x6 y6 z6 r6 q6 => ?_
  exact q6 F6 m6' _ H6 Ext.refl y6 (RepL.cons (Rep.ext ((((x2.trans x3).trans x4).trans x5).trans x6) _ _ r1) (RepL.cons (Rep.ext (((x3.trans x4).trans x5).trans x6) _ _ r2) (RepL.cons (Rep.ext ((x4.trans x5).trans x6) _ _ r3) (RepL.cons (Rep.ext (x5.trans x6) _ _ r4) (RepL.cons (Rep.ext x6 _ _ r5) (RepL.cons r6 RepL.nil))))))
theorem len6 {mm1 mm2 mm3 mm4 mm5 mm6 : M D} (ah : AH) (ds : List D) (ah' : AH) (h : (do let x1 ← mm1; let x2 ← mm2; let x3 ← mm3; let x4 ← mm4; let x5 ← mm5; let x6 ← mm6; pure [x1, x2, x3, x4, x5, x6] : M (List D)) ah = .ok ds ah') : ds.length = 6 := by
  rw [bind_def] at h
  cases h1 : mm1 ah with
  | exc _ _ => rw [h1] at h; cases h
  | stuck => rw [h1] at h; cases h
  | ok d1 a1 =>
  rw [h1] at h; dsimp only at h
  rw [bind_def] at h
  cases h2 : mm2 a1 with
  | exc _ _ => rw [h2] at h; cases h
  | stuck => rw [h2] at h; cases h
  | ok d2 a2 =>
  rw [h2] at h; dsimp only at h
  rw [bind_def] at h
  cases h3 : mm3 a2 with
  | exc _ _ => rw [h3] at h; cases h
  | stuck => rw [h3] at h; cases h
  | ok d3 a3 =>
  rw [h3] at h; dsimp only at h
  rw [bind_def] at h
  cases h4 : mm4 a3 with
  | exc _ _ => rw [h4] at h; cases h
  | stuck => rw [h4] at h; cases h
  | ok d4 a4 =>
  rw [h4] at h; dsimp only at h
  rw [bind_def] at h
  cases h5 : mm5 a4 with
  | exc _ _ => rw [h5] at h; cases h
  | stuck => rw [h5] at h; cases h
  | ok d5 a5 =>
  rw [h5] at h; dsimp only at h
  rw [bind_def] at h
  cases h6 : mm6 a5 with
  | exc _ _ => rw [h6] at h; cases h
  | stuck => rw [h6] at h; cases h
  | ok d6 a6 =>
  rw [h6] at h; dsimp only at h
  cases h
  rfl
theorem assoc6 {mm1 mm2 mm3 mm4 mm5 mm6 : M D} {g : List D → M D} : ((do let x1 ← mm1; let x2 ← mm2; let x3 ← mm3; let x4 ← mm4; let x5 ← mm5; let x6 ← mm6; pure [x1, x2, x3, x4, x5, x6] : M (List D)) >>= g) = (do let x1 ← mm1; let x2 ← mm2; let x3 ← mm3; let x4 ← mm4; let x5 ← mm5; let x6 ← mm6; g [x1, x2, x3, x4, x5, x6]) := by
  simp only [bind_assoc, pure_bind]
theorem de_call6 {ex1 ex2 ex3 ex4 ex5 ex6 : Expr} {mm1 mm2 mm3 mm4 mm5 mm6 : M D} {g : D → D → D → D → D → D → M D} (G : FnOk X.prog X.w X.K X.mg X.base (L2N.CX X.prog X.w) k f fd ps (spD X.K X.mg 6 (app6 g))) (hr : Room k X.A) (hm : X.mg x = some (.ref f)) (hk : PySem.W.keepIn X.K (.ref f) = true) (hb : Binds X.K fd ps []) (tk : L2N.Takes X W) (hh1 : DE X W env ex1 mm1) (hh2 : DE X W env ex2 mm2) (hh3 : DE X W env ex3 mm3) (hh4 : DE X W env ex4 mm4) (hh5 : DE X W env ex5 mm5) (hh6 : DE X W env ex6 mm6)
    (hg : Gl X x := by rfl) (hdb : (x == ("__debug__" : Str)) = false := by decide) (ss1 : starEach [ex1, ex2, ex3, ex4, ex5, ex6] X.env = (false, eval ex1 X.env) :: starEach [ex2, ex3, ex4, ex5, ex6] X.env := by rfl) (ss2 : starEach [ex2, ex3, ex4, ex5, ex6] X.env = (false, eval ex2 X.env) :: starEach [ex3, ex4, ex5, ex6] X.env := by rfl) (ss3 : starEach [ex3, ex4, ex5, ex6] X.env = (false, eval ex3 X.env) :: starEach [ex4, ex5, ex6] X.env := by rfl) (ss4 : starEach [ex4, ex5, ex6] X.env = (false, eval ex4 X.env) :: starEach [ex5, ex6] X.env := by rfl) (ss5 : starEach [ex5, ex6] X.env = (false, eval ex5 X.env) :: starEach [ex6] X.env := by rfl) (ss6 : starEach [ex6] X.env = (false, eval ex6 X.env) :: starEach [] X.env := by rfl) (hpl : (backTo pos (starEach [ex2, ex3, ex4, ex5, ex6] X.env)).any (·.1) = false := by rfl) :
    DE X W env (.Call (.Name x p) [ex1, ex2, ex3, ex4, ex5, ex6] [] pos) (do let x1 ← mm1; let x2 ← mm2; let x3 ← mm3; let x4 ← mm4; let x5 ← mm5; let x6 ← mm6; g x1 x2 x3 x4 x5 x6) := by
  have h := de_call (pos := pos) (p := p) 6 G hr hm hk hb tk (da6 hh1 hh2 hh3 hh4 hh5 hh6 ss1 ss2 ss3 ss4 ss5 ss6) len6 hg hdb ss1 hpl
  rw [assoc6] at h
  exact h
theorem de_pcall6 {ex1 ex2 ex3 ex4 ex5 ex6 : Expr} {mm1 mm2 mm3 mm4 mm5 mm6 : M D} {g : D → D → D → D → D → D → M D} (G : FnOk X.prog X.w X.K X.mg X.base (L2N.CX X.prog X.w) k f fd ps (spD X.K X.mg 6 (app6 g))) (hr : Room k X.A) (hm : X.mg x = some (.ref f)) (hk : PySem.W.keepIn X.K (.ref f) = true) (hb : Binds X.K fd ps []) (tk : L2N.Takes X W) (hh1 : DE X W env ex1 mm1) (hh2 : DE X W env ex2 mm2) (hh3 : DE X W env ex3 mm3) (hh4 : DE X W env ex4 mm4) (hh5 : DE X W env ex5 mm5) (hh6 : DE X W env ex6 mm6)
    (hg : Gl X x := by rfl) (hdb : (x == ("__debug__" : Str)) = false := by decide) (ss1 : starEach [ex1, ex2, ex3, ex4, ex5, ex6] X.env = (false, eval ex1 X.env) :: starEach [ex2, ex3, ex4, ex5, ex6] X.env := by rfl) (ss2 : starEach [ex2, ex3, ex4, ex5, ex6] X.env = (false, eval ex2 X.env) :: starEach [ex3, ex4, ex5, ex6] X.env := by rfl) (ss3 : starEach [ex3, ex4, ex5, ex6] X.env = (false, eval ex3 X.env) :: starEach [ex4, ex5, ex6] X.env := by rfl) (ss4 : starEach [ex4, ex5, ex6] X.env = (false, eval ex4 X.env) :: starEach [ex5, ex6] X.env := by rfl) (ss5 : starEach [ex5, ex6] X.env = (false, eval ex5 X.env) :: starEach [ex6] X.env := by rfl) (ss6 : starEach [ex6] X.env = (false, eval ex6 X.env) :: starEach [] X.env := by rfl) (hpl : (backTo pos (starEach [ex2, ex3, ex4, ex5, ex6] X.env)).any (·.1) = false := by rfl) :
    DE X W env (.Call (.Name x p) [ex1, ex2, ex3, ex4, ex5, ex6] [] pos) (do let x1 ← mm1; let x2 ← mm2; let x3 ← mm3; let x4 ← mm4; let x5 ← mm5; let x6 ← mm6; pcallM (app6 g) [x1, x2, x3, x4, x5, x6]) := by
  have h := de_pcall (pos := pos) (p := p) 6 G hr hm hk hb tk (da6 hh1 hh2 hh3 hh4 hh5 hh6 ss1 ss2 ss3 ss4 ss5 ss6) len6 hg hdb ss1 hpl
  rw [assoc6] at h
  exact h
theorem da7 {ex1 ex2 ex3 ex4 ex5 ex6 ex7 : Expr} {mm1 mm2 mm3 mm4 mm5 mm6 mm7 : M D} (hh1 : DE X W env ex1 mm1) (hh2 : DE X W env ex2 mm2) (hh3 : DE X W env ex3 mm3) (hh4 : DE X W env ex4 mm4) (hh5 : DE X W env ex5 mm5) (hh6 : DE X W env ex6 mm6) (hh7 : DE X W env ex7 mm7) (ss1 : starEach [ex1, ex2, ex3, ex4, ex5, ex6, ex7] X.env = (false, eval ex1 X.env) :: starEach [ex2, ex3, ex4, ex5, ex6, ex7] X.env := by rfl) (ss2 : starEach [ex2, ex3, ex4, ex5, ex6, ex7] X.env = (false, eval ex2 X.env) :: starEach [ex3, ex4, ex5, ex6, ex7] X.env := by rfl) (ss3 : starEach [ex3, ex4, ex5, ex6, ex7] X.env = (false, eval ex3 X.env) :: starEach [ex4, ex5, ex6, ex7] X.env := by rfl) (ss4 : starEach [ex4, ex5, ex6, ex7] X.env = (false, eval ex4 X.env) :: starEach [ex5, ex6, ex7] X.env := by rfl) (ss5 : starEach [ex5, ex6, ex7] X.env = (false, eval ex5 X.env) :: starEach [ex6, ex7] X.env := by rfl) (ss6 : starEach [ex6, ex7] X.env = (false, eval ex6 X.env) :: starEach [ex7] X.env := by rfl) (ss7 : starEach [ex7] X.env = (false, eval ex7 X.env) :: starEach [] X.env := by rfl) :
    DA X W env [ex1, ex2, ex3, ex4, ex5, ex6, ex7] (do let x1 ← mm1; let x2 ← mm2; let x3 ← mm3; let x4 ← mm4; let x5 ← mm5; let x6 ← mm6; let x7 ← mm7; pure [x1, x2, x3, x4, x5, x6, x7]) := by
  refine PA.from (pa_cons hh1 (pa_cons hh2 (pa_cons hh3 (pa_cons hh4 (pa_cons hh5 (pa_cons hh6 (pa_cons hh7 pa_nil ss7) ss6) ss5) ss4) ss3) ss2) ss1) fun σ H Q ⟨fr, F, m, ah, s, er, q⟩ => ?_
  refine TK.step s er q fun F1 m1' ah1 d1 v1 H1 x1 y1 z1 r1 q1 => ?_
  refine TK.step y1 z1 q1 fun F2 m2' ah2 d2 v2 H2 x2 y2 z2 r2 q2 => ?_
  refine TK.step y2 z2 q2 fun F3 m3' ah3 d3 v3 H3 x3 y3 z3 r3 q3 => ?_
  refine TK.step y3 z3 q3 fun F4 m4' ah4 d4 v4 H4 x4 y4 z4 r4 q4 => ?_
  refine TK.step y4 z4 q4 fun F5 m5' ah5 d5 v5 H5 x5 y5 z5 r5 q5 => ?_
  refine TK.step y5 z5 q5 fun F6 m6' ah6 d6 v6 H6 x6 y6 z6 r6 q6 => ?_
  refine TK.step y6 z6 q6 fun F7 m7' ah7 d7 v7 H7 x7 y7 z7 r7 q7 => ?_
  exact q7 F7 m7' _ H7 Ext.refl y7 (RepL.cons (Rep.ext (((((x2.trans x3).trans x4).trans x5).trans x6).trans x7) _ _ r1) (RepL.cons (Rep.ext ((((x3.trans x4).trans x5).trans x6).trans x7) _ _ r2) (RepL.cons (Rep.ext (((x4.trans x5).trans x6).trans x7) _ _ r3) (RepL.cons (Rep.ext ((x5.trans x6).trans x7) _ _ r4) (RepL.cons (Rep.ext (x6.trans x7) _ _ r5) (RepL.cons (Rep.ext x7 _ _ r6) (RepL.cons r7 RepL.nil)))))))
theorem len7 {mm1 mm2 mm3 mm4 mm5 mm6 mm7 : M D} (ah : AH) (ds : List D) (ah' : AH) (h : (do let x1 ← mm1; let x2 ← mm2; let x3 ← mm3; let x4 ← mm4; let x5 ← mm5; let x6 ← mm6; let x7 ← mm7; pure [x1, x2, x3, x4, x5, x6, x7] : M (List D)) ah = .ok ds ah') : ds.length = 7 := by
  rw [bind_def] at h
  cases h1 : mm1 ah with
  | exc _ _ => rw [h1] at h; cases h
  | stuck => rw [h1] at h; cases h
  | ok d1 a1 =>
  rw [h1] at h; dsimp only at h
  rw [bind_def] at h
  cases h2 : mm2 a1 with
  | exc _ _ => rw [h2] at h; cases h
  | stuck => rw [h2] at h; cases h
  | ok d2 a2 =>
  rw [h2] at h; dsimp only at h
  rw [bind_def] at h
  cases h3 : mm3 a2 with
  | exc _ _ => rw [h3] at h; cases h
  | stuck => rw [h3] at h; cases h
  | ok d3 a3 =>
  rw [h3] at h; dsimp only at h
  rw [bind_def] at h
  cases h4 : mm4 a3 with
  | exc _ _ => rw [h4] at h; cases h
  | stuck => rw [h4] at h; cases h
  | ok d4 a4 =>
  rw [h4] at h; dsimp only at h
  rw [bind_def] at h
  cases h5 : mm5 a4 with
  | exc _ _ => rw [h5] at h; cases h
  | stuck => rw [h5] at h; cases h
  | ok d5 a5 =>
  rw [h5] at h; dsimp only at h
  rw [bind_def] at h
  cases h6 : mm6 a5 with
  | exc _ _ => rw [h6] at h; cases h
  | stuck => rw [h6] at h; cases h
  | ok d6 a6 =>
  rw [h6] at h; dsimp only at h
  rw [bind_def] at h
  cases h7 : mm7 a6 with
  | exc _ _ => rw [h7] at h; cases h
  | stuck => rw [h7] at h; cases h
  | ok d7 a7 =>
  rw [h7] at h; dsimp only at h
  cases h
  rfl
theorem assoc7 {mm1 mm2 mm3 mm4 mm5 mm6 mm7 : M D} {g : List D → M D} : ((do let x1 ← mm1; let x2 ← mm2; let x3 ← mm3; let x4 ← mm4; let x5 ← mm5; let x6 ← mm6; let x7 ← mm7; pure [x1, x2, x3, x4, x5, x6, x7] : M (List D)) >>= g) = (do let x1 ← mm1; let x2 ← mm2; let x3 ← mm3; let x4 ← mm4; let x5 ← mm5; let x6 ← mm6; let x7 ← mm7; g [x1, x2, x3, x4, x5, x6, x7]) := by
  simp only [bind_assoc, pure_bind]
theorem de_call7 {ex1 ex2 ex3 ex4 ex5 ex6 ex7 : Expr} {mm1 mm2 mm3 mm4 mm5 mm6 mm7 : M D} {g : D → D → D → D → D → D → D → M D} (G : FnOk X.prog X.w X.K X.mg X.base (L2N.CX X.prog X.w) k f fd ps (spD X.K X.mg 7 (app7 g))) (hr : Room k X.A) (hm : X.mg x = some (.ref f)) (hk : PySem.W.keepIn X.K (.ref f) = true) (hb : Binds X.K fd ps []) (tk : L2N.Takes X W) (hh1 : DE X W env ex1 mm1) (hh2 : DE X W env ex2 mm2) (hh3 : DE X W env ex3 mm3) (hh4 : DE X W env ex4 mm4) (hh5 : DE X W env ex5 mm5) (hh6 : DE X W env ex6 mm6) (hh7 : DE X W env ex7 mm7)
    (hg : Gl X x := by rfl) (hdb : (x == ("__debug__" : Str)) = false := by decide) (ss1 : starEach [ex1, ex2, ex3, ex4, ex5, ex6, ex7] X.env = (false, eval ex1 X.env) :: starEach [ex2, ex3, ex4, ex5, ex6, ex7] X.env := by rfl) (ss2 : starEach [ex2, ex3, ex4, ex5, ex6, ex7] X.env = (false, eval ex2 X.env) :: starEach [ex3, ex4, ex5, ex6, ex7] X.env := by rfl) (ss3 : starEach [ex3, ex4, ex5, ex6, ex7] X.env = (false, eval ex3 X.env) :: starEach [ex4, ex5, ex6, ex7] X.env := by rfl) (ss4 : starEach [ex4, ex5, ex6, ex7] X.env = (false, eval ex4 X.env) :: starEach [ex5, ex6, ex7] X.env := by rfl) (ss5 : starEach [ex5, ex6, ex7] X.env = (false, eval ex5 X.env) :: starEach [ex6, ex7] X.env := by rfl) (ss6 : starEach [ex6, ex7] X.env = (false, eval ex6 X.env) :: starEach [ex7] X.env := by rfl) (ss7 : starEach [ex7] X.env = (false, eval ex7 X.env) :: starEach [] X.env := by rfl) (hpl : (backTo pos (starEach [ex2, ex3, ex4, ex5, ex6, ex7] X.env)).any (·.1) = false := by rfl) :
    DE X W env (.Call (.Name x p) [ex1, ex2, ex3, ex4, ex5, ex6, ex7] [] pos) (do let x1 ← mm1; let x2 ← mm2; let x3 ← mm3; let x4 ← mm4; let x5 ← mm5; let x6 ← mm6; let x7 ← mm7; g x1 x2 x3 x4 x5 x6 x7) := by
  have h := de_call (pos := pos) (p := p) 7 G hr hm hk hb tk (da7 hh1 hh2 hh3 hh4 hh5 hh6 hh7 ss1 ss2 ss3 ss4 ss5 ss6 ss7) len7 hg hdb ss1 hpl
  rw [assoc7] at h
  exact h
theorem de_pcall7 {ex1 ex2 ex3 ex4 ex5 ex6 ex7 : Expr} {mm1 mm2 mm3 mm4 mm5 mm6 mm7 : M D} {g : D → D → D → D → D → D → D → M D} (G : FnOk X.prog X.w X.K X.mg X.base (L2N.CX X.prog X.w) k f fd ps (spD X.K X.mg 7 (app7 g))) (hr : Room k X.A) (hm : X.mg x = some (.ref f)) (hk : PySem.W.keepIn X.K (.ref f) = true) (hb : Binds X.K fd ps []) (tk : L2N.Takes X W) (hh1 : DE X W env ex1 mm1) (hh2 : DE X W env ex2 mm2) (hh3 : DE X W env ex3 mm3) (hh4 : DE X W env ex4 mm4) (hh5 : DE X W env ex5 mm5) (hh6 : DE X W env ex6 mm6) (hh7 : DE X W env ex7 mm7)
    (hg : Gl X x := by rfl) (hdb : (x == ("__debug__" : Str)) = false := by decide) (ss1 : starEach [ex1, ex2, ex3, ex4, ex5, ex6, ex7] X.env = (false, eval ex1 X.env) :: starEach [ex2, ex3, ex4, ex5, ex6, ex7] X.env := by rfl) (ss2 : starEach [ex2, ex3, ex4, ex5, ex6, ex7] X.env = (false, eval ex2 X.env) :: starEach [ex3, ex4, ex5, ex6, ex7] X.env := by rfl) (ss3 : starEach [ex3, ex4, ex5, ex6, ex7] X.env = (false, eval ex3 X.env) :: starEach [ex4, ex5, ex6, ex7] X.env := by rfl) (ss4 : starEach [ex4, ex5, ex6, ex7] X.env = (false, eval ex4 X.env) :: starEach [ex5, ex6, ex7] X.env := by rfl) (ss5 : starEach [ex5, ex6, ex7] X.env = (false, eval ex5 X.env) :: starEach [ex6, ex7] X.env := by rfl) (ss6 : starEach [ex6, ex7] X.env = (false, eval ex6 X.env) :: starEach [ex7] X.env := by rfl) (ss7 : starEach [ex7] X.env = (false, eval ex7 X.env) :: starEach [] X.env := by rfl) (hpl : (backTo pos (starEach [ex2, ex3, ex4, ex5, ex6, ex7] X.env)).any (·.1) = false := by rfl) :
    DE X W env (.Call (.Name x p) [ex1, ex2, ex3, ex4, ex5, ex6, ex7] [] pos) (do let x1 ← mm1; let x2 ← mm2; let x3 ← mm3; let x4 ← mm4; let x5 ← mm5; let x6 ← mm6; let x7 ← mm7; pcallM (app7 g) [x1, x2, x3, x4, x5, x6, x7]) := by
  have h := de_pcall (pos := pos) (p := p) 7 G hr hm hk hb tk (da7 hh1 hh2 hh3 hh4 hh5 hh6 hh7 ss1 ss2 ss3 ss4 ss5 ss6 ss7) len7 hg hdb ss1 hpl
  rw [assoc7] at h
  exact h
theorem da8 {ex1 ex2 ex3 ex4 ex5 ex6 ex7 ex8 : Expr} {mm1 mm2 mm3 mm4 mm5 mm6 mm7 mm8 : M D} (hh1 : DE X W env ex1 mm1) (hh2 : DE X W env ex2 mm2) (hh3 : DE X W env ex3 mm3) (hh4 : DE X W env ex4 mm4) (hh5 : DE X W env ex5 mm5) (hh6 : DE X W env ex6 mm6) (hh7 : DE X W env ex7 mm7) (hh8 : DE X W env ex8 mm8) (ss1 : starEach [ex1, ex2, ex3, ex4, ex5, ex6, ex7, ex8] X.env = (false, eval ex1 X.env) :: starEach [ex2, ex3, ex4, ex5, ex6, ex7, ex8] X.env := by rfl) (ss2 : starEach [ex2, ex3, ex4, ex5, ex6, ex7, ex8] X.env = (false, eval ex2 X.env) :: starEach [ex3, ex4, ex5, ex6, ex7, ex8] X.env := by rfl) (ss3 : starEach [ex3, ex4, ex5, ex6, ex7, ex8] X.env = (false, eval ex3 X.env) :: starEach [ex4, ex5, ex6, ex7, ex8] X.env := by rfl) (ss4 : starEach [ex4, ex5, ex6, ex7, ex8] X.env = (false, eval ex4 X.env) :: starEach [ex5, ex6, ex7, ex8] X.env := by rfl) (ss5 : starEach [ex5, ex6, ex7, ex8] X.env = (false, eval ex5 X.env) :: starEach [ex6, ex7, ex8] X.env := by rfl) (ss6 : starEach [ex6, ex7, ex8] X.env = (false, eval ex6 X.env) :: starEach [ex7, ex8] X.env := by rfl) (ss7 : starEach [ex7, ex8] X.env = (false, eval ex7 X.env) :: starEach [ex8] X.env := by rfl) (ss8 : starEach [ex8] X.env = (false, eval ex8 X.env) :: starEach [] X.env := by rfl) :
    DA X W env [ex1, ex2, ex3, ex4, ex5, ex6, ex7, ex8] (do let x1 ← mm1; let x2 ← mm2; let x3 ← mm3; let x4 ← mm4; let x5 ← mm5; let x6 ← mm6; let x7 ← mm7; let x8 ← mm8; pure [x1, x2, x3, x4, x5, x6, x7, x8]) := by
  refine PA.from (pa_cons hh1 (pa_cons hh2 (pa_cons hh3 (pa_cons hh4 (pa_cons hh5 (pa_cons hh6 (pa_cons hh7 (pa_cons hh8 pa_nil ss8) ss7) ss6) ss5) ss4) ss3) ss2) ss1) fun σ H Q ⟨fr, F, m, ah, s, er, q⟩ => ?_
  refine TK.step s er q fun F1 m1' ah1 d1 v1 H1 x1 y1 z1 r1 q1 => ?_
  refine TK.step y1 z1 q1 fun F2 m2' ah2 d2 v2 H2 x2 y2 z2 r2 q2 => ?_
  refine TK.step y2 z2 q2 fun F3 m3' ah3 d3 v3 H3 x3 y3 z3 r3 q3 => ?_
  refine TK.step y3 z3 q3 fun F4 m4' ah4 d4 v4 H4 x4 y4 z4 r4 q4 => ?_
  refine TK.step y4 z4 q4 fun F5 m5' ah5 d5 v5 H5 x5 y5 z5 r5 q5 => ?_
  refine TK.step y5 z5 q5 fun F6 m6' ah6 d6 v6 H6 x6 y6 z6 r6 q6 => ?_
  refine TK.step y6 z6 q6 fun F7 m7' ah7 d7 v7 H7 x7 y7 z7 r7 q7 => ?_
  refine TK.step y7 z7 q7 fun F8 m8' ah8 d8 v8 H8 x8 y8 z8 r8 q8 => ?_
  exact q8 F8 m8' _ H8 Ext.refl y8 (RepL.cons (Rep.ext ((((((x2.trans x3).trans x4).trans x5).trans x6).trans x7).trans x8) _ _ r1) (RepL.cons (Rep.ext (((((x3.trans x4).trans x5).trans x6).trans x7).trans x8) _ _ r2) (RepL.cons (Rep.ext ((((x4.trans x5).trans x6).trans x7).trans x8) _ _ r3) (RepL.cons (Rep.ext (((x5.trans x6).trans x7).trans x8) _ _ r4) (RepL.cons (Rep.ext ((x6.trans x7).trans x8) _ _ r5) (RepL.cons (Rep.ext (x7.trans x8) _ _ r6) (RepL.cons (Rep.ext x8 _ _ r7) (RepL.cons r8 RepL.nil))))))))
theorem len8 {mm1 mm2 mm3 mm4 mm5 mm6 mm7 mm8 : M D} (ah : AH) (ds : List D) (ah' : AH) (h : (do let x1 ← mm1; let x2 ← mm2; let x3 ← mm3; let x4 ← mm4; let x5 ← mm5; let x6 ← mm6; let x7 ← mm7; let x8 ← mm8; pure [x1, x2, x3, x4, x5, x6, x7, x8] : M (List D)) ah = .ok ds ah') : ds.length = 8 := by
  rw [bind_def] at h
  cases h1 : mm1 ah with
  | exc _ _ => rw [h1] at h; cases h
  | stuck => rw [h1] at h; cases h
  | ok d1 a1 =>
  rw [h1] at h; dsimp only at h
  rw [bind_def] at h
  cases h2 : mm2 a1 with
  | exc _ _ => rw [h2] at h; cases h
  | stuck => rw [h2] at h; cases h
  | ok d2 a2 =>
  rw [h2] at h; dsimp only at h
  rw [bind_def] at h
  cases h3 : mm3 a2 with
  | exc _ _ => rw [h3] at h; cases h
  | stuck => rw [h3] at h; cases h
  | ok d3 a3 =>
  rw [h3] at h; dsimp only at h
  rw [bind_def] at h
  cases h4 : mm4 a3 with
  | exc _ _ => rw [h4] at h; cases h
  | stuck => rw [h4] at h; cases h
  | ok d4 a4 =>
  rw [h4] at h; dsimp only at h
  rw [bind_def] at h
  cases h5 : mm5 a4 with
  | exc _ _ => rw [h5] at h; cases h
  | stuck => rw [h5] at h; cases h
  | ok d5 a5 =>
  rw [h5] at h; dsimp only at h
  rw [bind_def] at h
  cases h6 : mm6 a5 with
  | exc _ _ => rw [h6] at h; cases h
  | stuck => rw [h6] at h; cases h
  | ok d6 a6 =>
  rw [h6] at h; dsimp only at h
  rw [bind_def] at h
  cases h7 : mm7 a6 with
  | exc _ _ => rw [h7] at h; cases h
  | stuck => rw [h7] at h; cases h
  | ok d7 a7 =>
  rw [h7] at h; dsimp only at h
  rw [bind_def] at h
  cases h8 : mm8 a7 with
  | exc _ _ => rw [h8] at h; cases h
  | stuck => rw [h8] at h; cases h
  | ok d8 a8 =>
  rw [h8] at h; dsimp only at h
  cases h
  rfl
theorem assoc8 {mm1 mm2 mm3 mm4 mm5 mm6 mm7 mm8 : M D} {g : List D → M D} : ((do let x1 ← mm1; let x2 ← mm2; let x3 ← mm3; let x4 ← mm4; let x5 ← mm5; let x6 ← mm6; let x7 ← mm7; let x8 ← mm8; pure [x1, x2, x3, x4, x5, x6, x7, x8] : M (List D)) >>= g) = (do let x1 ← mm1; let x2 ← mm2; let x3 ← mm3; let x4 ← mm4; let x5 ← mm5; let x6 ← mm6; let x7 ← mm7; let x8 ← mm8; g [x1, x2, x3, x4, x5, x6, x7, x8]) := by
  simp only [bind_assoc, pure_bind]
theorem de_call8 {ex1 ex2 ex3 ex4 ex5 ex6 ex7 ex8 : Expr} {mm1 mm2 mm3 mm4 mm5 mm6 mm7 mm8 : M D} {g : D → D → D → D → D → D → D → D → M D} (G : FnOk X.prog X.w X.K X.mg X.base (L2N.CX X.prog X.w) k f fd ps (spD X.K X.mg 8 (app8 g))) (hr : Room k X.A) (hm : X.mg x = some (.ref f)) (hk : PySem.W.keepIn X.K (.ref f) = true) (hb : Binds X.K fd ps []) (tk : L2N.Takes X W) (hh1 : DE X W env ex1 mm1) (hh2 : DE X W env ex2 mm2) (hh3 : DE X W env ex3 mm3) (hh4 : DE X W env ex4 mm4) (hh5 : DE X W env ex5 mm5) (hh6 : DE X W env ex6 mm6) (hh7 : DE X W env ex7 mm7) (hh8 : DE X W env ex8 mm8)
    (hg : Gl X x := by rfl) (hdb : (x == ("__debug__" : Str)) = false := by decide) (ss1 : starEach [ex1, ex2, ex3, ex4, ex5, ex6, ex7, ex8] X.env = (false, eval ex1 X.env) :: starEach [ex2, ex3, ex4, ex5, ex6, ex7, ex8] X.env := by rfl) (ss2 : starEach [ex2, ex3, ex4, ex5, ex6, ex7, ex8] X.env = (false, eval ex2 X.env) :: starEach [ex3, ex4, ex5, ex6, ex7, ex8] X.env := by rfl) (ss3 : starEach [ex3, ex4, ex5, ex6, ex7, ex8] X.env = (false, eval ex3 X.env) :: starEach [ex4, ex5, ex6, ex7, ex8] X.env := by rfl) (ss4 : starEach [ex4, ex5, ex6, ex7, ex8] X.env = (false, eval ex4 X.env) :: starEach [ex5, ex6, ex7, ex8] X.env := by rfl) (ss5 : starEach [ex5, ex6, ex7, ex8] X.env = (false, eval ex5 X.env) :: starEach [ex6, ex7, ex8] X.env := by rfl) (ss6 : starEach [ex6, ex7, ex8] X.env = (false, eval ex6 X.env) :: starEach [ex7, ex8] X.env := by rfl) (ss7 : starEach [ex7, ex8] X.env = (false, eval ex7 X.env) :: starEach [ex8] X.env := by rfl) (ss8 : starEach [ex8] X.env = (false, eval ex8 X.env) :: starEach [] X.env := by rfl) (hpl : (backTo pos (starEach [ex2, ex3, ex4, ex5, ex6, ex7, ex8] X.env)).any (·.1) = false := by rfl) :
    DE X W env (.Call (.Name x p) [ex1, ex2, ex3, ex4, ex5, ex6, ex7, ex8] [] pos) (do let x1 ← mm1; let x2 ← mm2; let x3 ← mm3; let x4 ← mm4; let x5 ← mm5; let x6 ← mm6; let x7 ← mm7; let x8 ← mm8; g x1 x2 x3 x4 x5 x6 x7 x8) := by
  have h := de_call (pos := pos) (p := p) 8 G hr hm hk hb tk (da8 hh1 hh2 hh3 hh4 hh5 hh6 hh7 hh8 ss1 ss2 ss3 ss4 ss5 ss6 ss7 ss8) len8 hg hdb ss1 hpl
  rw [assoc8] at h
  exact h
theorem de_pcall8 {ex1 ex2 ex3 ex4 ex5 ex6 ex7 ex8 : Expr} {mm1 mm2 mm3 mm4 mm5 mm6 mm7 mm8 : M D} {g : D → D → D → D → D → D → D → D → M D} (G : FnOk X.prog X.w X.K X.mg X.base (L2N.CX X.prog X.w) k f fd ps (spD X.K X.mg 8 (app8 g))) (hr : Room k X.A) (hm : X.mg x = some (.ref f)) (hk : PySem.W.keepIn X.K (.ref f) = true) (hb : Binds X.K fd ps []) (tk : L2N.Takes X W) (hh1 : DE X W env ex1 mm1) (hh2 : DE X W env ex2 mm2) (hh3 : DE X W env ex3 mm3) (hh4 : DE X W env ex4 mm4) (hh5 : DE X W env ex5 mm5) (hh6 : DE X W env ex6 mm6) (hh7 : DE X W env ex7 mm7) (hh8 : DE X W env ex8 mm8)
    (hg : Gl X x := by rfl) (hdb : (x == ("__debug__" : Str)) = false := by decide) (ss1 : starEach [ex1, ex2, ex3, ex4, ex5, ex6, ex7, ex8] X.env = (false, eval ex1 X.env) :: starEach [ex2, ex3, ex4, ex5, ex6, ex7, ex8] X.env := by rfl) (ss2 : starEach [ex2, ex3, ex4, ex5, ex6, ex7, ex8] X.env = (false, eval ex2 X.env) :: starEach [ex3, ex4, ex5, ex6, ex7, ex8] X.env := by rfl) (ss3 : starEach [ex3, ex4, ex5, ex6, ex7, ex8] X.env = (false, eval ex3 X.env) :: starEach [ex4, ex5, ex6, ex7, ex8] X.env := by rfl) (ss4 : starEach [ex4, ex5, ex6, ex7, ex8] X.env = (false, eval ex4 X.env) :: starEach [ex5, ex6, ex7, ex8] X.env := by rfl) (ss5 : starEach [ex5, ex6, ex7, ex8] X.env = (false, eval ex5 X.env) :: starEach [ex6, ex7, ex8] X.env := by rfl) (ss6 : starEach [ex6, ex7, ex8] X.env = (false, eval ex6 X.env) :: starEach [ex7, ex8] X.env := by rfl) (ss7 : starEach [ex7, ex8] X.env = (false, eval ex7 X.env) :: starEach [ex8] X.env := by rfl) (ss8 : starEach [ex8] X.env = (false, eval ex8 X.env) :: starEach [] X.env := by rfl) (hpl : (backTo pos (starEach [ex2, ex3, ex4, ex5, ex6, ex7, ex8] X.env)).any (·.1) = false := by rfl) :
    DE X W env (.Call (.Name x p) [ex1, ex2, ex3, ex4, ex5, ex6, ex7, ex8] [] pos) (do let x1 ← mm1; let x2 ← mm2; let x3 ← mm3; let x4 ← mm4; let x5 ← mm5; let x6 ← mm6; let x7 ← mm7; let x8 ← mm8; pcallM (app8 g) [x1, x2, x3, x4, x5, x6, x7, x8]) := by
  have h := de_pcall (pos := pos) (p := p) 8 G hr hm hk hb tk (da8 hh1 hh2 hh3 hh4 hh5 hh6 hh7 hh8 ss1 ss2 ss3 ss4 ss5 ss6 ss7 ss8) len8 hg hdb ss1 hpl
  rw [assoc8] at h
  exact h
end
theorem fn1 {P : Program} {w : World} {K : Fg} {mg : Str → Option Value} {base : Heap} {x qual : Str} {st : Stmt} {f : Addr} {fd : FuncData} {N ps : List Str} {k : Nat} {τ : Type} {mk : τ → Env} {lp : Empty → Env} {mc : D → M (Out τ Empty)}
    (F : Fun K x qual st f fd) (S : FnScope N ps (defScope st)) (hn : ps.length = 1)
    (h : ∀ (cdv : Value) (A : Around) (outer : List PySem.Env) (s : Shared) (H : Hp) (E : XK), Room k (A.deeper (PyProof.Rows.envOfC qual (defScope st) s.heap.objs.size f cdv)) → ∀ d1 : D,
      DS (cxOf (L2N.CX P w) P w K mg base N qual (defScope st) f cdv A outer s H E) (fun c d _ H => E c d H) (List.replicate N.length none) ([some d1] ++ List.replicate (N.length - 1) none) mk lp (defBody st) (mc d1)) :
    FnOk P w K mg base (L2N.CX P w) (k + 1) f fd ps (spD K mg 1 (app1 fun d1 => defM (mc d1))) :=
  fn_sim (mc := fun ds => match ds with | [d1] => mc d1 | _ => stuck) F S hn (fun ds hl => match ds, hl with | [_], _ => rfl) fun cdv A outer s H E hr ds hl => match ds, hl with | [d1], _ => h cdv A outer s H E hr d1
theorem fn2 {P : Program} {w : World} {K : Fg} {mg : Str → Option Value} {base : Heap} {x qual : Str} {st : Stmt} {f : Addr} {fd : FuncData} {N ps : List Str} {k : Nat} {τ : Type} {mk : τ → Env} {lp : Empty → Env} {mc : D → D → M (Out τ Empty)}
    (F : Fun K x qual st f fd) (S : FnScope N ps (defScope st)) (hn : ps.length = 2)
    (h : ∀ (cdv : Value) (A : Around) (outer : List PySem.Env) (s : Shared) (H : Hp) (E : XK), Room k (A.deeper (PyProof.Rows.envOfC qual (defScope st) s.heap.objs.size f cdv)) → ∀ d1 d2 : D,
      DS (cxOf (L2N.CX P w) P w K mg base N qual (defScope st) f cdv A outer s H E) (fun c d _ H => E c d H) (List.replicate N.length none) ([some d1, some d2] ++ List.replicate (N.length - 2) none) mk lp (defBody st) (mc d1 d2)) :
    FnOk P w K mg base (L2N.CX P w) (k + 1) f fd ps (spD K mg 2 (app2 fun d1 d2 => defM (mc d1 d2))) :=
  fn_sim (mc := fun ds => match ds with | [d1, d2] => mc d1 d2 | _ => stuck) F S hn (fun ds hl => match ds, hl with | [_, _], _ => rfl) fun cdv A outer s H E hr ds hl => match ds, hl with | [d1, d2], _ => h cdv A outer s H E hr d1 d2
theorem fn3 {P : Program} {w : World} {K : Fg} {mg : Str → Option Value} {base : Heap} {x qual : Str} {st : Stmt} {f : Addr} {fd : FuncData} {N ps : List Str} {k : Nat} {τ : Type} {mk : τ → Env} {lp : Empty → Env} {mc : D → D → D → M (Out τ Empty)}
    (F : Fun K x qual st f fd) (S : FnScope N ps (defScope st)) (hn : ps.length = 3)
    (h : ∀ (cdv : Value) (A : Around) (outer : List PySem.Env) (s : Shared) (H : Hp) (E : XK), Room k (A.deeper (PyProof.Rows.envOfC qual (defScope st) s.heap.objs.size f cdv)) → ∀ d1 d2 d3 : D,
      DS (cxOf (L2N.CX P w) P w K mg base N qual (defScope st) f cdv A outer s H E) (fun c d _ H => E c d H) (List.replicate N.length none) ([some d1, some d2, some d3] ++ List.replicate (N.length - 3) none) mk lp (defBody st) (mc d1 d2 d3)) :
    FnOk P w K mg base (L2N.CX P w) (k + 1) f fd ps (spD K mg 3 (app3 fun d1 d2 d3 => defM (mc d1 d2 d3))) :=
  fn_sim (mc := fun ds => match ds with | [d1, d2, d3] => mc d1 d2 d3 | _ => stuck) F S hn (fun ds hl => match ds, hl with | [_, _, _], _ => rfl) fun cdv A outer s H E hr ds hl => match ds, hl with | [d1, d2, d3], _ => h cdv A outer s H E hr d1 d2 d3
theorem fn4 {P : Program} {w : World} {K : Fg} {mg : Str → Option Value} {base : Heap} {x qual : Str} {st : Stmt} {f : Addr} {fd : FuncData} {N ps : List Str} {k : Nat} {τ : Type} {mk : τ → Env} {lp : Empty → Env} {mc : D → D → D → D → M (Out τ Empty)}
    (F : Fun K x qual st f fd) (S : FnScope N ps (defScope st)) (hn : ps.length = 4)
    (h : ∀ (cdv : Value) (A : Around) (outer : List PySem.Env) (s : Shared) (H : Hp) (E : XK), Room k (A.deeper (PyProof.Rows.envOfC qual (defScope st) s.heap.objs.size f cdv)) → ∀ d1 d2 d3 d4 : D,
      DS (cxOf (L2N.CX P w) P w K mg base N qual (defScope st) f cdv A outer s H E) (fun c d _ H => E c d H) (List.replicate N.length none) ([some d1, some d2, some d3, some d4] ++ List.replicate (N.length - 4) none) mk lp (defBody st) (mc d1 d2 d3 d4)) :
    FnOk P w K mg base (L2N.CX P w) (k + 1) f fd ps (spD K mg 4 (app4 fun d1 d2 d3 d4 => defM (mc d1 d2 d3 d4))) :=
  fn_sim (mc := fun ds => match ds with | [d1, d2, d3, d4] => mc d1 d2 d3 d4 | _ => stuck) F S hn (fun ds hl => match ds, hl with | [_, _, _, _], _ => rfl) fun cdv A outer s H E hr ds hl => match ds, hl with | [d1, d2, d3, d4], _ => h cdv A outer s H E hr d1 d2 d3 d4
theorem fn5 {P : Program} {w : World} {K : Fg} {mg : Str → Option Value} {base : Heap} {x qual : Str} {st : Stmt} {f : Addr} {fd : FuncData} {N ps : List Str} {k : Nat} {τ : Type} {mk : τ → Env} {lp : Empty → Env} {mc : D → D → D → D → D → M (Out τ Empty)}
    (F : Fun K x qual st f fd) (S : FnScope N ps (defScope st)) (hn : ps.length = 5)
    (h : ∀ (cdv : Value) (A : Around) (outer : List PySem.Env) (s : Shared) (H : Hp) (E : XK), Room k (A.deeper (PyProof.Rows.envOfC qual (defScope st) s.heap.objs.size f cdv)) → ∀ d1 d2 d3 d4 d5 : D,
      DS (cxOf (L2N.CX P w) P w K mg base N qual (defScope st) f cdv A outer s H E) (fun c d _ H => E c d H) (List.replicate N.length none) ([some d1, some d2, some d3, some d4, some d5] ++ List.replicate (N.length - 5) none) mk lp (defBody st) (mc d1 d2 d3 d4 d5)) :
    FnOk P w K mg base (L2N.CX P w) (k + 1) f fd ps (spD K mg 5 (app5 fun d1 d2 d3 d4 d5 => defM (mc d1 d2 d3 d4 d5))) :=
  fn_sim (mc := fun ds => match ds with | [d1, d2, d3, d4, d5] => mc d1 d2 d3 d4 d5 | _ => stuck) F S hn (fun ds hl => match ds, hl with | [_, _, _, _, _], _ => rfl) fun cdv A outer s H E hr ds hl => match ds, hl with | [d1, d2, d3, d4, d5], _ => h cdv A outer s H E hr d1 d2 d3 d4 d5
theorem fn6 {P : Program} {w : World} {K : Fg} {mg : Str → Option Value} {base : Heap} {x qual : Str} {st : Stmt} {f : Addr} {fd : FuncData} {N ps : List Str} {k : Nat} {τ : Type} {mk : τ → Env} {lp : Empty → Env} {mc : D → D → D → D → D → D → M (Out τ Empty)}
    (F : Fun K x qual st f fd) (S : FnScope N ps (defScope st)) (hn : ps.length = 6)
    (h : ∀ (cdv : Value) (A : Around) (outer : List PySem.Env) (s : Shared) (H : Hp) (E : XK), Room k (A.deeper (PyProof.Rows.envOfC qual (defScope st) s.heap.objs.size f cdv)) → ∀ d1 d2 d3 d4 d5 d6 : D,
      DS (cxOf (L2N.CX P w) P w K mg base N qual (defScope st) f cdv A outer s H E) (fun c d _ H => E c d H) (List.replicate N.length none) ([some d1, some d2, some d3, some d4, some d5, some d6] ++ List.replicate (N.length - 6) none) mk lp (defBody st) (mc d1 d2 d3 d4 d5 d6)) :
    FnOk P w K mg base (L2N.CX P w) (k + 1) f fd ps (spD K mg 6 (app6 fun d1 d2 d3 d4 d5 d6 => defM (mc d1 d2 d3 d4 d5 d6))) :=
  fn_sim (mc := fun ds => match ds with | [d1, d2, d3, d4, d5, d6] => mc d1 d2 d3 d4 d5 d6 | _ => stuck) F S hn (fun ds hl => match ds, hl with | [_, _, _, _, _, _], _ => rfl) fun cdv A outer s H E hr ds hl => match ds, hl with | [d1, d2, d3, d4, d5, d6], _ => h cdv A outer s H E hr d1 d2 d3 d4 d5 d6
theorem fn7 {P : Program} {w : World} {K : Fg} {mg : Str → Option Value} {base : Heap} {x qual : Str} {st : Stmt} {f : Addr} {fd : FuncData} {N ps : List Str} {k : Nat} {τ : Type} {mk : τ → Env} {lp : Empty → Env} {mc : D → D → D → D → D → D → D → M (Out τ Empty)}
    (F : Fun K x qual st f fd) (S : FnScope N ps (defScope st)) (hn : ps.length = 7)
    (h : ∀ (cdv : Value) (A : Around) (outer : List PySem.Env) (s : Shared) (H : Hp) (E : XK), Room k (A.deeper (PyProof.Rows.envOfC qual (defScope st) s.heap.objs.size f cdv)) → ∀ d1 d2 d3 d4 d5 d6 d7 : D,
      DS (cxOf (L2N.CX P w) P w K mg base N qual (defScope st) f cdv A outer s H E) (fun c d _ H => E c d H) (List.replicate N.length none) ([some d1, some d2, some d3, some d4, some d5, some d6, some d7] ++ List.replicate (N.length - 7) none) mk lp (defBody st) (mc d1 d2 d3 d4 d5 d6 d7)) :
    FnOk P w K mg base (L2N.CX P w) (k + 1) f fd ps (spD K mg 7 (app7 fun d1 d2 d3 d4 d5 d6 d7 => defM (mc d1 d2 d3 d4 d5 d6 d7))) :=
  fn_sim (mc := fun ds => match ds with | [d1, d2, d3, d4, d5, d6, d7] => mc d1 d2 d3 d4 d5 d6 d7 | _ => stuck) F S hn (fun ds hl => match ds, hl with | [_, _, _, _, _, _, _], _ => rfl) fun cdv A outer s H E hr ds hl => match ds, hl with | [d1, d2, d3, d4, d5, d6, d7], _ => h cdv A outer s H E hr d1 d2 d3 d4 d5 d6 d7
theorem fn8 {P : Program} {w : World} {K : Fg} {mg : Str → Option Value} {base : Heap} {x qual : Str} {st : Stmt} {f : Addr} {fd : FuncData} {N ps : List Str} {k : Nat} {τ : Type} {mk : τ → Env} {lp : Empty → Env} {mc : D → D → D → D → D → D → D → D → M (Out τ Empty)}
    (F : Fun K x qual st f fd) (S : FnScope N ps (defScope st)) (hn : ps.length = 8)
    (h : ∀ (cdv : Value) (A : Around) (outer : List PySem.Env) (s : Shared) (H : Hp) (E : XK), Room k (A.deeper (PyProof.Rows.envOfC qual (defScope st) s.heap.objs.size f cdv)) → ∀ d1 d2 d3 d4 d5 d6 d7 d8 : D,
      DS (cxOf (L2N.CX P w) P w K mg base N qual (defScope st) f cdv A outer s H E) (fun c d _ H => E c d H) (List.replicate N.length none) ([some d1, some d2, some d3, some d4, some d5, some d6, some d7, some d8] ++ List.replicate (N.length - 8) none) mk lp (defBody st) (mc d1 d2 d3 d4 d5 d6 d7 d8)) :
    FnOk P w K mg base (L2N.CX P w) (k + 1) f fd ps (spD K mg 8 (app8 fun d1 d2 d3 d4 d5 d6 d7 d8 => defM (mc d1 d2 d3 d4 d5 d6 d7 d8))) :=
  fn_sim (mc := fun ds => match ds with | [d1, d2, d3, d4, d5, d6, d7, d8] => mc d1 d2 d3 d4 d5 d6 d7 d8 | _ => stuck) F S hn (fun ds hl => match ds, hl with | [_, _, _, _, _, _, _, _], _ => rfl) fun cdv A outer s H E hr ds hl => match ds, hl with | [d1, d2, d3, d4, d5, d6, d7, d8], _ => h cdv A outer s H E hr d1 d2 d3 d4 d5 d6 d7 d8
end Lw

/-! SimG: lists that are written, freezing them, raise, sorted. -/
namespace Lw
open PySem L2

/-! ### a cell is written -/
section
variable {K : Fg} {mg : Str → Option Value} {fr : Fm} {F H : Hp} {m : List Addr} {ah : AH}
theorem Sim.write {i : Nat} {a : Addr} {c c' : Cell} {o : HO} (S : Sim K mg fr F m ah H) (hi : ah[i]? = some c) (ha : m[i]? = some a) (hc : trk c = true) (ok : CellOk K mg F m (upd H a o) a c') : Sim K mg fr F m (ah.set i c') (upd H a o) := by
  have am : a ∈ m := List.mem_of_getElem? ha
  have fa : F a = none := by
    obtain ⟨a', q, ok'⟩ := S.cells i c hi
    rw [ha] at q
    cases q
    exact ok'.free hc
  refine ⟨fun b u h => ?_, by rw [List.length_set]; exact S.len, S.nod, fun j x h => ?_, fun b u h n => ?_, S.young, S.pre, fun b h => ?_, S.old⟩
  · have ne : b ≠ a := fun z => by rw [z, fa] at h; cases h
    rw [upd_ne ne]
    exact S.sub b u h
  · by_cases hj : i = j
    · subst hj
      rw [List.getElem?_set_self (List.getElem?_eq_some_iff.mp hi).1] at h
      cases h
      exact ⟨a, ha, ok⟩
    · rw [List.getElem?_set_ne hj] at h
      obtain ⟨b, q, okb⟩ := S.cells j x h
      have ne : b ≠ a := fun z => hj (by
        rw [z] at q
        obtain ⟨h1, e1⟩ := List.getElem?_eq_some_iff.mp ha
        obtain ⟨h2, e2⟩ := List.getElem?_eq_some_iff.mp q
        exact (List.getElem_inj S.nod).mp (e1.trans e2.symm))
      exact ⟨b, q, okb.ext Ext.refl (fun z => okb.free z) fun _ => upd_ne ne⟩
  · have ne : b ≠ a := fun z => by
      rw [z] at h n
      rw [S.young a am n] at h
      cases h
    rw [upd_ne ne]
    exact S.frame b u h n
  · by_cases z : b = a
    · rw [z, upd_same]
      exact ⟨_, rfl⟩
    · rw [upd_ne z]
      exact S.there b h
/-- a list of the heap is never written from now on -/
theorem Sim.freeze {i : Nat} {a : Addr} {xs : List D} (S : Sim K mg fr F m ah H) (hi : ah[i]? = some (.lst xs)) (ha : m[i]? = some a) : ∃ vs, Sim K mg fr (upd F a (.lst vs)) m (ah.set i .dead) H ∧ Ext F m (upd F a (.lst vs)) m ∧ RepL K F m xs vs := by
  have am : a ∈ m := List.mem_of_getElem? ha
  obtain ⟨a', q, ok⟩ := S.cells i _ hi
  rw [ha] at q
  cases q
  obtain ⟨fa, vs, hv, rv⟩ := ok
  have e : Ext F m (upd F a (.lst vs)) m := ⟨fun b u h => by rw [upd_ne (ne_of_none h fa)]; exact h, fun _ _ h => h⟩
  refine ⟨vs, ⟨fun b u h => ?_, by rw [List.length_set]; exact S.len, S.nod, fun j x h => ?_, S.frame, S.young, S.pre, S.there, fun b u h => ?_⟩, e, rv⟩
  · by_cases z : b = a
    · rw [z, upd_same] at h
      cases h
      rw [z]
      exact hv
    · rw [upd_ne z] at h
      exact S.sub b u h
  · by_cases hj : i = j
    · subst hj
      rw [List.getElem?_set_self (List.getElem?_eq_some_iff.mp hi).1] at h
      cases h
      exact ⟨a, ha, trivial⟩
    · rw [List.getElem?_set_ne hj] at h
      obtain ⟨b, q, okb⟩ := S.cells j x h
      have ne : b ≠ a := fun z => hj (by
        rw [z] at q
        obtain ⟨h1, e1⟩ := List.getElem?_eq_some_iff.mp ha
        obtain ⟨h2, e2⟩ := List.getElem?_eq_some_iff.mp q
        exact (List.getElem_inj S.nod).mp (e1.trans e2.symm))
      exact ⟨b, q, okb.ext e (fun z => by rw [upd_ne ne]; exact okb.free z) fun _ => rfl⟩
  · by_cases z : b = a
    · rw [z]
      by_cases y : a ∈ fr.m0
      · exact .inr (.inr y)
      · exact .inr (.inl (S.young a am y))
    · rw [upd_ne z] at h
      exact S.old b u h
end
/-- a list of the heap, from now on a value -/
def freezeM (d : D) : M D := fun h => match d with
  | .ref n => (match h[n]? with
    | some (.lst xs) => .ok (.lst xs) (h.set n .dead)
    | _ => .stuck)
  | _ => .stuck
section
variable {X : Cx} {W : WX} {ex env : Env} {pos : Pos} {τ β : Type} {mk : τ → Env} {lp : β → Env} {rest : List Stmt}
theorem ds_freeze (i : Nat) {d : D} {k : D → M (Out τ β)} (env' : D → Env) (hr : ∀ d, DS X W ex (env' d) mk lp rest (k d)) (he : env[i]? = some (some d) := by rfl) (hvv : ∀ d, env.set i (some d) = env' d := by intro _; rfl) : DS X W ex env mk lp rest (freezeM d >>= k) :=
  PSs.from (PSs.ex hr) fun Dn σ H ⟨fr, F, m, ah, s, er, q⟩ => by
    rw [bind_def] at q
    unfold freezeM at q
    obtain ⟨n, hd⟩ : ∃ n, d = .ref n := by
      cases d <;> first | exact ⟨_, rfl⟩ | exact q.elim
    subst hd
    obtain ⟨xs, hc⟩ : ∃ xs, ah[n]? = some (.lst xs) := by
      cases hc : ah[n]? with
      | none =>
        simp only [hc] at q
        exact q.elim
      | some c =>
        cases c <;> simp only [hc] at q <;> first | exact ⟨_, rfl⟩ | exact q.elim
    · simp only [hc] at q
      obtain ⟨v, hv, rv⟩ := er.2 i _ he
      unfold Rep at rv
      obtain ⟨a, ha, hva⟩ := rv
      obtain ⟨vs, s2, e2, r2⟩ := s.freeze hc ha
      refine ⟨.lst xs, fr, _, m, _, s2, ⟨by rw [← hvv, List.length_set]; exact er.1, fun j x hj => ?_⟩, TO.ext e2 q⟩
      rw [← hvv] at hj
      by_cases hij : i = j
      · subst hij
        rw [List.getElem?_set_self (List.getElem?_eq_some_iff.mp he).1] at hj
        cases hj
        refine ⟨v, hv, ?_⟩
        unfold Rep
        exact ⟨a, vs, hva, .inl (.inl upd_same), RepL.ext e2 _ _ r2⟩
      · rw [List.getElem?_set_ne hij] at hj
        obtain ⟨u, hu, ru⟩ := er.2 j x hj
        exact ⟨u, hu, Rep.ext e2 _ _ ru⟩
/-- as a value: of what was made just now -/
theorem de_freeze {e : Expr} {me : M D} (he : DE X W env e me) : DE X W env e (do let x ← me; freezeM x) :=
  PE.from he fun σ H Q ⟨fr, F, m, ah, s, er, q⟩ => TK.step s er q fun F1 m1 ah1 d v H1 e1 s1 er1 r1 k1 => by
    unfold freezeM at k1
    cases d <;> try exact k1.elim
    rename_i n
    cases hc : ah1[n]? with
    | none =>
      simp only [hc] at k1
      exact k1.elim
    | some c =>
      cases c <;> simp only [hc] at k1 <;> try exact k1.elim
      rename_i xs
      unfold Rep at r1
      obtain ⟨a, ha, hva⟩ := r1
      obtain ⟨vs, s2, e2, r2⟩ := s1.freeze hc ha
      refine k1 _ _ v H1 e2 s2 ?_
      unfold Rep
      exact ⟨a, vs, hva, .inl (.inl upd_same), RepL.ext e2 _ _ r2⟩

/-! ### methods of lists -/
def onLst (x : D) (f : List D → Option (D × List D)) : M D := fun h => match x with
  | .ref n => (match h[n]? with
    | some (.lst xs) => (match f xs with
      | some (d, ys) => .ok d (h.set n (.lst ys))
      | none => .stuck)
    | _ => .stuck)
  | _ => .stuck
def appendM (x y : D) : M D := onLst x fun xs => if lenOk (xs.length + 1) = true then some (.non, xs ++ [y]) else none
theorem onLst_of {fr : Fm} {σ : St} {F H : Hp} {m : List Addr} {ah : AH} {d : D} {v : V} {f : List D → Option (D × List D)} {Q : VK} (S : Sim X.K X.mg fr F m ah H) (r : Rep X.K F m d v) (k : TK X.K X.mg fr W (Rep X.K) σ F m (onLst d f ah) Q) :
    ∃ a xs vs z ys, v = .ref a ∧ H a = some (.lst vs) ∧ RepL X.K F m xs vs ∧ f xs = some (z, ys) ∧ ∀ us, RepL X.K F m ys us → ∀ u, Rep X.K F m z u → Q u (upd H a (.lst us)) := by
  unfold onLst at k
  cases d <;> try exact k.elim
  rename_i n
  cases hc : ah[n]? with
  | none =>
    simp only [hc] at k
    exact k.elim
  | some c =>
    cases c <;> simp only [hc] at k <;> try exact k.elim
    rename_i xs
    unfold Rep at r
    obtain ⟨a, ha, hva⟩ := r
    obtain ⟨a', q, ok⟩ := S.cells n _ hc
    rw [ha] at q
    cases q
    obtain ⟨fa, vs, hv, rv⟩ := ok
    cases hf : f xs with
    | none =>
      rw [hf] at k
      exact k.elim
    | some p =>
      obtain ⟨z, ys⟩ := p
      rw [hf] at k
      refine ⟨a, xs, vs, z, ys, hva, hv, rv, hf, fun us ru u rz => ?_⟩
      exact k F m u _ Ext.refl (S.write hc ha rfl ⟨fa, us, upd_same, ru⟩) rz
/-- it is a list -/
def lchk (x : D) : M Unit := fun h => match lstOf h x with
  | some _ => .ok () h
  | none => .stuck
theorem lchk_of {fr : Fm} {σ : St} {F H : Hp} {m : List Addr} {ah : AH} {α β : Type} {R : Hp → List Addr → α → β → Prop} {d : D} {v : V} {k : Unit → M α} {Q : β → Hp → Prop} (S : Sim X.K X.mg fr F m ah H) (r : Rep X.K F m d v) (q : TK X.K X.mg fr W R σ F m ((lchk d >>= k) ah) Q) :
    tyV X.K "list" v H ∧ TK X.K X.mg fr W R σ F m (k () ah) Q := by
  rw [bind_def] at q
  unfold lchk at q
  cases hx : lstOf ah d with
  | none =>
    simp only [hx] at q
    exact q.elim
  | some xs =>
    simp only [hx] at q
    obtain ⟨a, vs, h1, h2, h3⟩ := lst_of S r hx
    subst h1
    exact ⟨.inl ⟨rfl, vs, h2⟩, q⟩
/-- x.m(e), a method of lists -/
theorem de_lm1 {o e : Expr} {mo me : M D} {apos : Pos} {name : Str} {id : String} {r : V → List V → Hp → VK → Prop} {f : D → D → M D} (slot : Slot "list" name id) (hty : typeOf (.builtin id) = pure (.type "method_descriptor")) (hm : MtR X id r)
    (hr : ∀ (fr : Fm) (W : WX) (σ : St) (F : Hp) (m : List Addr) (ah : AH) (H : Hp) (d e : D) (v w : V) (Q : VK), Sim X.K X.mg fr F m ah H → Rep X.K F m d v → Rep X.K F m e w → TK X.K X.mg fr W (Rep X.K) σ F m (f d e ah) Q → r v [w] H Q)
    (ho : DE X W env o mo) (he : DE X W env e me) (hbase : attributeBase o name X.env (eval o X.env) = eval o X.env := by rfl)
    (hfew : ((backTo pos (starEach [e] X.env)).all (fun x => !x.1) && (backToKw pos (keywordEach [] X.env)).all (fun x => x.1.isSome)
      && decide ([e].length + ([] : List Keyword).length + (if ([] : List Keyword).isEmpty then 0 else 1) < 30)) = true := by rfl)
    (hline : (apos.endLine == pos.line) = true := by rfl) (hs : starEach [e] X.env = (false, eval e X.env) :: starEach [] X.env := by rfl) (hplain : (backTo pos (starEach [] X.env)).any (·.1) = false := by rfl) :
    DE X W env (.Call (.Attribute o name apos) [e] [] pos) (do let x ← mo; lchk x; let y ← me; f x y) :=
  PE.from (pe_bm PySem.F.plainAttrs_list slot hty hm ho (da_one he hs) hbase hfew hline hs hplain) fun σ H Q ⟨fr, F, m, ah, s, er, q⟩ => TK.step s er q fun F1 m1 ah1 d v H1 e1 s1 er1 r1 k1 => by
    obtain ⟨h1, k2⟩ := lchk_of s1 r1 k1
    refine ⟨h1, ?_⟩
    have k3 : TK X.K X.mg fr W (Rep X.K) σ F1 m1 (((do let y ← me; pure [y]) >>= fun ys => ap1 (f d) ys) ah1) Q := by
      rw [bind_assoc]
      exact k2
    refine TK.step (R := RepL X.K) s1 er1 k3 fun F2 m2 ah2 d2 v2 H2 e2 s2 er2 r2 k4 => ?_
    match d2, r2, k4 with
    | [], _, k4 => exact k4.elim
    | [d3], r2, k4 =>
      obtain ⟨w, rfl, r3⟩ := RepL.one r2
      exact hr fr W σ F2 m2 ah2 H2 d d3 v w Q s2 (Rep.ext e2 _ _ r1) r3 k4
    | _ :: _ :: _, _, k4 => exact k4.elim
/-- x.m() -/
theorem de_lm0 {o : Expr} {mo : M D} {apos : Pos} {name : Str} {id : String} {r : V → List V → Hp → VK → Prop} {f : D → M D} (slot : Slot "list" name id) (hty : typeOf (.builtin id) = pure (.type "method_descriptor")) (hm : MtR X id r)
    (hr : ∀ (fr : Fm) (W : WX) (σ : St) (F : Hp) (m : List Addr) (ah : AH) (H : Hp) (d : D) (v : V) (Q : VK), Sim X.K X.mg fr F m ah H → Rep X.K F m d v → TK X.K X.mg fr W (Rep X.K) σ F m (f d ah) Q → r v [] H Q)
    (ho : DE X W env o mo) (hbase : attributeBase o name X.env (eval o X.env) = eval o X.env := by rfl) (hline : (apos.endLine == pos.line) = true := by rfl) :
    DE X W env (.Call (.Attribute o name apos) [] [] pos) (do let x ← mo; lchk x; f x) :=
  PE.from (pe_bm0 PySem.F.plainAttrs_list slot hty hm ho hbase hline) fun σ H Q ⟨fr, F, m, ah, s, er, q⟩ => TK.step s er q fun F1 m1 ah1 d v H1 e1 s1 er1 r1 k1 => by
    obtain ⟨h1, k2⟩ := lchk_of s1 r1 k1
    exact ⟨h1, hr fr W σ F1 m1 ah1 H1 d v Q s1 r1 k2⟩
theorem de_append {o e : Expr} {mo me : M D} {apos : Pos} (ho : DE X W env o mo) (he : DE X W env e me) (hbase : attributeBase o "append" X.env (eval o X.env) = eval o X.env := by rfl)
    (hfew : ((backTo pos (starEach [e] X.env)).all (fun x => !x.1) && (backToKw pos (keywordEach [] X.env)).all (fun x => x.1.isSome)
      && decide ([e].length + ([] : List Keyword).length + (if ([] : List Keyword).isEmpty then 0 else 1) < 30)) = true := by rfl)
    (hline : (apos.endLine == pos.line) = true := by rfl) (hs : starEach [e] X.env = (false, eval e X.env) :: starEach [] X.env := by rfl) (hplain : (backTo pos (starEach [] X.env)).any (·.1) = false := by rfl) :
    DE X W env (.Call (.Attribute o "append" apos) [e] [] pos) (do let x ← mo; lchk x; let y ← me; appendM x y) :=
  de_lm1 PySem.F.slot_list_append PySem.F.type_list_append mt_append (fun fr W σ F m ah H d e v w Q S r r2 k => by
    obtain ⟨a, xs, vs, z, ys, h1, h2, h3, h4, h5⟩ := onLst_of S r k
    by_cases hl : lenOk (xs.length + 1) = true
    · rw [if_pos hl] at h4
      cases h4
      refine ⟨a, vs, w, h1, rfl, h2, ?_, h5 _ (RepL.append h3 (RepL.cons r2 RepL.nil)) _ Rep.non⟩
      rw [RepL.length h3]
      exact of_decide_eq_true hl
    · rw [if_neg hl] at h4
      cases h4) ho he hbase hfew hline hs hplain

/-! ### raise -/
/-- a class of errors, of one's own, over ValueError, without __init__ -/
structure XcF (K : Fg) (mg : Str → Option Value) (x : Str) (C : Addr) : Prop where
  g : mg x = some (.ref C)
  q : PySem.W.excIn K C [.type "ValueError", .type "Exception", .type "BaseException", .type "object"] "ValueError.__new__" = true
  k : PySem.W.keepIn K (.ref C) = true
  b : PySem.W.subIn K (.ref C) (.type "BaseException") = some true
  t : PySem.W.typeIn K (.ref C) = some (.type "type")
theorem ds_raise {x msg : Str} {C : Addr} {j : Nat} {p p2 p3 : Pos} (T : XcF X.K X.mg x C) (hc : X.calm = true) (tk : L2N.Takes X W) (hx : EnvLe ex env) (hg : Gl X x := by rfl) (hdb : (x == ("__debug__" : Str)) = false := by decide) :
    DS X W ex env mk lp (.Raise (some (.Call (.Name x p) [.Constant (.str msg) j p2] [] p3)) none pos :: rest) (throwM x) :=
  PSs.from (pss_cons (L2N.ps_raise hc tk (L2N.pmk_own PySem.F.excBase_ValueError T.q T.g T.k (raises_own T.b T.t) hg hdb)) pss_never) fun Dn σ H ⟨fr, F, m, ah, s, er, q⟩ => q F m C σ H Ext.refl s (er.le hx) T.g

/-! ### sorted -/
def sortOk (ps : List PyData) : Bool := ps.all (fun d => ps.all fun e => PySem.W.alike d e) && (ps.all (fun d => match d with
  | .tuple (_ :: _) => true
  | _ => false) || ps.all (fun d => match d with
  | .none => false
  | .tuple _ => false
  | _ => true)) && ps.all fun d => decide (d.depth ≤ 64)
def sortedD (xs : List D) : List D := xs.mergeSort (PySem.W.dataLe false toP)
def sortedM (d : D) : M D := fun h => match seqOf h d with
  | some xs => if (flatDs 0 xs && sortOk (xs.map toP) && lenOk xs.length) = true then .ok (.lst (sortedD xs)) h else .stuck
  | none => .stuck
end
section
open PySem PySem.W PyProof.Rows
variable {prog : Program} {w : World} {A : Around} {E : Value → Shared → Prop} {s : Shared}
theorem collect_any {l : Addr} {T : String} {o : Obj} {n : Nat} {vs : List Value} {Q : List Value → Shared → Prop} (hT : T = "list" ∨ T = "tuple") (ho : s.heap.get? l = some o) (hc : o.cls = .type T) (hd : o.data = .seq vs.toArray n)
    (h : Q vs { s with heap := (s.heap.push (seqObj "list" #[] 0)).update s.heap.objs.size (Obj.mapSeq (· ++ vs.toArray)) }) (hsz : vs.length ≤ sizeLine) :
    wpAny (model prog w) A (collect (.ref l)) Q E s := by
  unfold collect
  refine wpAny_bind (wpAny_runValue (codeAny_builtin entry_proto_collect' ?_))
  show wpAny _ _ (do again (.builtin "list.__iadd__" ⟨[← newList [], .ref l], []⟩)) _ _ s
  refine wpAny_bind (wpAny_newList (wpAny_pure ⟨Code.quiet_builtin _ (by decide +kernel), codeAny_builtin entry_list_iadd' ?_⟩))
  show wpAny _ _ (Builtin.List.listExtendWith (.ref s.heap.objs.size) (.ref l) (.ref s.heap.objs.size)) _ _ { s with heap := s.heap.push (seqObj "list" #[] 0) }
  unfold Builtin.List.listExtendWith
  have ho' : (s.heap.push (seqObj "list" #[] 0)).get? l = some o := Heap.get?_push_of_some _ ho
  refine wpAny_bind (wpAny_typeOf (T := T) ⟨o, ho', hc⟩ ?_)
  rw [if_pos (by rcases hT with rfl | rfl <;> simp)]
  refine wpAny_bind (listItems_at ho' hd ?_)
  refine wpAny_bind (listItems_at (xs := #[]) (n := 0) (Heap.get?_push_size _ rfl) rfl ?_)
  rw [if_neg (by simp)]
  refine wpAny_bind (listUpdate_at (xs := #[]) (n := 0) (Heap.get?_push_size _ rfl) rfl ?_ (Nat.zero_le _) (by show (#[] ++ vs.toArray).size ≤ sizeLine + 1; simp only [Array.size_append, List.size_toArray, List.length_nil]; omega))
  refine wpAny_pure ?_
  show wpAny (model prog w) A (do
      let o ← load s.heap.objs.size
      match o.data with
      | .seq xs _ => pure xs.toList
      | _ => unsupported "internal:collect") Q E { s with heap := (s.heap.push (seqObj "list" #[] 0)).update s.heap.objs.size (Obj.mapSeq (· ++ vs.toArray)) }
  refine wpAny_bind (wpAny_load (get?_update_seq (Heap.get?_push_size _ rfl) _) ?_)
  show wpAny _ _ (pure ((#[] : Array Value) ++ vs.toArray).toList) Q E _
  rw [show ((#[] : Array Value) ++ vs.toArray).toList = vs by simp]
  exact wpAny_pure h
/-- sorted of a list or a tuple -/
theorem sorted_any {l : Addr} {T : String} {o : Obj} {vs : List Value} {n : Nat} {Q : Value → Shared → Prop} (hT : T = "list" ∨ T = "tuple") (ho : s.heap.get? l = some o) (hc : o.cls = .type T) (hd : o.data = .seq vs.toArray n) (hL : vs.length ≤ sizeLine)
    {β : Type} {bs : List β} {enc : β → PyData} {R : Value → β → Prop} (e : EachIs R vs bs) (er : EachIs (fun v b => ∃ as, Reads s.heap v (enc b) as) vs bs) (hal : AllAlike (bs.map enc)) (hk : Sortable (bs.map enc)) (hL2 : bs.length ≤ sizeLine)
    (hu : ∀ b, b ∈ bs → A.units + 2 + (enc b).depth < cLine) (h : ∀ out, out.length = bs.length → EachIs R out (bs.mergeSort (dataLe false enc)) → Q (.ref (s.heap.objs.size + 1)) { s with heap := sortedAll s.heap vs (List.toArray out) }) :
    wpAny (model prog w) A (call (.builtin "sorted") [.ref l]) Q E s := by
  have er' : EachIs (fun v b => ∃ as, Reads (sortingHeap (copyHeap s.heap vs) (s.heap.objs.size + 1) vs) v (enc b) as) vs bs := er.mono fun _ _ ⟨as, r⟩ => ⟨as, PyProof.Rows.Reads.keeps (fun _ _ => sorting_copy_old) r⟩
  have S : SortsAt prog w A.in1.in1 { s with heap := sortingHeap (copyHeap s.heap vs) (s.heap.objs.size + 1) vs } (dataKind (sortingHeap (copyHeap s.heap vs) (s.heap.objs.size + 1) vs) (bs.map enc)) vs :=
    SortsAt.data (s := { s with heap := sortingHeap (copyHeap s.heap vs) (s.heap.objs.size + 1) vs }) (each_map (R := fun v d => ∃ as, Reads (sortingHeap (copyHeap s.heap vs) (s.heap.objs.size + 1) vs) v d as) enc er') hal hk (bound_map hu)
  refine call_function_entry_kw kind_sorted plain_sorted entry_sorted (args_sorted1 _) ?_
  unfold Builtin.«sorted»
  refine wpAny_bind (m := checkCount "sorted" 1 1 _) (wpAny_pure ?_)
  refine wpAny_bind (collect_any hT ho hc hd ?_ hL)
  refine wpAny_bind (wpAny_newList ?_ hL)
  have hsz : ((s.heap.push (seqObj "list" #[] 0)).update s.heap.objs.size (Obj.mapSeq (· ++ vs.toArray))).objs.size = s.heap.objs.size + 1 := by
    rw [Heap.size_update, size_push']
  show wpAny _ _ _ _ _ { s with heap := copyHeap s.heap vs }
  rw [hsz]
  refine wpAny_bind (wpAny_holding (wpAny_call_entry_kw slot_list_sort ⟨_, copyHeap_at s.heap vs, rfl⟩ entry_list_sort ?body (args_list_sort _)))
  case body =>
    show wpAny (model prog w) A.in1.in1 (Builtin.«list.sort» ⟨[.ref (s.heap.objs.size + 1)], []⟩) _ _ _
    refine list_sort_vals (s := { s with heap := copyHeap s.heap vs }) (copyHeap_at s.heap vs) S hL ?_
    exact ⟨_, rfl, wpAny_pure ⟨_, rfl, h _ (by rw [sortVals_length false rfl]; exact e.length) (sortVals_data false e er' hal)⟩⟩
end
section
variable {X : Cx} {W : WX} {env : Env} {pos : Pos}
open PySem.W (EachIs AllAlike Sortable) in
/-- sorted(x), read of data -/
def rSortD (K : Fg) : List V → Hp → VK → Prop := fun vs H Q => ∃ (a : Addr) (us : List V) (ds : List D) (Rp : D → V → Prop), vs = [.ref a] ∧ (SqL K H a us ∨ SqT K H a us) ∧ Paired (fun d v => Rp d v ∧ Dp K H v (toP d)) ds us ∧
  AllAlike (ds.map toP) ∧ Sortable (ds.map toP) ∧ ds.length ≤ sizeLine ∧ (∀ d ∈ ds, (toP d).depth ≤ 64) ∧ ∀ ys p, Paired Rp (sortedD ds) ys → ys.length = ds.length → H p = none → Q (.ref p) (upd H p (.lst ys))
theorem each_vals {Rp : D → V → Prop} : ∀ {out : List Value} {es : List D}, PySem.W.EachIs (fun v d => ∃ x, RelV x v ∧ Rp d x) out es → ∃ ys, Vals ys out ∧ Paired Rp es ys
  | _, _, .nil => ⟨[], .nil, .nil⟩
  | _, _, .cons ⟨x, h1, h2⟩ t =>
    let ⟨ys, h3, h4⟩ := each_vals t
    ⟨x :: ys, .cons h1 h3, .cons h2 h4⟩
open PySem.W (EachIs) in
theorem cr_sortD (hu : X.A.units + 66 < cLine) : CallR X (.builtin "sorted") (rSortD X.K) := by
  intro pins s σ H vs us0 Q I r h
  obtain ⟨a, us, ds, Rp, rfl, hq, pr, hal, hk, hl, hd, q⟩ := h
  obtain ⟨u, rfl, ru⟩ := vals1 r
  obtain rfl : u = Value.ref a := ru
  have go : ∀ (T : String) (its : List Value) (o : Obj) (n : Nat), (T = "list" ∨ T = "tuple") → Vals us its → s.heap.get? a = some o → o.cls = .type T → o.data = .seq its.toArray n →
      wpAny (model X.prog X.w) X.A (call (.builtin "sorted") [.ref a]) (EP X pins σ Q) X.xe s := by
    intro T its o n hT rv ho hc hdt
    have e2 : EachIs (fun v d => (∃ x, RelV x v ∧ Rp d x) ∧ ∃ as, Reads s.heap v (toP d) as) its ds := by
      clear hal hk hl hd q hq hdt
      induction pr generalizing its with
      | nil =>
        cases rv
        exact .nil
      | cons h t ih =>
        cases rv with
        | cons r1 r2 =>
          exact .cons ⟨⟨_, r1, h.1⟩, Dp.reads I _ _ _ h.2 r1⟩ (ih _ r2)
    have hlen : its.length = ds.length := e2.length
    refine sorted_any (n := n) hT ho hc hdt (by rw [hlen]; exact hl) (e2.mono fun _ _ z => z.1) (e2.mono fun _ _ z => z.2) hal hk hl (fun d hm => by have := hd d hm; omega) fun out ho2 e3 => ?_
    obtain ⟨ys, h1, h2⟩ : ∃ ys, Vals ys out ∧ Paired Rp (sortedD ds) ys := each_vals e3
    obtain ⟨ep, he'⟩ := PyProof.Rows.sortedAll_at s.heap its out.toArray
    have hy : ys.length = ds.length := h1.length.trans ho2
    exact ⟨.ref _, upd H (s.heap.objs.size + 1) (.lst ys), I.laid (t' := s.toks) (fun _ _ => PyProof.Rows.sortedAll_old) (Nat.le_succ _) ⟨by rw [hy]; exact hl, out, ep, h1, he'⟩, rfl, q ys _ h2 hy (I.hok.fresh (Nat.le_succ _))⟩
  rcases hq with hq | hq
  · obtain ⟨its, rv, ⟨o, n, h1, h2, h3, h4⟩, _⟩ := I.list hq
    exact go "list" its o n (.inl rfl) rv h1 h2 h4
  · obtain ⟨its, rv, ⟨o, h1, h2, n, h3⟩, _⟩ := I.tuple hq
    exact go "tuple" its o n (.inr rfl) rv h1 h2 h3
theorem sortOk_of {ps : List PyData} (h : sortOk ps = true) : PySem.W.AllAlike ps ∧ PySem.W.Sortable ps ∧ ∀ d ∈ ps, d.depth ≤ 64 := by
  unfold sortOk at h
  rw [Bool.and_eq_true, Bool.and_eq_true, Bool.or_eq_true] at h
  obtain ⟨⟨h1, h2⟩, h3⟩ := h
  refine ⟨fun d hd d' hd' => ?_, ?_, fun d hd => ?_⟩
  · exact List.all_eq_true.mp (List.all_eq_true.mp h1 d hd) d' hd'
  · rcases h2 with h2 | h2
    · refine .inl fun d hd => ?_
      have z := List.all_eq_true.mp h2 d hd
      split at z
      · exact ⟨_, _, rfl⟩
      · cases z
    · refine .inr fun d hd => ?_
      have z := List.all_eq_true.mp h2 d hd
      refine ⟨fun e => ?_, fun xs e => ?_⟩ <;> (rw [e] at z; cases z)
  · exact of_decide_eq_true (List.all_eq_true.mp h3 d hd)
theorem seq_of {K : Fg} {mg : Str → Option Value} {fr : Fm} {F H : Hp} {m : List Addr} {ah : AH} {d : D} {v : V} {xs : List D} (S : Sim K mg fr F m ah H) (r : Rep K F m d v) (h : seqOf ah d = some xs) : ∃ a vs, v = .ref a ∧ (SqL K H a vs ∨ SqT K H a vs) ∧ RepL K F m xs vs := by
  unfold seqOf at h
  split at h
  · cases h
    obtain ⟨a, vs, h1, h2, h3⟩ := tup_of (xs := xs) r rfl
    exact ⟨a, vs, h1, .inr (SqT.up S.sub h2), h3⟩
  · obtain ⟨a, vs, h1, h2, h3⟩ := lst_of S r h
    exact ⟨a, vs, h1, .inl h2, h3⟩
theorem paired_of {K : Fg} {F H : Hp} {m : List Addr} (sub : ∀ a o, F a = some o → H a = some o) : ∀ {ds : List D} {vs : List V}, RepL K F m ds vs → flatDs 0 ds = true → Paired (fun d v => Rep K F m d v ∧ Dp K H v (toP d)) ds vs
  | [], vs, r, _ => by
    unfold RepL at r
    rw [r]
    exact .nil
  | d :: ds, vs, r, f => by
    unfold RepL at r
    obtain ⟨v, u, h1, h2, h3⟩ := r
    unfold flatDs at f
    rw [Bool.and_eq_true] at f
    rw [h1]
    exact .cons ⟨h2, dp_of sub d v h2 f.1⟩ (paired_of sub h3 f.2)
theorem repL_of {K : Fg} {F : Hp} {m : List Addr} : ∀ {ds : List D} {vs : List V}, Paired (Rep K F m) ds vs → RepL K F m ds vs
  | _, _, .nil => RepL.nil
  | _, _, .cons h t => RepL.cons h (repL_of t)
theorem sortD_ok : ClD X (rSortD X.K) (ap1 sortedM) := ap1_ok fun fr W σ F m ah H d v Q s r k => by
  unfold sortedM at k
  cases hx : seqOf ah d with
  | none =>
    rw [hx] at k
    exact k.elim
  | some xs =>
    rw [hx] at k
    by_cases hc : (flatDs 0 xs && sortOk (xs.map toP) && lenOk xs.length) = true
    · simp only [hc, if_true] at k
      rw [Bool.and_eq_true, Bool.and_eq_true] at hc
      obtain ⟨⟨c1, c2⟩, c3⟩ := hc
      obtain ⟨a, vs, h1, h2, h3⟩ := seq_of s r hx
      obtain ⟨a1, a2, a3⟩ := sortOk_of c2
      subst h1
      exact ⟨a, vs, xs, Rep X.K F m, rfl, h2, paired_of s.sub h3 c1, a1, a2, of_decide_eq_true c3, fun d hd => a3 _ (List.mem_map.mpr ⟨d, hd, rfl⟩), fun ys p h4 _ hp => TK.newL k s (repL_of h4) hp⟩
    · simp only [hc] at k
      exact k.elim
theorem de_sorted {e : Expr} {me : M D} {p : Pos} (hu : X.A.units + 66 < cLine) (hm : X.mg "sorted" = none) (ha : DE X W env e me) (hg : Gl X "sorted" := by rfl) (he : starEach [e] X.env = [(false, eval e X.env)] := by rfl) (hpl : (backTo pos (starEach [] X.env)).any (·.1) = false := by rfl) :
    DE X W env (.Call (.Name "sorted" p) [e] [] pos) (do let x ← me; sortedM x) := de_b1 (cr_sortD hu) sortD_ok hm (by decide +kernel) ha hg (by decide) (by decide) he hpl
theorem hu66 {A : Around} {k : Nat} (hr : Room k A) : A.units + 66 < cLine := by
  have := hr.un
  omega
theorem de_sum {e : Expr} {me : M D} {p : Pos} (hc : X.calm = true) (hm : X.mg "sum" = none) (ha : DE X W env e me) (hg : Gl X "sum" := by rfl) (he : starEach [e] X.env = [(false, eval e X.env)] := by rfl) (hpl : (backTo pos (starEach [] X.env)).any (·.1) = false := by rfl) :
    DE X W env (.Call (.Name "sum" p) [e] [] pos) (do let x ← me; sumM x) := de_b1 (cr_sum hc) sum_ok hm (by decide +kernel) ha hg (by decide) (by decide) he hpl
theorem de_any {e : Expr} {me : M D} {p : Pos} (hc : X.calm = true) (hm : X.mg "any" = none) (ha : DE X W env e me) (hg : Gl X "any" := by rfl) (he : starEach [e] X.env = [(false, eval e X.env)] := by rfl) (hpl : (backTo pos (starEach [] X.env)).any (·.1) = false := by rfl) :
    DE X W env (.Call (.Name "any" p) [e] [] pos) (do let x ← me; anyM x) := de_b1 (cr_any hc) any_ok hm (by decide +kernel) ha hg (by decide) (by decide) he hpl
theorem de_all {e : Expr} {me : M D} {p : Pos} (hc : X.calm = true) (hm : X.mg "all" = none) (ha : DE X W env e me) (hg : Gl X "all" := by rfl) (he : starEach [e] X.env = [(false, eval e X.env)] := by rfl) (hpl : (backTo pos (starEach [] X.env)).any (·.1) = false := by rfl) :
    DE X W env (.Call (.Name "all" p) [e] [] pos) (do let x ← me; allM x) := de_b1 (cr_all hc) all_ok hm (by decide +kernel) ha hg (by decide) (by decide) he hpl
theorem de_max2 {a b : Expr} {ma mb : M D} {p : Pos} (hc : X.calm = true) (hm : X.mg "max" = none) (ha : DE X W env a ma) (hb : DE X W env b mb) (hg : Gl X "max" := by rfl)
    (he : starEach [a, b] X.env = (false, eval a X.env) :: starEach [b] X.env := by rfl) (he2 : starEach [b] X.env = (false, eval b X.env) :: starEach [] X.env := by rfl) (hpl : (backTo pos (starEach [b] X.env)).any (·.1) = false := by rfl) :
    DE X W env (.Call (.Name "max" p) [a, b] [] pos) (do let x ← ma; let y ← mb; maxM x y) := de_b2 (call_max2 hc) max2_ok hm (by decide +kernel) ha hb hg (by decide) (by decide) he he2 hpl
theorem de_min2 {a b : Expr} {ma mb : M D} {p : Pos} (hc : X.calm = true) (hm : X.mg "min" = none) (ha : DE X W env a ma) (hb : DE X W env b mb) (hg : Gl X "min" := by rfl)
    (he : starEach [a, b] X.env = (false, eval a X.env) :: starEach [b] X.env := by rfl) (he2 : starEach [b] X.env = (false, eval b X.env) :: starEach [] X.env := by rfl) (hpl : (backTo pos (starEach [b] X.env)).any (·.1) = false := by rfl) :
    DE X W env (.Call (.Name "min" p) [a, b] [] pos) (do let x ← ma; let y ← mb; minM x y) := de_b2 (call_min2 hc) min2_ok hm (by decide +kernel) ha hb hg (by decide) (by decide) he he2 hpl
end
end Lw

/-! SimH: items stored, chains as tests, what stands of a def, the law's end. -/
namespace Lw
open PySem L2

section
variable {X : Cx} {W : WX} {ex env : Env} {pos : Pos} {τ β : Type} {mk : τ → Env} {lp : β → Env} {rest : List Stmt}
/-! ### o[i] = v -/
def setIxM (o i v : D) : M Unit := fun h => match o, i with
  | .ref n, .int k => (match h[n]? with
    | some (.lst xs) => (match ixN xs.length k with
      | some j => .ok () (h.set n (.lst (xs.set j v)))
      | none => .stuck)
    | _ => .stuck)
  | _, _ => .stuck
theorem RepL.set {K : Fg} {F : Hp} {m : List Addr} {d : D} {v : V} : ∀ {ds : List D} {vs : List V} (j : Nat), RepL K F m ds vs → Rep K F m d v → RepL K F m (ds.set j d) (vs.set j v)
  | [], vs, _, r, _ => by
    unfold RepL at r
    rw [r]
    exact RepL.nil
  | x :: ds, vs, 0, r, h => by
    unfold RepL at r
    obtain ⟨u, w, h1, h2, h3⟩ := r
    rw [h1]
    exact RepL.cons h h3
  | x :: ds, vs, j + 1, r, h => by
    unfold RepL at r
    obtain ⟨u, w, h1, h2, h3⟩ := r
    rw [h1]
    exact RepL.cons h2 (RepL.set j h3 h)
theorem ds_setix {o i e : Expr} {mo mi me : M D} {mc : M (Out τ β)} {tpos : Pos} (he : DE X W env e me) (ho : DE X W env o mo) (hi : DE X W env i mi) (hx : EnvLe ex env) (hr : DS X W ex env mk lp rest mc)
    (hs : swapsWithSole [.Subscript o i tpos] e pos.line X.env = pure false := by rfl) (hw : swappedStores [.Subscript o i tpos] e X.env = pure none := by rfl) (h1 : (assignEach [.Subscript o i tpos] X.env).map (·.2) = [assign (.Subscript o i tpos) X.env] := by rfl)
    (ha : ∀ v, assign (.Subscript o i tpos) X.env v = (do
      let ov ← holding [v] (eval o X.env)
      let iv ← holding [v, ov] (eval i X.env)
      standAt tpos
      holding [v, ov, iv] (setItem ov iv v)
      release [v, ov, iv] []) := by intro _; rfl) :
    DS X W ex env mk lp (.Assign [.Subscript o i tpos] e pos :: rest) (do let v ← me; let x ← mo; let y ← mi; let _ ← setIxM x y v; mc) :=
  PSs.from (pss_cons (ps_asg he (pg_sub ho hi set_list ha) hs hw h1) hr) fun Dn σ H ⟨fr, F, m, ah, s, er, q⟩ =>
    TO.step s er hx q fun F1 m1 ah1 d1 v1 H1 e1 s1 er1 r1 k1 => TO.step s1 er1 hx k1 fun F2 m2 ah2 d2 v2 H2 e2 s2 er2 r2 k2 => TO.step s2 er2 hx k2 fun F3 m3 ah3 d3 v3 H3 e3 s3 er3 r3 k3 => by
      rw [bind_def] at k3
      unfold setIxM at k3
      obtain ⟨n, k, hd2, hd3⟩ : ∃ n k, d2 = .ref n ∧ d3 = .int k := by
        cases d2 <;> cases d3 <;> first | exact ⟨_, _, rfl, rfl⟩ | exact k3.elim
      subst hd2 hd3
      obtain ⟨xs, hc⟩ : ∃ xs, ah3[n]? = some (.lst xs) := by
        cases hc : ah3[n]? with
        | none =>
          simp only [hc] at k3
          exact k3.elim
        | some c =>
          cases c <;> simp only [hc] at k3 <;> first | exact ⟨_, rfl⟩ | exact k3.elim
      simp only [hc] at k3
      cases hj : ixN xs.length k with
      | none =>
        rw [hj] at k3
        exact k3.elim
      | some j =>
        rw [hj] at k3
        have r2 := Rep.ext e3 _ _ r2
        have r1 := Rep.ext (e2.trans e3) _ _ r1
        unfold Rep at r2 r3
        obtain ⟨a, ha, hva⟩ := r2
        obtain ⟨a', q', ok⟩ := s3.cells n _ hc
        rw [ha] at q'
        cases q'
        obtain ⟨fa, vs, hv, rv⟩ := ok
        refine ⟨a, vs, k, j, hva, r3, hv, by rw [RepL.length rv]; exact hj, fr, F3, m3, _, s3.write (c' := .lst (xs.set j d1)) hc ha rfl ⟨fa, _, upd_same, RepL.set j rv r1⟩, er3, k3⟩

/-! ### a op b op c as a test -/
theorem tChain_from {ma mb mc : M D} {r r' : R2} {f g : D → D → M D} (hr : OpD X r f) (hr' : OpD X r' g) : ∀ σ H Q, TC X.K X.mg W (Rep X.K) env (do let x ← ma; let y ← mb; chainM f g x y mc) σ H Q →
    tChain r r' (TC X.K X.mg W (Rep X.K) env ma) (TC X.K X.mg W (Rep X.K) env mb) (TC X.K X.mg W (Rep X.K) env mc) σ H Q := fun σ H Q ⟨fr, F, m, ah, s, er, k⟩ => TK.step s er k fun F1 m1 ah1 d v H1 e1 s1 er1 r1 k1 => TK.step s1 er1 k1 fun F2 m2 ah2 d2 v2 H2 e2 s2 er2 r2 k2 => by
    refine hr fr W σ F2 m2 ah2 H2 d d2 v v2 _ s2 (Rep.ext e2 _ _ r1) r2 ?_
    have k3 : TK X.K X.mg fr W (Rep X.K) σ F2 m2 ((f d d2 >>= fun z => match z with | .bl true => (do let z ← mc; g d2 z) | .bl false => pure (.bl false) | _ => stuck) ah2) Q := k2
    rw [bind_def] at k3
    cases hf : f d d2 ah2 with
    | stuck =>
      rw [hf] at k3
      exact k3
    | exc x a =>
      rw [hf] at k3
      exact k3
    | ok z a =>
      rw [hf] at k3
      intro F3 m3 w H3 e3 s3 r3
      have k4 := TK.ext e3 k3
      cases z <;> try exact (TK.stuck_of k4).elim
      rename_i t
      unfold Rep at r3
      refine ⟨t, r3, ?_⟩
      cases t with
      | false => exact iteF (k4 F3 m3 _ H3 Ext.refl s3 Rep.bl)
      | true =>
        refine iteT ?_
        exact TK.step (R := Rep X.K) s3 ((er2.ext e3)) k4 fun F4 m4 ah4 d4 v4 H4 e4 s4 er4 r4 k5 => hr' fr W σ F4 m4 ah4 H4 d2 d4 v2 v4 Q s4 (Rep.ext (e3.trans e4) _ _ r2) r4 k5
theorem dt_chain {a b c : Expr} {ma mb mc : M D} {op op' : CmpOp} {r r' : R2} {f g : D → D → M D} (ho : OpR X (compareOp op) r) (hr : OpD X r f) (ho' : OpR X (compareOp op') r') (hr' : OpD X r' g) (ha : DE X W env a ma) (hb : DE X W env b mb) (hc : DE X W env c mc)
    (hm : lastMarks [op, op'] [b, c] = false := by with_unfolding_all rfl) : DT X W env (.Compare a [op, op'] [b, c] pos) (do let v ← (do let x ← ma; let y ← mb; chainM f g x y mc); asB v) := dt_of (pt_chain ho ho' ha hb hc hm) (tChain_from hr hr')
theorem gt_ok : OpD X (rI0 fun i j => .bl (decide (j < i))) gtM := int2_ok fun _ _ _ _ _ => Rep.bl
theorem ge_ok : OpD X (rI0 fun i j => .bl (decide (j ≤ i))) geM := int2_ok fun _ _ _ _ _ => Rep.bl
end

/-! ### what stands of a def; a def that keeps its promise -/
structure Dfn (K : Fg) (mg : Str → Option Value) (x qual : Str) (st : Stmt) (ps : List Str) : Prop where
  ex : ∃ (f : Addr) (fd : FuncData), Fun K x qual st f fd ∧ mg x = some (.ref f) ∧ PySem.W.keepIn K (.ref f) = true ∧ Binds K fd ps []
structure Cal (P : Program) (w : World) (K : Fg) (mg : Str → Option Value) (base : Heap) (x : Str) (k n : Nat) (g : List D → M D) : Prop where
  ex : ∃ (f : Addr) (fd : FuncData) (ps : List Str), FnOk P w K mg base (L2N.CX P w) k f fd ps (spD K mg n g) ∧ mg x = some (.ref f) ∧ PySem.W.keepIn K (.ref f) = true ∧ Binds K fd ps []
theorem Dfn.cal {P : Program} {w : World} {K : Fg} {mg : Str → Option Value} {base : Heap} {x qual : Str} {st : Stmt} {ps : List Str} {k n : Nat} {g : List D → M D} (D : Dfn K mg x qual st ps)
    (h : ∀ (f : Addr) (fd : FuncData), Fun K x qual st f fd → FnOk P w K mg base (L2N.CX P w) k f fd ps (spD K mg n g)) : Cal P w K mg base x k n g := by
  obtain ⟨f, fd, F, hm, hk, hb⟩ := D.ex
  exact ⟨f, fd, ps, h f fd F, hm, hk, hb⟩
section
variable {X : Cx} {W : WX} {env : Env} {pos : Pos} {k : Nat} {x : Str} {p : Pos}
theorem de_c1 {ex1 : Expr} {mm1 : M D} {g : D → M D} (C : Cal X.prog X.w X.K X.mg X.base x k 1 (app1 g)) (hr : Room k X.A) (tk : L2N.Takes X W) (hh1 : DE X W env ex1 mm1)
    (hg : Gl X x := by rfl) (hdb : (x == ("__debug__" : Str)) = false := by decide) (ss1 : starEach [ex1] X.env = (false, eval ex1 X.env) :: starEach [] X.env := by rfl) (hpl : (backTo pos (starEach [] X.env)).any (·.1) = false := by rfl) :
    DE X W env (.Call (.Name x p) [ex1] [] pos) (do let x1 ← mm1; g x1) := by
  obtain ⟨f, fd, ps, G, hm, hk, hb⟩ := C.ex
  exact de_call1 G hr hm hk hb tk hh1 hg hdb ss1 hpl
theorem de_p1 {ex1 : Expr} {mm1 : M D} {g : D → M D} (C : Cal X.prog X.w X.K X.mg X.base x k 1 (app1 g)) (hr : Room k X.A) (tk : L2N.Takes X W) (hh1 : DE X W env ex1 mm1)
    (hg : Gl X x := by rfl) (hdb : (x == ("__debug__" : Str)) = false := by decide) (ss1 : starEach [ex1] X.env = (false, eval ex1 X.env) :: starEach [] X.env := by rfl) (hpl : (backTo pos (starEach [] X.env)).any (·.1) = false := by rfl) :
    DE X W env (.Call (.Name x p) [ex1] [] pos) (do let x1 ← mm1; pcallM (app1 g) [x1]) := by
  obtain ⟨f, fd, ps, G, hm, hk, hb⟩ := C.ex
  exact de_pcall1 G hr hm hk hb tk hh1 hg hdb ss1 hpl
theorem de_c2 {ex1 ex2 : Expr} {mm1 mm2 : M D} {g : D → D → M D} (C : Cal X.prog X.w X.K X.mg X.base x k 2 (app2 g)) (hr : Room k X.A) (tk : L2N.Takes X W) (hh1 : DE X W env ex1 mm1) (hh2 : DE X W env ex2 mm2)
    (hg : Gl X x := by rfl) (hdb : (x == ("__debug__" : Str)) = false := by decide) (ss1 : starEach [ex1, ex2] X.env = (false, eval ex1 X.env) :: starEach [ex2] X.env := by rfl) (ss2 : starEach [ex2] X.env = (false, eval ex2 X.env) :: starEach [] X.env := by rfl) (hpl : (backTo pos (starEach [ex2] X.env)).any (·.1) = false := by rfl) :
    DE X W env (.Call (.Name x p) [ex1, ex2] [] pos) (do let x1 ← mm1; let x2 ← mm2; g x1 x2) := by
  obtain ⟨f, fd, ps, G, hm, hk, hb⟩ := C.ex
  exact de_call2 G hr hm hk hb tk hh1 hh2 hg hdb ss1 ss2 hpl
theorem de_p2 {ex1 ex2 : Expr} {mm1 mm2 : M D} {g : D → D → M D} (C : Cal X.prog X.w X.K X.mg X.base x k 2 (app2 g)) (hr : Room k X.A) (tk : L2N.Takes X W) (hh1 : DE X W env ex1 mm1) (hh2 : DE X W env ex2 mm2)
    (hg : Gl X x := by rfl) (hdb : (x == ("__debug__" : Str)) = false := by decide) (ss1 : starEach [ex1, ex2] X.env = (false, eval ex1 X.env) :: starEach [ex2] X.env := by rfl) (ss2 : starEach [ex2] X.env = (false, eval ex2 X.env) :: starEach [] X.env := by rfl) (hpl : (backTo pos (starEach [ex2] X.env)).any (·.1) = false := by rfl) :
    DE X W env (.Call (.Name x p) [ex1, ex2] [] pos) (do let x1 ← mm1; let x2 ← mm2; pcallM (app2 g) [x1, x2]) := by
  obtain ⟨f, fd, ps, G, hm, hk, hb⟩ := C.ex
  exact de_pcall2 G hr hm hk hb tk hh1 hh2 hg hdb ss1 ss2 hpl
theorem de_c3 {ex1 ex2 ex3 : Expr} {mm1 mm2 mm3 : M D} {g : D → D → D → M D} (C : Cal X.prog X.w X.K X.mg X.base x k 3 (app3 g)) (hr : Room k X.A) (tk : L2N.Takes X W) (hh1 : DE X W env ex1 mm1) (hh2 : DE X W env ex2 mm2) (hh3 : DE X W env ex3 mm3)
    (hg : Gl X x := by rfl) (hdb : (x == ("__debug__" : Str)) = false := by decide) (ss1 : starEach [ex1, ex2, ex3] X.env = (false, eval ex1 X.env) :: starEach [ex2, ex3] X.env := by rfl) (ss2 : starEach [ex2, ex3] X.env = (false, eval ex2 X.env) :: starEach [ex3] X.env := by rfl) (ss3 : starEach [ex3] X.env = (false, eval ex3 X.env) :: starEach [] X.env := by rfl) (hpl : (backTo pos (starEach [ex2, ex3] X.env)).any (·.1) = false := by rfl) :
    DE X W env (.Call (.Name x p) [ex1, ex2, ex3] [] pos) (do let x1 ← mm1; let x2 ← mm2; let x3 ← mm3; g x1 x2 x3) := by
  obtain ⟨f, fd, ps, G, hm, hk, hb⟩ := C.ex
  exact de_call3 G hr hm hk hb tk hh1 hh2 hh3 hg hdb ss1 ss2 ss3 hpl
theorem de_p3 {ex1 ex2 ex3 : Expr} {mm1 mm2 mm3 : M D} {g : D → D → D → M D} (C : Cal X.prog X.w X.K X.mg X.base x k 3 (app3 g)) (hr : Room k X.A) (tk : L2N.Takes X W) (hh1 : DE X W env ex1 mm1) (hh2 : DE X W env ex2 mm2) (hh3 : DE X W env ex3 mm3)
    (hg : Gl X x := by rfl) (hdb : (x == ("__debug__" : Str)) = false := by decide) (ss1 : starEach [ex1, ex2, ex3] X.env = (false, eval ex1 X.env) :: starEach [ex2, ex3] X.env := by rfl) (ss2 : starEach [ex2, ex3] X.env = (false, eval ex2 X.env) :: starEach [ex3] X.env := by rfl) (ss3 : starEach [ex3] X.env = (false, eval ex3 X.env) :: starEach [] X.env := by rfl) (hpl : (backTo pos (starEach [ex2, ex3] X.env)).any (·.1) = false := by rfl) :
    DE X W env (.Call (.Name x p) [ex1, ex2, ex3] [] pos) (do let x1 ← mm1; let x2 ← mm2; let x3 ← mm3; pcallM (app3 g) [x1, x2, x3]) := by
  obtain ⟨f, fd, ps, G, hm, hk, hb⟩ := C.ex
  exact de_pcall3 G hr hm hk hb tk hh1 hh2 hh3 hg hdb ss1 ss2 ss3 hpl
theorem de_c4 {ex1 ex2 ex3 ex4 : Expr} {mm1 mm2 mm3 mm4 : M D} {g : D → D → D → D → M D} (C : Cal X.prog X.w X.K X.mg X.base x k 4 (app4 g)) (hr : Room k X.A) (tk : L2N.Takes X W) (hh1 : DE X W env ex1 mm1) (hh2 : DE X W env ex2 mm2) (hh3 : DE X W env ex3 mm3) (hh4 : DE X W env ex4 mm4)
    (hg : Gl X x := by rfl) (hdb : (x == ("__debug__" : Str)) = false := by decide) (ss1 : starEach [ex1, ex2, ex3, ex4] X.env = (false, eval ex1 X.env) :: starEach [ex2, ex3, ex4] X.env := by rfl) (ss2 : starEach [ex2, ex3, ex4] X.env = (false, eval ex2 X.env) :: starEach [ex3, ex4] X.env := by rfl) (ss3 : starEach [ex3, ex4] X.env = (false, eval ex3 X.env) :: starEach [ex4] X.env := by rfl) (ss4 : starEach [ex4] X.env = (false, eval ex4 X.env) :: starEach [] X.env := by rfl) (hpl : (backTo pos (starEach [ex2, ex3, ex4] X.env)).any (·.1) = false := by rfl) :
    DE X W env (.Call (.Name x p) [ex1, ex2, ex3, ex4] [] pos) (do let x1 ← mm1; let x2 ← mm2; let x3 ← mm3; let x4 ← mm4; g x1 x2 x3 x4) := by
  obtain ⟨f, fd, ps, G, hm, hk, hb⟩ := C.ex
  exact de_call4 G hr hm hk hb tk hh1 hh2 hh3 hh4 hg hdb ss1 ss2 ss3 ss4 hpl
theorem de_p4 {ex1 ex2 ex3 ex4 : Expr} {mm1 mm2 mm3 mm4 : M D} {g : D → D → D → D → M D} (C : Cal X.prog X.w X.K X.mg X.base x k 4 (app4 g)) (hr : Room k X.A) (tk : L2N.Takes X W) (hh1 : DE X W env ex1 mm1) (hh2 : DE X W env ex2 mm2) (hh3 : DE X W env ex3 mm3) (hh4 : DE X W env ex4 mm4)
    (hg : Gl X x := by rfl) (hdb : (x == ("__debug__" : Str)) = false := by decide) (ss1 : starEach [ex1, ex2, ex3, ex4] X.env = (false, eval ex1 X.env) :: starEach [ex2, ex3, ex4] X.env := by rfl) (ss2 : starEach [ex2, ex3, ex4] X.env = (false, eval ex2 X.env) :: starEach [ex3, ex4] X.env := by rfl) (ss3 : starEach [ex3, ex4] X.env = (false, eval ex3 X.env) :: starEach [ex4] X.env := by rfl) (ss4 : starEach [ex4] X.env = (false, eval ex4 X.env) :: starEach [] X.env := by rfl) (hpl : (backTo pos (starEach [ex2, ex3, ex4] X.env)).any (·.1) = false := by rfl) :
    DE X W env (.Call (.Name x p) [ex1, ex2, ex3, ex4] [] pos) (do let x1 ← mm1; let x2 ← mm2; let x3 ← mm3; let x4 ← mm4; pcallM (app4 g) [x1, x2, x3, x4]) := by
  obtain ⟨f, fd, ps, G, hm, hk, hb⟩ := C.ex
  exact de_pcall4 G hr hm hk hb tk hh1 hh2 hh3 hh4 hg hdb ss1 ss2 ss3 ss4 hpl
theorem de_c5 {ex1 ex2 ex3 ex4 ex5 : Expr} {mm1 mm2 mm3 mm4 mm5 : M D} {g : D → D → D → D → D → M D} (C : Cal X.prog X.w X.K X.mg X.base x k 5 (app5 g)) (hr : Room k X.A) (tk : L2N.Takes X W) (hh1 : DE X W env ex1 mm1) (hh2 : DE X W env ex2 mm2) (hh3 : DE X W env ex3 mm3) (hh4 : DE X W env ex4 mm4) (hh5 : DE X W env ex5 mm5)
    (hg : Gl X x := by rfl) (hdb : (x == ("__debug__" : Str)) = false := by decide) (ss1 : starEach [ex1, ex2, ex3, ex4, ex5] X.env = (false, eval ex1 X.env) :: starEach [ex2, ex3, ex4, ex5] X.env := by rfl) (ss2 : starEach [ex2, ex3, ex4, ex5] X.env = (false, eval ex2 X.env) :: starEach [ex3, ex4, ex5] X.env := by rfl) (ss3 : starEach [ex3, ex4, ex5] X.env = (false, eval ex3 X.env) :: starEach [ex4, ex5] X.env := by rfl) (ss4 : starEach [ex4, ex5] X.env = (false, eval ex4 X.env) :: starEach [ex5] X.env := by rfl) (ss5 : starEach [ex5] X.env = (false, eval ex5 X.env) :: starEach [] X.env := by rfl) (hpl : (backTo pos (starEach [ex2, ex3, ex4, ex5] X.env)).any (·.1) = false := by rfl) :
    DE X W env (.Call (.Name x p) [ex1, ex2, ex3, ex4, ex5] [] pos) (do let x1 ← mm1; let x2 ← mm2; let x3 ← mm3; let x4 ← mm4; let x5 ← mm5; g x1 x2 x3 x4 x5) := by
  obtain ⟨f, fd, ps, G, hm, hk, hb⟩ := C.ex
  exact de_call5 G hr hm hk hb tk hh1 hh2 hh3 hh4 hh5 hg hdb ss1 ss2 ss3 ss4 ss5 hpl
theorem de_p5 {ex1 ex2 ex3 ex4 ex5 : Expr} {mm1 mm2 mm3 mm4 mm5 : M D} {g : D → D → D → D → D → M D} (C : Cal X.prog X.w X.K X.mg X.base x k 5 (app5 g)) (hr : Room k X.A) (tk : L2N.Takes X W) (hh1 : DE X W env ex1 mm1) (hh2 : DE X W env ex2 mm2) (hh3 : DE X W env ex3 mm3) (hh4 : DE X W env ex4 mm4) (hh5 : DE X W env ex5 mm5)
    (hg : Gl X x := by rfl) (hdb : (x == ("__debug__" : Str)) = false := by decide) (ss1 : starEach [ex1, ex2, ex3, ex4, ex5] X.env = (false, eval ex1 X.env) :: starEach [ex2, ex3, ex4, ex5] X.env := by rfl) (ss2 : starEach [ex2, ex3, ex4, ex5] X.env = (false, eval ex2 X.env) :: starEach [ex3, ex4, ex5] X.env := by rfl) (ss3 : starEach [ex3, ex4, ex5] X.env = (false, eval ex3 X.env) :: starEach [ex4, ex5] X.env := by rfl) (ss4 : starEach [ex4, ex5] X.env = (false, eval ex4 X.env) :: starEach [ex5] X.env := by rfl) (ss5 : starEach [ex5] X.env = (false, eval ex5 X.env) :: starEach [] X.env := by rfl) (hpl : (backTo pos (starEach [ex2, ex3, ex4, ex5] X.env)).any (·.1) = false := by rfl) :
    DE X W env (.Call (.Name x p) [ex1, ex2, ex3, ex4, ex5] [] pos) (do let x1 ← mm1; let x2 ← mm2; let x3 ← mm3; let x4 ← mm4; let x5 ← mm5; pcallM (app5 g) [x1, x2, x3, x4, x5]) := by
  obtain ⟨f, fd, ps, G, hm, hk, hb⟩ := C.ex
  exact de_pcall5 G hr hm hk hb tk hh1 hh2 hh3 hh4 hh5 hg hdb ss1 ss2 ss3 ss4 ss5 hpl
theorem de_c6 {ex1 ex2 ex3 ex4 ex5 ex6 : Expr} {mm1 mm2 mm3 mm4 mm5 mm6 : M D} {g : D → D → D → D → D → D → M D} (C : Cal X.prog X.w X.K X.mg X.base x k 6 (app6 g)) (hr : Room k X.A) (tk : L2N.Takes X W) (hh1 : DE X W env ex1 mm1) (hh2 : DE X W env ex2 mm2) (hh3 : DE X W env ex3 mm3) (hh4 : DE X W env ex4 mm4) (hh5 : DE X W env ex5 mm5) (hh6 : DE X W env ex6 mm6)
    (hg : Gl X x := by rfl) (hdb : (x == ("__debug__" : Str)) = false := by decide) (ss1 : starEach [ex1, ex2, ex3, ex4, ex5, ex6] X.env = (false, eval ex1 X.env) :: starEach [ex2, ex3, ex4, ex5, ex6] X.env := by rfl) (ss2 : starEach [ex2, ex3, ex4, ex5, ex6] X.env = (false, eval ex2 X.env) :: starEach [ex3, ex4, ex5, ex6] X.env := by rfl) (ss3 : starEach [ex3, ex4, ex5, ex6] X.env = (false, eval ex3 X.env) :: starEach [ex4, ex5, ex6] X.env := by rfl) (ss4 : starEach [ex4, ex5, ex6] X.env = (false, eval ex4 X.env) :: starEach [ex5, ex6] X.env := by rfl) (ss5 : starEach [ex5, ex6] X.env = (false, eval ex5 X.env) :: starEach [ex6] X.env := by rfl) (ss6 : starEach [ex6] X.env = (false, eval ex6 X.env) :: starEach [] X.env := by rfl) (hpl : (backTo pos (starEach [ex2, ex3, ex4, ex5, ex6] X.env)).any (·.1) = false := by rfl) :
    DE X W env (.Call (.Name x p) [ex1, ex2, ex3, ex4, ex5, ex6] [] pos) (do let x1 ← mm1; let x2 ← mm2; let x3 ← mm3; let x4 ← mm4; let x5 ← mm5; let x6 ← mm6; g x1 x2 x3 x4 x5 x6) := by
  obtain ⟨f, fd, ps, G, hm, hk, hb⟩ := C.ex
  exact de_call6 G hr hm hk hb tk hh1 hh2 hh3 hh4 hh5 hh6 hg hdb ss1 ss2 ss3 ss4 ss5 ss6 hpl
theorem de_p6 {ex1 ex2 ex3 ex4 ex5 ex6 : Expr} {mm1 mm2 mm3 mm4 mm5 mm6 : M D} {g : D → D → D → D → D → D → M D} (C : Cal X.prog X.w X.K X.mg X.base x k 6 (app6 g)) (hr : Room k X.A) (tk : L2N.Takes X W) (hh1 : DE X W env ex1 mm1) (hh2 : DE X W env ex2 mm2) (hh3 : DE X W env ex3 mm3) (hh4 : DE X W env ex4 mm4) (hh5 : DE X W env ex5 mm5) (hh6 : DE X W env ex6 mm6)
    (hg : Gl X x := by rfl) (hdb : (x == ("__debug__" : Str)) = false := by decide) (ss1 : starEach [ex1, ex2, ex3, ex4, ex5, ex6] X.env = (false, eval ex1 X.env) :: starEach [ex2, ex3, ex4, ex5, ex6] X.env := by rfl) (ss2 : starEach [ex2, ex3, ex4, ex5, ex6] X.env = (false, eval ex2 X.env) :: starEach [ex3, ex4, ex5, ex6] X.env := by rfl) (ss3 : starEach [ex3, ex4, ex5, ex6] X.env = (false, eval ex3 X.env) :: starEach [ex4, ex5, ex6] X.env := by rfl) (ss4 : starEach [ex4, ex5, ex6] X.env = (false, eval ex4 X.env) :: starEach [ex5, ex6] X.env := by rfl) (ss5 : starEach [ex5, ex6] X.env = (false, eval ex5 X.env) :: starEach [ex6] X.env := by rfl) (ss6 : starEach [ex6] X.env = (false, eval ex6 X.env) :: starEach [] X.env := by rfl) (hpl : (backTo pos (starEach [ex2, ex3, ex4, ex5, ex6] X.env)).any (·.1) = false := by rfl) :
    DE X W env (.Call (.Name x p) [ex1, ex2, ex3, ex4, ex5, ex6] [] pos) (do let x1 ← mm1; let x2 ← mm2; let x3 ← mm3; let x4 ← mm4; let x5 ← mm5; let x6 ← mm6; pcallM (app6 g) [x1, x2, x3, x4, x5, x6]) := by
  obtain ⟨f, fd, ps, G, hm, hk, hb⟩ := C.ex
  exact de_pcall6 G hr hm hk hb tk hh1 hh2 hh3 hh4 hh5 hh6 hg hdb ss1 ss2 ss3 ss4 ss5 ss6 hpl
theorem de_c7 {ex1 ex2 ex3 ex4 ex5 ex6 ex7 : Expr} {mm1 mm2 mm3 mm4 mm5 mm6 mm7 : M D} {g : D → D → D → D → D → D → D → M D} (C : Cal X.prog X.w X.K X.mg X.base x k 7 (app7 g)) (hr : Room k X.A) (tk : L2N.Takes X W) (hh1 : DE X W env ex1 mm1) (hh2 : DE X W env ex2 mm2) (hh3 : DE X W env ex3 mm3) (hh4 : DE X W env ex4 mm4) (hh5 : DE X W env ex5 mm5) (hh6 : DE X W env ex6 mm6) (hh7 : DE X W env ex7 mm7)
    (hg : Gl X x := by rfl) (hdb : (x == ("__debug__" : Str)) = false := by decide) (ss1 : starEach [ex1, ex2, ex3, ex4, ex5, ex6, ex7] X.env = (false, eval ex1 X.env) :: starEach [ex2, ex3, ex4, ex5, ex6, ex7] X.env := by rfl) (ss2 : starEach [ex2, ex3, ex4, ex5, ex6, ex7] X.env = (false, eval ex2 X.env) :: starEach [ex3, ex4, ex5, ex6, ex7] X.env := by rfl) (ss3 : starEach [ex3, ex4, ex5, ex6, ex7] X.env = (false, eval ex3 X.env) :: starEach [ex4, ex5, ex6, ex7] X.env := by rfl) (ss4 : starEach [ex4, ex5, ex6, ex7] X.env = (false, eval ex4 X.env) :: starEach [ex5, ex6, ex7] X.env := by rfl) (ss5 : starEach [ex5, ex6, ex7] X.env = (false, eval ex5 X.env) :: starEach [ex6, ex7] X.env := by rfl) (ss6 : starEach [ex6, ex7] X.env = (false, eval ex6 X.env) :: starEach [ex7] X.env := by rfl) (ss7 : starEach [ex7] X.env = (false, eval ex7 X.env) :: starEach [] X.env := by rfl) (hpl : (backTo pos (starEach [ex2, ex3, ex4, ex5, ex6, ex7] X.env)).any (·.1) = false := by rfl) :
    DE X W env (.Call (.Name x p) [ex1, ex2, ex3, ex4, ex5, ex6, ex7] [] pos) (do let x1 ← mm1; let x2 ← mm2; let x3 ← mm3; let x4 ← mm4; let x5 ← mm5; let x6 ← mm6; let x7 ← mm7; g x1 x2 x3 x4 x5 x6 x7) := by
  obtain ⟨f, fd, ps, G, hm, hk, hb⟩ := C.ex
  exact de_call7 G hr hm hk hb tk hh1 hh2 hh3 hh4 hh5 hh6 hh7 hg hdb ss1 ss2 ss3 ss4 ss5 ss6 ss7 hpl
theorem de_p7 {ex1 ex2 ex3 ex4 ex5 ex6 ex7 : Expr} {mm1 mm2 mm3 mm4 mm5 mm6 mm7 : M D} {g : D → D → D → D → D → D → D → M D} (C : Cal X.prog X.w X.K X.mg X.base x k 7 (app7 g)) (hr : Room k X.A) (tk : L2N.Takes X W) (hh1 : DE X W env ex1 mm1) (hh2 : DE X W env ex2 mm2) (hh3 : DE X W env ex3 mm3) (hh4 : DE X W env ex4 mm4) (hh5 : DE X W env ex5 mm5) (hh6 : DE X W env ex6 mm6) (hh7 : DE X W env ex7 mm7)
    (hg : Gl X x := by rfl) (hdb : (x == ("__debug__" : Str)) = false := by decide) (ss1 : starEach [ex1, ex2, ex3, ex4, ex5, ex6, ex7] X.env = (false, eval ex1 X.env) :: starEach [ex2, ex3, ex4, ex5, ex6, ex7] X.env := by rfl) (ss2 : starEach [ex2, ex3, ex4, ex5, ex6, ex7] X.env = (false, eval ex2 X.env) :: starEach [ex3, ex4, ex5, ex6, ex7] X.env := by rfl) (ss3 : starEach [ex3, ex4, ex5, ex6, ex7] X.env = (false, eval ex3 X.env) :: starEach [ex4, ex5, ex6, ex7] X.env := by rfl) (ss4 : starEach [ex4, ex5, ex6, ex7] X.env = (false, eval ex4 X.env) :: starEach [ex5, ex6, ex7] X.env := by rfl) (ss5 : starEach [ex5, ex6, ex7] X.env = (false, eval ex5 X.env) :: starEach [ex6, ex7] X.env := by rfl) (ss6 : starEach [ex6, ex7] X.env = (false, eval ex6 X.env) :: starEach [ex7] X.env := by rfl) (ss7 : starEach [ex7] X.env = (false, eval ex7 X.env) :: starEach [] X.env := by rfl) (hpl : (backTo pos (starEach [ex2, ex3, ex4, ex5, ex6, ex7] X.env)).any (·.1) = false := by rfl) :
    DE X W env (.Call (.Name x p) [ex1, ex2, ex3, ex4, ex5, ex6, ex7] [] pos) (do let x1 ← mm1; let x2 ← mm2; let x3 ← mm3; let x4 ← mm4; let x5 ← mm5; let x6 ← mm6; let x7 ← mm7; pcallM (app7 g) [x1, x2, x3, x4, x5, x6, x7]) := by
  obtain ⟨f, fd, ps, G, hm, hk, hb⟩ := C.ex
  exact de_pcall7 G hr hm hk hb tk hh1 hh2 hh3 hh4 hh5 hh6 hh7 hg hdb ss1 ss2 ss3 ss4 ss5 ss6 ss7 hpl
theorem de_c8 {ex1 ex2 ex3 ex4 ex5 ex6 ex7 ex8 : Expr} {mm1 mm2 mm3 mm4 mm5 mm6 mm7 mm8 : M D} {g : D → D → D → D → D → D → D → D → M D} (C : Cal X.prog X.w X.K X.mg X.base x k 8 (app8 g)) (hr : Room k X.A) (tk : L2N.Takes X W) (hh1 : DE X W env ex1 mm1) (hh2 : DE X W env ex2 mm2) (hh3 : DE X W env ex3 mm3) (hh4 : DE X W env ex4 mm4) (hh5 : DE X W env ex5 mm5) (hh6 : DE X W env ex6 mm6) (hh7 : DE X W env ex7 mm7) (hh8 : DE X W env ex8 mm8)
    (hg : Gl X x := by rfl) (hdb : (x == ("__debug__" : Str)) = false := by decide) (ss1 : starEach [ex1, ex2, ex3, ex4, ex5, ex6, ex7, ex8] X.env = (false, eval ex1 X.env) :: starEach [ex2, ex3, ex4, ex5, ex6, ex7, ex8] X.env := by rfl) (ss2 : starEach [ex2, ex3, ex4, ex5, ex6, ex7, ex8] X.env = (false, eval ex2 X.env) :: starEach [ex3, ex4, ex5, ex6, ex7, ex8] X.env := by rfl) (ss3 : starEach [ex3, ex4, ex5, ex6, ex7, ex8] X.env = (false, eval ex3 X.env) :: starEach [ex4, ex5, ex6, ex7, ex8] X.env := by rfl) (ss4 : starEach [ex4, ex5, ex6, ex7, ex8] X.env = (false, eval ex4 X.env) :: starEach [ex5, ex6, ex7, ex8] X.env := by rfl) (ss5 : starEach [ex5, ex6, ex7, ex8] X.env = (false, eval ex5 X.env) :: starEach [ex6, ex7, ex8] X.env := by rfl) (ss6 : starEach [ex6, ex7, ex8] X.env = (false, eval ex6 X.env) :: starEach [ex7, ex8] X.env := by rfl) (ss7 : starEach [ex7, ex8] X.env = (false, eval ex7 X.env) :: starEach [ex8] X.env := by rfl) (ss8 : starEach [ex8] X.env = (false, eval ex8 X.env) :: starEach [] X.env := by rfl) (hpl : (backTo pos (starEach [ex2, ex3, ex4, ex5, ex6, ex7, ex8] X.env)).any (·.1) = false := by rfl) :
    DE X W env (.Call (.Name x p) [ex1, ex2, ex3, ex4, ex5, ex6, ex7, ex8] [] pos) (do let x1 ← mm1; let x2 ← mm2; let x3 ← mm3; let x4 ← mm4; let x5 ← mm5; let x6 ← mm6; let x7 ← mm7; let x8 ← mm8; g x1 x2 x3 x4 x5 x6 x7 x8) := by
  obtain ⟨f, fd, ps, G, hm, hk, hb⟩ := C.ex
  exact de_call8 G hr hm hk hb tk hh1 hh2 hh3 hh4 hh5 hh6 hh7 hh8 hg hdb ss1 ss2 ss3 ss4 ss5 ss6 ss7 ss8 hpl
theorem de_p8 {ex1 ex2 ex3 ex4 ex5 ex6 ex7 ex8 : Expr} {mm1 mm2 mm3 mm4 mm5 mm6 mm7 mm8 : M D} {g : D → D → D → D → D → D → D → D → M D} (C : Cal X.prog X.w X.K X.mg X.base x k 8 (app8 g)) (hr : Room k X.A) (tk : L2N.Takes X W) (hh1 : DE X W env ex1 mm1) (hh2 : DE X W env ex2 mm2) (hh3 : DE X W env ex3 mm3) (hh4 : DE X W env ex4 mm4) (hh5 : DE X W env ex5 mm5) (hh6 : DE X W env ex6 mm6) (hh7 : DE X W env ex7 mm7) (hh8 : DE X W env ex8 mm8)
    (hg : Gl X x := by rfl) (hdb : (x == ("__debug__" : Str)) = false := by decide) (ss1 : starEach [ex1, ex2, ex3, ex4, ex5, ex6, ex7, ex8] X.env = (false, eval ex1 X.env) :: starEach [ex2, ex3, ex4, ex5, ex6, ex7, ex8] X.env := by rfl) (ss2 : starEach [ex2, ex3, ex4, ex5, ex6, ex7, ex8] X.env = (false, eval ex2 X.env) :: starEach [ex3, ex4, ex5, ex6, ex7, ex8] X.env := by rfl) (ss3 : starEach [ex3, ex4, ex5, ex6, ex7, ex8] X.env = (false, eval ex3 X.env) :: starEach [ex4, ex5, ex6, ex7, ex8] X.env := by rfl) (ss4 : starEach [ex4, ex5, ex6, ex7, ex8] X.env = (false, eval ex4 X.env) :: starEach [ex5, ex6, ex7, ex8] X.env := by rfl) (ss5 : starEach [ex5, ex6, ex7, ex8] X.env = (false, eval ex5 X.env) :: starEach [ex6, ex7, ex8] X.env := by rfl) (ss6 : starEach [ex6, ex7, ex8] X.env = (false, eval ex6 X.env) :: starEach [ex7, ex8] X.env := by rfl) (ss7 : starEach [ex7, ex8] X.env = (false, eval ex7 X.env) :: starEach [ex8] X.env := by rfl) (ss8 : starEach [ex8] X.env = (false, eval ex8 X.env) :: starEach [] X.env := by rfl) (hpl : (backTo pos (starEach [ex2, ex3, ex4, ex5, ex6, ex7, ex8] X.env)).any (·.1) = false := by rfl) :
    DE X W env (.Call (.Name x p) [ex1, ex2, ex3, ex4, ex5, ex6, ex7, ex8] [] pos) (do let x1 ← mm1; let x2 ← mm2; let x3 ← mm3; let x4 ← mm4; let x5 ← mm5; let x6 ← mm6; let x7 ← mm7; let x8 ← mm8; pcallM (app8 g) [x1, x2, x3, x4, x5, x6, x7, x8]) := by
  obtain ⟨f, fd, ps, G, hm, hk, hb⟩ := C.ex
  exact de_pcall8 G hr hm hk hb tk hh1 hh2 hh3 hh4 hh5 hh6 hh7 hh8 hg hdb ss1 ss2 ss3 ss4 ss5 ss6 ss7 ss8 hpl
end
/-! ### the law's end -/
/-- what the law's def is asked -/
def spLawD (K : Fg) (mg : Str → Option Value) (f : D → M D) : Sp := spD K mg 1 (app1 f)
theorem law_sp {K : Fg} {mg : Str → Option Value} {f : D → M D} {H : Hp} {a : Addr} {ns : List Int} (hS : SqL K H a (ns.map V.int)) (h : ∃ ah, f (.lst (ns.map D.int)) [] = .ok (.bl true) ah) :
    spLawD K mg f [.ref a] H (fun v _ => v = .bl true) fun _ _ _ => False := by
  obtain ⟨ah, h⟩ := h
  have ri : ∀ ns : List Int, RepL K H [] (ns.map D.int) (ns.map V.int) := by
    intro ns
    induction ns with
    | nil => exact RepL.nil
    | cons n r ih => exact RepL.cons Rep.int ih
  refine ⟨rfl, ⟨H, H, []⟩, H, [], [], [.lst (ns.map D.int)], ⟨fun _ _ h => h, rfl, List.nodup_nil, (fun i c h => by simp at h), (fun _ _ h _ => h), (fun a h => nomatch h), (fun i a h => by simp at h), (fun a h => nomatch h), fun _ _ h => .inl h⟩, RepL.cons ?_ RepL.nil, ?_⟩
  · unfold Rep
    exact ⟨a, _, rfl, hS, ri ns⟩
  · show TK K mg _ _ (Rep K) [] H [] (f (.lst (ns.map D.int)) []) _
    rw [h]
    intro F' m' v H' e s r
    unfold Rep at r
    exact r
end Lw

/-! SimI: a def's facts, the law's end. -/
namespace Lw
open PySem L2

/-- for turns -/
def natD : D → Nat
  | .int i => i.toNat
  | _ => 0
theorem dfn_mk {K : Fg} {h : Heap} {mg : Str → Option Value} {x qual : Str} {st : Stmt} {ps : List Str} {f : Addr} {od an : Option Addr} {sl : Array (Option Value)} {oc kV dc pm cd ct : Value}
    (b : ∀ (kV doc pm : Value) (an : Option Addr) (cdv ct : Value) (us : List Value), us.length = ps.length → bindArgs (PySem.W.fnOf x qual (defArgs st) (defBody st) (defScope st) .none kV doc pm an cdv ct) ⟨us, []⟩ = pure (ps.zip us))
    (X : K.In h) (G : h.Ns mainGlobals mg) (a : PySem.W.nsIn K mainGlobals x = some (some (.ref f)))
    (l : K.lookup f = some ⟨oc, od, .func (PySem.W.fnOf x qual (defArgs st) (defBody st) (defScope st) .none kV dc pm an cd ct), sl⟩)
    (c : PySem.W.codeIn K cd qual = true) (k : PySem.W.keepIn K (.ref f) = true) : Dfn K mg x qual st ps :=
  ⟨⟨f, _, fun_mk l c k, PySem.W.mg_of X G a, k, (fun_mk l c k).binds b⟩⟩

/-- what the law's def is asked, by the script alone -/
def spEnd (K : Fg) : Sp := fun vs H Q E => ∃ (a : Addr) (ns : List Int), vs = [.ref a] ∧ SqL K H a (ns.map V.int) ∧ ns.length ≤ 63 ∧ (∀ z ∈ ns, Builtin.Int.intBits z ≤ 1048576) ∧ Q = (fun v _ => v = .bl true) ∧ E = fun _ _ _ => False
theorem walkD {l : PySem.W.OpenLaw} {q : Program} {loose : List Str} {XP : (Str → Option Value) → Heap → Prop} {YP : World → Heap → Prop} {d : DefRec} {K : Params → Fg} {g : D → M D} {k : Nat} {x : Str} {st : Stmt}
    (hn : l.most = some 63) (hdf : d.params.defaults = []) (hr : Room k callerA) (hd : d.name = ("law" : Str)) (hY : ∀ (w : World) (h : Heap), YP w h → (K w.params).In h)
    (b : ∀ (kV doc pm : Value) (an : Option Addr) (cdv ct : Value) (s : Shared) (u : Value), BindsTo s (PySem.W.fnOf ("law" : Str) ("law" : Str) (defArgs st) (defBody st) (defScope st) .none kV doc pm an cdv ct) ⟨[u], []⟩ [(x, u)])
    (F : ∀ (w : World) (mg : Str → Option Value) (h : Heap), (K w.params).In h → h.Ns mainGlobals mg → Dfn (K w.params) mg "law" "law" st [x] ∧
      ∀ (base : Heap) (f : Addr) (fd : FuncData), Fun (K w.params) "law" "law" st f fd → FnOk l.prog w (K w.params) mg base (L2N.CX l.prog w) k f fd [x] (spD (K w.params) mg 1 (app1 g)))
    (G : ∀ ns : List Int, ns.length ≤ 63 → (∀ z ∈ ns, Builtin.Int.intBits z ≤ 1048576) → ∃ ah, g (.lst (ns.map D.int)) [] = .ok (.bl true) ah) :
    PySem.W.WalkO q loose XP YP l.row.toRowW d [] (fun f vs => PySem.call f vs) := by
  refine L2.walk_ofB (n := 63) (k := k) (x := x) (CX := fun w => L2N.CX l.prog w) (sp := fun w => spEnd (K w.params)) hn (by decide) hdf hr hY ?_ (fun w H a ns hl hb _ hS => ⟨a, ns, rfl, hS, hl, hb, rfl, rfl⟩) ?_
  · intro w mg fa h KX Gh hfa
    obtain ⟨⟨⟨f, fd, Fn, hm, hk, hb⟩⟩, hF⟩ := F w mg h KX Gh
    rw [hd, hm] at hfa
    cases hfa
    refine ⟨fd, ?_, fun base _ _ => (hF base _ fd Fn).imp fun vs H Q E hs => ?_⟩
    · obtain ⟨oc, od, kV, doc, pm, an, cdv, ct, osl, rfl, lk, hcd⟩ := Fn.ex
      exact fun s u => b kV doc pm an cdv ct s u
    · obtain ⟨a, ns, rfl, hS, hl, hb, rfl, rfl⟩ := hs
      exact law_sp (f := g) hS (G ns hl hb)
  · intro w H s e s' z
    obtain ⟨_, _, _, _, _, _, _, _, _, _, _, _, z⟩ := z
    exact z
end Lw

/-! SimJ: plain computations are run: rows to reckon with. -/
namespace Lw
open PySem L2

def Res.bd {α β : Type} (r : Res α) (f : α → M β) : Res β := match r with
  | .ok a h => f a h
  | .exc x h => .exc x h
  | .stuck => .stuck
section
variable {α β τ τ' : Type} {h : AH}
theorem r_bind (x : M α) (f : α → M β) : (x >>= f) h = (x h).bd f := by
  rw [bind_def]
  cases x h <;> rfl
theorem r_pure (a : α) : (pure a : M α) h = .ok a h := (rfl)
theorem r_ok (a : α) (f : α → M β) : (Res.ok a h).bd f = f a h := (rfl)
theorem r_exc (x : Str) (f : α → M β) : (Res.exc x h : Res α).bd f = .exc x h := (rfl)
theorem r_stuck (f : α → M β) : (Res.stuck : Res α).bd f = .stuck := (rfl)
theorem r_iteT (c : Bool) (a b : M α) (hc : c = true) : (if c = true then a else b) h = a h := by rw [if_pos hc]
theorem r_ite (c : Bool) (a b : M α) : (if c = true then a else b) h = if c = true then a h else b h := by
  cases c <;> rfl
theorem r_iteP (c : Prop) [Decidable c] (a b : M α) : (if c then a else b) h = if c then a h else b h := by
  by_cases q : c
  · rw [if_pos q, if_pos q]
  · rw [if_neg q, if_neg q]
theorem r_obind (x : M (Out τ' β)) (k : τ' → M (Out τ β)) : (obind x k) h = ores k (x h) := (rfl)
theorem r_nx (k : τ' → M (Out τ β)) (t : τ') : ores k (.ok (.nx t) h) = k t h := (rfl)
theorem r_ret (k : τ' → M (Out τ β)) (d : D) : ores k (.ok (.ret d) h) = .ok (.ret d) h := (rfl)
theorem r_bk (k : τ' → M (Out τ β)) (d : β) : ores k (.ok (.bk d) h) = .ok (.bk d) h := (rfl)
theorem r_ct (k : τ' → M (Out τ β)) (d : β) : ores k (.ok (.ct d) h) = .ok (.ct d) h := (rfl)
theorem r_oexc (k : τ' → M (Out τ β)) (x : Str) : ores k (.exc x h) = .exc x h := (rfl)
theorem r_lbind (x : M (Out τ τ)) (k : τ → M (Out τ β)) : (lbind x k) h = lres k (x h) := (rfl)
theorem r_lnx (k : τ → M (Out τ β)) (t : τ) : lres k (.ok (.nx t) h) = k t h := (rfl)
theorem r_lct (k : τ → M (Out τ β)) (t : τ) : lres k (.ok (.ct t) h) = k t h := (rfl)
theorem r_lbk (k : τ → M (Out τ β)) (t : τ) : lres k (.ok (.bk t) h) = .ok (.nx t) h := (rfl)
theorem r_lret (k : τ → M (Out τ β)) (d : D) : lres k (.ok (.ret d) h) = .ok (.ret d) h := (rfl)
theorem r_lexc (k : τ → M (Out τ β)) (x : Str) : lres k (.exc x h) = .exc x h := (rfl)
theorem r_for0 (t : τ) (f : D → τ → M (Out τ τ)) : (forM [] t f : M (Out τ β)) h = .ok (.nx t) h := (rfl)
theorem r_for (x : D) (r : List D) (t : τ) (f : D → τ → M (Out τ τ)) : (forM (x :: r) t f : M (Out τ β)) h = lres (fun t' => forM r t' f) (f x t h) := (rfl)
theorem r_while (n : Nat) (t : τ) (c : τ → M Bool) (f : τ → M (Out τ τ)) : (whileM (n + 1) t c f : M (Out τ β)) h = (c t h).bd (fun b => if b = true then lbind (f t) fun t' => whileM n t' c f else pure (.nx t)) := by
  show ((c t >>= fun b => if b = true then lbind (f t) fun t' => whileM n t' c f else pure (.nx t)) : M (Out τ β)) h = _
  rw [r_bind]
theorem r_def (x : M (Out τ β)) : defM x h = dres (x h) := (rfl)
theorem r_dnx (t : τ) : dres (.ok (.nx t) h : Res (Out τ β)) = .ok .non h := (rfl)
theorem r_dret (d : D) : dres (.ok (.ret d) h : Res (Out τ β)) = .ok d h := (rfl)
theorem r_dexc (x : Str) : dres (.exc x h : Res (Out τ β)) = .exc x h := (rfl)
theorem r_lift (a : α) : (liftO (some a) : M α) h = .ok a h := (rfl)
theorem r_throw (x : Str) : (throwM x : M α) h = .exc x h := (rfl)
/-- a loop that goes through -/
theorem for_run {f : D → τ → M (Out τ τ)} (I : Nat → τ → AH → Prop) : ∀ (xs : List D) (t : τ) (h : AH) (k : Nat), I k t h →
    (∀ (i : Nat) x t h, xs[i]? = some x → I (k + i) t h → ∃ t' h', f x t h = .ok (.nx t') h' ∧ I (k + i + 1) t' h') →
    ∃ t' h', (forM xs t f : M (Out τ β)) h = .ok (.nx t') h' ∧ I (k + xs.length) t' h'
  | [], t, h, k, hi, _ => ⟨t, h, rfl, hi⟩
  | x :: r, t, h, k, hi, hs => by
    obtain ⟨t1, h1, e1, i1⟩ := hs 0 x t h rfl hi
    obtain ⟨t2, h2, e2, i2⟩ := for_run I r t1 h1 (k + 1) i1 (fun i y t h hy hI => by
      have q := hs (i + 1) y t h (by simpa using hy) (by rw [show k + (i + 1) = k + 1 + i by omega]; exact hI)
      rw [show k + (i + 1) + 1 = k + 1 + i + 1 by omega] at q
      exact q)
    refine ⟨t2, h2, ?_, by rw [List.length_cons, show k + (r.length + 1) = k + 1 + r.length by omega]; exact i2⟩
    rw [r_for, e1]
    exact e2
end

/-! ### ints, truths -/
section
variable {h : AH} {i j : Int}
theorem addM_int : addM (.int i) (.int j) h = .ok (.int (i + j)) h := (rfl)
theorem subM_int : subM (.int i) (.int j) h = .ok (.int (i - j)) h := (rfl)
theorem int2c_run {c : Int → Int → Bool} {f : Int → Int → D} (q : c i j = true) : int2c c f (.int i) (.int j) h = .ok (f i j) h := by
  show (if c i j = true then pure (f i j) else stuck : M D) h = _
  rw [if_pos q]
  rfl
theorem mulM_int (c : i.natAbs.log2 + j.natAbs.log2 < 1000000) : mulM (.int i) (.int j) h = .ok (.int (i * j)) h := int2c_run (decide_eq_true c)
theorem fdivM_int (c : 0 < j) (c2 : j.natAbs.log2 < 9000) : fdivM (.int i) (.int j) h = .ok (.int (i / j)) h := int2c_run (decide_eq_true ⟨c, c2⟩)
theorem modM_int (c : 0 < j) : modM (.int i) (.int j) h = .ok (.int (i % j)) h := int2c_run (decide_eq_true c)
theorem powM_int (c : 0 ≤ j ∧ j ≤ 1000000 ∧ i.natAbs < 2 ^ 64) : powM (.int i) (.int j) h = .ok (.int (i ^ j.toNat)) h := int2c_run (decide_eq_true c)
theorem negM_int : negM (.int i) h = .ok (.int (-i)) h := (rfl)
theorem ltM_int : ltM (.int i) (.int j) h = .ok (.bl (decide (i < j))) h := (rfl)
theorem leM_int : leM (.int i) (.int j) h = .ok (.bl (decide (i ≤ j))) h := (rfl)
theorem gtM_int : gtM (.int i) (.int j) h = .ok (.bl (decide (j < i))) h := (rfl)
theorem geM_int : geM (.int i) (.int j) h = .ok (.bl (decide (j ≤ i))) h := (rfl)
theorem maxM_int : maxM (.int i) (.int j) h = .ok (.int (max i j)) h := by
  show Res.ok (D.int (if j > i then j else i)) h = _
  congr 2
  by_cases q : j > i
  · rw [if_pos q]
    omega
  · rw [if_neg q]
    omega
theorem minM_int : minM (.int i) (.int j) h = .ok (.int (min i j)) h := by
  show Res.ok (D.int (if j < i then j else i)) h = _
  congr 2
  by_cases q : j < i
  · rw [if_pos q]
    omega
  · rw [if_neg q]
    omega
theorem asB_bl {b : Bool} : asB (.bl b) h = .ok b h := (rfl)
theorem asI_int : asI (.int i) h = .ok (some i) h := (rfl)
theorem notV_bl {b : Bool} : notV (.bl b) h = .ok (.bl (!b)) h := (rfl)
theorem truM_bl {b : Bool} : truM (.bl b) h = .ok b h := (rfl)
theorem andV_bl {b : Bool} {m : M D} : andV (.bl b) m h = if b = true then m h else .ok (.bl false) h := by cases b <;> rfl
theorem orV_bl {b : Bool} {m : M D} : orV (.bl b) m h = if b = true then .ok (.bl true) h else m h := by cases b <;> rfl
theorem chainM_lt {f g : D → D → M D} {x y : D} {b : Bool} {m : M D} (e : f x y h = .ok (.bl b) h) : chainM f g x y m h = if b = true then (m h).bd (fun z => g y z) else .ok (.bl false) h := by
  show ((f x y >>= fun z => match z with | .bl true => (do let z ← m; g y z) | .bl false => pure (.bl false) | _ => stuck) : M D) h = _
  rw [r_bind, e, r_ok]
  cases b
  · rfl
  · show (m >>= fun z => g y z) h = _
    rw [r_bind]
    rfl
end

/-! ### lists, tuples -/
section
variable {h : AH} {xs ys : List D} {n : Nat} {i : Int} {d e : D}
theorem tupM_run (l : xs.length ≤ 1000000) : tupM xs h = .ok (.tup xs) h := by
  unfold tupM lenOk
  rw [if_pos (decide_eq_true (Nat.le_trans l (by decide)))]
  rfl
theorem lstM_run (l : xs.length ≤ 1000000) : lstM xs h = .ok (.lst xs) h := by
  unfold lstM lenOk
  rw [if_pos (decide_eq_true (Nat.le_trans l (by decide)))]
  rfl
theorem lstH_nil : lstH [] h = .ok (.ref h.length) (h ++ [.lst []]) := (rfl)
theorem lstH_run (l : xs.length ≤ 1000000) : lstH xs h = .ok (.ref h.length) (h ++ [.lst xs]) := by
  unfold lstH lenOk
  rw [if_pos (decide_eq_true (Nat.le_trans l (by decide)))]
  rfl
theorem lenM_tup : lenM (.tup xs) h = .ok (.int xs.length) h := (rfl)
theorem lenM_lst : lenM (.lst xs) h = .ok (.int xs.length) h := (rfl)
theorem lenM_ref (e : h[n]? = some (.lst xs)) : lenM (.ref n) h = .ok (.int xs.length) h := by
  unfold lenM lstOf
  simp only [e]
theorem ixM_tup (e : atI xs i = some d) : ixM (.tup xs) (.int i) h = .ok d h := by
  unfold ixM
  simp only [e]
theorem ixM_lst (e : atI xs i = some d) : ixM (.lst xs) (.int i) h = .ok d h := by
  unfold ixM lstOf
  simp only [e]
theorem ixM_ref (q : h[n]? = some (.lst xs)) (e : atI xs i = some d) : ixM (.ref n) (.int i) h = .ok d h := by
  unfold ixM lstOf
  simp only [q, e]
theorem atI_nat {α : Type} {xs : List α} {i : Nat} {x : α} (e : xs[i]? = some x) : atI xs (i : Int) = some x := by
  have hl := (List.getElem?_eq_some_iff.mp e).1
  unfold atI ixN
  rw [if_pos (by omega), if_pos (by omega)]
  show xs[(i : Int).toNat]? = _
  rw [Int.toNat_natCast]
  exact e
theorem atI_pos {α : Type} {xs : List α} {i : Int} {x : α} (h0 : 0 ≤ i) (e : xs[i.toNat]? = some x) : atI xs i = some x := by
  obtain ⟨n, rfl⟩ := Int.eq_ofNat_of_zero_le h0
  exact atI_nat (by simpa using e)
theorem atI_last {α : Type} {xs : List α} {x : α} : atI (xs ++ [x]) (-1) = some x := by
  unfold atI ixN
  rw [if_neg (by omega), if_pos (by rw [List.length_append, List.length_singleton]; omega)]
  show (xs ++ [x])[((-1 : Int) + ((xs ++ [x]).length : Nat)).toNat]? = _
  rw [List.length_append, List.length_singleton, show ((-1 : Int) + ((xs.length + 1 : Nat) : Int)).toNat = xs.length by omega]
  simp
theorem lchk_ref (e : h[n]? = some (.lst xs)) : lchk (.ref n) h = .ok () h := by
  unfold lchk lstOf
  simp only [e]
theorem appendM_ref (e : h[n]? = some (.lst xs)) (l : xs.length < 1000000) : appendM (.ref n) d h = .ok .non (h.set n (.lst (xs ++ [d]))) := by
  unfold appendM onLst lenOk
  simp only [e]
  rw [if_pos (decide_eq_true (Nat.le_trans (show xs.length + 1 ≤ 1000000 by omega) (by decide)))]
theorem setIxM_last (q : h[n]? = some (.lst (xs ++ [e]))) : setIxM (.ref n) (.int (-1)) d h = .ok () (h.set n (.lst (xs ++ [d]))) := by
  unfold setIxM
  simp only [q]
  have z : ixN (xs ++ [e]).length (-1) = some xs.length := by
    unfold ixN
    rw [if_neg (by omega), if_pos (by rw [List.length_append, List.length_singleton]; omega)]
    rw [List.length_append, List.length_singleton, show ((-1 : Int) + ((xs.length + 1 : Nat) : Int)).toNat = xs.length by omega]
  rw [z]
  simp
theorem setIxM_pos {v : D} {xs : List D} {i : Int} (q : h[n]? = some (.lst xs)) (h0 : 0 ≤ i) (h1 : i < xs.length) : setIxM (.ref n) (.int i) v h = .ok () (h.set n (.lst (xs.set i.toNat v))) := by
  unfold setIxM
  simp only [q]
  have z : ixN xs.length i = some i.toNat := by
    unfold ixN
    rw [if_pos h0, if_pos h1]
  rw [z]
theorem freezeM_ref (e : h[n]? = some (.lst xs)) : freezeM (.ref n) h = .ok (.lst xs) (h.set n .dead) := by
  unfold freezeM
  simp only [e]
theorem itemsM_tup : itemsM (.tup xs) h = .ok xs h := (rfl)
theorem itemsM_lst : itemsM (.lst xs) h = .ok xs h := (rfl)
theorem tupleM_tup : tupleM (.tup xs) h = .ok (.tup xs) h := (rfl)
theorem tupleM_lst : tupleM (.lst xs) h = .ok (.tup xs) h := (rfl)
theorem tupleM_ref (e : h[n]? = some (.lst xs)) : tupleM (.ref n) h = .ok (.tup xs) h := by
  unfold tupleM lstOf
  simp only [e]
theorem listM_tup : listM (.tup xs) h = .ok (.lst xs) h := (rfl)
theorem listM_lst : listM (.lst xs) h = .ok (.lst xs) h := (rfl)
theorem listM_ref (e : h[n]? = some (.lst xs)) : listM (.ref n) h = .ok (.lst xs) h := by
  unfold listM lstOf
  simp only [e]
theorem rng1M_run {j : Int} (a : -(2 ^ 62) ≤ j) (b : j < 2 ^ 62) : rng1M [.int j] h = .ok (rangeD 0 j.toNat) h := by
  show (if -(2 ^ 62) ≤ j ∧ j < 2 ^ 62 then pure (rangeD 0 j.toNat) else stuck : M (List D)) h = _
  rw [if_pos ⟨a, b⟩]
  rfl
theorem rng2M_run {i j : Int} (a : -(2 ^ 62) ≤ i) (b : i < 2 ^ 62) (c : -(2 ^ 62) ≤ j) (d : j < 2 ^ 62) : rng2M [.int i, .int j] h = .ok (rangeD i (j - i).toNat) h := by
  show (if -(2 ^ 62) ≤ i ∧ i < 2 ^ 62 ∧ -(2 ^ 62) ≤ j ∧ j < 2 ^ 62 then pure (rangeD i (j - i).toNat) else stuck : M (List D)) h = _
  rw [if_pos ⟨a, b, c, d⟩]
  rfl
theorem zipM_tup : zipM [.tup xs, .tup ys] h = .ok (zipD xs ys) h := (rfl)
theorem zipM_lst : zipM [.lst xs, .lst ys] h = .ok (zipD xs ys) h := (rfl)
theorem addM_tup (l : xs.length + ys.length ≤ 1000000) : addM (.tup xs) (.tup ys) h = .ok (.tup (xs ++ ys)) h := by
  unfold addM lenOk
  simp only []
  rw [if_pos (decide_eq_true (Nat.le_trans l (by decide)))]
theorem addM_lst (l : xs.length + ys.length ≤ 1000000) : addM (.lst xs) (.lst ys) h = .ok (.lst (xs ++ ys)) h := by
  unfold addM lenOk lstOf
  simp only []
  rw [if_pos (decide_eq_true (Nat.le_trans l (by decide)))]
theorem addM_str {x y : Str} (l : x.length + y.length ≤ 1000000) : addM (.str x) (.str y) h = .ok (.str (x ++ y)) h := by
  unfold addM lenOk
  simp only []
  rw [if_pos (decide_eq_true (Nat.le_trans l (by decide)))]
theorem sumM_lst {ns : List Int} : sumM (.lst (ns.map D.int)) h = .ok (.int ns.sum) h := by
  unfold sumM onInts lstOf
  simp only [intsOf_map]
theorem anyM_lst {ns : List Bool} : anyM (.lst (ns.map D.bl)) h = .ok (.bl (ns.any id)) h := by
  unfold anyM onBls lstOf
  simp only [blsOf_map]
theorem allM_lst {ns : List Bool} : allM (.lst (ns.map D.bl)) h = .ok (.bl (ns.all id)) h := by
  unfold allM onBls lstOf
  simp only [blsOf_map]
theorem sliceM_tup {lo hi : Option Int} : sliceM (.tup xs) lo hi h = .ok (.tup (cutD xs lo hi)) h := (rfl)
theorem sliceM_lst {lo hi : Option Int} : sliceM (.lst xs) lo hi h = .ok (.lst (cutD xs lo hi)) h := (rfl)
theorem sliceM_ref {lo hi : Option Int} (e : h[n]? = some (.lst xs)) : sliceM (.ref n) lo hi h = .ok (.lst (cutD xs lo hi)) h := by
  unfold sliceM lstOf
  simp only [e]
theorem cutD_take {α : Type} {xs : List α} {n : Nat} : cutD xs none (some (n : Int)) = xs.take n := by
  unfold cutD
  rw [HT.sIx_none, HT.sIx_nat, List.drop_zero, Nat.sub_zero]
  by_cases q : n ≤ xs.length
  · rw [Nat.min_eq_left q]
  · rw [Nat.min_eq_right (by omega), List.take_of_length_le (Nat.le_refl _), List.take_of_length_le (by omega)]
theorem cutD_drop {α : Type} {xs : List α} {n : Nat} : cutD xs (some (n : Int)) none = xs.drop n := by
  unfold cutD
  rw [HT.sIx_none, HT.sIx_nat]
  by_cases q : n ≤ xs.length
  · rw [Nat.min_eq_left q, List.take_of_length_le (by rw [List.length_drop]; omega)]
  · rw [Nat.min_eq_right (by omega), List.drop_of_length_le (Nat.le_refl _), List.drop_of_length_le (by omega)]
    simp
/-! comprehensions -/
theorem compM_run {f : D → M (List D)} : ∀ (xs : List D) (g : D → List D), (∀ x ∈ xs, f x h = .ok (g x) h) → compM xs f h = .ok (xs.map g).flatten h
  | [], g, _ => rfl
  | x :: r, g, q => by
    show (f x >>= fun ys => compM r f >>= fun zs => pure (ys ++ zs)) h = _
    rw [r_bind, q x List.mem_cons_self, r_ok, r_bind, compM_run r g fun y hy => q y (List.mem_cons_of_mem _ hy)]
    rfl
theorem lcM_run {f : D → M (List D)} (g : D → List D) (l : xs.length ≤ 1000000) (q : ∀ x ∈ xs, f x h = .ok (g x) h) : lcM xs f h = .ok (.lst (xs.map g).flatten) h := by
  unfold lcM lenOk
  rw [if_pos (decide_eq_true (Nat.le_trans l (by decide))), r_bind]
  unfold noexM
  rw [compM_run xs g q]
  rfl
/-- each item one -/
theorem lcM_map {α : Type} {f : D → M (List D)} {u : α → D} {v : α → D} {zs : List α} (l : zs.length ≤ 1000000) (q : ∀ x ∈ zs, f (u x) h = .ok [v x] h) : lcM (zs.map u) f h = .ok (.lst (zs.map v)) h := by
  have z : ∀ zs : List α, (∀ x ∈ zs, f (u x) h = .ok [v x] h) → compM (zs.map u) f h = .ok (zs.map v) h := by
    intro zs
    induction zs with
    | nil => intro _; rfl
    | cons a r ih =>
      intro q
      show (f (u a) >>= fun ys => compM (r.map u) f >>= fun zs => pure (ys ++ zs)) h = _
      rw [r_bind, q a List.mem_cons_self, r_ok, r_bind, ih fun y hy => q y (List.mem_cons_of_mem _ hy)]
      rfl
  unfold lcM lenOk
  rw [if_pos (decide_eq_true (Nat.le_trans (by rw [List.length_map]; exact l) (by decide))), r_bind]
  unfold noexM
  rw [z zs q]
  rfl
/-! calls -/
theorem noRefs_map {α : Type} {u : α → D} {zs : List α} (q : ∀ x, noRef (u x) = true) : noRefs (zs.map u) = true := by
  induction zs with
  | nil => rfl
  | cons a r ih =>
    show (noRef (u a) && noRefs (r.map u)) = true
    rw [q a, ih]
    rfl
theorem noRef_tup : noRef (.tup xs) = noRefs xs := by rw [noRef]
theorem noRef_lst : noRef (.lst xs) = noRefs xs := by rw [noRef]
theorem noRef_int : noRef (.int i) = true := by simp [noRef]
theorem noRef_bl {b : Bool} : noRef (.bl b) = true := by simp [noRef]
theorem noRef_str {x : Str} : noRef (.str x) = true := by simp [noRef]
theorem noRef_non : noRef .non = true := by simp [noRef]
theorem noRefs_nil : noRefs [] = true := (rfl)
theorem noRefs_cons : noRefs (d :: xs) = (noRef d && noRefs xs) := (rfl)
theorem pcallM_run {g : List D → M D} {ds : List D} {r : D} {k : AH} (a : noRefs ds = true) (e : g ds [] = .ok r k) (b : noRef r = true) : pcallM g ds h = .ok r h := by
  unfold pcallM
  rw [if_pos a, e]
  simp only [if_pos b]
theorem pcallM_exc {g : List D → M D} {ds : List D} {x : Str} {k : AH} (a : noRefs ds = true) (e : g ds [] = .exc x k) : pcallM g ds h = .exc x h := by
  unfold pcallM
  rw [if_pos a, e]
end

/-! ### == of data without truths -/
mutual
def nb : Nat → D → Bool
  | _, .non => true
  | _, .int _ => true
  | _, .str x => PyData.strOk x
  | n + 1, .tup xs => nbs n xs
  | n + 1, .lst xs => nbs n xs
  | _, _ => false
def nbs : Nat → List D → Bool
  | _, [] => true
  | n, d :: ds => nb n d && nbs n ds
end
mutual
theorem flat_nb : ∀ (n : Nat) (d : D), nb n d = true → flatD 0 d = true ∧ PyData.canLay0 (toP d) = true ∧ (toP d).depth ≤ n
  | n, .non, _ => ⟨rfl, rfl, Nat.zero_le _⟩
  | n, .int _, _ => ⟨rfl, rfl, Nat.zero_le _⟩
  | n, .str x, h => ⟨rfl, (by cases n <;> exact h), Nat.zero_le _⟩
  | 0, .tup xs, h => by
    unfold nb at h
    cases h
  | 0, .lst xs, h => by
    unfold nb at h
    cases h
  | n + 1, .tup xs, h => by
    unfold nb at h
    obtain ⟨a, b, c⟩ := flats_nb n xs h
    refine ⟨?_, ?_, ?_⟩
    · unfold flatD
      exact a
    · unfold toP PyData.canLay0
      exact b
    · unfold toP PyData.depth
      omega
  | n + 1, .lst xs, h => by
    unfold nb at h
    obtain ⟨a, b, c⟩ := flats_nb n xs h
    refine ⟨?_, ?_, ?_⟩
    · unfold flatD
      exact a
    · unfold toP PyData.canLay0
      exact b
    · unfold toP PyData.depth
      omega
  | n, .bl _, h => by
    cases n <;> (unfold nb at h; cases h)
  | n, .ref _, h => by
    cases n <;> (unfold nb at h; cases h)
  | n, .exn _ _, h => by
    cases n <;> (unfold nb at h; cases h)
  | n, .emp, h => by
    cases n <;> (unfold nb at h; cases h)
theorem flats_nb : ∀ (n : Nat) (ds : List D), nbs n ds = true → flatDs 0 ds = true ∧ PyData.canLayAll0 (toPs ds) = true ∧ PyData.depthAll (toPs ds) ≤ n
  | n, [], _ => ⟨rfl, rfl, Nat.zero_le _⟩
  | n, d :: ds, h => by
    unfold nbs at h
    rw [Bool.and_eq_true] at h
    obtain ⟨a, b, c⟩ := flat_nb n d h.1
    obtain ⟨a2, b2, c2⟩ := flats_nb n ds h.2
    refine ⟨?_, ?_, ?_⟩
    · unfold flatDs
      rw [a, a2]
      rfl
    · unfold toPs PyData.canLayAll0
      rw [b, b2]
      rfl
    · unfold toPs PyData.depthAll
      omega
end
theorem okD_nb {n : Nat} {d : D} (h : nb n d = true) (hn : n ≤ 64) : okD d = true := by
  obtain ⟨a, b, c⟩ := flat_nb n d h
  unfold okD SeqAt.shaped
  rw [a, b, decide_eq_true (by omega)]
  rfl
mutual
theorem eqv_nb : ∀ (n m : Nat) (a b : D), nb n a = true → nb m b = true → (PyData.eqv (toP a) (toP b) = true ↔ a = b)
  | n, m, a, b, h, k => by
    cases a with
    | non => cases b <;> simp [toP, PyData.eqv] <;> (cases m <;> (unfold nb at k; cases k))
    | int i => cases b <;> simp [toP, PyData.eqv] <;> (cases m <;> (unfold nb at k; cases k))
    | str i => cases b <;> simp [toP, PyData.eqv] <;> (cases m <;> (unfold nb at k; cases k))
    | bl _ => cases n <;> (unfold nb at h; cases h)
    | ref _ => cases n <;> (unfold nb at h; cases h)
    | exn _ _ => cases n <;> (unfold nb at h; cases h)
    | emp => cases n <;> (unfold nb at h; cases h)
    | tup xs =>
      cases b with
      | tup ys =>
        cases n with
        | zero => unfold nb at h; cases h
        | succ n =>
          cases m with
          | zero => unfold nb at k; cases k
          | succ m =>
            unfold nb at h k
            have z := eqvs_nb n m xs ys h k
            unfold toP PyData.eqv
            rw [z]
            exact ⟨fun e => by rw [e], fun e => by cases e; rfl⟩
      | non => simp [toP, PyData.eqv]
      | int _ => simp [toP, PyData.eqv]
      | str _ => simp [toP, PyData.eqv]
      | lst _ => simp [toP, PyData.eqv]
      | bl _ => cases m <;> (unfold nb at k; cases k)
      | ref _ => cases m <;> (unfold nb at k; cases k)
      | exn _ _ => cases m <;> (unfold nb at k; cases k)
      | emp => cases m <;> (unfold nb at k; cases k)
    | lst xs =>
      cases b with
      | lst ys =>
        cases n with
        | zero => unfold nb at h; cases h
        | succ n =>
          cases m with
          | zero => unfold nb at k; cases k
          | succ m =>
            unfold nb at h k
            have z := eqvs_nb n m xs ys h k
            unfold toP PyData.eqv
            rw [z]
            exact ⟨fun e => by rw [e], fun e => by cases e; rfl⟩
      | non => simp [toP, PyData.eqv]
      | int _ => simp [toP, PyData.eqv]
      | str _ => simp [toP, PyData.eqv]
      | tup _ => simp [toP, PyData.eqv]
      | bl _ => cases m <;> (unfold nb at k; cases k)
      | ref _ => cases m <;> (unfold nb at k; cases k)
      | exn _ _ => cases m <;> (unfold nb at k; cases k)
      | emp => cases m <;> (unfold nb at k; cases k)
theorem eqvs_nb : ∀ (n m : Nat) (a b : List D), nbs n a = true → nbs m b = true → (PyData.eqvAll (toPs a) (toPs b) = true ↔ a = b)
  | n, m, [], [], _, _ => by simp [toPs, PyData.eqvAll]
  | n, m, [], y :: ys, _, _ => by simp [toPs, PyData.eqvAll]
  | n, m, x :: xs, [], _, _ => by simp [toPs, PyData.eqvAll]
  | n, m, x :: xs, y :: ys, h, k => by
    unfold nbs at h k
    rw [Bool.and_eq_true] at h k
    have e1 := eqv_nb n m x y h.1 k.1
    have e2 := eqvs_nb n m xs ys h.2 k.2
    unfold toPs PyData.eqvAll
    rw [Bool.and_eq_true, e1, e2]
    exact ⟨fun ⟨a, b⟩ => by rw [a, b], fun e => by cases e; exact ⟨rfl, rfl⟩⟩
end
theorem lookD_nb {n : Nat} {d : D} {h : AH} (q : nb n d = true) : lookD h d = d := by
  cases d <;> try rfl
  cases n <;> (unfold nb at q; cases q)
theorem lstOf_look {h : AH} {a : D} {xs : List D} (e : lstOf h a = some xs) : lookD h a = .lst xs := by
  cases a <;> try (cases e; done)
  · rename_i n
    unfold lstOf at e
    unfold lookD
    cases hc : h[n]? with
    | none =>
      simp only [hc] at e
      cases e
    | some c =>
      cases c <;> simp only [hc] at e ⊢ <;> try (cases e; done)
      cases e
      rfl
  · cases e
    rfl
theorem eqP_t {h : AH} {a b : D} {k : Bool} (e : lookD h a = lookD h b) (p : eqP h a b = some k) : k = true := by
  unfold eqP at p
  split at p
  · cases p
    exact decide_eq_true (D.str.inj e)
  · split at p
    · rename_i xs ys h1 h2
      rw [lstOf_look h1, lstOf_look h2] at e
      rw [if_pos (by rw [D.lst.inj e])] at p
      cases p
    · cases p
theorem eqP_f {h : AH} {a b : D} {k : Bool} (e : lookD h a ≠ lookD h b) (p : eqP h a b = some k) : k = false := by
  unfold eqP at p
  split at p
  · cases p
    exact decide_eq_false fun z => e (by rw [z])
  · split at p
    · rename_i xs ys h1 h2
      split at p
      · cases p
      · cases p
        rfl
    · cases p
theorem eqM_eq {a b : D} {h : AH} (ha : nb 60 (lookD h a) = true) (hb : nb 60 (lookD h b) = true) (e : lookD h a = lookD h b) : eqM a b h = .ok (.bl true) h := by
  unfold eqM
  cases hp : eqP h a b with
  | some k => simp only [eqP_t e hp]
  | none =>
    simp only
    rw [okD_nb ha (by decide), okD_nb hb (by decide), (eqv_nb 60 60 _ _ ha hb).mpr e]
    rfl
theorem eqM_ne {a b : D} {h : AH} (ha : nb 60 (lookD h a) = true) (hb : nb 60 (lookD h b) = true) (e : lookD h a ≠ lookD h b) : eqM a b h = .ok (.bl false) h := by
  unfold eqM
  have z : PyData.eqv (toP (lookD h a)) (toP (lookD h b)) = false := by
    cases q : PyData.eqv (toP (lookD h a)) (toP (lookD h b)) with
    | false => rfl
    | true => exact absurd ((eqv_nb 60 60 _ _ ha hb).mp q) e
  cases hp : eqP h a b with
  | some k => simp only [eqP_f e hp]
  | none =>
    simp only
    rw [okD_nb ha (by decide), okD_nb hb (by decide), z]
    rfl
theorem neM_eq {a b : D} {h : AH} (ha : nb 60 (lookD h a) = true) (hb : nb 60 (lookD h b) = true) (e : lookD h a = lookD h b) : neM a b h = .ok (.bl false) h := by
  unfold neM
  cases hp : eqP h a b with
  | some k => simp only [eqP_t e hp, Bool.not_true]
  | none =>
    simp only
    rw [okD_nb ha (by decide), okD_nb hb (by decide), (eqv_nb 60 60 _ _ ha hb).mpr e]
    rfl
theorem neM_ne {a b : D} {h : AH} (ha : nb 60 (lookD h a) = true) (hb : nb 60 (lookD h b) = true) (e : lookD h a ≠ lookD h b) : neM a b h = .ok (.bl true) h := by
  unfold neM
  have z : PyData.eqv (toP (lookD h a)) (toP (lookD h b)) = false := by
    cases q : PyData.eqv (toP (lookD h a)) (toP (lookD h b)) with
    | false => rfl
    | true => exact absurd ((eqv_nb 60 60 _ _ ha hb).mp q) e
  cases hp : eqP h a b with
  | some k => simp only [eqP_f e hp, Bool.not_false]
  | none =>
    simp only
    rw [okD_nb ha (by decide), okD_nb hb (by decide), z]
    rfl
theorem eqM_str {a b : Str} {h : AH} : eqM (.str a) (.str b) h = .ok (.bl (decide (a = b))) h := rfl
theorem neM_str {a b : Str} {h : AH} : neM (.str a) (.str b) h = .ok (.bl (!decide (a = b))) h := rfl
/-- a list, seen whether it is the empty one -/
theorem eqM_nil {h : AH} {a : D} {xs : List D} (e : lstOf h a = some xs) : eqM a (.lst []) h = .ok (.bl xs.isEmpty) h := by
  cases xs with
  | nil => exact eqM_eq (by rw [lstOf_look e]; rfl) (by rfl) (by rw [lstOf_look e]; rfl)
  | cons x r =>
    unfold eqM
    have p : eqP h a (.lst []) = some false := by
      unfold eqP
      split
      · cases e
      · rw [e]
        rfl
    rw [p]
    rfl
theorem neM_nil {h : AH} {a : D} {xs : List D} (e : lstOf h a = some xs) : neM a (.lst []) h = .ok (.bl (!xs.isEmpty)) h := by
  cases xs with
  | nil => exact neM_eq (by rw [lstOf_look e]; rfl) (by rfl) (by rw [lstOf_look e]; rfl)
  | cons x r =>
    unfold neM
    have p : eqP h a (.lst []) = some false := by
      unfold eqP
      split
      · cases e
      · rw [e]
        rfl
    rw [p]
    rfl
theorem eqM_int {i j : Int} {h : AH} : eqM (.int i) (.int j) h = .ok (.bl (decide (i = j))) h := by
  by_cases e : i = j
  · rw [eqM_eq (by rfl) (by rfl) (by rw [e]), decide_eq_true e]
  · rw [eqM_ne (by rfl) (by rfl) (fun z => e (by cases z; rfl)), decide_eq_false e]
theorem neM_int {i j : Int} {h : AH} : neM (.int i) (.int j) h = .ok (.bl (decide (i ≠ j))) h := by
  by_cases e : i = j
  · rw [neM_eq (by rfl) (by rfl) (by rw [e]), decide_eq_false (by simpa using e)]
  · rw [neM_ne (by rfl) (by rfl) (fun z => e (by cases z; rfl)), decide_eq_true e]
end Lw

/-! SimK: isinstance, int, str, in, list(range), {}. -/
namespace Lw
open PySem L2

/-! ### isinstance of plain data -/
def tyD (h : AH) : D → Option String
  | .non => some "NoneType"
  | .bl _ => some "bool"
  | .int _ => some "int"
  | .str _ => some "str"
  | .tup _ => some "tuple"
  | .lst _ => some "list"
  | .emp => some "dict"
  | .ref n => match h[n]? with
    | some (.lst _) => some "list"
    | some (.dk _) => some "dict"
    | _ => none
  | .exn _ _ => none
def tyNames : List String := ["NoneType", "bool", "int", "str", "tuple", "list", "dict"]
def isiB (a T : String) : Bool := a == T || (a == "bool" && T == "int")
def isiM (T : String) (d : D) : M D := fun h => match tyD h d with
  | some a => .ok (.bl (isiB a T)) h
  | none => .stuck
section
variable {X : Cx} {fr : Fm} {W : WX} {σ : St} {F H : Hp} {m : List Addr} {ah : AH} {env : Env} {pos : Pos}
theorem rd_tup {a : Addr} {vs : List V} (h : SqT X.K H a vs) : TyX X.K H (.ref a) (.type "tuple") := by
  rcases h with (h | ⟨o, h⟩) | ⟨o, its, n, h1, h2, _⟩
  · exact .base (.tup h)
  · exact .fTuple h
  · exact .kTuple h1 h2
theorem rd_lst {a : Addr} {vs : List V} (h : SqL X.K H a vs) : TyX X.K H (.ref a) (.type "list") := by
  rcases h with (h | ⟨o, h⟩) | ⟨o, its, n, h1, h2, _⟩
  · exact .base (.lst h)
  · exact .base (.frz h)
  · exact .kList h1 h2
theorem ty_of {d : D} {v : V} {a : String} (S : Sim X.K X.mg fr F m ah H) (r : Rep X.K F m d v) (h : tyD ah d = some a) : TyX X.K H v (.type a) ∧ a ∈ tyNames := by
  cases d with
  | non =>
    cases h
    unfold Rep at r
    subst r
    exact ⟨.base .non, by decide⟩
  | bl b =>
    cases h
    unfold Rep at r
    subst r
    exact ⟨.base (.bl b), by decide⟩
  | int b =>
    cases h
    unfold Rep at r
    subst r
    exact ⟨.base (.int b), by decide⟩
  | str b =>
    cases h
    unfold Rep at r
    subst r
    exact ⟨.base (.str b), by decide⟩
  | tup xs =>
    cases h
    obtain ⟨p, vs, rfl, h2, h3⟩ := tup_of (xs := xs) r rfl
    exact ⟨rd_tup (SqT.up S.sub h2), by decide⟩
  | lst xs =>
    cases h
    unfold Rep at r
    obtain ⟨p, vs, rfl, h2, h3⟩ := r
    exact ⟨rd_lst (SqL.up S.sub h2), by decide⟩
  | emp =>
    cases h
    unfold Rep at r
    obtain ⟨p, h1, rfl⟩ := r
    exact ⟨.base (.dK (S.sub _ _ h1)), by decide⟩
  | exn c p => cases h
  | ref n =>
    unfold Rep at r
    obtain ⟨p, h1, rfl⟩ := r
    unfold tyD at h
    cases hc : ah[n]? with
    | none =>
      simp only [hc] at h
      cases h
    | some c =>
      obtain ⟨p', q, ok⟩ := S.cells n c hc
      rw [h1] at q
      cases q
      cases c <;> simp only [hc] at h <;> try (cases h; done)
      · cases h
        obtain ⟨_, vs, h3, _⟩ := ok
        exact ⟨.base (.lst h3), by decide⟩
      · cases h
        obtain ⟨_, vs, h3, _⟩ := ok
        exact ⟨.base (.dK h3), by decide⟩
theorem de_isi {T' : Str} (T : String) {e : Expr} {me : M D} {p p2 : Pos} (hm : X.mg "isinstance" = none) (hmT : X.mg T' = none) (hvT : bootBuiltins T' = some (.type T)) (hk : ∀ a ∈ tyNames, kitB a T = some (isiB a T)) (ha : DE X W env e me)
    (hg : Gl X "isinstance" := by rfl) (hgT : Gl X T' := by rfl) (hs : starEach [e, .Name T' p2] X.env = (false, eval e X.env) :: starEach [.Name T' p2] X.env := by rfl) (hs2 : starEach [.Name T' p2] X.env = (false, eval (.Name T' p2) X.env) :: starEach [] X.env := by rfl)
    (hpl : (backTo pos (starEach [.Name T' p2] X.env)).any (·.1) = false := by rfl) (hn : T' ≠ "__name__" := by decide) (hdb : (T' == ("__debug__" : Str)) = false := by decide) :
    DE X W env (.Call (.Name "isinstance" p) [e, .Name T' p2] [] pos) (do let x ← me; isiM T x) :=
  PE.from (pe_callB call_isi hg hm (by decide +kernel) (pa_cons ha (pa_cons (pe_bltn (v := .ty T) hgT hmT hvT rfl hn hdb) pa_nil hs2) hs) (by decide) (by decide) hs hpl) fun σ H Q ⟨fr, F, m, ah, s, er, k⟩ => TK.step s er k fun F1 m1 ah1 d v H1 e1 s1 er1 r1 k1 => by
    unfold isiM at k1
    cases ht : tyD ah1 d with
    | none =>
      simp only [ht] at k1
      exact k1.elim
    | some a =>
      simp only [ht] at k1
      obtain ⟨h1, h2⟩ := ty_of s1 r1 ht
      exact ⟨v, .ty T, .type a, .type T, isiB a T, rfl, .ty T, h1, kit_ty (hk a h2), TK.val k1 s1 Rep.bl⟩

/-! ### int(x), str(x) -/
theorem callR_or {X : Cx} {f : Value} {r r' : List V → Hp → VK → Prop} (h : CallR X f r) (h' : CallR X f r') : CallR X f (fun xs H Q => r xs H Q ∨ r' xs H Q) := by
  intro pins s σ H xs us Q I rr q
  rcases q with q | q
  · exact h pins s σ H xs us Q I rr q
  · exact h' pins s σ H xs us Q I rr q
def intM (d : D) : M D := fun h => match d with
  | .int i => .ok (.int i) h
  | .bl b => .ok (.int (if b = true then 1 else 0)) h
  | .str z => (match PySem.intText? z with
    | some n => if z.length ≤ 640 then .ok (.int n) h else .stuck
    | none => .stuck)
  | _ => .stuck
theorem int1_ok : ClD X (fun xs H Q => ((∃ i, xs = [.int i] ∧ Q (.int i) H) ∨ ∃ k, xs = [.bl k] ∧ Q (.int (if k then 1 else 0)) H) ∨ ∃ a n, xs = [.str a] ∧ PySem.intText? a = some n ∧ a.length ≤ 640 ∧ Q (.int n) H) (ap1 intM) := ap1_ok fun fr W σ F m ah H d v Q s r k => by
  unfold intM at k
  cases d <;> try exact k.elim
  · unfold Rep at r
    subst r
    exact .inl (.inr ⟨_, rfl, TK.val k s Rep.int⟩)
  · unfold Rep at r
    subst r
    exact .inl (.inl ⟨_, rfl, TK.val k s Rep.int⟩)
  · rename_i z
    unfold Rep at r
    subst r
    cases hz : PySem.intText? z with
    | none =>
      simp only [hz] at k
      exact k.elim
    | some n =>
      simp only [hz] at k
      by_cases c : z.length ≤ 640
      · rw [if_pos c] at k
        exact .inr ⟨z, n, rfl, hz, c, TK.val k s Rep.int⟩
      · rw [if_neg c] at k
        exact k.elim
theorem de_intf {e : Expr} {me : M D} {p : Pos} (hm : X.mg "int" = none) (ha : DE X W env e me) (hg : Gl X "int" := by rfl) (he : starEach [e] X.env = [(false, eval e X.env)] := by rfl) (hpl : (backTo pos (starEach [] X.env)).any (·.1) = false := by rfl) :
    DE X W env (.Call (.Name "int" p) [e] [] pos) (do let x ← me; intM x) := de_t1 (callR_or call_int1 call_int_str) int1_ok hm (by decide +kernel) ha hg (by decide) (by decide) he hpl
def strM (d : D) : M D := fun h => match d with
  | .int i => if i.natAbs.log2 < 1920 then .ok (.str (toString i)) h else .stuck
  | .str z => .ok (.str z) h
  | _ => .stuck
theorem str1_ok : ClD X (fun xs H Q => (∃ i, xs = [.int i] ∧ i.natAbs.log2 < 1920 ∧ Q (.str (toString i)) H) ∨ ∃ a, xs = [.str a] ∧ Q (.str a) H) (ap1 strM) := ap1_ok fun fr W σ F m ah H d v Q s r k => by
  unfold strM at k
  cases d <;> try exact k.elim
  · rename_i i
    unfold Rep at r
    subst r
    by_cases c : i.natAbs.log2 < 1920
    · simp only [if_pos c] at k
      exact .inl ⟨_, rfl, c, TK.val k s Rep.str⟩
    · simp only [if_neg c] at k
      exact k.elim
  · unfold Rep at r
    subst r
    exact .inr ⟨_, rfl, TK.val k s Rep.str⟩
theorem de_strf {e : Expr} {me : M D} {p : Pos} (hm : X.mg "str" = none) (ha : DE X W env e me) (hg : Gl X "str" := by rfl) (he : starEach [e] X.env = [(false, eval e X.env)] := by rfl) (hpl : (backTo pos (starEach [] X.env)).any (·.1) = false := by rfl) :
    DE X W env (.Call (.Name "str" p) [e] [] pos) (do let x ← me; strM x) := de_t1 (callR_or call_str_int SkE.call_str_str) str1_ok hm (by decide +kernel) ha hg (by decide) (by decide) he hpl

/-! ### in -/
def fltD : D → Bool
  | .non => true
  | .bl _ => true
  | .int _ => true
  | .str _ => true
  | _ => false
def fltV : D → V
  | .bl b => .bl b
  | .int i => .int i
  | .str x => .str x
  | _ => .non
def inD (x : D) (xs : List D) : Bool := inV (fltV x) (xs.map fltV)
def inM (neg : Bool) (x y : D) : M D := fun h => match seqOf h y with
  | some xs => if (fltD x && xs.all fltD) = true then .ok (.bl (if neg = true then !inD x xs else inD x xs)) h else .stuck
  | none => .stuck
theorem rep_flt {K : Fg} {F : Hp} {m : List Addr} {d : D} {v : V} (r : Rep K F m d v) (h : fltD d = true) : v = fltV d ∧ flatV v = true := by
  cases d <;> try (cases h; done)
  all_goals (unfold Rep at r; subst r; exact ⟨rfl, rfl⟩)
theorem reps_flt {K : Fg} {F : Hp} {m : List Addr} : ∀ {ds : List D} {vs : List V}, RepL K F m ds vs → ds.all fltD = true → vs = ds.map fltV ∧ vs.all flatV = true
  | [], vs, r, _ => by
    unfold RepL at r
    rw [r]
    exact ⟨rfl, rfl⟩
  | d :: ds, vs, r, h => by
    rw [List.all_cons, Bool.and_eq_true] at h
    unfold RepL at r
    obtain ⟨v, u, rfl, h2, h3⟩ := r
    obtain ⟨e1, f1⟩ := rep_flt h2 h.1
    obtain ⟨e2, f2⟩ := reps_flt h3 h.2
    exact ⟨by rw [List.map_cons, ← e1, ← e2], by rw [List.all_cons, f1, f2]; rfl⟩
theorem in_ok {neg : Bool} : OpD X (rIn X.K neg) (inM neg) := by
  intro fr W σ F m ah H d e x y Q s rx ry k
  unfold inM at k
  cases hq : seqOf ah e with
  | none =>
    simp only [hq] at k
    exact k.elim
  | some xs =>
    simp only [hq] at k
    by_cases c : (fltD d && xs.all fltD) = true
    · rw [if_pos c] at k
      rw [Bool.and_eq_true] at c
      obtain ⟨e1, f1⟩ := rep_flt rx c.1
      have z : ∃ p vs, y = .ref p ∧ (SqL X.K H p vs ∨ SqT X.K H p vs) ∧ RepL X.K F m xs vs := by
        by_cases ht : ∃ ys, e = .tup ys
        · obtain ⟨ys, rfl⟩ := ht
          cases hq
          obtain ⟨a, vs, h1, h2, h3⟩ := tup_of (xs := xs) ry rfl
          exact ⟨a, vs, h1, .inr (SqT.up s.sub h2), h3⟩
        · have hq' : lstOf ah e = some xs := by
            cases e <;> first | exact hq | exact absurd ⟨_, rfl⟩ ht
          obtain ⟨a, vs, h1, h2, h3⟩ := lst_of s ry hq'
          exact ⟨a, vs, h1, .inl h2, h3⟩
      obtain ⟨p, vs, h1, h2, h3⟩ := z
      obtain ⟨e2, f2⟩ := reps_flt h3 c.2
      refine ⟨p, vs, h1, h2, f1, f2, ?_⟩
      have q := k.val s Rep.bl
      unfold inD at q
      rw [← e1, ← e2] at q
      exact q
    · rw [if_neg c] at k
      exact k.elim
theorem de_in {a b : Expr} {ma mb : M D} (ha : DE X W env a ma) (hb : DE X W env b mb) (hm : behindInMarks .In b = false := by rfl) : DE X W env (.Compare a [.In] [b] pos) (do let x ← ma; let y ← mb; inM false x y) := de_cmp op_in_seq in_ok ha hb hm
theorem de_notin {a b : Expr} {ma mb : M D} (ha : DE X W env a ma) (hb : DE X W env b mb) (hm : behindInMarks .NotIn b = false := by rfl) : DE X W env (.Compare a [.NotIn] [b] pos) (do let x ← ma; let y ← mb; inM true x y) := de_cmp op_notIn_seq in_ok ha hb hm

/-! ### list(range(a, b)), tuple(range(a, b)) -/
def lrgM (mk : List D → D) (x y : D) : M D := fun h => match x, y with
  | .int i, .int j => if (-(2 ^ 62) ≤ i ∧ i < 2 ^ 62) ∧ (-(2 ^ 62) ≤ j ∧ j < 2 ^ 62) ∧ (j - i).toNat ≤ 2 ^ 24 then .ok (mk (rangeD i (j - i).toNat)) h else .stuck
  | _, _ => .stuck
theorem repl_rg {K : Fg} {F : Hp} {m : List Addr} (i : Int) : ∀ n : Nat, RepL K F m (rangeD i n) ((List.range n).map fun k => V.int (i + (k : Nat)))
  | 0 => RepL.nil
  | n + 1 => by
    unfold rangeD
    rw [List.range_succ, List.map_append, List.map_append]
    exact RepL.append (repl_rg i n) (RepL.cons Rep.int RepL.nil)
theorem de_listrg {a b : Expr} {ma mb : M D} {p p2 pos2 : Pos} (hc : X.calm = true) (hm : X.mg "list" = none) (hm2 : X.mg "range" = none) (ha : DE X W env a ma) (hb : DE X W env b mb) (hg : Gl X "list" := by rfl) (hg2 : Gl X "range" := by rfl)
    (na : starEach [a, b] X.env = (false, eval a X.env) :: starEach [b] X.env := by rfl) (nb : starEach [b] X.env = (false, eval b X.env) :: starEach [] X.env := by rfl) (hp : (backTo pos2 (starEach [b] X.env)).any (·.1) = false := by rfl)
    (nr : starEach [.Call (.Name "range" p2) [a, b] [] pos2] X.env = (false, eval (.Call (.Name "range" p2) [a, b] [] pos2) X.env) :: starEach [] X.env := by rfl) :
    DE X W env (.Call (.Name "list" p) [.Call (.Name "range" p2) [a, b] [] pos2] [] pos) (do let x ← ma; let y ← mb; lrgM .lst x y) :=
  PE.from (pe_listRg hc hg hm (prg_2 hg2 hm2 ha hb na nb hp) nr) fun σ H Q ⟨fr, F, m, ah, s, er, k⟩ => TK.step s er k fun F1 m1 ah1 d v H1 e1 s1 er1 r1 k1 => TK.step s1 er1 k1 fun F2 m2 ah2 d2 v2 H2 e2 s2 er2 r2 k2 => by
    unfold lrgM at k2
    have r1 := Rep.ext e2 _ _ r1
    cases d <;> try exact k2.elim
    cases d2 <;> try exact k2.elim
    rename_i i _ j
    unfold Rep at r1 r2
    by_cases c : (-(2 ^ 62) ≤ i ∧ i < 2 ^ 62) ∧ (-(2 ^ 62) ≤ j ∧ j < 2 ^ 62) ∧ (j - i).toNat ≤ 2 ^ 24
    · simp only [if_pos c] at k2
      exact ⟨i, j, r1, r2, ⟨c.1.1, c.1.2, c.2.1.1, c.2.1.2, c.2.2⟩, fun q hq => TK.newL k2 s2 (repl_rg i _) hq⟩
    · simp only [if_neg c] at k2
      exact k2.elim
/-! ### {} -/
def empM : M D := fun h => .ok .emp h
theorem de_emp : DE X W env (.Dict [] [] pos) empM := PE.from pe_dnewK fun σ H Q ⟨fr, F, m, ah, s, er, k⟩ => fun p hp => by
  obtain ⟨S', e⟩ := s.frozen (o := .dK []) hp
  refine k _ _ _ _ e S' ?_
  unfold Rep
  exact ⟨p, upd_same, rfl⟩
/-- a dict that will be written -/
theorem de_dict0 : DE X W env (.Dict [] [] pos) (newM (.dk [])) := PE.from pe_dnewK fun σ H Q ⟨fr, F, m, ah, s, er, k⟩ => fun p hp => by
  obtain ⟨S', e⟩ := s.laid (o := .dK []) (c := .dk []) hp ⟨s.freeF hp, [], upd_same, .nil⟩
  refine k _ _ _ _ e S' ?_
  unfold Rep
  refine ⟨p, ?_, rfl⟩
  rw [← s.len, List.getElem?_append_right (Nat.le_refl _)]
  simp
end
end Lw

/-! SimL: errors that are caught. -/
namespace Lw
open PySem L2

/-- what the name T of a class stands for -/
def TVal (mg : Str → Option Value) (T : Str) (cv : Value) : Prop := mg T = some cv ∨ (mg T = none ∧ bootBuiltins T = some cv ∧ T ≠ ("__name__" : Str))
theorem TVal.fn {mg : Str → Option Value} {T : Str} {a b : Value} (h : TVal mg T a) (k : TVal mg T b) : a = b := by
  rcases h with h | ⟨h, h2, _⟩ <;> rcases k with k | ⟨k, k2, _⟩
  · exact Option.some.inj (h.symm.trans k)
  · rw [h] at k
    cases k
  · rw [h] at k
    cases k
  · exact Option.some.inj (h2.symm.trans k2)
/-- isE z T: is the class z one of T's; what stands for it -/
structure ExF (K : Fg) (mg : Str → Option Value) (isE : Str → Str → Option Bool) : Prop where
  ok : ∀ z T b, isE z T = some b → ∀ C, mg z = some (.ref C) → ExcC K C ∧ ∃ v cv, RelV v cv ∧ (∀ u, RelV v u → u = cv) ∧ TVal mg T cv ∧ PySem.W.kitOne K (.ref C) cv = some b ∧ PySem.W.exmOne K (.ref C) cv = some b
/-- the body, or what is done where it ends by such an error -/
def tryM {τ β : Type} (c : Str → Option Bool) (mb : M (Out τ β)) (hM : Str → M (Out τ β)) : M (Out τ β) := fun ah => match mb ah with
  | .exc x a => (match c x with
    | some true => noexM (hM x) a
    | some false => .exc x a
    | none => .stuck)
  | r => r
section
variable {X : Cx} {W : WX} {ex exB env : Env} {pos pos' np : Pos} {τ τ' β : Type} {mk : τ → Env} {mk' : τ' → Env} {lp : β → Env} {rest body suite : List Stmt} {b₀ : Stmt} {x : Str} {c : Value}
/-- behind the body of a try -/
theorem try_from {cf : Str → Option Bool} {mb : M (Out τ' β)} {hM : Str → M (Out τ' β)} {k : τ' → M (Out τ β)} {Wb : WX} {Dn Dh : Ends} {K : Fg} {mg : Str → Option Value} {fr : Fm} {F : Hp} {m : List Addr} {ah : AH}
    (hx : EnvLe ex exB)
    (hDn : Dh = { Dn with nx := fun σ' H' => ∃ t, TB K mg W ex (mk' t) mk lp (k t) Dn σ' H' })
    (hW : ∀ z C b, cf z = some b → mg z = some (.ref C) → ∀ σ' H', (b = true → TB K mg W0 ex exB mk' lp (hM z) Dh σ' H') → (b = false → W (.ref C) none σ' H') → Wb (.ref C) none σ' H')
    (h : TO K mg fr W ex mk lp F m ((obind (tryM cf mb hM) k) ah) Dn) : TO K mg fr Wb exB mk' lp F m (mb ah) Dh := by
  have h : TO K mg fr W ex mk lp F m (ores k (tryM cf mb hM ah)) Dn := h
  unfold tryM at h
  cases hm : mb ah with
  | ok o a =>
    simp only [hm] at h
    subst hDn
    cases o with
    | nx t => exact fun F' m' σ' H' e s r => ⟨t, fr, F', m', a, s, r, TO.ext e h⟩
    | ret t => exact h
    | bk t => exact h
    | ct t => exact h
  | stuck =>
    simp only [hm] at h
    exact h
  | exc z a =>
    simp only [hm] at h
    intro F' m' C σ' H' e s r hz
    cases hc : cf z with
    | none =>
      simp only [hc] at h
      exact h.elim
    | some b =>
      cases b with
      | false =>
        simp only [hc] at h
        exact hW z C false hc hz σ' H' (fun q => by cases q) fun _ => h F' m' C σ' H' e s (r.le hx) hz
      | true =>
        simp only [hc] at h
        refine hW z C true hc hz σ' H' (fun _ => ⟨fr, F', m', a, s, r, ?_⟩) fun q => by cases q
        have h := TO.ext e h
        unfold noexM at h
        subst hDn
        cases hh : hM z a with
        | ok o a2 =>
          rw [hh] at h
          cases o with
          | nx t => exact fun F2 m2 σ2 H2 e2 s2 r2 => ⟨t, fr, F2, m2, a2, s2, r2, TO.ext e2 h⟩
          | ret t => exact h
          | bk t => exact h
          | ct t => exact h
        | exc _ _ =>
          rw [hh] at h
          exact h.elim
        | stuck =>
          rw [hh] at h
          exact h.elim
/-- try: body; except x: suite -/
theorem ds_try {cf : Str → Option Bool} {mb : M (Out τ' β)} {hM : Str → M (Out τ' β)} {k : τ' → M (Out τ β)} (hs : X.stack = X.env :: X.outer) (hf : X.env.frame = some X.env.locals) (hc : Names X x c) (tk : L2N.Takes X W)
    (hcf : ∀ z C b, cf z = some b → X.mg z = some (.ref C) → PySem.W.exmOne X.K (.ref C) c = some b) (hx : EnvLe ex exB)
    (hb : ∀ (Wb : WX) (pn : List (Addr × Obj)) (xe : Value → Shared → Prop), L2N.Takes (X.tr pn xe) Wb → PassesOwn (model X.prog X.w) X.A X.env xe → DS (X.tr pn xe) Wb exB env mk' lp body mb)
    (hsu : ∀ (a C : Addr) (oe : Obj) (pn : List (Addr × Obj)) (z : Str), L2N.Zn (.ref C) none oe → (∃ vs, oe.data = .fields vs) → X.mg z = some (.ref C) → DS (X.suite a ((a, oe) :: pn)) W0 ex exB mk' lp (b₀ :: suite) (hM z))
    (hr : ∀ t, DS X W ex (mk' t) mk lp rest (k t)) :
    DS X W ex env mk lp (.Try body [.ExceptHandler (some (.Name x np)) none (b₀ :: suite) pos'] [] [] pos :: rest) (obind (tryM cf mb hM) k) := by
  refine PSs.from (pss_cons (L2N.ps_try_many (Wout := W) (tb := fun Wb => TB X.K X.mg Wb exB env mk' lp mb) (l := [(c, fun a cls d Dn σ H => ∃ z C, cls = .ref C ∧ d = none ∧ X.mg z = some (.ref C) ∧ TB X.K X.mg W0 ex exB mk' lp (hM z) Dn σ H)]) hs hf tk hb
    (.cons hc (fun a oe cls d pn hz hv => ⟨fun pins s σ H D I ⟨z, C, e1, e2, e3, q⟩ => by
      subst e1 e2
      exact (hsu a C oe pn z hz hv e3).run pins s σ H D I q⟩) .nil)) (PSs.ex hr)) fun Dn σ H ⟨fr, F, m, ah, s, er, q⟩ => ?_
  refine ⟨fr, F, m, ah, s, er, try_from (W := W) hx rfl ?_ q⟩
  intro z C b h1 h2 σ' H' h3 h4
  exact ⟨b, hcf z C b h1 h2, fun hb a ha => ⟨z, C, rfl, rfl, h2, h3 hb⟩, h4⟩
theorem EnvRep.unset {K : Fg} {F : Hp} {m : List Addr} {env : Env} {σ : St} {i : Nat} (h : EnvRep K F m env σ) (hn : ∀ d, env[i]? ≠ some (some d)) : EnvRep K F m env (σ.set i none) := ⟨by rw [List.length_set]; exact h.1, fun j d q => by
  by_cases e : i = j
  · subst e
    exact absurd q (hn d)
  · rw [List.getElem?_set_ne e]
    exact h.2 j d q⟩
theorem TO.unset {K : Fg} {mg : Str → Option Value} {fr : Fm} {F : Hp} {m : List Addr} {r : Res (Out τ' β)} {Dn : Ends} {i : Nat} {Wb : WX} (h1 : ∀ t d, (mk' t)[i]? ≠ some (some d)) (h2 : ∀ t d, (lp t)[i]? ≠ some (some d)) (h : TO K mg fr Wb ex mk' lp F m r Dn) :
    TO K mg fr Wb ex mk' lp F m r { nx := fun σ' H' => Dn.nx (σ'.set i none) H', rt := Dn.rt, bk := fun σ' H' => Dn.bk (σ'.set i none) H', ct := fun σ' H' => Dn.ct (σ'.set i none) H' } := by
  cases r with
  | stuck => exact h
  | exc z a => exact h
  | ok o a =>
    cases o with
    | nx t => exact fun F' m' σ' H' e s r => h F' m' _ H' e s (r.unset (h1 t))
    | ret d => exact h
    | bk t => exact fun F' m' σ' H' e s r => h F' m' _ H' e s (r.unset (h2 t))
    | ct t => exact fun F' m' σ' H' e s r => h F' m' _ H' e s (r.unset (h2 t))
/-- try: body; except x as n: suite -/
theorem ds_tryas (i : Nat) {n : Str} {cf : Str → Option Bool} {mb : M (Out τ' β)} {hM : Str → M (Out τ' β)} {k : τ' → M (Out τ β)} (hN : X.N.Nodup) (hs : X.stack = X.env :: X.outer) (hf : X.env.frame = some X.env.locals) (hc : Names X x c) (tk : L2N.Takes X W)
    (hcf : ∀ z C b, cf z = some b → X.mg z = some (.ref C) → PySem.W.exmOne X.K (.ref C) c = some b) (hx : EnvLe ex exB) (envS : Str → Addr → Env)
    (hb : ∀ (Wb : WX) (pn : List (Addr × Obj)) (xe : Value → Shared → Prop), L2N.Takes (X.tr pn xe) Wb → PassesOwn (model X.prog X.w) X.A X.env xe → DS (X.tr pn xe) Wb exB env mk' lp body mb)
    (hsu : ∀ (a C : Addr) (oe : Obj) (pn : List (Addr × Obj)) (z : Str), L2N.Zn (.ref C) none oe → (∃ vs, oe.data = .fields vs) → X.mg z = some (.ref C) → DS (X.suite a ((a, oe) :: pn)) W0 ex (envS z a) mk' lp (b₀ :: suite) (hM z))
    (hr : ∀ t, DS X W ex (mk' t) mk lp rest (k t)) (hv : ∀ z a, exB.set i (some (.exn z a)) = envS z a := by intro _ _; rfl)
    (h1 : ∀ t d, (mk' t)[i]? ≠ some (some d) := by intro _ _ q; cases q) (h2 : ∀ t d, (lp t)[i]? ≠ some (some d) := by first | (intro t; exact t.elim) | (intro _ _ q; cases q))
    (hi : X.N[i]? = some n := by rfl) (hln : X.env.kindOf n = some .local := by rfl) :
    DS X W ex env mk lp (.Try body [.ExceptHandler (some (.Name x np)) (some n) (b₀ :: suite) pos'] [] [] pos :: rest) (obind (tryM cf mb hM) k) := by
  refine PSs.from (pss_cons (L2N.ps_try_as (c := c) (i := i) (Wout := W) (tb := fun Wb => TB X.K X.mg Wb exB env mk' lp mb) (ts := fun a cls d Dn σ H => ∃ z C, cls = .ref C ∧ d = none ∧ X.mg z = some (.ref C) ∧ TB X.K X.mg W0 ex (envS z a) mk' lp (hM z) Dn σ H) hs hf hN hi hln hc tk hb
    (fun a oe cls d pn hz hv => ⟨fun pins s σ H D I ⟨z, C, e1, e2, e3, q⟩ => by
      subst e1 e2
      exact (hsu a C oe pn z hz hv e3).run pins s σ H D I q⟩)) (PSs.ex hr)) fun Dn σ H ⟨fr, F, m, ah, s, er, q⟩ => ?_
  refine ⟨fr, F, m, ah, s, er, try_from (W := W) hx rfl ?_ q⟩
  intro z C b g1 g2 σ' H' g3 g4
  refine ⟨b, hcf z C b g1 g2, fun hb a ha => ⟨z, C, rfl, rfl, g2, ?_⟩, g4⟩
  obtain ⟨fr2, F2, m2, ah2, s2, er2, q2⟩ := g3 hb
  refine ⟨fr2, F2, m2, ah2, s2, ?_, TO.unset h1 h2 q2⟩
  rw [← hv z a]
  exact er2.set (by unfold Rep; rfl)
/-- isinstance(e, T) in the suite that holds e -/
def isEZ (isE : Str → Str → Option Bool) (T z : Str) : M D := match isE z T with
  | some b => pure (.bl b)
  | none => stuck
theorem de_isE {isE : Str → Str → Option Bool} {T : Str} {a C : Addr} {oe : Obj} {pn : List (Addr × Obj)} {z : Str} (i : Nat) {n : Str} {p p2 p3 : Pos} (Ex : ExF X.K X.mg isE) (hz : L2N.Zn (.ref C) none oe) (hvs : ∃ vs, oe.data = .fields vs) (hg : X.mg z = some (.ref C)) (hm : X.mg "isinstance" = none)
    (he : env[i]? = some (some (.exn z a)) := by rfl) (hN : X.N[i]? = some n := by rfl) (hv : Vis X.env.scope n := by first | exact Or.inl rfl | exact Or.inr (Or.inl rfl) | exact Or.inr (Or.inr rfl)) (hgi : Gl X "isinstance" := by rfl) (hgT : Gl X T := by rfl)
    (hs : starEach [.Name n p3, .Name T p2] X.env = (false, eval (.Name n p3) X.env) :: starEach [.Name T p2] X.env := by rfl) (hs2 : starEach [.Name T p2] X.env = (false, eval (.Name T p2) X.env) :: starEach [] X.env := by rfl)
    (hpl : (backTo pos (starEach [.Name T p2] X.env)).any (·.1) = false := by rfl) (hdb : (T == ("__debug__" : Str)) = false := by decide) (hd : (n == ("__debug__" : Str)) = false := by decide) (hcd : (n == ("__classdict__" : Str)) = false := by decide) :
    DE (X.suite a ((a, oe) :: pn)) W env (.Call (.Name "isinstance" p) [.Name n p3, .Name T p2] [] pos) (isEZ isE T z) := by
  cases hb : isE z T with
  | none =>
    refine ⟨fun pins s σ H Q I ⟨fr, F, m, ah, S, er, k⟩ => ?_⟩
    have e : isEZ isE T z = stuck := by
      show (match isE z T with | some b => pure (.bl b) | none => stuck : M D) = _
      rw [hb]
    rw [e] at k
    exact k.elim
  | some b =>
    obtain ⟨E, v, cv, r1, r2, tv, k1, k2⟩ := Ex.ok z T b hb C hg
    have pe : PE (X.suite a ((a, oe) :: pn)) (.Name T p2) (tC v) := by
      rcases tv with t | ⟨t1, t2, t3⟩
      · exact pe_glob hgT t r1 hdb
      · exact pe_bltn hgT t1 t2 r1 t3 hdb
    refine PE.from (pe_callB (call_isE E hz.zc hvs) hgi hm (by decide +kernel) (pa_cons (pv i hN hv hd hcd) (pa_cons pe pa_nil hs2) hs) (by decide) (by decide) hs hpl) fun σ H Q ⟨fr, F, m, ah, S, er, k⟩ => ?_
    obtain ⟨u, h1, h2⟩ := er.2 i _ he
    unfold Rep at h2
    subst h2
    have e : isEZ isE T z = pure (.bl b) := by
      show (match isE z T with | some b => pure (.bl b) | none => stuck : M D) = _
      rw [hb]
    rw [e] at k
    exact ⟨_, h1, v, cv, b, rfl, r2, k1, k F m _ H Ext.refl S Rep.bl⟩
end

/-! ### what stands of the classes of errors -/
structure ClF (K : Fg) (mg : Str → Option Value) (z : Str) (C : Addr) : Prop where
  x : XcF K mg z C
  e : ExcC K C
theorem cl_mk {K : Fg} {h : Heap} {mg : Str → Option Value} {z : Str} {C : Addr} (X : K.In h) (G : h.Ns mainGlobals mg) (hn : PySem.W.specialIn K (.builtin "object.__class__") "__get__" = some (some (.builtin "getset_descriptor.__get__"))) (ht : PySem.W.takesIn K (.builtin "object.__class__") = some true)
    (a : PySem.W.nsIn K mainGlobals z = some (some (.ref C))) (q : PySem.W.excIn K C [.type "ValueError", .type "Exception", .type "BaseException", .type "object"] "ValueError.__new__" = true) (k : PySem.W.keepIn K (.ref C) = true) (t : PySem.W.typeIn K (.ref C) = some (.type "type"))
    (b : PySem.W.subIn K (.ref C) (.type "BaseException") = some true) (f1 : PySem.W.findIn K (.ref C) "__getattribute__" = some (some (.builtin "BaseException.__getattribute__"))) (f2 : PySem.W.findIn K (.ref C) "__getattr__" = some none)
    (f3 : PySem.W.findIn K (.ref C) "__class__" = some (some (.builtin "object.__class__"))) (d : PySem.W.hasDictIn K C = true) (m : PySem.W.mroIn K C (.type "object") = some true) : ClF K mg z C :=
  ⟨⟨PySem.W.mg_of X G a, q, k, b, t⟩, f1, f2, b, d, f3, hn, ht, m⟩
/-- T stands to C as b -/
def CellE (K : Fg) (mg : Str → Option Value) (C : Addr) (T : Str) (b : Bool) : Prop := ∃ v cv, RelV v cv ∧ (∀ u, RelV v u → u = cv) ∧ TVal mg T cv ∧ PySem.W.kitOne K (.ref C) cv = some b ∧ PySem.W.exmOne K (.ref C) cv = some b
theorem kit_of_exm {K : Fg} {t c : Value} {b : Bool} (h : PySem.W.exmOne K t c = some b) (hs : (t == c) = true → b = true) : PySem.W.kitOne K t c = some b := by
  unfold PySem.W.kitOne
  by_cases e : (t == c) = true
  · rw [if_pos e, hs e]
  · rw [if_neg e]
    unfold PySem.W.exmOne at h
    by_cases g : (PySem.W.subIn K c (.type "BaseException") == some true) = true
    · rw [if_pos g] at h
      exact h
    · rw [if_neg g] at h
      cases h
theorem cell_ref {K : Fg} {mg : Str → Option Value} {C D : Addr} {T : Str} {b : Bool} (c : ClF K mg T D) (s : PySem.W.subIn K (.ref C) (.ref D) = some b) (hs : b = true ∨ C ≠ D) : CellE K mg C T b := by
  have e := PySem.W.exm_ref c.x.b c.e.hd c.x.t s
  refine ⟨.ref D, .ref D, rfl, fun u r => r, .inl c.x.g, kit_of_exm e fun q => ?_, e⟩
  rcases hs with hs | hs
  · exact hs
  · exact absurd (Value.ref.inj (beq_iff_eq.mp q)) hs
theorem cell_ty {K : Fg} {mg : Str → Option Value} {C : Addr} {T : Str} {T' : String} {b : Bool} (hm : mg T = none) (hv : bootBuiltins T = some (.type T')) (hn : T ≠ ("__name__" : Str)) (h1 : PySem.W.subIn K (.type T') (.type "BaseException") = some true) (h2 : PySem.W.kitMeta T' = true)
    (s : PySem.W.subIn K (.ref C) (.type T') = some b) : CellE K mg C T b := by
  have e : PySem.W.exmOne K (.ref C) (.type T') = some b := by
    unfold PySem.W.exmOne
    rw [if_pos (show (PySem.W.subIn K (.type T') (.type "BaseException") == some true) = true by rw [h1] <;> rfl)]
    show (if PySem.W.kitMeta T' = true then PySem.W.subIn K (.ref C) (.type T') else none) = _
    rw [if_pos h2]
    exact s
  exact ⟨.ty T', .type T', rfl, fun u r => r, .inr ⟨hm, hv, hn⟩, kit_of_exm e (fun q => nomatch (show Value.ref C = Value.type T' from beq_iff_eq.mp q)), e⟩
/-- the table of the classes -/
abbrev Tab := List (Str × List (Str × Bool))
def isEt (tab : Tab) (z T : Str) : Option Bool := (tab.lookup z).bind fun r => r.lookup T
def RowE (K : Fg) (mg : Str → Option Value) (z : Str) (r : List (Str × Bool)) : Prop := ∃ C, ClF K mg z C ∧ ∀ p ∈ r, CellE K mg C p.1 p.2
theorem row_mk {K : Fg} {mg : Str → Option Value} {z : Str} {r : List (Str × Bool)} {C : Addr} (c : ClF K mg z C) (h : ∀ p ∈ r, CellE K mg C p.1 p.2) : RowE K mg z r := ⟨C, c, h⟩
theorem rc_nil {K : Fg} {mg : Str → Option Value} {C : Addr} : ∀ p ∈ ([] : List (Str × Bool)), CellE K mg C p.1 p.2 := fun _ h => nomatch h
theorem rc_cons {K : Fg} {mg : Str → Option Value} {C : Addr} {T : Str} {b : Bool} {r : List (Str × Bool)} (h : CellE K mg C T b) (t : ∀ p ∈ r, CellE K mg C p.1 p.2) : ∀ p ∈ ((T, b) :: r), CellE K mg C p.1 p.2 := fun p hp => by
  rcases List.mem_cons.mp hp with rfl | hp
  · exact h
  · exact t p hp
theorem tb_nil {K : Fg} {mg : Str → Option Value} : ∀ p ∈ ([] : Tab), RowE K mg p.1 p.2 := fun _ h => nomatch h
theorem tb_cons {K : Fg} {mg : Str → Option Value} {z : Str} {r : List (Str × Bool)} {tab : Tab} (h : RowE K mg z r) (t : ∀ p ∈ tab, RowE K mg p.1 p.2) : ∀ p ∈ ((z, r) :: tab), RowE K mg p.1 p.2 := fun p hp => by
  rcases List.mem_cons.mp hp with rfl | hp
  · exact h
  · exact t p hp
theorem lookup_mem {α β : Type} [BEq α] [LawfulBEq α] {l : List (α × β)} {a : α} {b : β} (h : l.lookup a = some b) : (a, b) ∈ l := by
  induction l with
  | nil => cases h
  | cons p r ih =>
    obtain ⟨x, y⟩ := p
    rw [List.lookup_cons] at h
    by_cases e : (a == x) = true
    · rw [e] at h
      cases h
      rw [beq_iff_eq.mp e]
      exact List.mem_cons_self
    · rw [Bool.not_eq_true] at e
      rw [e] at h
      exact List.mem_cons_of_mem _ (ih h)
theorem exf_of {K : Fg} {mg : Str → Option Value} {tab : Tab} (h : ∀ p ∈ tab, RowE K mg p.1 p.2) : ExF K mg (isEt tab) := ⟨fun z T b e C hg => by
  unfold isEt at e
  cases hr : tab.lookup z with
  | none =>
    rw [hr] at e
    cases e
  | some r =>
    rw [hr] at e
    have e : r.lookup T = some b := e
    obtain ⟨C', c, hc⟩ := h _ (lookup_mem hr)
    have q := c.x.g
    rw [hg] at q
    cases q
    exact ⟨c.e, hc _ (lookup_mem e)⟩⟩
section
variable {X : Cx} {W : WX} {ex env : Env} {pos : Pos} {τ β : Type} {mk : τ → Env} {lp : β → Env} {rest : List Stmt}
theorem ds_raiseE {x msg : Str} {j : Nat} {p p2 p3 : Pos} (T : ∃ C, ClF X.K X.mg x C) (hc : X.calm = true) (tk : L2N.Takes X W) (hx : EnvLe ex env) (hg : Gl X x := by rfl) (hdb : (x == ("__debug__" : Str)) = false := by decide) :
    DS X W ex env mk lp (.Raise (some (.Call (.Name x p) [.Constant (.str msg) j p2] [] p3)) none pos :: rest) (throwM x) := by
  obtain ⟨C, T⟩ := T
  exact ds_raise T.x hc tk hx hg hdb
/-- the clause's own class -/
theorem names_of {x : Str} {C : Addr} (c : ClF X.K X.mg x C) (hg : Gl X x) (hdb : (x == ("__debug__" : Str)) = false) : Names X x (.ref C) := ⟨hg, hdb, .inl c.x.g⟩
theorem cf_of {K : Fg} {mg : Str → Option Value} {isE : Str → Str → Option Bool} {x : Str} {C : Addr} (Ex : ExF K mg isE) (c : ClF K mg x C) : ∀ z D b, isE z x = some b → mg z = some (.ref D) → PySem.W.exmOne K (.ref D) (.ref C) = some b := fun z D b h g => by
  obtain ⟨_, v, cv, _, _, tv, _, k⟩ := Ex.ok z x b h D g
  have e := tv.fn (.inl c.x.g)
  rw [← e]
  exact k
end
end Lw

/-! SimM: an empty dict is no tuple. -/
namespace PySem.SeqAt
open PySem PyProof.Rows
theorem lwDictNeTup (l b : Addr) (es : Array DictEntry) (ep : Nat) (items2 : Array Value) (n2 : Nat) (dd dd2 : Option Addr) (sl sl2 : Array (Option Value)) :
    Meets (Builtin.«dict.__ne__» ⟨[.ref l, .ref b], []⟩) (fun _ R s => s.heap.get? l = some { cls := .type "dict", dict := dd, data := .dict es ep, slots := sl } ∧ s.heap.get? b = some { cls := .type "tuple", dict := dd2, data := .seq items2 n2, slots := sl2 } ∧ R (.ok (.ret .notImplemented)) s) :=
  .of_wp fun prog w A R s h => by obtain ⟨hp, g, d, tk, os⟩ := s; obtain ⟨hl, hb, h⟩ := h; have f1 := F.sub_tuple_dict; wp_walk using wpAny_loadPart' hl, wpAny_loadPart' hb; exact ⟨_, rfl, h⟩
theorem lwTupNeDict (l b : Addr) (es : Array DictEntry) (ep : Nat) (items : Array Value) (n : Nat) (dd dd2 : Option Addr) (sl sl2 : Array (Option Value)) :
    Meets (Builtin.«tuple.__ne__» ⟨[.ref l, .ref b], []⟩) (fun _ R s => s.heap.get? l = some { cls := .type "tuple", dict := dd, data := .seq items n, slots := sl } ∧ s.heap.get? b = some { cls := .type "dict", dict := dd2, data := .dict es ep, slots := sl2 } ∧ R (.ok (.ret .notImplemented)) s) :=
  .of_wp fun prog w A R s h => by obtain ⟨hp, g, d, tk, os⟩ := s; obtain ⟨hl, hb, h⟩ := h; have f1 := F.sub_dict_tuple; wp_walk using wpAny_loadPart' hl, wpAny_loadPart' hb; exact ⟨_, rfl, h⟩
theorem lwRcNe {A : Around} {s : Shared} {l b : Addr} {es : Array DictEntry} {ep : Nat} {dd dd2 : Option Addr} {sl sl2 : Array (Option Value)} {items2 : Array Value} {n2 : Nat} (ho : s.heap.get? l = some { cls := .type "dict", dict := dd, data := .dict es ep, slots := sl })
    (ho2 : s.heap.get? b = some { cls := .type "tuple", dict := dd2, data := .seq items2 n2, slots := sl2 }) (hu : A.units < cLine) : RcNeAt A s (.ref l) (.ref b) true := fun prog w E Q h => by
  have hne : l ≠ b := fun e => by
    rw [e, ho2] at ho
    simp at ho
  exact (rc_ne_decline_or (k := false) ⟨_, ho, rfl⟩ ⟨_, ho2, rfl⟩ (by decide) F.sub_tuple_dict F.slot_dict_ne F.slot_tuple_ne_refl
    (fun _ hq => call_meets F.slot_dict_ne ⟨_, ho, rfl⟩ F.entry_dict_ne (F.args_dict_ne_2 _ _) (lwDictNeTup l b es ep items2 n2 dd dd2 sl sl2) ⟨ho, ho2, hq⟩)
    (fun _ hq => call_meets F.slot_tuple_ne_refl ⟨_, ho2, rfl⟩ F.entry_tuple_ne (F.args_tuple_ne_2 _ _) (lwTupNeDict b l es ep items2 n2 dd2 dd sl2 sl) ⟨ho2, ho, hq⟩)
    (fun _ hq => wpAny_isSame_ref_other hne ho ho2 (by simp) hq) (.inr hu) h)
end PySem.SeqAt
namespace Lw
open PySem L2
def rNeDT (K : Fg) : R2 := fun x y H Q => ∃ a b ys, x = .ref a ∧ y = .ref b ∧ H a = some (.dK []) ∧ SqT K H b ys ∧ Q (.bl true) H
section
variable {X : Cx} {W : WX} {env : Env} {pos : Pos}
theorem op_neDT (hu : X.A.units + 64 < cLine) : OpR X (compareOp .NotEq) (rNeDT X.K) := by
  intro pins s σ H x y v u Q I rx ry h
  obtain ⟨a, b, ys, rfl, rfl, ha, hb, q⟩ := h
  cases rx
  cases ry
  obtain ⟨_, ya, va, ra, o, es, ep, g1, ⟨g2, g3, g4⟩, g5, _⟩ := (show ObjOk X.prog X.w H s.heap a (.dK []) from I.hok a _ ha)
  obtain ⟨its, rv, ht, hz⟩ := I.tuple hb
  obtain ⟨⟨cls2, dd2, data2, sl2⟩, ho2, hc2, n2, hd2⟩ := (show s.heap.IsTuple b its.toArray from ht)
  obtain ⟨cls, dd, data, sl⟩ := o
  simp only at g2 g5 hc2 hd2
  subst g2 g5 hc2 hd2
  show wpAny _ _ (compareOp .NotEq (.ref a) (.ref b)) _ _ _
  exact SeqAt.lwRcNe g1 ho2 (by omega) X.prog X.w X.xe _ ⟨.bl true, H, I, rfl, q⟩
def neM2 (x y : D) : M D := fun h => match x, y with
  | .emp, .tup _ => .ok (.bl true) h
  | x, y => neM x y h
theorem ne2_ok : OpD X (fun x y H Q => rNeDT X.K x y H Q ∨ rNeX X.K x y H Q) neM2 := by
  intro fr W σ F m ah H d e x y Q s rx ry k
  unfold neM2 at k
  split at k
  · rename_i xs
    unfold Rep at rx ry
    obtain ⟨a, h1, rfl⟩ := rx
    obtain ⟨b, vs, rfl, h2, h3⟩ := ry
    exact .inl ⟨a, b, vs, rfl, rfl, s.sub _ _ h1, SqT.up s.sub h2, TK.val k s Rep.bl⟩
  · exact .inr (ne_ok fr W σ F m ah H d e x y Q s rx ry k)
theorem op_ne2 (hu : X.A.units + 64 < cLine) : OpR X (compareOp .NotEq) (fun x y H Q => rNeDT X.K x y H Q ∨ rNeX X.K x y H Q) := (op_neDT hu).or (op_neX hu)
end
end Lw

/-! SimN: objects: fields, methods, making. -/
namespace Lw
open PySem L2

/-! ### the classes' fields -/
abbrev CTab := List (Str × List Str)
def hasF (tab : CTab) (c f : Str) : Bool := match tab.lookup c with
  | some fs => fs.contains f
  | none => false
/-- what stands of a class of objects -/
structure InF (K : Fg) (mg : Str → Option Value) (c : Str) (C : Addr) : Prop where
  g : mg c = some (.ref C)
  cl : Cls K C
structure AtF (K : Fg) (mg : Str → Option Value) (tab : CTab) : Prop where
  ok : ∀ c f, hasF tab c f = true → ∃ C, InF K mg c C ∧ NoAttr K C f
def putD (f : Str) (v : D) : List (Str × D) → List (Str × D)
  | [] => [(f, v)]
  | (g, x) :: r => if g = f then (g, v) :: r else (g, x) :: putD f v r
section
variable {K : Fg} {F : Hp} {m : List Addr}
theorem RepK.put {f : Str} {d : D} {v : V} (h : Rep K F m d v) : ∀ {fs : List (Str × D)} {vs : List (Str × V)}, RepK K F m fs vs → RepK K F m (putD f d fs) (putF f v vs)
  | _, _, .nil => .cons ⟨rfl, h⟩ .nil
  | (g, x) :: r, (g', y) :: t, .cons ⟨e, q⟩ u => by
    have e : g = g' := e
    subst e
    show RepK K F m (if g = f then (g, d) :: r else (g, x) :: putD f d r) (if g = f then (g, v) :: t else (g, y) :: putF f v t)
    by_cases c : g = f
    · rw [if_pos c, if_pos c]
      exact .cons ⟨rfl, h⟩ u
    · rw [if_neg c, if_neg c]
      exact .cons ⟨rfl, q⟩ (RepK.put h u)
theorem RepK.lookup {f : Str} {d : D} : ∀ {fs : List (Str × D)} {vs : List (Str × V)}, RepK K F m fs vs → fs.lookup f = some d → ∃ v, vs.lookup f = some v ∧ Rep K F m d v
  | _, _, .nil, h => by cases h
  | (g, x) :: r, (g', y) :: t, .cons ⟨e, q⟩ u, h => by
    have e : g = g' := e
    subst e
    rw [List.lookup_cons] at h ⊢
    cases c : f == g with
    | true =>
      rw [c] at h
      cases h
      exact ⟨y, rfl, q⟩
    | false =>
      rw [c] at h
      exact RepK.lookup u h
theorem RepK.lookupN {f : Str} : ∀ {fs : List (Str × D)} {vs : List (Str × V)}, RepK K F m fs vs → fs.lookup f = none → vs.lookup f = none
  | _, _, .nil, h => rfl
  | (g, x) :: r, (g', y) :: t, .cons ⟨e, q⟩ u, h => by
    have e : g = g' := e
    subst e
    rw [List.lookup_cons] at h ⊢
    cases c : f == g with
    | true =>
      rw [c] at h
      cases h
    | false =>
      rw [c] at h
      exact RepK.lookupN u h
theorem RepK.length {κ : Type} : ∀ {fs : List (κ × D)} {vs : List (κ × V)}, RepK K F m fs vs → vs.length = fs.length
  | _, _, .nil => rfl
  | _ :: r, _ :: t, .cons _ u => by rw [List.length_cons, List.length_cons, RepK.length u]
end
/-- o.f -/
def fldM (tab : CTab) (f : Str) (d : D) : M D := fun h => match d with
  | .ref n => (match h[n]? with
    | some (.ins c fs) => if hasF tab c f = true then (match fs.lookup f with
      | some v => .ok v h
      | none => .stuck) else .stuck
    | _ => .stuck)
  | _ => .stuck
/-- o.f = v -/
def setFM (tab : CTab) (f : Str) (d v : D) : M Unit := fun h => match d with
  | .ref n => (match h[n]? with
    | some (.ins c fs) => if (hasF tab c f && decide (fs.length < 1000)) = true then .ok () (h.set n (.ins c (putD f v fs))) else .stuck
    | _ => .stuck)
  | _ => .stuck
section
variable {X : Cx} {W : WX} {ex env : Env} {pos apos : Pos} {τ β : Type} {mk : τ → Env} {lp : β → Env} {rest : List Stmt} {tab : CTab} {f : Str}
theorem ins_of {fr : Fm} {F H : Hp} {m : List Addr} {ah : AH} {n : Nat} {v : V} {c : Str} {fs : List (Str × D)} (S : Sim X.K X.mg fr F m ah H) (r : Rep X.K F m (.ref n) v) (h : ah[n]? = some (.ins c fs)) :
    ∃ a C dx vs, v = .ref a ∧ m[n]? = some a ∧ F a = none ∧ X.mg c = some (.ref C) ∧ H a = some (.ins C dx vs) ∧ RepK X.K F m fs vs := by
  unfold Rep at r
  obtain ⟨a, h1, rfl⟩ := r
  obtain ⟨a', q, ok⟩ := S.cells n _ h
  rw [h1] at q
  cases q
  obtain ⟨h2, C, dx, vs, h3, h4, h5⟩ := ok
  exact ⟨a, C, dx, vs, rfl, h1, h2, h3, h4, h5⟩
theorem de_fld {o : Expr} {mo : M D} (T : AtF X.K X.mg tab) (ho : DE X W env o mo) (hb : attributeBase o f X.env (eval o X.env) = eval o X.env := by rfl) : DE X W env (.Attribute o f pos) (do let x ← mo; fldM tab f x) :=
  PE.from (pe_fld ho hb) fun σ H Q ⟨fr, F, m, ah, s, er, q⟩ => TK.step s er q fun F1 m1 ah1 d v H1 e1 s1 er1 r1 k1 => by
    unfold fldM at k1
    cases d <;> try exact k1.elim
    rename_i n
    cases hc : ah1[n]? with
    | none =>
      simp only [hc] at k1
      exact k1.elim
    | some c =>
      cases c <;> simp only [hc] at k1 <;> try exact k1.elim
      rename_i c fs
      by_cases hf : hasF tab c f = true
      · rw [if_pos hf] at k1
        obtain ⟨C, T1, T2⟩ := T.ok c f hf
        obtain ⟨a, C', dx, vs, rfl, h1, h2, h3, h4, h5⟩ := ins_of s1 r1 hc
        have e : C = C' := Value.ref.inj (Option.some.inj (T1.g.symm.trans h3))
        subst e
        cases hl : fs.lookup f with
        | none =>
          simp only [hl] at k1
          exact k1.elim
        | some d =>
          simp only [hl] at k1
          obtain ⟨w, h6, h7⟩ := RepK.lookup h5 hl
          exact ⟨a, C, dx, vs, w, rfl, h4, T1.cl, T2, h6, TK.val k1 s1 h7⟩
      · rw [if_neg hf] at k1
        exact k1.elim
theorem ds_fld {o e : Expr} {mo me : M D} {mc : M (Out τ β)} (T : AtF X.K X.mg tab) (he : DE X W env e me) (ho : DE X W env o mo) (hx : EnvLe ex env) (hr : DS X W ex env mk lp rest mc)
    (hs : swapsWith e (some (.Attribute o f apos)) pos.line X.env = pure false := by rfl) :
    DS X W ex env mk lp (.Assign [.Attribute o f apos] e pos :: rest) (do let v ← me; let x ← mo; let _ ← setFM tab f x v; mc) :=
  PSs.from (pss_cons (ps_fld ho he hs) hr) fun Dn σ H ⟨fr, F, m, ah, s, er, q⟩ =>
    TO.step s er hx q fun F1 m1 ah1 d1 v1 H1 e1 s1 er1 r1 k1 => TO.step s1 er1 hx k1 fun F2 m2 ah2 d2 v2 H2 e2 s2 er2 r2 k2 => by
      rw [bind_def] at k2
      unfold setFM at k2
      cases d2 <;> try exact k2.elim
      rename_i n
      cases hc : ah2[n]? with
      | none =>
        simp only [hc] at k2
        exact k2.elim
      | some c =>
        cases c <;> simp only [hc] at k2 <;> try exact k2.elim
        rename_i c fs
        by_cases hf : (hasF tab c f && decide (fs.length < 1000)) = true
        · rw [if_pos hf] at k2
          rw [Bool.and_eq_true] at hf
          obtain ⟨C, T1, T2⟩ := T.ok c f hf.1
          obtain ⟨a, C', dx, vs, rfl, h1, h2, h3, h4, h5⟩ := ins_of s2 r2 hc
          have e : C = C' := Value.ref.inj (Option.some.inj (T1.g.symm.trans h3))
          subst e
          have r1 := Rep.ext e2 _ _ r1
          exact ⟨a, C, dx, vs, rfl, h4, T1.cl, T2, by rw [RepK.length h5]; exact of_decide_eq_true hf.2, fr, F2, m2, _, s2.write (c' := .ins c (putD f d1 fs)) hc h1 rfl ⟨h2, C, dx, _, h3, upd_same, RepK.put r1 h5⟩, er2, k2⟩
        · rw [if_neg hf] at k2
          exact k2.elim
end

/-! ### methods -/
def tMethS (C : Addr) (m : Str) (sp : Sp) (E : St → XK) (ta : TE) (t : TA) : TE := fun σ H Q => ta σ H fun x H1 => ∃ a dx fs, x = .ref a ∧ H1 a = some (.ins C dx fs) ∧ fs.lookup m = none ∧ t σ H1 fun vs H2 => sp (x :: vs) H2 Q (E σ)
section
variable {X : Cx} {CX : CXT} {k : Nat} {f C : Addr} {fd : FuncData} {ps : List Str} {sp : Sp} {E : St → XK} {x m : Str} {p pos apos : Pos} {e o : Expr} {es : List Expr} {ta : TE} {t : TA}
theorem pe_mthS {pl : Sem Bool} (he : PE X o ta) (c : Cls X.K C) (hm : Meth X.K C m f) (F : FnOk X.prog X.w X.K X.mg X.base CX k f fd ps sp) (hr : Room k X.A) (hb : Binds X.K fd ps []) (hx : ∀ σ, PassesAt CX X σ (E σ)) (ha : PA X (e :: es) t)
    (hst : starEach (e :: es) X.env = (false, eval e X.env) :: starEach es X.env := by rfl) (hpl : (backTo pos (starEach es X.env)).any (·.1) = false := by rfl)
    (ht : eval (.Call (.Attribute o m apos) (e :: es) [] pos) X.env = (do
      let ov ← eval o X.env
      standAt apos.atName
      let (f, first) ← holding [ov] (getMethod ov m pl)
      callWith pos f first (backTo pos (starEach (e :: es) X.env)) (backToKw pos (keywordEach [] X.env))) := by rfl) :
    PE X (.Call (.Attribute o m apos) (e :: es) [] pos) (tMethS C m sp E ta t) := by
  refine ⟨fun pins s σ H Q I h => ?_⟩
  refine PySem.W.methodCall_KW (pl := pl) (thn (he.run pins s σ H _ I h) fun u s1 ⟨x, H1, I1, rx, a, dx, fs, ex, ea, l, q⟩ => ?_) ht
  subst ex
  obtain rfl : u = Value.ref a := rx
  refine getmeth_ok I1 ea c hm l ?_
  refine PySem.W.callWith_K (first := [.ref a]) (h₀ := X.base) I.ok.mod.kin hm.kp (thn (ha.run pos pins s1 σ H1 _ I1 q) fun us s2 ⟨vs, H2, I2, r, q2⟩ => ⟨I2.kIn, ?_⟩) hst hpl
  exact run_fnSD (us := .ref a :: us) (vs := .ref a :: vs) (dvs := []) F hr hb .nil (hx σ) I2 (.cons rfl r) (by rw [List.append_nil]; exact q2)
theorem pe_mthS0 {pl : Sem Bool} (he : PE X o ta) (c : Cls X.K C) (hm : Meth X.K C m f) (F : FnOk X.prog X.w X.K X.mg X.base CX k f fd ps sp) (hr : Room k X.A) (hb : Binds X.K fd ps []) (hx : ∀ σ, PassesAt CX X σ (E σ))
    (ht : eval (.Call (.Attribute o m apos) [] [] pos) X.env = (do
      let ov ← eval o X.env
      standAt apos.atName
      let (f, first) ← holding [ov] (getMethod ov m pl)
      callWith pos f first (backTo pos (starEach [] X.env)) (backToKw pos (keywordEach [] X.env))) := by rfl) :
    PE X (.Call (.Attribute o m apos) [] [] pos) (tMethS C m sp E ta tNil) := by
  refine ⟨fun pins s σ H Q I h => ?_⟩
  refine PySem.W.methodCall_KW (pl := pl) (thn (he.run pins s σ H _ I h) fun u s1 ⟨x, H1, I1, rx, a, dx, fs, ex, ea, l, q⟩ => ?_) ht
  subst ex
  obtain rfl : u = Value.ref a := rx
  refine getmeth_ok I1 ea c hm l ?_
  exact PySem.W.callWith_K0 (first := [.ref a]) I1.kIn hm.kp (run_fnSD (us := [.ref a]) (vs := [.ref a]) (dvs := []) F hr hb .nil (hx σ) I1 (.cons rfl .nil) q)
def tMakeS (C : Addr) (sp : Sp) (E : St → XK) (t : TA) : TE := fun σ H Q => t σ H fun vs H1 => ∀ x dx, H1 x = none → H1 dx = none → dx ≠ x →
  sp (.ref x :: vs) (upd (upd H1 dx (.own x)) x (.ins C dx [])) (fun v H2 => v = .non ∧ Q (.ref x) H2) (E σ)
theorem run_mkS {pins : List (Addr × Obj)} {σ : St} {H : Hp} {s : Shared} {Q : VK} {us : List Value} {vs : List V} (M : Mk X.K C f) (F : FnOk X.prog X.w X.K X.mg X.base CX k f fd ps sp) (hr : Room (k + 1) X.A) (hb : Binds X.K fd ps [])
    (hx : PassesAt CX X σ (E σ)) (I : Inv X pins σ H s) (r : Vals vs us)
    (h : ∀ x dx, H x = none → H dx = none → dx ≠ x → sp (.ref x :: vs) (upd (upd H dx (.own x)) x (.ins C dx [])) (fun v H2 => v = .non ∧ Q (.ref x) H2) (E σ)) :
    wpAny (model X.prog X.w) X.A (call (.ref C) us) (EP X pins σ Q) X.xe s := by
  have hq := h (s.heap.objs.size + 1) s.heap.objs.size (I.hok.fresh (Nat.le_succ _)) (I.hok.fresh (Nat.le_refl _)) (Nat.ne_of_lt (Nat.lt_succ_self _))
  have I2 := Inv.made (C := C) I
  have r2 : Vals (V.ref (s.heap.objs.size + 1) :: vs) (Value.ref (s.heap.objs.size + 1) :: us) := .cons rfl r
  have hl : (Value.ref (s.heap.objs.size + 1) :: us ++ []).length = ps.length := by
    have e := r2.length
    rw [F.len _ _ _ _ hq] at e
    rw [List.append_nil]
    exact e.symm
  have hb' := hb _ (Value.ref (s.heap.objs.size + 1) :: us) I2.kIn hl
  rw [List.append_nil] at hb'
  refine wpAny_call (make_map (f := f) I.kIn M.makes M.init (beq_iff_eq.mp M.fn) (codeAny_mono (F.run _ X.stack _ _ ⟨Value.ref (s.heap.objs.size + 1) :: us, []⟩ (Value.ref (s.heap.objs.size + 1) :: us) _ _ (E σ) (hr.make C us [])
    (I2.env0.make C us []) hb' r2 hq) fun r s' hq' => ?_))
  cases r with
  | error e => exact hx pins _ _ e s' I2 hq'
  | ok fl =>
    cases fl with
    | ret u =>
      obtain ⟨v, H', I3, rv, ev, q3⟩ := I2.after hq'
      subst ev
      exact ⟨rv, ⟨V.ref (s.heap.objs.size + 1), H', I3, rfl, q3⟩⟩
    | next => exact False.elim hq'
    | brk => exact False.elim hq'
    | cont => exact False.elim hq'
theorem pe_mkS (M : Mk X.K C f) (F : FnOk X.prog X.w X.K X.mg X.base CX k f fd ps sp) (hr : Room (k + 1) X.A) (hg : Gl X x) (hm : X.mg x = some (.ref C)) (hb : Binds X.K fd ps []) (hx : ∀ σ, PassesAt CX X σ (E σ))
    (ha : PA X (e :: es) t) (hdb : (x == ("__debug__" : Str)) = false := by decide) (he : starEach (e :: es) X.env = (false, eval e X.env) :: starEach es X.env := by rfl) (hpl : (backTo pos (starEach es X.env)).any (·.1) = false := by rfl) :
    PE X (.Call (.Name x p) (e :: es) [] pos) (tMakeS C sp E t) := by
  refine ⟨fun pins s σ H Q I h => ?_⟩
  refine wpAny_Call_Name_kw (ld_glob I hg hm ?_ hdb)
  refine PySem.W.callWith_K (h₀ := X.base) I.ok.mod.kin M.kp (thn (ha.run pos pins s σ H _ I h) fun us s1 ⟨vs, H1, I1, r, q⟩ => ⟨I1.kIn, ?_⟩) he hpl
  exact run_mkS M F hr hb (hx σ) I1 r q
end

/-! ### methods and making, of plain data -/
structure MthF (P : Program) (w : World) (K : Fg) (mg : Str → Option Value) (base : Heap) (c m : Str) (k n : Nat) (g : List D → M D) : Prop where
  ex : ∃ (C f : Addr) (fd : FuncData) (ps : List Str), mg c = some (.ref C) ∧ Cls K C ∧ Meth K C m f ∧ FnOk P w K mg base (L2N.CX P w) k f fd ps (spD K mg n g) ∧ Binds K fd ps []
structure MkF (P : Program) (w : World) (K : Fg) (mg : Str → Option Value) (base : Heap) (c : Str) (k n : Nat) (g : List D → M D) : Prop where
  ex : ∃ (C f : Addr) (fd : FuncData) (ps : List Str), mg c = some (.ref C) ∧ Mk K C f ∧ FnOk P w K mg base (L2N.CX P w) k f fd ps (spD K mg n g) ∧ Binds K fd ps []
/-- an object of the class c, whose own dict has no m -/
def mchkM (c m : Str) (d : D) : M Unit := fun h => match d with
  | .ref n => (match h[n]? with
    | some (.ins c' fs) => if (decide (c' = c) && (fs.lookup m).isNone) = true then .ok () h else .stuck
    | _ => .stuck)
  | _ => .stuck
def makeM (c : Str) (g : List D → M D) (as : List D) : M D := do
  let r ← newM (.ins c [])
  let v ← g (r :: as)
  match v with
  | .non => pure r
  | _ => stuck
section
variable {X : Cx} {W : WX} {env : Env} {pos apos p : Pos} {k : Nat} {c m x : Str} {o e : Expr} {es : List Expr} {g : List D → M D} {mo : M D} {ms : M (List D)}
theorem mchk_of {fr : Fm} {σ : St} {F H : Hp} {m' : List Addr} {ah : AH} {d : D} {v : V} {α β : Type} {R : Hp → List Addr → α → β → Prop} {kk : Unit → M α} {Q : β → Hp → Prop} (S : Sim X.K X.mg fr F m' ah H) (r : Rep X.K F m' d v) (q : TK X.K X.mg fr W R σ F m' ((mchkM c m d >>= kk) ah) Q) :
    ∃ a C dx vs, v = .ref a ∧ X.mg c = some (.ref C) ∧ H a = some (.ins C dx vs) ∧ vs.lookup m = none ∧ TK X.K X.mg fr W R σ F m' (kk () ah) Q := by
  rw [bind_def] at q
  unfold mchkM at q
  cases d <;> try exact q.elim
  rename_i n
  cases hc : ah[n]? with
  | none =>
    simp only [hc] at q
    exact q.elim
  | some cl =>
    cases cl <;> simp only [hc] at q <;> try exact q.elim
    rename_i c' fs
    by_cases hf : (decide (c' = c) && (fs.lookup m).isNone) = true
    · simp only [if_pos hf] at q
      rw [Bool.and_eq_true] at hf
      have e : c' = c := of_decide_eq_true hf.1
      subst e
      obtain ⟨a, C, dx, vs, rfl, h1, h2, h3, h4, h5⟩ := ins_of S r hc
      exact ⟨a, C, dx, vs, rfl, h3, h4, RepK.lookupN h5 (Option.isNone_iff_eq_none.mp hf.2), q⟩
    · simp only [if_neg hf] at q
      exact q.elim
theorem de_mth {pl : Sem Bool} {n : Nat} (G : MthF X.prog X.w X.K X.mg X.base c m k n g) (hr : Room k X.A) (tk : L2N.Takes X W) (ho : DE X W env o mo) (ha : DA X W env (e :: es) ms) (hn : ∀ ah ds ah', ms ah = .ok ds ah' → ds.length + 1 = n)
    (hst : starEach (e :: es) X.env = (false, eval e X.env) :: starEach es X.env := by rfl) (hpl : (backTo pos (starEach es X.env)).any (·.1) = false := by rfl)
    (ht : eval (.Call (.Attribute o m apos) (e :: es) [] pos) X.env = (do
      let ov ← eval o X.env
      standAt apos.atName
      let (f, first) ← holding [ov] (getMethod ov m pl)
      callWith pos f first (backTo pos (starEach (e :: es) X.env)) (backToKw pos (keywordEach [] X.env))) := by rfl) :
    DE X W env (.Call (.Attribute o m apos) (e :: es) [] pos) (do let x ← mo; let _ ← mchkM c m x; let as ← ms; g (x :: as)) := by
  obtain ⟨C, f, fd, ps, hC, hcl, hm, hF, hB⟩ := G.ex
  refine PE.from (pe_mthS ho hcl hm hF hr hB (fun σ => L2N.passAt tk σ) ha hst hpl ht) fun σ H Q ⟨fr, F, m1, ah, s, er, q⟩ => TK.step s er q fun F1 m1 ah1 d v H1 e1 s1 er1 r1 k1 => ?_
  obtain ⟨a, C', dx, vs, rfl, g1, g2, g3, k2⟩ := mchk_of s1 r1 k1
  rw [hC] at g1
  cases g1
  refine ⟨a, dx, vs, rfl, g2, g3, fr, F1, m1, ah1, s1, er1, ?_⟩
  rw [bind_def] at k2
  cases hms : ms ah1 with
  | stuck =>
    rw [hms] at k2
    exact k2
  | exc z b =>
    rw [hms] at k2
    exact k2
  | ok ds b =>
    rw [hms] at k2
    intro F2 m2 us H2 e2 s2 r2
    refine ⟨by rw [List.length_cons, RepL.length r2]; exact hn _ _ _ hms, fr, F2, m2, b, d :: ds, s2, RepL.cons (Rep.ext e2 _ _ r1) r2, TK.wish (TK.ext e2 k2)⟩
theorem de_mth0 {pl : Sem Bool} (G : MthF X.prog X.w X.K X.mg X.base c m k 1 g) (hr : Room k X.A) (tk : L2N.Takes X W) (ho : DE X W env o mo)
    (ht : eval (.Call (.Attribute o m apos) [] [] pos) X.env = (do
      let ov ← eval o X.env
      standAt apos.atName
      let (f, first) ← holding [ov] (getMethod ov m pl)
      callWith pos f first (backTo pos (starEach [] X.env)) (backToKw pos (keywordEach [] X.env))) := by rfl) :
    DE X W env (.Call (.Attribute o m apos) [] [] pos) (do let x ← mo; let _ ← mchkM c m x; g [x]) := by
  obtain ⟨C, f, fd, ps, hC, hcl, hm, hF, hB⟩ := G.ex
  refine PE.from (pe_mthS0 ho hcl hm hF hr hB (fun σ => L2N.passAt tk σ) ht) fun σ H Q ⟨fr, F, m1, ah, s, er, q⟩ => TK.step s er q fun F1 m1 ah1 d v H1 e1 s1 er1 r1 k1 => ?_
  obtain ⟨a, C', dx, vs, rfl, g1, g2, g3, k2⟩ := mchk_of s1 r1 k1
  rw [hC] at g1
  cases g1
  exact ⟨a, dx, vs, rfl, g2, g3, rfl, fr, F1, m1, ah1, [d], s1, RepL.cons r1 RepL.nil, TK.wish k2⟩
theorem de_make {n : Nat} (G : MkF X.prog X.w X.K X.mg X.base x k n g) (hr : Room (k + 1) X.A) (tk : L2N.Takes X W) (ha : DA X W env (e :: es) ms) (hn : ∀ ah ds ah', ms ah = .ok ds ah' → ds.length + 1 = n) (hg : Gl X x := by rfl)
    (hdb : (x == ("__debug__" : Str)) = false := by decide) (he : starEach (e :: es) X.env = (false, eval e X.env) :: starEach es X.env := by rfl) (hpl : (backTo pos (starEach es X.env)).any (·.1) = false := by rfl) :
    DE X W env (.Call (.Name x p) (e :: es) [] pos) (do let as ← ms; makeM x g as) := by
  obtain ⟨C, f, fd, ps, hC, hM, hF, hB⟩ := G.ex
  refine PE.from (pe_mkS hM hF hr hg hC hB (fun σ => L2N.passAt tk σ) ha hdb he hpl) fun σ H Q ⟨fr, F, m1, ah, s, er, q⟩ => ⟨fr, F, m1, ah, s, er, ?_⟩
  rw [bind_def] at q
  cases hms : ms ah with
  | stuck =>
    rw [hms] at q
    exact q
  | exc z b =>
    rw [hms] at q
    exact q
  | ok ds b =>
    rw [hms] at q
    intro F2 m2 us H2 e2 s2 r2 xa dx nx ndx nex
    have q2 := TK.ext e2 q
    have s3 := s2.other (p := dx) (o := .own xa) (s2.freeF ndx) (fun z => by
      obtain ⟨u, hu⟩ := s2.there dx z
      rw [ndx] at hu
      cases hu) (s2.fresh0 ndx)
    have nx' : upd H2 dx (.own xa) xa = none := by rw [upd_ne nex.symm]; exact nx
    obtain ⟨s4, e4⟩ := s3.laid (p := xa) (o := .ins C dx []) (c := .ins x []) nx' ⟨s3.freeF nx', C, dx, [], hC, upd_same, .nil⟩
    have rr : Rep X.K F2 (m2 ++ [xa]) (.ref b.length) (.ref xa) := by
      unfold Rep
      refine ⟨xa, ?_, rfl⟩
      rw [← s2.len, List.getElem?_append_right (Nat.le_refl _)]
      simp
    refine ⟨by rw [List.length_cons, RepL.length r2]; exact hn _ _ _ hms, fr, F2, m2 ++ [xa], b ++ [.ins x []], .ref b.length :: ds, s4, RepL.cons rr (RepL.ext e4 _ _ r2), ?_⟩
    have q3 : TK X.K X.mg fr W (Rep X.K) σ F2 m2 ((g (.ref b.length :: ds) >>= fun v => match v with | .non => pure (.ref b.length) | _ => stuck) (b ++ [.ins x []])) Q := q2
    have q4 := TK.ext e4 q3
    rw [bind_def] at q4
    cases hgr : g (.ref b.length :: ds) (b ++ [.ins x []]) with
    | stuck =>
      rw [hgr] at q4
      exact q4.elim
    | exc z b2 =>
      rw [hgr] at q4
      exact q4
    | ok v b2 =>
      rw [hgr] at q4
      intro F5 m5 u H5 e5 s5 r5
      cases v <;> try exact (TK.stuck_of (TK.ext e5 q4)).elim
      unfold Rep at r5
      exact ⟨r5, q4 F5 m5 (.ref xa) H5 e5 s5 (Rep.ext e5 _ _ rr)⟩
end

/-! ### what stands of methods -/
structure DfnM (K : Fg) (mg : Str → Option Value) (c m qual : Str) (st : Stmt) (ps : List Str) : Prop where
  ex : ∃ (C f : Addr) (fd : FuncData), mg c = some (.ref C) ∧ Cls K C ∧ Meth K C m f ∧ Fun K m qual st f fd ∧ Binds K fd ps []
structure DfnI (K : Fg) (mg : Str → Option Value) (c qual : Str) (st : Stmt) (ps : List Str) : Prop where
  ex : ∃ (C f : Addr) (fd : FuncData), mg c = some (.ref C) ∧ Mk K C f ∧ Fun K "__init__" qual st f fd ∧ Binds K fd ps []
theorem DfnM.mth {P : Program} {w : World} {K : Fg} {mg : Str → Option Value} {base : Heap} {c m qual : Str} {st : Stmt} {ps : List Str} {k n : Nat} {g : List D → M D} (D : DfnM K mg c m qual st ps)
    (h : ∀ (f : Addr) (fd : FuncData), Fun K m qual st f fd → FnOk P w K mg base (L2N.CX P w) k f fd ps (spD K mg n g)) : MthF P w K mg base c m k n g := by
  obtain ⟨C, f, fd, h1, h2, h3, F, hb⟩ := D.ex
  exact ⟨C, f, fd, ps, h1, h2, h3, h f fd F, hb⟩
theorem DfnI.mkf {P : Program} {w : World} {K : Fg} {mg : Str → Option Value} {base : Heap} {c qual : Str} {st : Stmt} {ps : List Str} {k n : Nat} {g : List D → M D} (D : DfnI K mg c qual st ps)
    (h : ∀ (f : Addr) (fd : FuncData), Fun K "__init__" qual st f fd → FnOk P w K mg base (L2N.CX P w) k f fd ps (spD K mg n g)) : MkF P w K mg base c k n g := by
  obtain ⟨C, f, fd, h1, h2, F, hb⟩ := D.ex
  exact ⟨C, f, fd, ps, h1, h2, h f fd F, hb⟩
theorem inf_mk {K : Fg} {h : Heap} {mg : Str → Option Value} {c : Str} {C : Addr} (X : K.In h) (G : h.Ns mainGlobals mg) (a : PySem.W.nsIn K mainGlobals c = some (some (.ref C))) (pg : PySem.W.plainGet K C Str.empty = true) (hd : PySem.W.hasDictIn K C = true)
    (po : PySem.W.plainOver K C = true) (sa : PySem.W.findIn K (.ref C) "__setattr__" = some (some (.builtin "object.__setattr__"))) : InF K mg c C := ⟨PySem.W.mg_of X G a, pg, hd, po, sa⟩
theorem dfnm_mk {K : Fg} {mg : Str → Option Value} {c m qual : Str} {st : Stmt} {ps : List Str} {C f : Addr} {od an : Option Addr} {sl : Array (Option Value)} {oc kV dc pm cd ct : Value}
    (b : ∀ (kV doc pm : Value) (an : Option Addr) (cdv ct : Value) (us : List Value), us.length = ps.length → bindArgs (PySem.W.fnOf m qual (defArgs st) (defBody st) (defScope st) .none kV doc pm an cdv ct) ⟨us, []⟩ = pure (ps.zip us))
    (i : InF K mg c C) (a : PySem.W.findIn K (.ref C) m = some (some (.ref f))) (fn : PySem.W.isFn K (.ref f) = true)
    (l : K.lookup f = some ⟨oc, od, .func (PySem.W.fnOf m qual (defArgs st) (defBody st) (defScope st) .none kV dc pm an cd ct), sl⟩)
    (cc : PySem.W.codeIn K cd qual = true) (k : PySem.W.keepIn K (.ref f) = true) : DfnM K mg c m qual st ps :=
  ⟨C, f, _, i.g, i.cl, ⟨a, fn, k⟩, fun_mk l cc k, (fun_mk l cc k).binds b⟩
theorem dfni_mk {K : Fg} {mg : Str → Option Value} {c qual : Str} {st : Stmt} {ps : List Str} {C f : Addr} {od an : Option Addr} {sl : Array (Option Value)} {oc kV dc pm cd ct : Value}
    (b : ∀ (kV doc pm : Value) (an : Option Addr) (cdv ct : Value) (us : List Value), us.length = ps.length → bindArgs (PySem.W.fnOf "__init__" qual (defArgs st) (defBody st) (defScope st) .none kV doc pm an cdv ct) ⟨us, []⟩ = pure (ps.zip us))
    (i : InF K mg c C) (mk : PySem.W.makesIn K C = true) (kc : PySem.W.keepIn K (.ref C) = true) (a : PySem.W.findIn K (.ref C) "__init__" = some (some (.ref f))) (fn : PySem.W.isFn K (.ref f) = true)
    (l : K.lookup f = some ⟨oc, od, .func (PySem.W.fnOf "__init__" qual (defArgs st) (defBody st) (defScope st) .none kV dc pm an cd ct), sl⟩)
    (cc : PySem.W.codeIn K cd qual = true) (k : PySem.W.keepIn K (.ref f) = true) : DfnI K mg c qual st ps :=
  ⟨C, f, _, i.g, ⟨mk, a, fn, kc⟩, fun_mk l cc k, (fun_mk l cc k).binds b⟩
/-- the table of the fields -/
def RowF (K : Fg) (mg : Str → Option Value) (c : Str) (fs : List Str) : Prop := ∃ C, InF K mg c C ∧ ∀ f ∈ fs, NoAttr K C f
theorem rf_mk {K : Fg} {mg : Str → Option Value} {c : Str} {C : Addr} {fs : List Str} (i : InF K mg c C) (h : ∀ f ∈ fs, NoAttr K C f) : RowF K mg c fs := ⟨C, i, h⟩
theorem nf_nil {K : Fg} {C : Addr} : ∀ f ∈ ([] : List Str), NoAttr K C f := fun _ h => nomatch h
theorem nf_cons {K : Fg} {C : Addr} {f : Str} {fs : List Str} (h : PySem.W.findIn K (.ref C) f = some none) (t : ∀ f ∈ fs, NoAttr K C f) : ∀ g ∈ (f :: fs), NoAttr K C g := fun g hg => by
  rcases List.mem_cons.mp hg with rfl | hg
  · exact h
  · exact t g hg
theorem tf_nil {K : Fg} {mg : Str → Option Value} : ∀ p ∈ ([] : CTab), RowF K mg p.1 p.2 := fun _ h => nomatch h
theorem tf_cons {K : Fg} {mg : Str → Option Value} {c : Str} {fs : List Str} {tab : CTab} (h : RowF K mg c fs) (t : ∀ p ∈ tab, RowF K mg p.1 p.2) : ∀ p ∈ ((c, fs) :: tab), RowF K mg p.1 p.2 := fun p hp => by
  rcases List.mem_cons.mp hp with rfl | hp
  · exact h
  · exact t p hp
theorem atf_of {K : Fg} {mg : Str → Option Value} {tab : CTab} (h : ∀ p ∈ tab, RowF K mg p.1 p.2) : AtF K mg tab := ⟨fun c f e => by
  unfold hasF at e
  cases hr : tab.lookup c with
  | none =>
    rw [hr] at e
    cases e
  | some fs =>
    rw [hr] at e
    obtain ⟨C, i, q⟩ := h _ (lookup_mem hr)
    exact ⟨C, i, q f (List.contains_iff_mem.mp e)⟩⟩

/-! how many arguments -/
theorem alen1 {ma : M D} : ∀ ah ds ah', (do let x ← ma; pure [x] : M (List D)) ah = .ok ds ah' → ds.length + 1 = 2 := fun ah ds ah' h => by
  rw [bind_def] at h
  cases hm : ma ah with
  | ok a b =>
    rw [hm] at h
    cases h
    rfl
  | exc _ _ =>
    rw [hm] at h
    cases h
  | stuck =>
    rw [hm] at h
    cases h
theorem alen2 {ma mb : M D} : ∀ ah ds ah', (do let x ← ma; let y ← mb; pure [x, y] : M (List D)) ah = .ok ds ah' → ds.length + 1 = 3 := fun ah ds ah' h => by
  rw [bind_def] at h
  cases hm : ma ah with
  | ok a b =>
    rw [hm] at h
    have h : (mb >>= fun y => (pure [a, y] : M (List D))) b = .ok ds ah' := h
    rw [bind_def] at h
    cases hb : mb b with
    | ok a2 b2 =>
      rw [hb] at h
      cases h
      rfl
    | exc _ _ =>
      rw [hb] at h
      cases h
    | stuck =>
      rw [hb] at h
      cases h
  | exc _ _ =>
    rw [hm] at h
    cases h
  | stuck =>
    rw [hm] at h
    cases h
theorem alenS {n : Nat} {ma : M D} {ms : M (List D)} (hs : ∀ ah ds ah', ms ah = .ok ds ah' → ds.length + 1 = n) : ∀ ah ds ah', (do let x ← ma; let xs ← ms; pure (x :: xs) : M (List D)) ah = .ok ds ah' → ds.length + 1 = n + 1 := fun ah ds ah' h => by
  rw [bind_def] at h
  cases hm : ma ah with
  | ok a b =>
    rw [hm] at h
    have h : (ms >>= fun y => (pure (a :: y) : M (List D))) b = .ok ds ah' := h
    rw [bind_def] at h
    cases hb : ms b with
    | ok a2 b2 =>
      rw [hb] at h
      cases h
      have := hs _ _ _ hb
      rw [List.length_cons]
      omega
    | exc _ _ =>
      rw [hb] at h
      cases h
    | stuck =>
      rw [hb] at h
      cases h
  | exc _ _ =>
    rw [hm] at h
    cases h
  | stuck =>
    rw [hm] at h
    cases h
end Lw

/-! SimO: dicts. -/
namespace Lw
open PySem L2
def keyD : D → Option Key
  | .int i => some (.inl i)
  | .str x => some (.inr x)
  | _ => none
def valD (kvs : List (Key × D)) (k : Key) : Option D := (kvs.find? fun kv => decide (kv.1 = k)).map (·.2)
def putKD (kvs : List (Key × D)) (k : Key) (d : D) : List (Key × D) := if (kvs.any fun kv => decide (kv.1 = k)) = true then kvs.map (fun kv => if kv.1 = k then (kv.1, d) else kv) else kvs ++ [(k, d)]
def dropKD (kvs : List (Key × D)) (k : Key) : List (Key × D) := kvs.filter fun kv => decide (kv.1 ≠ k)
section
variable {K : Fg} {F : Hp} {m : List Addr}
theorem key_rep {d : D} {v : V} {k : Key} (r : Rep K F m d v) (h : keyD d = some k) : v = kV k := by
  cases d <;> try (cases h; done)
  · cases h
    unfold Rep at r
    exact r
  · cases h
    unfold Rep at r
    exact r
theorem RepK.val {k : Key} : ∀ {kvs : List (Key × D)} {vs : List (Key × V)}, RepK K F m kvs vs → (∀ d, valD kvs k = some d → ∃ v, valV vs k = some v ∧ Rep K F m d v) ∧ (valD kvs k = none → valV vs k = none)
  | _, _, .nil => ⟨(fun d h => nomatch h), fun _ => rfl⟩
  | (g, x) :: r, (g', y) :: t, .cons ⟨e, q⟩ u => by
    have e : g = g' := e
    subst e
    obtain ⟨i1, i2⟩ := RepK.val (k := k) u
    by_cases c : g = k
    · have a : valD ((g, x) :: r) k = some x := by simp [valD, List.find?_cons, c]
      rw [a, valV_pos (p := (g, y)) c]
      exact ⟨(fun d h => by cases h; exact ⟨y, rfl, q⟩), (fun h => nomatch h)⟩
    · have a : valD ((g, x) :: r) k = valD r k := by simp [valD, List.find?_cons, c]
      rw [a, valV_neg (p := (g, y)) c]
      exact ⟨i1, i2⟩
theorem RepK.any {k : Key} : ∀ {kvs : List (Key × D)} {vs : List (Key × V)}, RepK K F m kvs vs → (vs.any fun kv => decide (kv.1 = k)) = (kvs.any fun kv => decide (kv.1 = k))
  | _, _, .nil => rfl
  | (g, x) :: r, (g', y) :: t, .cons ⟨e, q⟩ u => by
    have e : g = g' := e
    subst e
    rw [List.any_cons, List.any_cons, RepK.any u]
theorem RepK.snoc {k : Key} {d : D} {v : V} (h : Rep K F m d v) : ∀ {kvs : List (Key × D)} {vs : List (Key × V)}, RepK K F m kvs vs → RepK K F m (kvs ++ [(k, d)]) (vs ++ [(k, v)])
  | _, _, .nil => .cons ⟨rfl, h⟩ .nil
  | _ :: _, _ :: _, .cons q u => .cons q (RepK.snoc h u)
theorem RepK.repl {k : Key} {d : D} {v : V} (h : Rep K F m d v) : ∀ {kvs : List (Key × D)} {vs : List (Key × V)}, RepK K F m kvs vs → RepK K F m (kvs.map fun kv => if kv.1 = k then (kv.1, d) else kv) (vs.map fun kv => if kv.1 = k then (kv.1, v) else kv)
  | _, _, .nil => .nil
  | (g, x) :: r, (g', y) :: t, .cons ⟨e, q⟩ u => by
    have e : g = g' := e
    subst e
    rw [List.map_cons, List.map_cons]
    refine .cons ?_ (RepK.repl h u)
    by_cases c : g = k
    · rw [if_pos c, if_pos c]
      exact ⟨rfl, h⟩
    · rw [if_neg c, if_neg c]
      exact ⟨rfl, q⟩
theorem RepK.putK {k : Key} {d : D} {v : V} (h : Rep K F m d v) {kvs : List (Key × D)} {vs : List (Key × V)} (r : RepK K F m kvs vs) : RepK K F m (putKD kvs k d) (L2.putK vs k v) := by
  unfold putKD L2.putK
  rw [r.any]
  by_cases c : (kvs.any fun kv => decide (kv.1 = k)) = true
  · rw [if_pos c, if_pos c]
    exact RepK.repl h r
  · rw [if_neg c, if_neg c]
    exact RepK.snoc h r
theorem RepK.drop {k : Key} : ∀ {kvs : List (Key × D)} {vs : List (Key × V)}, RepK K F m kvs vs → RepK K F m (dropKD kvs k) (dropK vs k)
  | _, _, .nil => .nil
  | (g, x) :: r, (g', y) :: t, .cons ⟨e, q⟩ u => by
    have e : g = g' := e
    subst e
    have ih := RepK.drop (k := k) u
    unfold dropKD dropK at ih ⊢
    by_cases c : g ≠ k
    · rw [List.filter_cons_of_pos (by simpa using c), List.filter_cons_of_pos (by simpa using c)]
      exact .cons ⟨rfl, q⟩ ih
    · rw [List.filter_cons_of_neg (by simpa using c), List.filter_cons_of_neg (by simpa using c)]
      exact ih
end
/-- the dict that d is -/
def dkOf (h : AH) : D → Option (List (Key × D))
  | .ref n => match h[n]? with
    | some (.dk kvs) => some kvs
    | some (.dkL kvs) => some kvs
    | _ => none
  | _ => none
/-- d[k] -/
def dgetM (d k : D) : M D := fun h => match dkOf h d, keyD k with
  | some kvs, some k => (match valD kvs k with
    | some v => .ok v h
    | none => .stuck)
  | _, _ => .stuck
/-- d.get(k) -/
def dget1M (d k : D) : M D := fun h => match dkOf h d, keyD k with
  | some kvs, some k => .ok ((valD kvs k).getD .non) h
  | _, _ => .stuck
def dinM (neg : Bool) (k d : D) : M D := fun h => match dkOf h d, keyD k with
  | some kvs, some k => .ok (.bl (xor neg (valD kvs k).isSome)) h
  | _, _ => .stuck
/-- it is a dict -/
def dchk (d : D) : M Unit := fun h => match dkOf h d with
  | some _ => .ok () h
  | none => .stuck
/-- d[k] = v -/
def dputM (d k v : D) : M Unit := fun h => match d with
  | .ref n => (match h[n]?, keyD k with
    | some (.dk kvs), some k => if lenOk (kvs.length + 1) = true then .ok () (h.set n (.dk (putKD kvs k v))) else .stuck
    | _, _ => .stuck)
  | _ => .stuck
section
variable {X : Cx} {W : WX} {ex env : Env} {pos apos tpos : Pos} {τ β : Type} {mk : τ → Env} {lp : β → Env} {rest : List Stmt}
theorem dk_of {fr : Fm} {F H : Hp} {m : List Addr} {ah : AH} {d : D} {v : V} {kvs : List (Key × D)} (S : Sim X.K X.mg fr F m ah H) (r : Rep X.K F m d v) (h : dkOf ah d = some kvs) :
    ∃ a n vs, v = .ref a ∧ d = .ref n ∧ m[n]? = some a ∧ Rd H a (.dK vs) ∧ RepK X.K F m kvs vs := by
  cases d <;> try (cases h; done)
  rename_i n
  unfold dkOf at h
  cases hc : ah[n]? with
  | none =>
    simp only [hc] at h
    cases h
  | some c =>
    unfold Rep at r
    obtain ⟨a, h1, rfl⟩ := r
    obtain ⟨a', q, ok⟩ := S.cells n _ hc
    rw [h1] at q
    cases q
    cases c <;> simp only [hc] at h <;> try (cases h; done)
    · cases h
      obtain ⟨h2, vs, h3, h4⟩ := ok
      exact ⟨a, n, vs, rfl, rfl, h1, .inl h3, h4⟩
    · cases h
      obtain ⟨o, vs, h3, h4⟩ := ok
      exact ⟨a, n, vs, rfl, rfl, h1, .inr ⟨o, S.sub _ _ h3⟩, h4⟩
theorem dget_rd {H : Hp} {a : Addr} {kvs : List (Key × V)} {k : Key} (e : Rd H a (.dK kvs)) : DGet H a (kV k) (valV kvs k) := .inl ⟨kvs, k, e, rfl, rfl⟩
theorem de_dget {o i : Expr} {mo mi : M D} (hu : X.A.units + 64 < cLine) (ho : DE X W env o mo) (hi : DE X W env i mi) (hs : NoSl i := by intro _ _; rfl) : DE X W env (.Subscript o i pos) (do let x ← mo; let y ← mi; dgetM x y) :=
  PE.from (pe_dget (by omega) ho hi hs) fun σ H Q ⟨fr, F, m, ah, s, er, q⟩ => TK.step s er q fun F1 m1 ah1 d v H1 e1 s1 er1 r1 k1 => TK.step s1 er1 k1 fun F2 m2 ah2 d2 v2 H2 e2 s2 er2 r2 k2 => by
    have r1 := Rep.ext e2 _ _ r1
    unfold dgetM at k2
    cases hd : dkOf ah2 d with
    | none =>
      simp only [hd] at k2
      exact k2.elim
    | some kvs =>
      cases hk : keyD d2 with
      | none =>
        simp only [hd, hk] at k2
        exact k2.elim
      | some k =>
        cases hv : valD kvs k with
        | none =>
          simp only [hd, hk, hv] at k2
          exact k2.elim
        | some w =>
          simp only [hd, hk, hv] at k2
          obtain ⟨a, n, vs, rfl, rfl, h1, h4, h5⟩ := dk_of s2 r1 hd
          obtain ⟨u, h6, h7⟩ := (h5.val (k := k)).1 w hv
          exact ⟨a, u, rfl, by rw [key_rep r2 hk, ← h6]; exact dget_rd h4, TK.val k2 s2 h7⟩
theorem de_dget1 {o i : Expr} {mo mi : M D} (hu : X.A.units + 64 < cLine) (ho : DE X W env o mo) (hi : DE X W env i mi) (hm : M1 X o "get" apos i pos := by exact ⟨rfl, rfl, rfl, rfl⟩) : DE X W env (.Call (.Attribute o "get" apos) [i] [] pos) (do let x ← mo; let _ ← dchk x; let y ← mi; dget1M x y) :=
  PE.from (pe_dget1 (by omega) ho hi hm) fun σ H Q ⟨fr, F, m, ah, s, er, q⟩ => TK.step s er q fun F1 m1 ah1 d v H1 e1 s1 er1 r1 k0 => by
    rw [bind_def] at k0
    unfold dchk at k0
    cases hd0 : dkOf ah1 d with
    | none =>
      simp only [hd0] at k0
      exact k0.elim
    | some kv0 =>
      simp only [hd0] at k0
      obtain ⟨a, n, vs, rfl, rfl, g1, g4, g5⟩ := dk_of s1 r1 hd0
      refine ⟨a, rfl, .inl ⟨vs, g4⟩, TK.step s1 er1 k0 fun F2 m2 ah2 d2 v2 H2 e2 s2 er2 r2 k2 => ?_⟩
      have r1 := Rep.ext e2 _ _ r1
      unfold dget1M at k2
      cases hd : dkOf ah2 (.ref n) with
      | none =>
        simp only [hd] at k2
        exact k2.elim
      | some kvs =>
        cases hk : keyD d2 with
        | none =>
          simp only [hd, hk] at k2
          exact k2.elim
        | some k =>
          simp only [hd, hk] at k2
          obtain ⟨a', n', vs', e3, _, h1, h4, h5⟩ := dk_of s2 r1 hd
          cases e3
          obtain ⟨i1, i2⟩ := h5.val (k := k)
          refine ⟨valV vs' k, by rw [key_rep r2 hk]; exact dget_rd h4, ?_⟩
          cases hv : valD kvs k with
          | none =>
            rw [hv] at k2
            rw [i2 hv]
            exact TK.val k2 s2 Rep.non
          | some w =>
            rw [hv] at k2
            obtain ⟨u, h6, h7⟩ := i1 w hv
            rw [h6]
            exact TK.val k2 s2 h7
theorem ds_dput {o i e : Expr} {mo mi me : M D} {mc : M (Out τ β)} (hu : X.A.units + 64 < cLine) (he : DE X W env e me) (ho : DE X W env o mo) (hi : DE X W env i mi) (hx : EnvLe ex env) (hr : DS X W ex env mk lp rest mc)
    (hs : swapsWith e (some (.Subscript o i tpos)) pos.line X.env = pure false := by rfl) :
    DS X W ex env mk lp (.Assign [.Subscript o i tpos] e pos :: rest) (do let v ← me; let x ← mo; let y ← mi; let _ ← dputM x y v; mc) :=
  PSs.from (pss_cons (ps_dput (by omega) ho hi he hs) hr) fun Dn σ H ⟨fr, F, m, ah, s, er, q⟩ =>
    TO.step s er hx q fun F1 m1 ah1 d1 v1 H1 e1 s1 er1 r1 k1 => TO.step s1 er1 hx k1 fun F2 m2 ah2 d2 v2 H2 e2 s2 er2 r2 k2 => TO.step s2 er2 hx k2 fun F3 m3 ah3 d3 v3 H3 e3 s3 er3 r3 k3 => by
      rw [bind_def] at k3
      have r2 := Rep.ext e3 _ _ r2
      have r1 := Rep.ext (e2.trans e3) _ _ r1
      unfold dputM at k3
      cases d2 <;> try exact k3.elim
      rename_i n _
      cases hc : ah3[n]? with
      | none =>
        simp only [hc] at k3
        exact k3.elim
      | some c =>
        cases c <;> simp only [hc] at k3 <;> try exact k3.elim
        rename_i kvs
        cases hk : keyD d3 with
        | none =>
          simp only [hk] at k3
          exact k3.elim
        | some k =>
          simp only [hk] at k3
          by_cases hl : lenOk (kvs.length + 1) = true
          · simp only [if_pos hl] at k3
            unfold Rep at r2
            obtain ⟨a, h2, rfl⟩ := r2
            obtain ⟨a', q', ok⟩ := s3.cells n _ hc
            rw [h2] at q'
            cases q'
            obtain ⟨h3, vs, h4, h5⟩ := ok
            have hl' : vs.length < sizeLine := by
              have := of_decide_eq_true hl
              rw [RepK.length (κ := Key) h5]
              omega
            exact ⟨a, _, rfl, by rw [key_rep r3 hk]; exact DPut.k h4 hl', fr, F3, m3, _, s3.write (c' := .dk (putKD kvs k d1)) hc h2 rfl ⟨h3, _, upd_same, h5.putK r1⟩, er3, k3⟩
          · simp only [if_neg hl] at k3
            exact k3.elim
end
end Lw

/-! SimP: extend, in a dict. -/
namespace PySem.AutoSeq1
theorem lwExt (l : Addr) (xs : Array Value) (n : Nat) (b : Addr) (ys : Array Value) (n2 : Nat) (dd2 : Option Addr) (sl2 : Array (Option Value)) (hc0 : ¬(!xs.isEmpty && Builtin.List.listTooLong (xs.size + ys.size)) = true) (hc1 : xs.size ≤ sizeLine) (hs2 : xs.size + ys.size ≤ sizeLine + 1) :
    Meets (Builtin.«list.extend» ⟨[.ref l, .ref b], []⟩) (fun _ R s => s.heap.get? l = some { cls := .type "list", dict := none, data := .seq xs n, slots := #[] } ∧ s.heap.get? b = some { cls := .type "list", dict := dd2, data := .seq ys n2, slots := sl2 } ∧ R (.ok (.ret Value.none)) { s with heap := s.heap.update l (Obj.mapSeq fun x => x ++ ys), toks := s.toks }) :=
  .of_wp fun prog w A R s h => by
    obtain ⟨hp, g, d, tk, os⟩ := s
    obtain ⟨hl, hb, h⟩ := h
    have f1 := idx_int
    have f2 := sub_tuple_tuple
    have f3 := sub_list_list
    have f4 := sub_tuple_list
    have f5 := sub_list_tuple
    have hz' : (xs ++ ys).size ≤ sizeLine + 1 := by rw [Array.size_append] <;> exact hs2
    wp_walk using (wpAny_updateSeq hl rfl (hz := hc1) (_hz' := hz')), wpAny_loadPart' hl, wpAny_loadPart' hb
    exact ⟨_, rfl, h⟩
end PySem.AutoSeq1
namespace Lw
open PySem L2
/-- xs.extend(a list) -/
def rExtS (K : Fg) : V → List V → Hp → VK → Prop := fun x vs H Q => ∃ l b xs zs, x = .ref l ∧ vs = [.ref b] ∧ H l = some (.lst xs) ∧ SqL K H b zs ∧ xs.length + zs.length ≤ sizeLine ∧ Q .non (upd H l (.lst (xs ++ zs)))
section
variable {X : Cx}
theorem notLong {n : Nat} (h : n ≤ sizeLine) : ¬ Builtin.List.listTooLong n = true := by
  unfold Builtin.List.listTooLong
  simp only [decide_eq_true_eq]
  have : sizeLine ≤ (2 ^ 63 - 1) / 8 := by decide
  first
    | omega
    | (intro z; simp at z; omega)
theorem mt_extS : MtR X "list.extend" (rExtS X.K) := by
  intro pins s σ H x vs v us Q I rx rv h
  obtain ⟨l, b, xs, zs, rfl, rfl, hH, hB, hz, q⟩ := h
  cases rx
  obtain ⟨u, rfl, ru⟩ := rv.one
  cases ru
  obtain ⟨z, its, n, r, hl, e⟩ := I.lstM hH
  obtain ⟨its2, r2, pl, hz2⟩ := I.list hB
  have e1 := r.length
  have e2 := r2.length
  obtain ⟨⟨cls2, dd2, data2, sl2⟩, ho2, hc2, n2, hd2⟩ := pl.isList
  simp only at hc2 hd2
  subst hc2 hd2
  have hsz : its.toArray.size + its2.toArray.size ≤ sizeLine := by rw [List.size_toArray, List.size_toArray]; omega
  have hlong : ¬ (!its.toArray.isEmpty && Builtin.List.listTooLong (its.toArray.size + its2.toArray.size)) = true := by
    intro q
    rw [Bool.and_eq_true] at q
    exact notLong hsz q.2
  refine call_meets F.slot_list_extend ⟨_, e, rfl⟩ F.entry_list_extend (F.args_list_extend_2 _ _)
    (PySem.AutoSeq1.lwExt l its.toArray n b its2.toArray n2 dd2 sl2 hlong (by rw [List.size_toArray]; omega) (by omega)) ⟨e, ho2, ?_⟩
  refine ⟨.non, _, I.lset (its' := its ++ its2) hH e (by simp) (r.append r2) ?_, rfl, q⟩
  rw [List.length_append]
  omega
def extendM (x y : D) : M D := fun h => match lstOf h y with
  | some ys => onLst x (fun xs => if lenOk (xs.length + ys.length) = true then some (.non, xs ++ ys) else none) h
  | none => .stuck
theorem de_extend {W : WX} {env : Env} {pos : Pos} {o e : Expr} {mo me : M D} {apos : Pos} (ho : DE X W env o mo) (he : DE X W env e me) (hbase : attributeBase o "extend" X.env (eval o X.env) = eval o X.env := by rfl)
    (hfew : ((backTo pos (starEach [e] X.env)).all (fun x => !x.1) && (backToKw pos (keywordEach [] X.env)).all (fun x => x.1.isSome)
      && decide ([e].length + ([] : List Keyword).length + (if ([] : List Keyword).isEmpty then 0 else 1) < 30)) = true := by rfl)
    (hline : (apos.endLine == pos.line) = true := by rfl) (hs : starEach [e] X.env = (false, eval e X.env) :: starEach [] X.env := by rfl) (hplain : (backTo pos (starEach [] X.env)).any (·.1) = false := by rfl) :
    DE X W env (.Call (.Attribute o "extend" apos) [e] [] pos) (do let x ← mo; lchk x; let y ← me; extendM x y) :=
  de_lm1 F.slot_list_extend F.type_list_extend mt_extS (fun fr W σ F m ah H d e v w Q S r r2 k => by
    unfold extendM at k
    cases hy : lstOf ah e with
    | none =>
      simp only [hy] at k
      exact k.elim
    | some ys =>
      simp only [hy] at k
      obtain ⟨a, xs, vs, z, zs, rfl, h1, h2, h3, h4⟩ := onLst_of S r k
      obtain ⟨b, us, rfl, g1, g2⟩ := lst_of S r2 hy
      by_cases hl : lenOk (xs.length + ys.length) = true
      · rw [if_pos hl] at h3
        cases h3
        exact ⟨a, b, vs, us, rfl, rfl, h1, g1, by rw [RepL.length h2, RepL.length g2]; exact of_decide_eq_true hl, h4 _ (RepL.append h2 g2) _ Rep.non⟩
      · rw [if_neg hl] at h3
        cases h3) ho he hbase hfew hline hs hplain
/-! k in d -/
theorem de_ind {W : WX} {env : Env} {pos : Pos} {a b : Expr} {ma mb : M D} (hu : X.A.units + 64 < cLine) (ha : DE X W env a ma) (hb : DE X W env b mb) (hm : behindInMarks .In b = false := by rfl) :
    DE X W env (.Compare a [.In] [b] pos) (do let x ← ma; let y ← mb; dinM false x y) :=
  PE.from (pe_cmp (pc_din (by omega) ha hb) hm) fun σ H Q ⟨fr, F, m, ah, s, er, q⟩ => TK.step s er q fun F1 m1 ah1 d v H1 e1 s1 er1 r1 k1 => TK.step s1 er1 k1 fun F2 m2 ah2 d2 v2 H2 e2 s2 er2 r2 k2 => by
    have r1 := Rep.ext e2 _ _ r1
    unfold dinM at k2
    cases hd : dkOf ah2 d2 with
    | none =>
      simp only [hd] at k2
      exact k2.elim
    | some kvs =>
      cases hk : keyD d with
      | none =>
        simp only [hd, hk] at k2
        exact k2.elim
      | some k =>
        simp only [hd, hk] at k2
        obtain ⟨p, n, vs, rfl, rfl, h1, h4, h5⟩ := dk_of s2 r2 hd
        obtain ⟨i1, i2⟩ := h5.val (k := k)
        refine ⟨p, valV vs k, rfl, by rw [key_rep r1 hk]; exact dget_rd h4, ?_⟩
        have e : (valV vs k).isSome = (valD kvs k).isSome := by
          cases hv : valD kvs k with
          | none => rw [i2 hv]; rfl
          | some w =>
            obtain ⟨u, h6, _⟩ := i1 w hv
            rw [h6]
            rfl
        rw [e]
        have z := TK.val k2 s2 Rep.bl
        rw [Bool.false_xor] at z
        exact z
theorem de_notind {W : WX} {env : Env} {pos : Pos} {a b : Expr} {ma mb : M D} (hu : X.A.units + 64 < cLine) (ha : DE X W env a ma) (hb : DE X W env b mb) (hm : behindInMarks .NotIn b = false := by rfl) :
    DE X W env (.Compare a [.NotIn] [b] pos) (do let x ← ma; let y ← mb; dinM true x y) :=
  PE.from (pe_cmp (pc_dnotin (by omega) ha hb) hm) fun σ H Q ⟨fr, F, m, ah, s, er, q⟩ => TK.step s er q fun F1 m1 ah1 d v H1 e1 s1 er1 r1 k1 => TK.step s1 er1 k1 fun F2 m2 ah2 d2 v2 H2 e2 s2 er2 r2 k2 => by
    have r1 := Rep.ext e2 _ _ r1
    unfold dinM at k2
    cases hd : dkOf ah2 d2 with
    | none =>
      simp only [hd] at k2
      exact k2.elim
    | some kvs =>
      cases hk : keyD d with
      | none =>
        simp only [hd, hk] at k2
        exact k2.elim
      | some k =>
        simp only [hd, hk] at k2
        obtain ⟨p, n, vs, rfl, rfl, h1, h4, h5⟩ := dk_of s2 r2 hd
        obtain ⟨i1, i2⟩ := h5.val (k := k)
        refine ⟨p, valV vs k, rfl, by rw [key_rep r1 hk]; exact dget_rd h4, ?_⟩
        have e : (valV vs k).isSome = (valD kvs k).isSome := by
          cases hv : valD kvs k with
          | none => rw [i2 hv]; rfl
          | some w =>
            obtain ⟨u, h6, _⟩ := i1 w hv
            rw [h6]
            rfl
        rw [e]
        have z := TK.val k2 s2 Rep.bl
        rw [Bool.true_xor] at z
        exact z
end
end Lw

/-! SimQ: a dict that is walked stands locked. -/
namespace Lw
open PySem L2
section
variable {K : Fg} {mg : Str → Option Value} {fr : Fm} {F H : Hp} {m : List Addr} {ah : AH}
theorem Sim.lock {i : Nat} {a : Addr} {kvs : List (Key × D)} {vs : List (Key × V)} {o : Obj} (S : Sim K mg fr F m ah H) (hi : ah[i]? = some (.dk kvs)) (ha : m[i]? = some a) (hv : H a = some (.dK vs)) (rv : RepK K F m kvs vs) :
    Sim K mg fr (upd F a (.frz o (.dK vs))) m (ah.set i (.dkL kvs)) (upd H a (.frz o (.dK vs))) ∧ Ext F m (upd F a (.frz o (.dK vs))) m := by
  have am : a ∈ m := List.mem_of_getElem? ha
  have fa : F a = none := by
    obtain ⟨a', q, ok⟩ := S.cells i _ hi
    rw [ha] at q
    cases q
    exact ok.1
  have e : Ext F m (upd F a (.frz o (.dK vs))) m := ⟨fun b u h => by rw [upd_ne (ne_of_none h fa)]; exact h, fun _ _ h => h⟩
  refine ⟨⟨fun b u h => ?_, by rw [List.length_set]; exact S.len, S.nod, fun j x h => ?_, fun b u h n => ?_, S.young, S.pre, fun b hb => ?_, fun b u h => ?_⟩, e⟩
  · by_cases z : b = a
    · rw [z, upd_same] at h ⊢
      exact h
    · rw [upd_ne z] at h ⊢
      exact S.sub b u h
  · by_cases hj : i = j
    · subst hj
      rw [List.getElem?_set_self (List.getElem?_eq_some_iff.mp hi).1] at h
      cases h
      exact ⟨a, ha, o, vs, upd_same, RepK.ext e rv⟩
    · rw [List.getElem?_set_ne hj] at h
      obtain ⟨b, q, okb⟩ := S.cells j x h
      have ne : b ≠ a := fun z => hj (by
        rw [z] at q
        obtain ⟨h1, e1⟩ := List.getElem?_eq_some_iff.mp ha
        obtain ⟨h2, e2⟩ := List.getElem?_eq_some_iff.mp q
        exact (List.getElem_inj S.nod).mp (e1.trans e2.symm))
      exact ⟨b, q, okb.ext e (fun z => by rw [upd_ne ne]; exact okb.free z) fun _ => upd_ne ne⟩
  · have ne : b ≠ a := fun z => by
      subst z
      have y := S.young b am n
      rw [h] at y
      cases y
    rw [upd_ne ne]
    exact S.frame b u h n
  · by_cases z : b = a
    · rw [z, upd_same]
      exact ⟨_, rfl⟩
    · rw [upd_ne z]
      exact S.there b hb
  · by_cases z : b = a
    · rw [z]
      by_cases y : a ∈ fr.m0
      · exact .inr (.inr y)
      · exact .inr (.inl (S.young a am y))
    · rw [upd_ne z] at h
      exact S.old b u h
/-- F without what stands at a -/
def cutF (F : Hp) (a : Addr) : Hp := fun b => if b = a then none else F b
theorem cutF_ne {a b : Addr} (h : b ≠ a) : cutF F a b = F b := if_neg h
theorem cutF_same {a : Addr} : cutF F a a = none := if_pos rfl
mutual
theorem Rep.uncut {a : Addr} {o : Obj} {vs : List (Key × V)} (fa : F a = some (.frz o (.dK vs))) : ∀ (d : D) (v : V), Rep K F m d v → Rep K (cutF F a) m d v
  | .non, _, h => h
  | .bl _, _, h => h
  | .int _, _, h => h
  | .str _, _, h => h
  | .ref _, _, h => h
  | .exn _ _, _, h => h
  | .emp, v, h => by
    unfold Rep at h ⊢
    obtain ⟨b, q, h⟩ := h
    refine ⟨b, ?_, h⟩
    rw [cutF_ne (fun z => by rw [z, fa] at q; cases q)]
    exact q
  | .tup xs, v, h => by
    unfold Rep at h ⊢
    obtain ⟨b, us, h1, h2, h3⟩ := h
    refine ⟨b, us, h1, ?_, RepL.uncut fa xs us h3⟩
    rcases h2 with (h2 | ⟨o2, h2⟩) | h2
    · exact .inl (.inl (by rw [cutF_ne (fun z => by rw [z, fa] at h2; cases h2)]; exact h2))
    · exact .inl (.inr ⟨o2, by rw [cutF_ne (fun z => by rw [z, fa] at h2; cases h2)]; exact h2⟩)
    · exact .inr h2
  | .lst xs, v, h => by
    unfold Rep at h ⊢
    obtain ⟨b, us, h1, h2, h3⟩ := h
    refine ⟨b, us, h1, ?_, RepL.uncut fa xs us h3⟩
    rcases h2 with (h2 | ⟨o2, h2⟩) | h2
    · exact .inl (.inl (by rw [cutF_ne (fun z => by rw [z, fa] at h2; cases h2)]; exact h2))
    · exact .inl (.inr ⟨o2, by rw [cutF_ne (fun z => by rw [z, fa] at h2; cases h2)]; exact h2⟩)
    · exact .inr h2
theorem RepL.uncut {a : Addr} {o : Obj} {vs : List (Key × V)} (fa : F a = some (.frz o (.dK vs))) : ∀ (ds : List D) (us : List V), RepL K F m ds us → RepL K (cutF F a) m ds us
  | [], _, h => h
  | d :: ds, us, h => by
    unfold RepL at h ⊢
    obtain ⟨v, r, h1, h2, h3⟩ := h
    exact ⟨v, r, h1, Rep.uncut fa d v h2, RepL.uncut fa ds r h3⟩
end
theorem RepK.uncut {κ : Type} {a : Addr} {o : Obj} {vs : List (Key × V)} (fa : F a = some (.frz o (.dK vs))) {ks : List (κ × D)} {us : List (κ × V)} (h : RepK K F m ks us) : RepK K (cutF F a) m ks us :=
  Paired.imp (fun _ _ r => ⟨r.1, Rep.uncut fa _ _ r.2⟩) h
theorem CellOk.uncut {a b : Addr} {o : Obj} {vs : List (Key × V)} {u : HO} (fa : F a = some (.frz o (.dK vs))) (ne : b ≠ a) : ∀ {c : Cell}, CellOk K mg F m H b c → CellOk K mg (cutF F a) m (upd H a u) b c
  | .dead, _ => trivial
  | .lst xs, ⟨f, us, h1, h2⟩ => ⟨by rw [cutF_ne ne]; exact f, us, by rw [upd_ne ne]; exact h1, RepL.uncut fa _ _ h2⟩
  | .dk kvs, ⟨f, us, h1, h2⟩ => ⟨by rw [cutF_ne ne]; exact f, us, by rw [upd_ne ne]; exact h1, RepK.uncut fa h2⟩
  | .ins c fs, ⟨f, C, dx, us, h0, h1, h2⟩ => ⟨by rw [cutF_ne ne]; exact f, C, dx, us, h0, by rw [upd_ne ne]; exact h1, RepK.uncut fa h2⟩
  | .dkL kvs, ⟨o2, us, h1, h2⟩ => ⟨o2, us, by rw [cutF_ne ne]; exact h1, RepK.uncut fa h2⟩
theorem Sim.unlock {i : Nat} {a : Addr} {kvs : List (Key × D)} {vs : List (Key × V)} {o : Obj} (S : Sim K mg fr F m ah H) (hi : ah[i]? = some (.dkL kvs)) (ha : m[i]? = some a) (fa : F a = some (.frz o (.dK vs))) (rv : RepK K F m kvs vs) :
    Sim K mg fr (cutF F a) m (ah.set i (.dk kvs)) (upd H a (.dK vs)) := by
  have am : a ∈ m := List.mem_of_getElem? ha
  have nea : ∀ {b : Addr} {u : HO}, cutF F a b = some u → b ≠ a := fun h z => by
    rw [z, cutF_same] at h
    cases h
  refine ⟨fun b u h => ?_, by rw [List.length_set]; exact S.len, S.nod, fun j x h => ?_, fun b u h n => ?_, S.young, S.pre, fun b hb => ?_, fun b u h => ?_⟩
  · have ne := nea h
    rw [cutF_ne ne] at h
    rw [upd_ne ne]
    exact S.sub b u h
  · by_cases hj : i = j
    · subst hj
      rw [List.getElem?_set_self (List.getElem?_eq_some_iff.mp hi).1] at h
      cases h
      exact ⟨a, ha, cutF_same, vs, upd_same, RepK.uncut fa rv⟩
    · rw [List.getElem?_set_ne hj] at h
      obtain ⟨b, q, okb⟩ := S.cells j x h
      have ne : b ≠ a := fun z => hj (by
        rw [z] at q
        obtain ⟨h1, e1⟩ := List.getElem?_eq_some_iff.mp ha
        obtain ⟨h2, e2⟩ := List.getElem?_eq_some_iff.mp q
        exact (List.getElem_inj S.nod).mp (e1.trans e2.symm))
      exact ⟨b, q, CellOk.uncut fa ne okb⟩
  · have ne : b ≠ a := fun z => by
      subst z
      have y := S.young b am n
      rw [h] at y
      cases y
    rw [upd_ne ne]
    exact S.frame b u h n
  · by_cases z : b = a
    · rw [z, upd_same]
      exact ⟨_, rfl⟩
    · rw [upd_ne z]
      exact S.there b hb
  · have ne := nea h
    rw [cutF_ne ne] at h
    exact S.old b u h
end

section
variable {X : Cx} {fr : Fm} {W : WX} {ex env : Env} {pos : Pos} {τ β : Type} {mk : τ → Env} {lp : β → Env} {rest : List Stmt}
/-- for tg in it: body, as one statement -/
theorem dp_for {ℓ π : Type} {sl : List Nat} {tg it : Expr} {body : List Stmt} {mi : M (List D)} {unp : D → Option π} {sets : π → Env → Env} {mkL : ℓ → Env} {t0 : ℓ} {mb : π → ℓ → M (Out ℓ ℓ)}
    (hp : PassesOwn (model X.prog X.w) X.A X.env X.xe) (hc : X.calm = true) (hi : DI X W env tg it mi) (hg : DG X tg sl unp sets) (h0 : EnvLe (mkL t0) env) (hx : EnvLe ex env)
    (hb : ∀ p t, DS X W ex (sets p (mkL t)) mkL mkL body (mb p t)) (hs : ∀ x, foldedSetIterable it X.env x = pure x := by intro _; rfl) :
    PS X (.For tg it body [] pos) (TB X.K X.mg W ex env mkL lp (do let xs ← mi; forM xs t0 (fun x t => do let p ← liftO (unp x); mb p t))) := by
  refine PS.from (ps_for hp hc hi hg (PSs.ex fun p => PSs.ex (hb p)) hs) fun Dn σ H ⟨fr, F, m, ah, s, er, q⟩ => ?_
  refine ⟨fr, F, m, ah, s, er, ?_⟩
  rw [bind_def] at q
  cases hi' : mi ah with
  | stuck =>
    rw [hi'] at q
    exact q
  | exc x a =>
    rw [hi'] at q
    exact fun F' m' C H' e s' z => q F' m' C σ H' e s' ((er.le hx).ext e) z
  | ok xs a =>
    rw [hi'] at q
    intro F1 m1 J H1 e1 s1 y
    have q1 := TO.ext e1 q
    refine ⟨fun i n σ H => n = xs.length - i ∧ i ≤ xs.length ∧ ∃ F2 m2 ah2 t, Ext F1 m1 F2 m2 ∧ Sim X.K X.mg fr F2 m2 ah2 H ∧ EnvRep X.K F2 m2 (mkL t) σ ∧
      TO X.K X.mg fr W ex mkL lp F2 m2 ((forM (xs.drop i) t (fun x t => do let p ← liftO (unp x); mb p t) : M (Out ℓ β)) ah2) Dn, ⟨_, rfl, Nat.zero_le _, F1, m1, a, t0, Ext.refl, s1, (er.le h0).ext e1, by rw [List.drop_zero]; exact q1⟩, ?_⟩
    rintro i n σ2 H2 ⟨rfl, hi2, F2, m2, ah2, t, e2, s2, er2, k2⟩
    by_cases hlt : i < xs.length
    · refine .inr ⟨y.go i fr F2 m2 ah2 H2 e2 s2 hlt, fun σ' H' => ∃ F3 m3 ah3 t, Ext F1 m1 F3 m3 ∧ Sim X.K X.mg fr F3 m3 ah3 H' ∧ EnvRep X.K F3 m3 (mkL t) σ' ∧
        TO X.K X.mg fr W ex mkL lp F3 m3 ((forM (xs.drop (i + 1)) t (fun x t => do let p ← liftO (unp x); mb p t) : M (Out ℓ β)) ah3) Dn, fun σ' H' z => ⟨xs.length - (i + 1), by omega, rfl, hlt, z⟩, fun v H3 yy => ?_⟩
      obtain ⟨F3, d, hd, e3, s3, r3⟩ := y.yld i fr F2 m2 ah2 H2 v H3 e2 s2 hlt yy
      have er3 := er2.ext e3
      have k3 := TO.ext e3 k2
      have hdrop : xs.drop i = d :: xs.drop (i + 1) := by
        rw [List.drop_eq_getElem_cons hlt]
        rw [List.getElem?_eq_getElem hlt] at hd
        cases hd
        rfl
      rw [hdrop] at k3
      cases hu : unp d with
      | none =>
        have k4 : TO X.K X.mg fr W ex mkL lp F3 m2 (lres (fun t' => forM (xs.drop (i + 1)) t' (fun x t => do let p ← liftO (unp x); mb p t)) ((liftO (unp d) >>= fun p => mb p t) ah2)) Dn := k3
        rw [hu] at k4
        exact False.elim k4
      | some p =>
        have k4 : TO X.K X.mg fr W ex mkL lp F3 m2 (lres (fun t' => forM (xs.drop (i + 1)) t' (fun x t => do let p ← liftO (unp x); mb p t)) ((liftO (unp d) >>= fun p => mb p t) ah2)) Dn := k3
        rw [hu] at k4
        have k4 : TO X.K X.mg fr W ex mkL lp F3 m2 (lres (fun t' => forM (xs.drop (i + 1)) t' (fun x t => do let p ← liftO (unp x); mb p t)) (mb p t ah2)) Dn := k4
        refine ⟨fr, F3, m2, ah2, mkL t, d, p, s3, er3, r3, hu, fun σ' er' _ => ⟨p, t, fr, F3, m2, ah2, s3, er', ?_⟩⟩
        cases hm : mb p t ah2 with
        | stuck =>
          rw [hm] at k4
          exact k4
        | exc x a =>
          rw [hm] at k4
          exact k4
        | ok o a =>
          rw [hm] at k4
          cases o with
          | nx t' => exact fun F4 m4 σ4 H4 e4 s4 r4 => ⟨F4, m4, a, t', (e2.trans e3).trans e4, s4, r4, TO.ext e4 k4⟩
          | ct t' => exact fun F4 m4 σ4 H4 e4 s4 r4 => ⟨F4, m4, a, t', (e2.trans e3).trans e4, s4, r4, TO.ext e4 k4⟩
          | bk t' => exact fun F4 m4 σ4 H4 e4 s4 r4 => k4 F4 m4 σ4 H4 e4 s4 r4
          | ret d => exact k4
    · have ei : i = xs.length := by omega
      subst ei
      refine .inl ⟨y.stop fr F2 m2 ah2 H2 e2 s2, ?_⟩
      rw [List.drop_length] at k2
      exact k2 F2 m2 σ2 H2 Ext.refl s2 er2
end

/-! ### a statement that runs while a dict stands locked -/
def lockR {τ β : Type} (n : Nat) (r : Res (Out τ β)) : Res (Out τ β) := match r with
  | .ok o h => (match h[n]? with
    | some (.dkL kvs) => .ok o (h.set n (.dk kvs))
    | _ => .stuck)
  | _ => .stuck
/-- me tells which dict -/
def lockE {τ β : Type} (me : M D) (mc : M (Out τ β)) : M (Out τ β) := fun h => match me h with
  | .ok (.ref n) _ => (match h[n]? with
    | some (.dk kvs) => lockR n (mc (h.set n (.dkL kvs)))
    | _ => .stuck)
  | _ => .stuck
theorem EnvRep.uncut {K : Fg} {F : Hp} {m : List Addr} {env : Env} {σ : St} {a : Addr} {o : Obj} {vs : List (Key × V)} (fa : F a = some (.frz o (.dK vs))) (h : EnvRep K F m env σ) : EnvRep K (cutF F a) m env σ := ⟨h.1, fun i d q => by
  obtain ⟨v, h1, h2⟩ := h.2 i d q
  exact ⟨v, h1, Rep.uncut fa _ _ h2⟩⟩
section
variable {X : Cx} {W : WX} {ex env : Env} {pos : Pos} {τ τ' β : Type} {mk : τ → Env} {mk' : τ' → Env} {lp : β → Env} {rest : List Stmt} {st : Stmt}
theorem ds_lock {me : M D} {mc : M (Out τ' β)} {k : τ' → M (Out τ β)} (h : PS X st (TB X.K X.mg W0 ex env mk' lp mc)) (hr : ∀ t, DS X W ex (mk' t) mk lp rest (k t)) : DS X W ex env mk lp (st :: rest) (obind (lockE me mc) k) := by
  refine PSs.from (pss_cons (ps_lock h) (PSs.ex hr)) fun Dn σ H ⟨fr, F, m, ah, s, er, q⟩ => ?_
  have q : TO X.K X.mg fr W ex mk lp F m (ores k (lockE me mc ah)) Dn := q
  unfold lockE at q
  cases hme : me ah with
  | stuck =>
    simp only [hme] at q
    exact q.elim
  | exc _ _ =>
    simp only [hme] at q
    exact q.elim
  | ok d0 h0 =>
    simp only [hme] at q
    cases d0 <;> simp only [] at q <;> try exact q.elim
    rename_i n
    cases hc : ah[n]? with
    | none =>
      simp only [hc] at q
      exact q.elim
    | some c =>
      cases c <;> simp only [hc] at q <;> try exact q.elim
      rename_i kvs
      obtain ⟨a, ha, fa, vs, hv, rv⟩ := s.cells n _ hc
      refine ⟨a, .dK vs, hv, trivial, fun od => ?_⟩
      obtain ⟨s1, e1⟩ := s.lock (o := od) hc ha hv rv
      refine ⟨fr, _, m, ah.set n (.dkL kvs), s1, er.ext e1, ?_⟩
      cases hm : mc (ah.set n (.dkL kvs)) with
      | stuck =>
        rw [hm] at q
        exact q
      | exc _ _ =>
        rw [hm] at q
        exact q.elim
      | ok o b =>
        rw [hm] at q
        unfold lockR at q
        cases hb : b[n]? with
        | none =>
          simp only [hb] at q
          exact q.elim
        | some c2 =>
          cases c2 <;> simp only [hb] at q <;> try exact q.elim
          rename_i kvs2
          have key : ∀ F' m' H', Ext (upd F a (.frz od (.dK vs))) m F' m' → Sim X.K X.mg fr F' m' b H' → H' a = some (.frz od (.dK vs)) ∧ F' a = some (.frz od (.dK vs)) ∧ Ext F m (cutF F' a) m' ∧ Sim X.K X.mg fr (cutF F' a) m' (b.set n (.dk kvs2)) (upd H' a (.dK vs)) := by
            intro F' m' H' e s'
            have fa' : F' a = some (.frz od (.dK vs)) := e.sub _ _ upd_same
            have ha' := e.pre n a ha
            obtain ⟨a', q1, o2, vs2, q2, q3⟩ := s'.cells n _ hb
            rw [ha'] at q1
            cases q1
            rw [fa'] at q2
            cases q2
            refine ⟨s'.sub _ _ fa', fa', ⟨fun x u hx => ?_, fun i x hx => e.pre i x hx⟩, s'.unlock hb ha' fa' q3⟩
            have ne : x ≠ a := fun z => by
              rw [z, fa] at hx
              cases hx
            rw [cutF_ne ne]
            exact e.sub _ _ (by rw [upd_ne ne]; exact hx)
          cases o with
          | nx t =>
            intro F' m' σ' H' e s' r
            obtain ⟨k1, k2, k3, k4⟩ := key F' m' H' e s'
            exact ⟨k1, t, fr, _, m', _, k4, r.uncut k2, TO.ext k3 q⟩
          | ret d =>
            intro F' m' v H' e s' r
            obtain ⟨k1, k2, k3, k4⟩ := key F' m' H' e s'
            exact ⟨k1, q _ m' v _ k3 k4 (Rep.uncut k2 _ _ r)⟩
          | bk t =>
            intro F' m' σ' H' e s' r
            obtain ⟨k1, k2, k3, k4⟩ := key F' m' H' e s'
            exact ⟨k1, q _ m' σ' _ k3 k4 (r.uncut k2)⟩
          | ct t =>
            intro F' m' σ' H' e s' r
            obtain ⟨k1, k2, k3, k4⟩ := key F' m' H' e s'
            exact ⟨k1, q _ m' σ' _ k3 k4 (r.uncut k2)⟩
end

/-! ### the keys, the values of a locked dict -/
def keyKD : Key → D
  | .inl i => .int i
  | .inr x => .str x
def keysM (d : D) : M (List D) := fun h => match d with
  | .ref n => (match h[n]? with
    | some (.dkL kvs) => .ok (kvs.map fun p => keyKD p.1) h
    | _ => .stuck)
  | _ => .stuck
def valsM (d : D) : M (List D) := fun h => match d with
  | .ref n => (match h[n]? with
    | some (.dkL kvs) => .ok (kvs.map fun p => p.2) h
    | _ => .stuck)
  | _ => .stuck
theorem rep_key {K : Fg} {F : Hp} {m : List Addr} (k : Key) : Rep K F m (keyKD k) (kV k) := by
  cases k with
  | inl i => exact Rep.int
  | inr x => exact Rep.str
theorem RepK.at {κ : Type} {K : Fg} {F : Hp} {m : List Addr} : ∀ {ks : List (κ × D)} {vs : List (κ × V)} (i : Nat) {k : κ} {v : V}, RepK K F m ks vs → vs[i]? = some (k, v) → ∃ d, ks[i]? = some (k, d) ∧ Rep K F m d v
  | _, _, _, _, _, .nil, e => by simp at e
  | (g, x) :: r, (g', y) :: t, 0, k, v, .cons ⟨e, q⟩ u, h => by
    have e : g = g' := e
    subst e
    simp at h
    obtain ⟨rfl, rfl⟩ := h
    exact ⟨x, rfl, q⟩
  | _ :: r, _ :: t, i + 1, k, v, .cons q u, h => by
    obtain ⟨d, h1, h2⟩ := RepK.at i u (by simpa using h)
    exact ⟨d, by simpa using h1, h2⟩
section
variable {X : Cx} {W : WX} {env : Env} {pos apos : Pos} {tg e : Expr} {me : M D}
theorem dkl_of {fr : Fm} {F H : Hp} {m : List Addr} {ah : AH} {n : Nat} {v : V} {kvs : List (Key × D)} (S : Sim X.K X.mg fr F m ah H) (r : Rep X.K F m (.ref n) v) (h : ah[n]? = some (.dkL kvs)) : ∃ a o vs, v = .ref a ∧ F a = some (.frz o (.dK vs)) ∧ RepK X.K F m kvs vs := by
  unfold Rep at r
  obtain ⟨a, h1, rfl⟩ := r
  obtain ⟨a', q, o, vs, h2, h3⟩ := S.cells n _ h
  rw [h1] at q
  cases q
  exact ⟨a, o, vs, rfl, h2, h3⟩
theorem di_keys (he : DE X W env e me) : DI X W env tg e (do let x ← me; keysM x) :=
  PI.from (pi_keys he) fun σ H Q ⟨fr, F, m, ah, s, er, k⟩ => TK.step s er k fun F1 m1 ah1 d v H1 e1 s1 er1 r1 k1 => by
    unfold keysM at k1
    cases d <;> try exact k1.elim
    rename_i n
    cases hc : ah1[n]? with
    | none =>
      simp only [hc] at k1
      exact k1.elim
    | some c =>
      cases c <;> simp only [hc] at k1 <;> try exact k1.elim
      rename_i kvs
      obtain ⟨a, o, vs, rfl, g1, g2⟩ := dkl_of s1 r1 hc
      have hl := RepK.length g2
      refine ⟨a, o, rfl, .inl ⟨vs, s1.sub _ _ g1, k1 F1 m1 _ H1 Ext.refl s1 ⟨fun i fr F2 m2 ah2 H2 e s hi => ⟨s.sub _ _ (e.sub _ _ g1), by rw [List.length_map] at hi; omega⟩, fun fr F2 m2 ah2 H2 e s => ⟨s.sub _ _ (e.sub _ _ g1), by rw [List.length_map]; omega⟩, fun i fr F2 m2 ah2 H2 x H3 e s hi y => ?_⟩⟩⟩
      obtain ⟨rfl, kk, w, hw, rfl⟩ := y
      obtain ⟨d, h1, h2⟩ := RepK.at i g2 hw
      exact ⟨F2, keyKD kk, by rw [List.getElem?_map, h1]; rfl, Ext.refl, s, rep_key kk⟩
theorem di_vals (he : DE X W env e me) (hbase : attributeBase e "values" X.env (eval e X.env) = eval e X.env := by rfl) (hline : (apos.endLine == pos.line) = true := by rfl) : DI X W env tg (.Call (.Attribute e "values" apos) [] [] pos) (do let x ← me; valsM x) :=
  PI.from (pi_values he hbase hline) fun σ H Q ⟨fr, F, m, ah, s, er, k⟩ => TK.step s er k fun F1 m1 ah1 d v H1 e1 s1 er1 r1 k1 => by
    unfold valsM at k1
    cases d <;> try exact k1.elim
    rename_i n
    cases hc : ah1[n]? with
    | none =>
      simp only [hc] at k1
      exact k1.elim
    | some c =>
      cases c <;> simp only [hc] at k1 <;> try exact k1.elim
      rename_i kvs
      obtain ⟨a, o, vs, rfl, g1, g2⟩ := dkl_of s1 r1 hc
      have hl := RepK.length g2
      refine ⟨a, o, vs, rfl, s1.sub _ _ g1, k1 F1 m1 _ H1 Ext.refl s1 ⟨fun i fr F2 m2 ah2 H2 e s hi => ⟨s.sub _ _ (e.sub _ _ g1), by rw [List.length_map] at hi; omega⟩, fun fr F2 m2 ah2 H2 e s => ⟨s.sub _ _ (e.sub _ _ g1), by rw [List.length_map]; omega⟩, fun i fr F2 m2 ah2 H2 x H3 e s hi y => ?_⟩⟩
      obtain ⟨rfl, kk, hw⟩ := y
      obtain ⟨d, h1, h2⟩ := RepK.at i g2 hw
      exact ⟨F2, d, by rw [List.getElem?_map, h1]; rfl, Ext.refl, s, Rep.ext e _ _ h2⟩
end

/-! ### expressions that run while a dict stands locked -/
def lockRx {α : Type} (n : Nat) (r : Res α) : Res α := match r with
  | .ok o h => (match h[n]? with
    | some (.dkL kvs) => .ok o (h.set n (.dk kvs))
    | _ => .stuck)
  | _ => .stuck
def lockX {α : Type} (me : M D) (mc : M α) : M α := fun h => match me h with
  | .ok (.ref n) _ => (match h[n]? with
    | some (.dk kvs) => lockRx n (mc (h.set n (.dkL kvs)))
    | _ => .stuck)
  | _ => .stuck
section
variable {X : Cx} {W : WX} {env : Env} {e : Expr}
theorem de_lock {me mc : M D} (h : DE X W0 env e mc) : DE X W env e (lockX me mc) := by
  refine PE.from (pe_lock h) fun σ H Q ⟨fr, F, m, ah, s, er, q⟩ => ?_
  unfold lockX at q
  cases hme : me ah with
  | stuck =>
    simp only [hme] at q
    exact q.elim
  | exc _ _ =>
    simp only [hme] at q
    exact q.elim
  | ok d0 h0 =>
    simp only [hme] at q
    cases d0 <;> simp only [] at q <;> try exact q.elim
    rename_i n
    cases hc : ah[n]? with
    | none =>
      simp only [hc] at q
      exact q.elim
    | some c =>
      cases c <;> simp only [hc] at q <;> try exact q.elim
      rename_i kvs
      obtain ⟨a, ha, fa, vs, hv, rv⟩ := s.cells n _ hc
      refine ⟨a, .dK vs, hv, trivial, fun od => ?_⟩
      obtain ⟨s1, e1⟩ := s.lock (o := od) hc ha hv rv
      refine ⟨fr, _, m, ah.set n (.dkL kvs), s1, er.ext e1, ?_⟩
      cases hm : mc (ah.set n (.dkL kvs)) with
      | stuck =>
        rw [hm] at q
        exact q
      | exc _ _ =>
        rw [hm] at q
        exact q.elim
      | ok d b =>
        rw [hm] at q
        unfold lockRx at q
        cases hb : b[n]? with
        | none =>
          simp only [hb] at q
          exact q.elim
        | some c2 =>
          cases c2 <;> simp only [hb] at q <;> try exact q.elim
          rename_i kvs2
          intro F' m' v H' e s' r
          have fa' : F' a = some (.frz od (.dK vs)) := e.sub _ _ upd_same
          have ha' := e.pre n a ha
          obtain ⟨a', q1, o2, vs2, q2, q3⟩ := s'.cells n _ hb
          rw [ha'] at q1
          cases q1
          rw [fa'] at q2
          cases q2
          refine ⟨s'.sub _ _ fa', q _ m' v _ ⟨fun x u hx => ?_, fun i x hx => e.pre i x hx⟩ (s'.unlock hb ha' fa' q3) (Rep.uncut fa' _ _ r)⟩
          have ne : x ≠ a := fun z => by
            rw [z, fa] at hx
            cases hx
          rw [cutF_ne ne]
          exact e.sub _ _ (by rw [upd_ne ne]; exact hx)
end
section
variable {X : Cx} {W : WX} {env : Env} {pos : Pos}
theorem dp_setLc (i : Nat) {y : Str} {py spos : Pos} {ex : Env} {β : Type} {lp : β → Env} {elt tg iter : Expr} {ifs : List Expr} {scope : Scope} {own : List (Str × Nat)} {π : Type} {sl : List Nat} {mi : M (List D)} {unp : D → Option π} {sets : π → Env → Env} {mt : π → M Bool} {me : π → M D}
    (hc : X.calm = true) (hN : X.N.Nodup) (hi : DI X W env tg iter mi) (ok : BlkOk X.N X.env.scope scope own) (hsl : ∀ i ∈ sl, i ∈ own.map (·.2))
    (hg : ∀ (s : Shared) (H : Hp) (C : Addr) (cl : List (Str × Addr)) (fp : List Addr), DG (X.blk s H scope (compEnvC scope cl C X.env) fp) tg sl unp sets)
    (ht : ∀ (s : Shared) (H : Hp) (C : Addr) (cl : List (Str × Addr)) (fp : List Addr) (p : π), PTs (X.blk s H scope (compEnvC scope cl C X.env) fp) ifs (TC X.K X.mg W0 RB (sets p (wipeE env (own.map (·.2)))) (mt p)))
    (he : ∀ (s : Shared) (H : Hp) (C : Addr) (cl : List (Str × Addr)) (fp : List Addr) (p : π), DE (X.blk s H scope (compEnvC scope cl C X.env) fp) W0 (sets p (wipeE env (own.map (·.2)))) elt (me p))
    (env' : D → Env) (hx : EnvLe ex env) (hs : ∀ x, foldedSetIterable iter X.env x = pure x := by intro _; rfl) (hv : ∀ d, env.set i (some d) = env' d := by intro _; rfl) (hy : X.N[i]? = some y := by rfl) (hyl : X.env.scope.names.lookup y = some .local := by rfl)
    (hsw : swapsWith (.ListComp elt [⟨tg, iter, ifs, 0⟩] scope pos) (some (.Name y py)) spos.line X.env = pure true := by exact sw_true rfl rfl rfl (by decide +kernel)) :
    PS X (.Assign [.Name y py] (.ListComp elt [⟨tg, iter, ifs, 0⟩] scope pos) spos) (TB X.K X.mg W ex env env' lp ((do let xs ← mi; lcM xs (fun x => do let p ← liftO (unp x); let t ← mt p; if t = true then (do let y ← me p; pure [y]) else pure [])) >>= fun d => pure (.nx d))) :=
  PS.from (ps_setLc (g := gD X.K X.mg sl unp sets) hc hN hy hyl hsw hi ok hg (fun s H C cl fp => (⟨fun pins s' σ H' Q I ⟨p, q⟩ => (ht s H C cl fp p).run pins s' σ H' Q I q⟩ : PTs _ ifs (fun σ H Q => ∃ p, TC X.K X.mg W0 RB (sets p (wipeE env (own.map (·.2)))) (mt p) σ H Q)))
    (fun s H C cl fp => (⟨fun pins s' σ H' Q I ⟨p, q⟩ => (he s H C cl fp p).run pins s' σ H' Q I q⟩ : PE _ elt (fun σ H Q => ∃ p, TC X.K X.mg W0 (Rep X.K) (sets p (wipeE env (own.map (·.2)))) (me p) σ H Q))) hs) fun Dn σ H ⟨fr, F, m, ah, s, er, q⟩ => lc_from (sets := sets) hsl σ H (fun x H1 => gName i x σ H1 Dn.nx) (TO.step s er hx q fun F1 m1 ah1 d v H1 e1 s1 er1 r1 k1 => k1 F1 m1 _ H1 Ext.refl s1 (by rw [← hv d]; exact er1.set r1))
end
end Lw

/-! SimR: enumerate of lists and tuples. -/
namespace PySem
open Sem (wp)
open AutoSeq1 (wpAny_loadPart')
theorem lwEnumT (l : Addr) (xs : Array Value) (n : Nat) (dct : Option Addr) (sl : Array (Option Value)) :
    Meets (Builtin.«enumerate.__new__» ⟨[.type "enumerate", .ref l], []⟩) (fun _ R s => s.heap.get? l = some { cls := .type "tuple", dict := dct, data := .seq xs n, slots := sl } ∧
      R (.ok (.ret (.ref (s.heap.push { cls := .type "tuple_iterator", data := .fields #[.ref l, .int 0 0] }).objs.size)))
        { s with heap := (s.heap.push { cls := .type "tuple_iterator", data := .fields #[.ref l, .int 0 0] }).push { cls := .type "enumerate", data := .fields #[.none, .bool false, .ref s.heap.objs.size, rawInt 0, .none, .none] } }) :=
  .of_wp fun prog w A R s h => by
    obtain ⟨hp, g, d, tk, os⟩ := s
    obtain ⟨hl, h⟩ := h
    have hsub := sub_enumerate
    have hT : Heap.IsTuple (Shared.heap ⟨hp, g, d, tk, os⟩) l xs := ⟨_, hl, rfl, n, rfl⟩
    wp_walk using wpAny_loadPart' hl
    refine wpAny_stack_any fun st => wpAny_pure ?_
    split
    · rename_i c _ _ _ _ _
      cases (c == Value.type "enumerate")
      · wp_walk using wpAny_loadPart' hl, wpAny_pyIter_tuple hT
        exact ⟨_, rfl, h⟩
      · wp_walk using wpAny_loadPart' hl, wpAny_pyIter_tuple hT
        exact ⟨_, rfl, h⟩
    · wp_walk using wpAny_loadPart' hl, wpAny_pyIter_tuple hT
      exact ⟨_, rfl, h⟩
section
variable {prog : Program} {w : World} {A : Around} {E : Value → Shared → Prop} {s : Shared}
theorem lwCallEnumT {l : Addr} {xs : Array Value} {Q : Value → Shared → Prop} (hL : s.heap.IsTuple l xs)
    (h : ∀ h', IsEnum h' (s.heap.objs.size + 1) s.heap.objs.size 0 .none → h'.IsTupleIter s.heap.objs.size l 0 → h'.objs.size = s.heap.objs.size + 2 →
      (∀ b o, s.heap.get? b = some o → h'.get? b = some o) → Q (.ref (s.heap.objs.size + 1)) { s with heap := h' }) :
    wpAny (model prog w) A (call (.type "enumerate") [.ref l]) Q E s := by
  obtain ⟨⟨c, dct, dt, sl⟩, hl, hc, n, hd⟩ := hL
  replace hc : c = .type "tuple" := hc
  replace hd : dt = .seq xs n := hd
  subst hc hd
  refine callType_new F.called_enumerate (by decide) (F.typeCall_enumerate_1 _) (F.newCall_enumerate_1 _) (fun obj => F.args_object_init_2 obj _) F.entry_enumerate_new (lwEnumT l xs n dct sl) ⟨hl, ?_⟩
  have hz : (s.heap.push { cls := .type "tuple_iterator", data := .fields #[.ref l, .int 0 0] }).objs.size = s.heap.objs.size + 1 := Heap.size_push ..
  show _ ∧ _
  rw [hz]
  have he : IsEnum ((s.heap.push { cls := .type "tuple_iterator", data := .fields #[.ref l, .int 0 0] }).push
      { cls := .type "enumerate", data := .fields #[.none, .bool false, .ref s.heap.objs.size, rawInt 0, .none, .none] }) (s.heap.objs.size + 1) s.heap.objs.size 0 .none := by
    have q := Heap.get?_push_size (s.heap.push { cls := .type "tuple_iterator", data := .fields #[.ref l, .int 0 0] }) (o := { cls := .type "enumerate", data := .fields #[.none, .bool false, .ref s.heap.objs.size, rawInt 0, .none, .none] }) rfl
    rw [hz] at q
    exact q
  refine ⟨⟨_, he, rfl⟩, h _ he ⟨_, Heap.get?_push_of_some _ (Heap.get?_push_size _ rfl), rfl, rfl⟩ (by rw [Heap.size_push, hz]) fun b o x => Heap.get?_push_of_some _ (Heap.get?_push_of_some _ x)⟩
end
end PySem
namespace Lw
open PySem PySem.Spec PyProof.Rows L2
theorem takes0N {X : Cx} : L2N.Takes X W0 := fun _ _ x => by
  obtain ⟨_, _, _, _, _, _, _, _, _, _, _, _, _, _, _, _, z⟩ := x
  exact z.elim
/-- the tuple at a, each item in a new pair -/
def IteT (K : Fg) (a : Addr) : It :=
  ⟨fun i H => ∃ (xs : List V) (x : V), SqT K H a xs ∧ xs[i]? = some x, fun i H v H' => ∃ T x, v = .ref T ∧ H T = none ∧ H' = upd H T (.tup [.int (i : Nat), x]) ∧ ∀ xs, SqT K H a xs → xs[i]? = some x, fun i H => ∃ xs : List V, SqT K H a xs ∧ xs.length = i⟩
theorem turn_enumT {P : Program} {w : World} {K : Fg} {elts : List Expr} {kk : Nat} {tpos : Pos} (a e it : Addr) :
    Turn P w K (.Tuple elts kk tpos) (IteT K a) [e, it] e (fun i h => (∃ old, IsEnum h e it ((i : Nat) : Int) old) ∧ h.IsTupleIter it a i ∧ e ≠ it) where
  mem := by simp
  obj := fun i h st b hb => by
    obtain ⟨⟨old, he⟩, ⟨o, ho, hc, hd⟩, _⟩ := st
    have e' : b = e ∨ b = it := by simpa using hb
    rcases e' with z | z
    · rw [z]; exact ⟨_, he, fun v q => nomatch q⟩
    · rw [z]; exact ⟨o, ho, fun v q => by rw [hd] at q; cases q⟩
  keep := fun i h h' st k => let ⟨⟨old, he⟩, hi, hne⟩ := st; ⟨⟨old, k e (by simp) _ he⟩, hi.at fun o q => k it (by simp) o q, hne⟩
  item := by
    intro X hP hw hK hc i pins s σ H E I hf st hg
    subst hP hw hK
    obtain ⟨⟨old, he⟩, hit, hne⟩ := st
    obtain ⟨xs, x, hq, hx⟩ := hg
    obtain ⟨its, rv, p, hz⟩ := I.tuple hq
    obtain ⟨u, hu, ru⟩ := rv.get hx
    have hel : e < s.heap.objs.size := Heap.lt_size he
    have hil : it < s.heap.objs.size := by obtain ⟨_, q, _⟩ := hit; exact Heap.lt_size q
    have pt : s.heap.IsTuple a its.toArray := p
    have nai : a ≠ it := fun z => by
      obtain ⟨o1, q1, c1, _⟩ := pt
      obtain ⟨o2, q2, c2, _⟩ := hit
      rw [z, q2] at q1
      cases q1
      rw [c2] at c1
      simp at c1
    have nae : a ≠ e := fun z => by
      obtain ⟨o1, q1, c1, _⟩ := pt
      rw [z] at q1
      have q2 := he.symm.trans q1
      cases q2
      simp at c1
    refine wpAny_pyNext_enum_itemD (Draws.tuple (A := X.A.in1) (I.ok.hd hc) it a nai its.toArray) he ⟨hit, pt⟩ (by
      have := (List.getElem?_eq_some_iff.mp hu).1
      simpa using this) hne (by simp [hne, nae.symm]) fun y h' tk hy ho st' hT hsz hk => ?_
    have ey : y = u := by
      have hy : its.toArray[i]? = some y := hy
      rw [show its.toArray[i]? = its[i]? by simp, hu] at hy
      exact (Option.some.inj hy).symm
    subst ey
    obtain ⟨hit', _⟩ := st'
    refine ⟨_, rfl, wpAny_letOwnedTupleGo_enum (s := { s with heap := h', toks := tk + 1 }) ho fun h'' he' sb => ?_⟩
    have hT2 : h''.get? s.heap.objs.size = some { cls := .type "tuple", data := .seq #[.int i tk, y] } := (sb.2 _ (Nat.ne_of_gt hel)).trans hT
    have new : ObjOk X.prog X.w (upd H s.heap.objs.size (.tup [.int (i : Nat), x])) h'' s.heap.objs.size (.tup [.int (i : Nat), x]) :=
      ⟨by show 2 ≤ sizeLine; decide, [.int i tk, y], .cons ⟨_, rfl⟩ (.cons ru .nil), ⟨_, hT2, rfl, _, rfl⟩⟩
    have I1 : Inv X pins σ (upd H s.heap.objs.size (.tup [.int (i : Nat), x])) { s with heap := h'', toks := tk + 1 } :=
      I.turnedNew (ch := [e, it]) (fun b ob hb q => (sb.2 b (fun z => hb (by simp [z]))).trans (hk b ob (fun z => hb (by simp [z])) (fun z => hb (by simp [z])) q)) hf (Nat.le_refl _) new
    refine ⟨.ref s.heap.objs.size, _, I1, rfl, ⟨_, x, rfl, I.hok.fresh (Nat.le_refl _), rfl, fun ys hy => by rw [I.tuple_inj hy hq]; exact hx⟩, ⟨⟨y, ?_⟩, hit'.at fun o q => (sb.2 it (Ne.symm hne)).trans q, hne⟩, fun b hb => ?_⟩
    · have e1 : ((i + 1 : Nat) : Int) = (i : Int) + 1 := by omega
      rw [e1]; exact he'
    · have hb' : b < s.heap.objs.size := by
        have e' : b = e ∨ b = it := by simpa using hb
        rcases e' with z | z
        · rw [z]; exact hel
        · rw [z]; exact hil
      rw [upd_ne (Nat.ne_of_lt hb')]
      exact (hf b hb).1
  done := by
    intro X hP hw hK hc i pins s σ H E I hf st hg
    subst hP hw hK
    obtain ⟨⟨old, he⟩, hit, hne⟩ := st
    obtain ⟨xs, hq, hx⟩ := hg
    obtain ⟨its, rv, p, hz⟩ := I.tuple hq
    obtain ⟨f0, f1, f2, f3, f4, f5⟩ := hf it (by simp)
    have hl := rv.length
    have pt : s.heap.IsTuple a its.toArray := p
    have nai : a ≠ it := fun z => by
      obtain ⟨o1, q1, c1, _⟩ := pt
      obtain ⟨o2, q2, c2, _⟩ := hit
      rw [z, q2] at q1
      cases q1
      rw [c2] at c1
      simp at c1
    have hn : its.toArray.size = i := by rw [List.size_toArray]; omega
    exact wpAny_pyNext_enum_endD (Draws.tuple (A := X.A.in1) (I.ok.hd hc) it a nai its.toArray) he ⟨by rw [hn]; exact hit, pt⟩ fun h' eb => ⟨rfl, I.turned (t' := s.toks) (fun b o hb q => eb b o hb q) f0 f1 f3 f4 f5⟩
  self := fun A i s Q E st h => let ⟨⟨_, he⟩, _⟩ := st; wpAny_pyIter_enum he h
def iEnumA (K : Fg) (ta : TA) : TI := fun σ H R => ta σ H fun vs H1 => ∃ a xs, vs = [.ref a] ∧ ((SqL K H1 a xs ∧ R (Ite K a) H1) ∨ (SqT K H1 a xs ∧ R (IteT K a) H1))
theorem pi_enumA {X : Cx} {e : Expr} {ta : TA} {p pos tpos : Pos} {elts : List Expr} {kk : Nat} (hg : Gl X "enumerate") (hm : X.mg "enumerate" = none) (ha : PA X [e] ta) (hs : starEach [e] X.env = [(false, eval e X.env)] := by rfl) :
    PI X (.Tuple elts kk tpos) (.Call (.Name "enumerate" p) [e] [] pos) (iEnumA X.K ta) := by
  refine ⟨fun pins s σ H R I h => ?_⟩
  refine Call_ (ld_blt I hg hm boot_enumerate (PyProof.Rows.callWith_type1 (thn (ha.run pos pins s σ H _ I h) fun us s1 ⟨vs, H1, I1, r1, q1⟩ => ?_) hs rfl))
  obtain ⟨a, xs, ex, q⟩ := q1
  subst ex
  have frs : ∀ b ∈ [s1.heap.objs.size + 1, s1.heap.objs.size], FpOk X pins H1 b := fun b hb => by
    have e' : b = s1.heap.objs.size + 1 ∨ b = s1.heap.objs.size := by simpa using hb
    have hle : s1.heap.objs.size ≤ b := by
      rcases e' with z | z
      · rw [z]; exact Nat.le_add_right _ _
      · rw [z]; exact Nat.le_refl _
    exact I1.fpOk hle (I1.hok.fresh hle)
  cases r1 with
  | cons r rr =>
    cases rr
    cases r
    rcases q with ⟨hq, q⟩ | ⟨hq, q⟩
    · obtain ⟨its, rv, p', hz⟩ := I1.list hq
      refine call_enumerate_list p'.isList fun h' he hit hsz hk => wpAny_pyIter_enum he ?_
      have I2 : Inv X pins σ H1 { s1 with heap := h' } := I1.kept (t' := s1.toks) hk
      exact ⟨s1.heap.objs.size + 1, [s1.heap.objs.size + 1, s1.heap.objs.size], _, _, H1, rfl, I2, turn_enum a (s1.heap.objs.size + 1) s1.heap.objs.size, ⟨⟨.none, he⟩, hit, Nat.succ_ne_self _⟩, frs, q⟩
    · obtain ⟨its, rv, p', hz⟩ := I1.tuple hq
      refine lwCallEnumT (show s1.heap.IsTuple a its.toArray from p') fun h' he hit hsz hk => wpAny_pyIter_enum he ?_
      have I2 : Inv X pins σ H1 { s1 with heap := h' } := I1.kept (t' := s1.toks) hk
      exact ⟨s1.heap.objs.size + 1, [s1.heap.objs.size + 1, s1.heap.objs.size], _, _, H1, rfl, I2, turn_enumT a (s1.heap.objs.size + 1) s1.heap.objs.size, ⟨⟨.none, he⟩, hit, Nat.succ_ne_self _⟩, frs, q⟩
/-- each with its number -/
def enumD (lo : Int) (xs : List D) : List D := (List.range xs.length).zipWith (fun k x => D.tup [.int (lo + (k : Nat)), x]) xs
theorem enumD_length (lo : Int) (xs : List D) : (enumD lo xs).length = xs.length := by
  unfold enumD
  rw [List.length_zipWith, List.length_range, Nat.min_self]
theorem enumD_get {lo : Int} {xs : List D} {i : Nat} {d : D} (h : xs[i]? = some d) : (enumD lo xs)[i]? = some (.tup [.int (lo + (i : Nat)), d]) := by
  unfold enumD
  rw [List.getElem?_zipWith, List.getElem?_range (List.getElem?_eq_some_iff.mp h).1, h]
def enumM : D → M (List D)
  | .tup xs => pure (enumD 0 xs)
  | .lst xs => pure (enumD 0 xs)
  | _ => stuck
section
variable {K : Fg} {mg : Str → Option Value} {F : Hp} {m : List Addr} {a : Addr} {ds : List D} {vs : List V}
theorem yl_enumT (h : SqT K F a vs) (r : RepL K F m ds vs) : Yl K mg F m (enumD 0 ds) (IteT K a) where
  go := fun i fr F1 m1 ah1 H1 e s hi => by
    rw [enumD_length] at hi
    obtain ⟨v, hv, _⟩ := RepL.get r (List.getElem?_eq_getElem hi)
    exact ⟨vs, v, SqT.up s.sub (SqT.up e.sub h), hv⟩
  stop := fun fr F1 m1 ah1 H1 e s => ⟨vs, SqT.up s.sub (SqT.up e.sub h), by rw [enumD_length, RepL.length r]⟩
  yld := fun i fr F1 m1 ah1 H1 x H2 e s hi y => by
    rw [enumD_length] at hi
    obtain ⟨T, z, e1, e2, e3, y⟩ := y
    subst e1 e3
    have hd := List.getElem?_eq_getElem hi
    obtain ⟨v, hv, rv⟩ := RepL.get r hd
    have q := y vs (SqT.up s.sub (SqT.up e.sub h))
    rw [hv] at q
    cases q
    obtain ⟨S', e'⟩ := s.frozen (o := .tup [.int (i : Nat), z]) e2
    refine ⟨_, _, enumD_get hd, e', S', Rep.tup (.inl (.inl upd_same)) (RepL.cons ?_ (RepL.cons (Rep.ext (e.trans e') _ _ rv) RepL.nil))⟩
    rw [Int.zero_add]
    exact Rep.int
theorem yl_enumL (h : SqL K F a vs) (r : RepL K F m ds vs) : Yl K mg F m (enumD 0 ds) (Ite K a) where
  go := fun i fr F1 m1 ah1 H1 e s hi => by
    rw [enumD_length] at hi
    obtain ⟨v, hv, _⟩ := RepL.get r (List.getElem?_eq_getElem hi)
    exact ⟨vs, v, SqL.up s.sub (SqL.up e.sub h), hv⟩
  stop := fun fr F1 m1 ah1 H1 e s => ⟨vs, SqL.up s.sub (SqL.up e.sub h), by rw [enumD_length, RepL.length r]; exact Nat.le_refl _⟩
  yld := fun i fr F1 m1 ah1 H1 x H2 e s hi y => by
    rw [enumD_length] at hi
    obtain ⟨T, z, e1, e2, e3, y⟩ := y
    subst e1 e3
    have hd := List.getElem?_eq_getElem hi
    obtain ⟨v, hv, rv⟩ := RepL.get r hd
    have q := y vs (SqL.up s.sub (SqL.up e.sub h))
    rw [hv] at q
    cases q
    obtain ⟨S', e'⟩ := s.frozen (o := .tup [.int (i : Nat), z]) e2
    refine ⟨_, _, enumD_get hd, e', S', Rep.tup (.inl (.inl upd_same)) (RepL.cons ?_ (RepL.cons (Rep.ext (e.trans e') _ _ rv) RepL.nil))⟩
    rw [Int.zero_add]
    exact Rep.int
end
section
variable {X : Cx} {W : WX} {env : Env} {pos : Pos}
theorem di_enum {e : Expr} {me : M D} {p tpos : Pos} {elts : List Expr} {kk : Nat} (hm : X.mg "enumerate" = none) (he : DE X W env e me) (hg : Gl X "enumerate" := by rfl) (hst : starEach [e] X.env = (false, eval e X.env) :: starEach [] X.env := by rfl) (hs : starEach [e] X.env = [(false, eval e X.env)] := by rfl) :
    DI X W env (.Tuple elts kk tpos) (.Call (.Name "enumerate" p) [e] [] pos) (do let x ← me; enumM x) :=
  PI.from (pi_enumA (pos := pos) (p := p) hg hm (da_one he hst) hs) fun σ H Q ⟨fr, F, m, ah, s, er, k⟩ => by
    have e : ((do let x ← me; pure [x]) >>= fun l : List D => match l with | [x] => enumM x | _ => stuck) = (do let x ← me; enumM x) := by
      rw [bind_assoc]
      rfl
    have k' : TK X.K X.mg fr W (Yl X.K X.mg) σ F m (((do let x ← me; pure [x]) >>= fun l : List D => match l with | [x] => enumM x | _ => stuck) ah) (fun J H' => Q J H') := by
      rw [e]
      exact k
    refine TK.step (R := RepL X.K) s er k' fun F1 m1 ah1 d v H1 e1 s1 er1 r1 k1 => ?_
    rcases d with _ | ⟨d, _ | ⟨d2, ds⟩⟩
    · exact (TK.stuck_of k1).elim
    · unfold RepL at r1
      obtain ⟨v1, r, rfl, r2, r3⟩ := r1
      unfold RepL at r3
      subst r3
      replace k1 : TK X.K X.mg fr W (Yl X.K X.mg) σ F1 m1 (enumM d ah1) (fun J H' => Q J H') := k1
      cases d <;> try exact (TK.stuck_of k1).elim
      · rename_i xs
        obtain ⟨a, vs, rfl, h2, h3⟩ := tup_of (xs := xs) r2 rfl
        exact ⟨a, vs, rfl, .inr ⟨SqT.up s1.sub h2, k1 F1 m1 _ H1 Ext.refl s1 (yl_enumT h2 h3)⟩⟩
      · rename_i xs
        unfold Rep at r2
        obtain ⟨a, vs, rfl, h2, h3⟩ := r2
        exact ⟨a, vs, rfl, .inl ⟨SqL.up s1.sub h2, k1 F1 m1 _ H1 Ext.refl s1 (yl_enumL h2 h3)⟩⟩
    · exact (TK.stuck_of k1).elim
end
end Lw

/-! SimT: dict displays, pop; texts' methods; a list times a number. -/
namespace Lw
open PySem L2
section
variable {X : Cx} {W : WX} {ex env : Env} {pos apos : Pos}
/-! d.pop(k) -/
def dpopM (d k : D) : M D := fun h => match d with
  | .ref n => (match h[n]?, keyD k with
    | some (.dk kvs), some k => (match valD kvs k with
      | some v => .ok v (h.set n (.dk (dropKD kvs k)))
      | none => .stuck)
    | _, _ => .stuck)
  | _ => .stuck
theorem de_dpop {o i : Expr} {mo mi : M D} (ho : DE X W env o mo) (hi : DE X W env i mi) (hm : M1 X o "pop" apos i pos := by exact ⟨rfl, rfl, rfl, rfl⟩) : DE X W env (.Call (.Attribute o "pop" apos) [i] [] pos) (do let x ← mo; let _ ← dchk x; let y ← mi; dpopM x y) :=
  PE.from (pe_dpop1 ho hi hm) fun σ H Q ⟨fr, F, m, ah, s, er, q⟩ => TK.step s er q fun F1 m1 ah1 d v H1 e1 s1 er1 r1 k0 => by
    rw [bind_def] at k0
    unfold dchk at k0
    cases hd0 : dkOf ah1 d with
    | none =>
      simp only [hd0] at k0
      exact k0.elim
    | some kv0 =>
      simp only [hd0] at k0
      obtain ⟨a, n, vs, rfl, rfl, g1, g4, g5⟩ := dk_of s1 r1 hd0
      refine ⟨a, rfl, .inl ⟨vs, g4⟩, TK.step s1 er1 k0 fun F2 m2 ah2 d2 v2 H2 e2 s2 er2 r2 k2 => ?_⟩
      have g1' := e2.pre n a g1
      unfold dpopM at k2
      cases hc : ah2[n]? with
      | none =>
        simp only [hc] at k2
        exact k2.elim
      | some c =>
        cases c <;> simp only [hc] at k2 <;> try exact k2.elim
        rename_i kvs
        cases hk : keyD d2 with
        | none =>
          simp only [hk] at k2
          exact k2.elim
        | some k =>
          simp only [hk] at k2
          cases hv : valD kvs k with
          | none =>
            simp only [hv] at k2
            exact k2.elim
          | some w =>
            simp only [hv] at k2
            obtain ⟨a', q', ok⟩ := s2.cells n _ hc
            rw [g1'] at q'
            cases q'
            obtain ⟨h3, us, h4, h5⟩ := ok
            obtain ⟨u, h6, h7⟩ := (h5.val (k := k)).1 w hv
            refine ⟨us, k, u, h4, key_rep r2 hk, h6, ?_⟩
            exact k2 F2 m2 u _ Ext.refl (s2.write (c' := .dk (dropKD kvs k)) hc g1' rfl ⟨h3, _, upd_same, RepK.drop h5⟩) h7

/-! ### texts' methods -/
def schk (x : D) : M Unit := fun h => match x with
  | .str _ => .ok () h
  | _ => .stuck
theorem de_sm1 {o e : Expr} {mo me : M D} {name : Str} {id : String} {r : V → List V → Hp → VK → Prop} {f : D → D → M D} (slot : Slot "str" name id) (hty : typeOf (.builtin id) = pure (.type "method_descriptor")) (hm : MtR X id r)
    (hr : ∀ (fr : Fm) (W : WX) (σ : St) (F : Hp) (m : List Addr) (ah : AH) (H : Hp) (d e : D) (v w : V) (Q : VK), Sim X.K X.mg fr F m ah H → Rep X.K F m d v → Rep X.K F m e w → TK X.K X.mg fr W (Rep X.K) σ F m (f d e ah) Q → r v [w] H Q)
    (ho : DE X W env o mo) (he : DE X W env e me) (hbase : attributeBase o name X.env (eval o X.env) = eval o X.env := by rfl)
    (hline : (apos.endLine == pos.line) = true := by rfl) (hs : starEach [e] X.env = [(false, eval e X.env)] := by rfl) :
    DE X W env (.Call (.Attribute o name apos) [e] [] pos) (do let x ← mo; let _ ← schk x; let y ← me; f x y) :=
  PE.from (pe_m1 slot hty hm ho he hs hbase hline) fun σ H Q ⟨fr, F, m, ah, s, er, q⟩ => TK.step s er q fun F1 m1 ah1 d v H1 e1 s1 er1 r1 k1 => by
    rw [bind_def] at k1
    unfold schk at k1
    cases d <;> try exact k1.elim
    rename_i x
    refine ⟨⟨x, by unfold Rep at r1; exact r1⟩, TK.step s1 er1 k1 fun F2 m2 ah2 d2 v2 H2 e2 s2 er2 r2 k2 => ?_⟩
    exact hr fr W σ F2 m2 ah2 H2 _ _ _ _ Q s2 (Rep.ext e2 _ _ r1) r2 k2
theorem de_sm0 {o : Expr} {mo : M D} {name : Str} {id : String} {r : V → List V → Hp → VK → Prop} {f : D → M D} (slot : Slot "str" name id) (hty : typeOf (.builtin id) = pure (.type "method_descriptor")) (hm : MtR X id r)
    (hr : ∀ (fr : Fm) (W : WX) (σ : St) (F : Hp) (m : List Addr) (ah : AH) (H : Hp) (d : D) (v : V) (Q : VK), Sim X.K X.mg fr F m ah H → Rep X.K F m d v → TK X.K X.mg fr W (Rep X.K) σ F m (f d ah) Q → r v [] H Q)
    (ho : DE X W env o mo) (hbase : attributeBase o name X.env (eval o X.env) = eval o X.env := by rfl)
    (hline : (apos.endLine == pos.line) = true := by rfl) :
    DE X W env (.Call (.Attribute o name apos) [] [] pos) (do let x ← mo; let _ ← schk x; f x) :=
  PE.from (pe_m0 slot hty hm ho hbase hline) fun σ H Q ⟨fr, F, m, ah, s, er, q⟩ => TK.step s er q fun F1 m1 ah1 d v H1 e1 s1 er1 r1 k1 => by
    rw [bind_def] at k1
    unfold schk at k1
    cases d <;> try exact k1.elim
    rename_i x
    exact ⟨⟨x, by unfold Rep at r1; exact r1⟩, hr fr W σ F1 m1 ah1 H1 _ _ Q s1 r1 k1⟩
/-- texts in a row -/
def strsOf : List D → Option (List Str)
  | [] => some []
  | .str x :: r => (match strsOf r with
    | some ys => some (x :: ys)
    | none => none)
  | _ => none
theorem strs_rep {K : Fg} {F : Hp} {m : List Addr} : ∀ {ds : List D} {vs : List V} {ys : List Str}, RepL K F m ds vs → strsOf ds = some ys → vs = ys.map V.str
  | [], vs, ys, r, h => by
    cases h
    unfold RepL at r
    exact r
  | d :: ds, vs, ys, r, h => by
    unfold RepL at r
    obtain ⟨v, t, rfl, h1, h2⟩ := r
    cases d <;> try (cases h; done)
    rename_i x
    unfold strsOf at h
    cases hr : strsOf ds with
    | none =>
      rw [hr] at h
      cases h
    | some zs =>
      rw [hr] at h
      cases h
      unfold Rep at h1
      rw [h1, strs_rep h2 hr]
      rfl
def joinM (x y : D) : M D := fun h => match x, seqOf h y with
  | .str a, some ds => (match strsOf ds with
    | some ys => if (ys.map (·.length)).sum + ys.length * a.length ≤ 16777216 then .ok (.str (Txt.join a ys)) h else .stuck
    | none => .stuck)
  | _, _ => .stuck
theorem de_join {o e : Expr} {mo me : M D} (ho : DE X W env o mo) (he : DE X W env e me) (hbase : attributeBase o "join" X.env (eval o X.env) = eval o X.env := by rfl)
    (hline : (apos.endLine == pos.line) = true := by rfl) (hs : starEach [e] X.env = [(false, eval e X.env)] := by rfl) :
    DE X W env (.Call (.Attribute o "join" apos) [e] [] pos) (do let x ← mo; let _ ← schk x; let y ← me; joinM x y) :=
  de_sm1 PySem.F.slot_str_join PySem.F.type_str_join mt_join (fun fr W σ F m ah H d e v w Q S r1 r2 k => by
    unfold joinM at k
    cases d <;> try exact k.elim
    rename_i a
    unfold Rep at r1
    cases hy : seqOf ah e with
    | none =>
      simp only [hy] at k
      exact k.elim
    | some ds =>
      simp only [hy] at k
      cases hs : strsOf ds with
      | none =>
        simp only [hs] at k
        exact k.elim
      | some ys =>
        simp only [hs] at k
        by_cases hl : (ys.map (·.length)).sum + ys.length * a.length ≤ 16777216
        · rw [if_pos hl] at k
          have key : ∃ p, w = .ref p ∧ (SqL X.K H p (ys.map V.str) ∨ SqT X.K H p (ys.map V.str)) := by
            cases e <;> try (cases hy; done)
            · obtain ⟨p, us, g1, g2, g3⟩ := lst_of S r2 (show lstOf ah _ = some ds from hy)
              exact ⟨p, g1, .inl (by rw [← strs_rep g3 hs]; exact g2)⟩
            · cases hy
              obtain ⟨p, us, g1, g2, g3⟩ := tup_of r2 rfl
              exact ⟨p, g1, .inr (by rw [← strs_rep g3 hs]; exact SqT.up S.sub g2)⟩
            · obtain ⟨p, us, g1, g2, g3⟩ := lst_of S r2 (show lstOf ah _ = some ds from hy)
              exact ⟨p, g1, .inl (by rw [← strs_rep g3 hs]; exact g2)⟩
          obtain ⟨p, e1, e2⟩ := key
          exact ⟨a, p, ys, r1, by rw [e1], e2, hl, TK.val k S Rep.str⟩
        · rw [if_neg hl] at k
          exact k.elim) ho he hbase hline hs

/-! ### a list times a number -/
def repLM (x y : D) : M D := fun h => match x, y with
  | .ref n, .int k => (match h[n]? with
    | some (.lst xs) => if -(2 ^ 63) ≤ k ∧ k < 2 ^ 63 ∧ xs.length * k.toNat ≤ sizeLine then .ok (.lst (List.replicate k.toNat xs).flatten) h else .stuck
    | _ => .stuck)
  | _, _ => .stuck
theorem RepL.rep {K : Fg} {F : Hp} {m : List Addr} {ds : List D} {vs : List V} (r : RepL K F m ds vs) : ∀ n : Nat, RepL K F m (List.replicate n ds).flatten (List.replicate n vs).flatten
  | 0 => RepL.nil
  | n + 1 => by
    rw [List.replicate_succ, List.replicate_succ, List.flatten_cons, List.flatten_cons]
    exact RepL.append r (RepL.rep r n)
theorem repL_ok : OpD X rRep repLM := by
  intro fr W σ F m ah H d e x y Q S rx ry k
  unfold repLM at k
  cases d <;> try exact k.elim
  rename_i n
  cases e <;> try exact k.elim
  rename_i i
  cases hc : ah[n]? with
  | none =>
    simp only [hc] at k
    exact k.elim
  | some c =>
    cases c <;> simp only [hc] at k <;> try exact k.elim
    rename_i xs
    by_cases hl : -(2 ^ 63) ≤ i ∧ i < 2 ^ 63 ∧ xs.length * i.toNat ≤ sizeLine
    · rw [if_pos hl] at k
      unfold Rep at rx ry
      obtain ⟨a, h1, h2⟩ := rx
      obtain ⟨a', q, ok⟩ := S.cells n _ hc
      rw [h1] at q
      cases q
      obtain ⟨_, vs, h3, h4⟩ := ok
      refine ⟨a, i, vs, h2, ry, h3, hl.1, hl.2.1, by rw [RepL.length h4]; exact hl.2.2, fun p hp => ?_⟩
      exact TK.newL k S (RepL.rep h4 i.toNat) hp
    · rw [if_neg hl] at k
      exact k.elim
theorem de_repL {a b : Expr} {ma mb : M D} (ha : DE X W env a ma) (hb : DE X W env b mb) : DE X W env (.BinOp a .Mult b pos) (do let x ← ma; let y ← mb; repLM x y) := de_op op_rep repL_ok ha hb

/-! ### {k: v, ..} -/
abbrev RepP (K : Fg) (F : Hp) (m : List Addr) : List (D × D) → List (V × V) → Prop := Paired fun p q => Rep K F m p.1 q.1 ∧ Rep K F m p.2 q.2
theorem RepP.ext {K : Fg} {F F' : Hp} {m m' : List Addr} {xs : List (D × D)} {ys : List (V × V)} (e : Ext F m F' m') (h : RepP K F m xs ys) : RepP K F' m' xs ys :=
  Paired.imp (fun _ _ r => ⟨Rep.ext e _ _ r.1, Rep.ext e _ _ r.2⟩) h
structure DPs (X : Cx) (W : WX) (env : Env) (pos : Pos) (keys : List (Option Expr)) (values : List Expr) (ms : M (List (D × D))) : Prop where
  ex : ∃ trs, PPs X pos keys values trs ∧ ∀ σ H Q, TC X.K X.mg W (RepP X.K) env ms σ H Q → tPairs trs σ H Q
theorem dps_nil : DPs X W env pos [] [] (pure []) := ⟨[], pps_nil, fun σ H Q ⟨fr, F, m, ah, s, er, k⟩ => k F m [] H Ext.refl s .nil⟩
theorem dps_cons {k v : Expr} {ks : List (Option Expr)} {vs : List Expr} {mk mv : M D} {ms : M (List (D × D))} (hk : DE X W env k mk) (hv : DE X W env v mv) (hr : DPs X W env pos ks vs ms) :
    DPs X W env pos (some k :: ks) (v :: vs) (do let x ← mk; let y ← mv; let ps ← ms; pure ((x, y) :: ps)) := by
  obtain ⟨trs, h1, h2⟩ := hr.ex
  refine ⟨_, pps_cons hk hv h1, fun σ H Q ⟨fr, F, m, ah, s, er, q⟩ => TK.step s er q fun F1 m1 ah1 d1 v1 H1 e1 s1 er1 r1 k1 => TK.step s1 er1 k1 fun F2 m2 ah2 d2 v2 H2 e2 s2 er2 r2 k2 => ?_⟩
  refine h2 _ _ _ (TK.step (R := RepP X.K) s2 er2 k2 fun F3 m3 ah3 d3 v3 H3 e3 s3 er3 r3 k3 => ?_)
  exact k3 F3 m3 _ H3 Ext.refl s3 (.cons ⟨Rep.ext (e2.trans e3) _ _ r1, Rep.ext e3 _ _ r2⟩ r3)
def keysPs : List (D × D) → Option (List (Key × D))
  | [] => some []
  | (k, d) :: r => match keyD k, keysPs r with
    | some k, some t => some ((k, d) :: t)
    | _, _ => none
def mergeKD (kvs more : List (Key × D)) : List (Key × D) := more.foldl (fun acc kv => putKD acc kv.1 kv.2) kvs
theorem keysPs_rep {K : Fg} {F : Hp} {m : List Addr} : ∀ {ps : List (D × D)} {vs : List (V × V)} {kvs : List (Key × D)}, RepP K F m ps vs → keysPs ps = some kvs → ∃ us, vs = us.map (fun kv => (kV kv.1, kv.2)) ∧ RepK K F m kvs us
  | _, _, _, .nil, h => by
    cases h
    exact ⟨[], rfl, .nil⟩
  | (k, d) :: r, (v, u) :: t, kvs, .cons ⟨q1, q2⟩ qt, h => by
    unfold keysPs at h
    cases hk : keyD k with
    | none =>
      rw [hk] at h
      cases h
    | some kk =>
      cases hr : keysPs r with
      | none =>
        rw [hk, hr] at h
        cases h
      | some zs =>
        rw [hk, hr] at h
        cases h
        obtain ⟨us, rfl, h2⟩ := keysPs_rep qt hr
        exact ⟨(kk, u) :: us, by rw [List.map_cons, ← key_rep q1 hk], .cons ⟨rfl, q2⟩ h2⟩
theorem RepK.merge {K : Fg} {F : Hp} {m : List Addr} : ∀ {more : List (Key × D)} {us : List (Key × V)} {kvs : List (Key × D)} {vs : List (Key × V)}, RepK K F m more us → RepK K F m kvs vs → RepK K F m (mergeKD kvs more) (mergeK vs us)
  | _, _, _, _, .nil, h => h
  | (k, d) :: r, (k', u) :: t, kvs, vs, .cons ⟨e, q⟩ qt, h => by
    have e : k = k' := e
    subst e
    show RepK K F m (mergeKD (putKD kvs k d) r) (mergeK (L2.putK vs k u) t)
    exact RepK.merge qt (RepK.putK q h)
def dispM (r : D) (ps : List (D × D)) : M D := fun h => match r with
  | .ref n => (match h[n]?, keysPs ps with
    | some (.dk []), some kvs => if kvs.length ≤ 15 then .ok r (h.set n (.dk (mergeKD [] kvs))) else .stuck
    | _, _ => .stuck)
  | _ => .stuck
theorem de_disp {keys : List (Option Expr)} {values : List Expr} {ms : M (List (D × D))} (h : DPs X W env pos keys values ms) (hall : keys.all (·.isSome) = true := by rfl) (hl : keys.length = values.length := by rfl) (h0 : keys ≠ [] := by exact List.cons_ne_nil _ _)
    (h15 : keys.length ≤ 15 := by decide) : DE X W env (.Dict keys values pos) (do let r ← newM (.dk []); let ps ← ms; dispM r ps) := by
  obtain ⟨trs, h1, h2⟩ := h.ex
  refine PE.from (pe_disp h1 hall hl h0 h15) fun σ H Q ⟨fr, F, m, ah, s, er, q⟩ p hp => ?_
  obtain ⟨s1, e1⟩ := s.laid (o := .dK []) (c := .dk []) hp ⟨s.freeF hp, [], upd_same, .nil⟩
  have q : TK X.K X.mg fr W (Rep X.K) σ F m ((ms >>= fun ps => dispM (.ref ah.length) ps) (ah ++ [.dk []])) Q := q
  have hp1 : (m ++ [p])[ah.length]? = some p := by
    rw [← s.len, List.getElem?_append_right (Nat.le_refl _)]
    simp
  refine h2 _ _ _ (TK.step (R := RepP X.K) s1 (er.ext e1) (TK.ext e1 q) fun F2 m2 ah2 ps vs H2 e2 s2 er2 r2 k2 => ?_)
  unfold dispM at k2
  have hp2 := e2.pre _ _ hp1
  cases hc : ah2[ah.length]? with
  | none =>
    simp only [hc] at k2
    exact k2.elim
  | some c =>
    cases c <;> simp only [hc] at k2 <;> try exact k2.elim
    rename_i kv0
    cases hk : keysPs ps with
    | none =>
      cases kv0 <;> simp only [hk] at k2 <;> exact k2.elim
    | some kvs =>
      cases kv0 with
      | cons _ _ => simp only [hk] at k2; exact k2.elim
      | nil =>
        simp only [hk] at k2
        by_cases hl : kvs.length ≤ 15
        · rw [if_pos hl] at k2
          obtain ⟨a', q', ok⟩ := s2.cells _ _ hc
          rw [hp2] at q'
          cases q'
          obtain ⟨h3, us, h4, h5⟩ := ok
          cases h5
          obtain ⟨ws, rfl, h6⟩ := keysPs_rep r2 hk
          refine ⟨h4, ws, rfl, by rw [RepK.length h6]; exact hl, ?_⟩
          refine k2 F2 m2 (.ref p) _ Ext.refl (s2.write (c' := .dk (mergeKD [] kvs)) hc hp2 rfl ⟨h3, _, upd_same, RepK.merge h6 .nil⟩) ?_
          unfold Rep
          exact ⟨p, hp2, rfl⟩
        · rw [if_neg hl] at k2
          exact k2.elim
end
end Lw

/-! SimU: zip of a list and a tuple. -/
namespace Lw
open PySem PySem.Spec PyProof.Rows L2
def ItzLT (K : Fg) (a b : Addr) : It :=
  ⟨fun i H => ∃ (xs ys : List V) (x y : V), SqL K H a xs ∧ SqT K H b ys ∧ xs[i]? = some x ∧ ys[i]? = some y,
    fun i H v H' => ∃ T x y, v = .ref T ∧ H T = none ∧ H' = upd H T (.tup [x, y]) ∧ (∀ xs, SqL K H a xs → xs[i]? = some x) ∧ ∀ ys, SqT K H b ys → ys[i]? = some y,
    fun i H => ∃ xs ys : List V, SqL K H a xs ∧ SqT K H b ys ∧ i ≤ xs.length ∧ i ≤ ys.length ∧ (xs.length = i ∨ ys.length = i)⟩
theorem turn_zipLT {P : Program} {w : World} {K : Fg} {elts : List Expr} {kk : Nat} {tpos : Pos} {a b z TI TO i1 i2 : Addr} (D : ZipApart z TI TO i1 i2 a b) :
    Turn P w K (.Tuple elts kk tpos) (ItzLT K a b) [z, TI, TO, i1, i2] z (fun i h => IsZip h z TI TO .none ∧ IsPair h TI (.ref i1) (.ref i2) ∧ (∃ x y, IsPair h TO x y) ∧ h.IsListIter i1 a i ∧ h.IsTupleIter i2 b i) where
  mem := by simp
  obj := fun i h st c hc => by
    obtain ⟨hz, hTI, ⟨x, y, hTO⟩, ⟨o1, e1, _, d1⟩, ⟨o2, e2, _, d2⟩⟩ := st
    have e' : c = z ∨ c = TI ∨ c = TO ∨ c = i1 ∨ c = i2 := by simpa using hc
    rcases e' with q | q | q | q | q
    · rw [q]; exact ⟨_, hz, fun v q => nomatch q⟩
    · rw [q]; exact ⟨_, hTI, fun v q => nomatch q⟩
    · rw [q]; exact ⟨_, hTO, fun v q => nomatch q⟩
    · rw [q]; exact ⟨o1, e1, fun v q => by rw [d1] at q; cases q⟩
    · rw [q]; exact ⟨o2, e2, fun v q => by rw [d2] at q; cases q⟩
  keep := fun i h h' st k => by
    obtain ⟨hz, hTI, ⟨x, y, hTO⟩, h1, h2⟩ := st
    exact ⟨k z (by simp) _ hz, k TI (by simp) _ hTI, ⟨x, y, k TO (by simp) _ hTO⟩, h1.at fun o q => k i1 (by simp) o q, h2.at fun o q => k i2 (by simp) o q⟩
  item := by
    intro X hP hw hK hc i pins s σ H E I hf st hg
    subst hP hw hK
    obtain ⟨hz, hTI, ⟨x0, y0, hTO⟩, h1, h2⟩ := st
    obtain ⟨xs, ys, x, y, hqx, hqy, hx, hy⟩ := hg
    obtain ⟨its, rv, p, _⟩ := I.list hqx
    obtain ⟨its2, rv2, p2, _⟩ := I.tuple hqy
    obtain ⟨u, hu, ru⟩ := rv.get hx
    obtain ⟨u2, hu2, ru2⟩ := rv2.get hy
    have hzl : z < s.heap.objs.size := Heap.lt_size hz
    have S : ZipSep2 z TI TO i1 i2 [i1, a] [i2, b] := ⟨D.TIz, D.TOz, D.TITO, D.TIi1, by simp, by simp [D.i1z.symm, D.l1z.symm], by simp [D.TOi1, D.l1TO.symm], D.TIi2, by simp, by simp [D.i2z.symm, D.l2z.symm], by simp [D.TOi2, D.l2TO.symm], by simp [D.i12, D.l2i1.symm], by simp [D.i12.symm, D.l1i2.symm]⟩
    have l1 : i < its.toArray.size := by
      have := (List.getElem?_eq_some_iff.mp hu).1
      simpa using this
    have l2 : i < its2.toArray.size := by
      have := (List.getElem?_eq_some_iff.mp hu2).1
      simpa using this
    refine wpAny_pyNext_zipD2_item S (Draws.list (A := X.A.in1) (I.ok.hd hc) i1 a D.l1i1 its.toArray) (Draws.tuple (A := X.A.in1) (I.ok.hd hc) i2 b D.l2i2 its2.toArray) hz hTI hTO ⟨h1, p.isList⟩ ⟨h2, (show s.heap.IsTuple b its2.toArray from p2)⟩ l1 l2
      fun w1 w2 h' tk y1 y2 z' TO' st1 st2 hT hsz hk => ?_
    have e1 : w1 = u := by
      have y1 : its.toArray[i]? = some w1 := y1
      rw [show its.toArray[i]? = its[i]? by simp, hu] at y1
      exact (Option.some.inj y1).symm
    have e2 : w2 = u2 := by
      have y2 : its2.toArray[i]? = some w2 := y2
      rw [show its2.toArray[i]? = its2[i]? by simp, hu2] at y2
      exact (Option.some.inj y2).symm
    subst e1 e2
    obtain ⟨h1', _⟩ := st1
    obtain ⟨h2', _⟩ := st2
    refine ⟨_, rfl, wpAny_letOwnedTupleGo_zip (s := { s with heap := h', toks := tk }) z' fun h'' z'' sb => ?_⟩
    have hT2 : h''.get? s.heap.objs.size = some { cls := .type "tuple", data := .seq #[w1, w2] } := (sb.2 _ (Nat.ne_of_gt hzl)).trans hT
    have new : ObjOk X.prog X.w (upd H s.heap.objs.size (.tup [x, y])) h'' s.heap.objs.size (.tup [x, y]) :=
      ⟨by show 2 ≤ sizeLine; decide, [w1, w2], .cons ru (.cons ru2 .nil), ⟨_, hT2, rfl, _, rfl⟩⟩
    have I1 : Inv X pins σ (upd H s.heap.objs.size (.tup [x, y])) { s with heap := h'', toks := tk } :=
      I.turnedNew (ch := [z, TI, TO, i1, i2]) (fun c o hb q => (sb.2 c (fun q' => hb (by simp [q']))).trans (hk c o (fun q' => hb (by simp [q'])) (fun q' => hb (by simp [q'])) (fun q' => hb (by simp [q'])) (fun q' => hb (by simp [q'])) q)) hf (Nat.le_refl _) new
    refine ⟨.ref s.heap.objs.size, _, I1, rfl, ⟨_, x, y, rfl, I.hok.fresh (Nat.le_refl _), rfl, fun l hl => by rw [I.list_inj hl hqx]; exact hx, fun l hl => by rw [I.tuple_inj hl hqy]; exact hy⟩, ⟨z'', ?_, ⟨w1, w2, ?_⟩, ?_, ?_⟩, fun c hcm => ?_⟩
    · exact (sb.2 _ D.TIz).trans (hk _ _ D.TIz D.TITO D.TIi1 D.TIi2 hTI)
    · exact (sb.2 _ D.TOz).trans TO'
    · exact h1'.at fun o q => (sb.2 _ D.i1z).trans q
    · exact h2'.at fun o q => (sb.2 _ D.i2z).trans q
    · have hlt : c < s.heap.objs.size := by
        have e' : c = z ∨ c = TI ∨ c = TO ∨ c = i1 ∨ c = i2 := by simpa using hcm
        rcases e' with q | q | q | q | q
        · rw [q]; exact hzl
        · rw [q]; exact Heap.lt_size hTI
        · rw [q]; exact Heap.lt_size hTO
        · rw [q]; obtain ⟨_, e1, _⟩ := h1; exact Heap.lt_size e1
        · rw [q]; obtain ⟨_, e2, _⟩ := h2; exact Heap.lt_size e2
      rw [upd_ne (Nat.ne_of_lt hlt)]
      exact (hf c hcm).1
  done := by
    intro X hP hw hK hc i pins s σ H E I hf st hg
    subst hP hw hK
    obtain ⟨hz, hTI, ⟨x0, y0, hTO⟩, h1, h2⟩ := st
    obtain ⟨xs, ys, hqx, hqy, le1, le2, hend⟩ := hg
    obtain ⟨its, rv, p, _⟩ := I.list hqx
    obtain ⟨its2, rv2, p2, _⟩ := I.tuple hqy
    have e1 := rv.length
    have e2 := rv2.length
    have S : ZipSep2 z TI TO i1 i2 [i1, a] [i2, b] := ⟨D.TIz, D.TOz, D.TITO, D.TIi1, by simp, by simp [D.i1z.symm, D.l1z.symm], by simp [D.TOi1, D.l1TO.symm], D.TIi2, by simp, by simp [D.i2z.symm, D.l2z.symm], by simp [D.TOi2, D.l2TO.symm], by simp [D.i12, D.l2i1.symm], by simp [D.i12.symm, D.l1i2.symm]⟩
    refine wpAny_pyNext_zipD2_end S (Draws.list (A := X.A.in1) (I.ok.hd hc) i1 a D.l1i1 its.toArray) (Draws.tuple (A := X.A.in1) (I.ok.hd hc) i2 b D.l2i2 its2.toArray) hz hTI hTO ⟨h1, p.isList⟩ ⟨h2, (show s.heap.IsTuple b its2.toArray from p2)⟩
      (by simp only [List.size_toArray]; omega) (by simp only [List.size_toArray]; omega) (by simp only [List.size_toArray]; omega) fun h' tk hk => ⟨rfl, I.turnedL (ch := [z, TI, TO, i1, i2]) (fun c o hb q =>
      hk c o (fun q' => hb (by simp [q'])) (fun q' => hb (by simp [q'])) (fun q' => hb (by simp [q'])) (fun q' => hb (by simp [q'])) q) hf⟩
  self := fun A i s Q E st h => wpAny_pyIter_zip st.1 h
def iZipLT (K : Fg) (ta : TA) : TI := fun σ H R => ta σ H fun vs H1 => ∃ a b xs ys, vs = [.ref a, .ref b] ∧ SqL K H1 a xs ∧ SqT K H1 b ys ∧ R (ItzLT K a b) H1
theorem pi_zipLT {X : Cx} {e e2 : Expr} {ta : TA} {p pos tpos : Pos} {elts : List Expr} {kk : Nat} (hg : Gl X "zip") (hm : X.mg "zip" = none) (ha : PA X [e, e2] ta)
    (hs : starEach [e, e2] X.env = (false, eval e X.env) :: starEach [e2] X.env := by rfl) (hpl : (backTo pos (starEach [e2] X.env)).any (·.1) = false := by rfl) :
    PI X (.Tuple elts kk tpos) (.Call (.Name "zip" p) [e, e2] [] pos) (iZipLT X.K ta) := by
  refine ⟨fun pins s σ H R I h => ?_⟩
  refine Call_ (ld_blt I hg hm PyProof.Rows.boot_zip (PyProof.Rows.callWith_type1 (thn (ha.run pos pins s σ H _ I h) fun us s1 ⟨vs, H1, I1, r1, q1⟩ => ?_) hs hpl))
  obtain ⟨a, b, xs, ys, ex, hqx, hqy, q⟩ := q1
  subst ex
  cases r1 with
  | cons r rr =>
    cases rr with
    | cons r' rr =>
      cases rr
      cases r
      cases r'
      have fresh5 : ∀ c, c ∈ [s1.heap.objs.size + 4, s1.heap.objs.size + 2, s1.heap.objs.size + 3, s1.heap.objs.size, s1.heap.objs.size + 1] → FpOk X pins H1 c := fun c hcm => by
        have e' : c = s1.heap.objs.size + 4 ∨ c = s1.heap.objs.size + 2 ∨ c = s1.heap.objs.size + 3 ∨ c = s1.heap.objs.size ∨ c = s1.heap.objs.size + 1 := by simpa using hcm
        have hle : s1.heap.objs.size ≤ c := by
          rcases e' with z | z | z | z | z
          · rw [z]; exact Nat.le_add_right _ _
          · rw [z]; exact Nat.le_add_right _ _
          · rw [z]; exact Nat.le_add_right _ _
          · rw [z]; exact Nat.le_refl _
          · rw [z]; exact Nat.le_add_right _ _
        exact I1.fpOk hle (I1.hok.fresh hle)
      obtain ⟨its, rv, p1, _⟩ := I1.list hqx
      obtain ⟨its2, rv2, p2, _⟩ := I1.tuple hqy
      obtain ⟨o2, ho2, _⟩ := id p2
      refine zip_begins2 (begins_list a its.toArray) (begins_tuple b its2.toArray) p1.isList (show s1.heap.IsTuple b its2.toArray from p2) fun h' hz hTI hTO h1 h2 hsz hk => wpAny_pyIter_zip hz ?_
      have I2 : Inv X pins σ H1 { s1 with heap := h' } := I1.kept (t' := s1.toks) hk
      exact ⟨s1.heap.objs.size + 4, [s1.heap.objs.size + 4, s1.heap.objs.size + 2, s1.heap.objs.size + 3, s1.heap.objs.size, s1.heap.objs.size + 1], _, _, H1, rfl, I2, turn_zipLT (PySem.W.ktu_apart s1.heap.objs.size a b p1.lt (Heap.lt_size ho2)), ⟨hz, hTI, ⟨_, _, hTO⟩, ⟨_, h1, rfl, rfl⟩, ⟨_, h2, rfl, rfl⟩⟩, fresh5, q⟩
def zipLTM : List D → M (List D)
  | [.lst xs, .tup ys] => pure (zipD xs ys)
  | _ => stuck
theorem yl_zipLT {K : Fg} {mg : Str → Option Value} {F : Hp} {m : List Addr} {a b : Addr} {xs ys : List D} {vs us : List V} (h : SqL K F a vs) (h' : SqT K F b us) (r : RepL K F m xs vs) (r' : RepL K F m ys us) : Yl K mg F m (zipD xs ys) (ItzLT K a b) where
  go := fun i fr F1 m1 ah1 H1 e s hi => by
    obtain ⟨x, y, hx, hy, _⟩ := zipD_get hi
    obtain ⟨v, hv, _⟩ := RepL.get r hx
    obtain ⟨u, hu, _⟩ := RepL.get r' hy
    exact ⟨vs, us, v, u, SqL.up s.sub (SqL.up e.sub h), SqT.up s.sub (SqT.up e.sub h'), hv, hu⟩
  stop := fun fr F1 m1 ah1 H1 e s => by
    refine ⟨vs, us, SqL.up s.sub (SqL.up e.sub h), SqT.up s.sub (SqT.up e.sub h'), ?_⟩
    rw [zipD_length, RepL.length r, RepL.length r']
    omega
  yld := fun i fr F1 m1 ah1 H1 x H2 e s hi z => by
    obtain ⟨T, p, q, e1, e2, e3, z1, z2⟩ := z
    subst e1 e3
    obtain ⟨x, y, hx, hy, hz⟩ := zipD_get hi
    obtain ⟨v, hv, rv⟩ := RepL.get r hx
    obtain ⟨u, hu, ru⟩ := RepL.get r' hy
    have q1 := z1 vs (SqL.up s.sub (SqL.up e.sub h))
    have q2 := z2 us (SqT.up s.sub (SqT.up e.sub h'))
    rw [hv] at q1
    rw [hu] at q2
    have hp : v = p := Option.some.inj q1
    have hq : u = q := Option.some.inj q2
    rw [hp] at rv
    rw [hq] at ru
    obtain ⟨S', e'⟩ := s.frozen (o := .tup [p, q]) e2
    exact ⟨_, _, hz, e', S', Rep.tup (.inl (.inl upd_same)) (RepL.cons (Rep.ext (e.trans e') _ _ rv) (RepL.cons (Rep.ext (e.trans e') _ _ ru) RepL.nil))⟩
section
variable {X : Cx} {W : WX} {env : Env} {pos : Pos}
theorem di_zipLT {a b : Expr} {ma mb : M D} {p tpos : Pos} {elts : List Expr} {kk : Nat} (hm : X.mg "zip" = none) (ha : DE X W env a ma) (hb : DE X W env b mb) (hg : Gl X "zip" := by rfl) (hs : starEach [a, b] X.env = (false, eval a X.env) :: starEach [b] X.env := by rfl)
    (hs2 : starEach [b] X.env = (false, eval b X.env) :: starEach [] X.env := by rfl) (hpl : (backTo pos (starEach [b] X.env)).any (·.1) = false := by rfl) :
    DI X W env (.Tuple elts kk tpos) (.Call (.Name "zip" p) [a, b] [] pos) (do let x ← ma; let y ← mb; zipLTM [x, y]) :=
  PI.from (pi_zipLT (pos := pos) (p := p) hg hm (da_two ha hb hs hs2) hs hpl) fun σ H Q ⟨fr, F, m, ah, s, er, k⟩ => by
    have e : ((do let x ← ma; let y ← mb; pure [x, y]) >>= zipLTM) = (do let x ← ma; let y ← mb; zipLTM [x, y]) := by
      rw [bind_assoc]
      congr 1
      funext x
      rw [bind_assoc]
      rfl
    have k' : TK X.K X.mg fr W (Yl X.K X.mg) σ F m (((do let x ← ma; let y ← mb; pure [x, y]) >>= zipLTM) ah) (fun J H' => Q J H') := by
      rw [e]
      exact k
    refine TK.step (R := RepL X.K) s er k' fun F1 m1 ah1 d v H1 e1 s1 er1 r1 k1 => ?_
    unfold zipLTM at k1
    split at k1
    · obtain ⟨v, w, rfl, r, r2⟩ := RepL.two r1
      unfold Rep at r r2
      obtain ⟨a1, vs, h1, h2, h3⟩ := r
      obtain ⟨a2, us, h1', h2', h3'⟩ := r2
      exact ⟨a1, a2, vs, us, by rw [h1, h1'], SqL.up s1.sub h2, SqT.up s1.sub h2', k1 F1 m1 _ H1 Ext.refl s1 (yl_zipLT h2 h2' h3 h3')⟩
    · exact (TK.stuck_of k1).elim
end
end Lw

/-! SimV: texts sign by sign, global constants, dict(list), sorted(dict), tuples compared. -/
namespace Lw
open PySem L2
section
variable {X : Cx} {W : WX} {ex env : Env} {pos apos : Pos}
/-! ### a text sign by sign -/
def signsD (x : Str) : List D := x.cps.toList.map fun c => D.str ⟨#[c]⟩
theorem yl_str {K : Fg} {mg : Str → Option Value} {F : Hp} {m : List Addr} (x : Str) : Yl K mg F m (signsD x) (Its x) where
  go := fun i fr F1 m1 ah1 H1 e s hi => by
    unfold signsD at hi
    rw [List.length_map, Array.length_toList] at hi
    exact hi
  stop := fun fr F1 m1 ah1 H1 e s => by
    unfold signsD
    rw [List.length_map, Array.length_toList]
    exact Nat.le_refl _
  yld := fun i fr F1 m1 ah1 H1 v H2 e s hi y => by
    obtain ⟨e2, c, hc, rfl⟩ := y
    subst e2
    refine ⟨F1, .str ⟨#[c]⟩, ?_, Ext.refl, s, Rep.str⟩
    unfold signsD
    rw [List.getElem?_map, Array.getElem?_toList, hc]
    rfl
def strItM : D → M (List D)
  | .str x => pure (signsD x)
  | _ => stuck
theorem di_str {tg e : Expr} {me : M D} (he : DE X W env e me) : DI X W env tg e (do let x ← me; strItM x) :=
  PI.from (pi_str he) fun σ H Q ⟨fr, F, m, ah, s, er, k⟩ => TK.step s er k fun F1 m1 ah1 d v H1 e1 s1 er1 r1 k1 => by
    cases d <;> try exact (TK.stuck_of k1).elim
    rename_i x
    unfold Rep at r1
    exact ⟨x, r1, k1 F1 m1 _ H1 Ext.refl s1 (yl_str x)⟩
/-- one sign in a text -/
def signInM (neg : Bool) (x y : D) : M D := match x, y with
  | .str ⟨⟨[c]⟩⟩, .str z => pure (.bl (xor neg (decide (c ∈ z.cps.toList))))
  | _, _ => stuck
theorem sign_ok {X : Cx} : OpD X (fun x y H Q => ∃ (c : Nat) (z : Str), x = .str ⟨#[c]⟩ ∧ y = .str z ∧ Q (.bl (decide (c ∈ z.cps.toList))) H) (signInM false) := by
  intro fr W σ F m ah H d e x y Q S rx ry k
  unfold signInM at k
  split at k
  · unfold Rep at rx ry
    rw [Bool.false_xor] at k
    exact ⟨_, _, rx, ry, TK.val k S Rep.bl⟩
  · exact k.elim
theorem signN_ok {X : Cx} : OpD X (fun x y H Q => ∃ (c : Nat) (z : Str), x = .str ⟨#[c]⟩ ∧ y = .str z ∧ Q (.bl (!decide (c ∈ z.cps.toList))) H) (signInM true) := by
  intro fr W σ F m ah H d e x y Q S rx ry k
  unfold signInM at k
  split at k
  · unfold Rep at rx ry
    rw [Bool.true_xor] at k
    exact ⟨_, _, rx, ry, TK.val k S Rep.bl⟩
  · exact k.elim
theorem de_signin {a b : Expr} {ma mb : M D} (ha : DE X W env a ma) (hb : DE X W env b mb) (hm : behindInMarks .In b = false := by rfl) : DE X W env (.Compare a [.In] [b] pos) (do let x ← ma; let y ← mb; signInM false x y) := de_cmp op_in_sign sign_ok ha hb hm
theorem de_signnotin {a b : Expr} {ma mb : M D} (ha : DE X W env a ma) (hb : DE X W env b mb) (hm : behindInMarks .NotIn b = false := by rfl) : DE X W env (.Compare a [.NotIn] [b] pos) (do let x ← ma; let y ← mb; signInM true x y) := de_cmp op_notIn_sign signN_ok ha hb hm

/-! ### tests: k in d -/
theorem din_from {a b : M D} {neg : Bool} {t : TE → TE → TE} (ht : ∀ ta tb σ H Q, (ta σ H fun y H1 => tb σ H1 fun x H2 => ∃ a o, x = .ref a ∧ DGet H2 a y o ∧ Q (.bl (xor neg o.isSome)) H2) → t ta tb σ H Q) : ∀ σ H Q, TC X.K X.mg W (Rep X.K) env (do let x ← a; let y ← b; dinM neg x y) σ H Q →
    t (TC X.K X.mg W (Rep X.K) env a) (TC X.K X.mg W (Rep X.K) env b) σ H Q := fun σ H Q ⟨fr, F, m, ah, s, er, q⟩ => ht _ _ _ _ _ (TK.step s er q fun F1 m1 ah1 d v H1 e1 s1 er1 r1 k1 => TK.step s1 er1 k1 fun F2 m2 ah2 d2 v2 H2 e2 s2 er2 r2 k2 => by
    have r1 := Rep.ext e2 _ _ r1
    unfold dinM at k2
    cases hd : dkOf ah2 d2 with
    | none =>
      simp only [hd] at k2
      exact k2.elim
    | some kvs =>
      cases hk : keyD d with
      | none =>
        simp only [hd, hk] at k2
        exact k2.elim
      | some k =>
        simp only [hd, hk] at k2
        obtain ⟨p, n, vs, rfl, rfl, h1, h4, h5⟩ := dk_of s2 r2 hd
        obtain ⟨i1, i2⟩ := h5.val (k := k)
        refine ⟨p, valV vs k, rfl, by rw [key_rep r1 hk]; exact dget_rd h4, ?_⟩
        have e : (valV vs k).isSome = (valD kvs k).isSome := by
          cases hv : valD kvs k with
          | none => rw [i2 hv]; rfl
          | some w =>
            obtain ⟨u, h6, _⟩ := i1 w hv
            rw [h6]
            rfl
        rw [e]
        exact TK.val k2 s2 Rep.bl)
theorem dt_ind {a b : Expr} {ma mb : M D} (hu : X.A.units + 64 < cLine) (ha : DE X W env a ma) (hb : DE X W env b mb) (hm : behindInMarks .In b = false := by rfl) :
    DT X W env (.Compare a [.In] [b] pos) (do let v ← (do let x ← ma; let y ← mb; dinM false x y); asB v) :=
  dt_of (t := tDIn _ _) (pt_cmp (pc_din (by omega) ha hb) hm) (din_from (neg := false) fun ta tb σ H Q h => by
    simp only [Bool.false_xor] at h
    exact h)
theorem dt_notind {a b : Expr} {ma mb : M D} (hu : X.A.units + 64 < cLine) (ha : DE X W env a ma) (hb : DE X W env b mb) (hm : behindInMarks .NotIn b = false := by rfl) :
    DT X W env (.Compare a [.NotIn] [b] pos) (do let v ← (do let x ← ma; let y ← mb; dinM true x y); asB v) :=
  dt_of (t := tDNotIn _ _) (pt_cmp (pc_dnotin (by omega) ha hb) hm) (din_from (neg := true) fun ta tb σ H Q h => by
    simp only [Bool.true_xor] at h
    exact h)
/-! ### constants of the module -/
/-- the name stands for d, whatever else is -/
structure GvF (K : Fg) (mg : Str → Option Value) (x : Str) (d : D) : Prop where
  ok : ∃ v u, mg x = some u ∧ RelV v u ∧ ∀ F m, Rep K F m d v
theorem de_glob {x : Str} {d : D} (G : GvF X.K X.mg x d) (hg : Gl X x := by rfl) (hdb : (x == ("__debug__" : Str)) = false := by decide) : DE X W env (.Name x pos) (pure d) := by
  obtain ⟨v, u, h1, h2, h3⟩ := G.ok
  exact PE.from (pe_glob hg h1 h2 hdb) fun σ H Q ⟨fr, F, m, ah, s, er, k⟩ => k F m _ H Ext.refl s (h3 F m)
theorem gv_str {K : Fg} {h : Heap} {mg : Str → Option Value} {x z : Str} {t : Tok} (X : K.In h) (G : h.Ns mainGlobals mg) (a : PySem.W.nsIn K mainGlobals x = some (some (.str z t))) : GvF K mg x (.str z) :=
  ⟨.str z, .str z t, PySem.W.mg_of X G a, ⟨t, rfl⟩, fun _ _ => Rep.str⟩
theorem gv_int {K : Fg} {h : Heap} {mg : Str → Option Value} {x : Str} {z : Int} {t : Tok} (X : K.In h) (G : h.Ns mainGlobals mg) (a : PySem.W.nsIn K mainGlobals x = some (some (.int z t))) : GvF K mg x (.int z) :=
  ⟨.int z, .int z t, PySem.W.mg_of X G a, ⟨t, rfl⟩, fun _ _ => Rep.int⟩

/-! ### tuples of numbers compared -/
def ltTM (x y : D) : M D := match x, y with
  | .tup [.int a, .int b], .tup [.int c, .int d] => pure (.bl (if a = c then decide (b < d) else decide (a < c)))
  | _, _ => stuck
theorem ltT_ok {X : Cx} : OpD X (rLtT X.K) ltTM := by
  intro fr W σ F m ah H d e x y Q S rx ry k
  unfold ltTM at k
  split at k
  · rename_i a b c d
    obtain ⟨p, vs, rfl, h1, h2⟩ := tup_of rx rfl
    obtain ⟨q, us, rfl, g1, g2⟩ := tup_of ry rfl
    obtain ⟨v1, v2, rfl, r1, r2⟩ := RepL.two h2
    obtain ⟨u1, u2, rfl, t1, t2⟩ := RepL.two g2
    unfold Rep at r1 r2 t1 t2
    subst r1 r2 t1 t2
    refine ⟨p, q, [a, b], [c, d], rfl, rfl, SqT.up S.sub h1, SqT.up S.sub g1, ?_⟩
    have e : HT.lexLt [a, b] [c, d] = (if a = c then decide (b < d) else decide (a < c)) := by
      unfold HT.lexLt
      by_cases h : a = c
      · rw [if_pos h, if_pos h]
        unfold HT.lexLt
        by_cases g : b = d
        · rw [if_pos g, g]
          unfold HT.lexLt
          simp
        · rw [if_neg g]
      · rw [if_neg h, if_neg h]
    rw [e]
    exact TK.val k S Rep.bl
  · exact k.elim
theorem de_ltT {a b : Expr} {ma mb : M D} (hu : X.A.units + 64 < cLine) (ha : DE X W env a ma) (hb : DE X W env b mb) : DE X W env (.Compare a [.Lt] [b] pos) (do let x ← ma; let y ← mb; ltTM x y) := de_cmp (op_ltT (by omega)) ltT_ok ha hb (nomark _)

theorem hu0 {A : Around} {k : Nat} (hr : Room k A) : A.units < cLine := by
  have := hr.un
  omega
/-! ### dict(a list of pairs) -/
def pairsK : List D → Option (List (Key × D))
  | [] => some []
  | .tup [k, d] :: r => (match keyD k, pairsK r with
    | some k, some t => some ((k, d) :: t)
    | _, _ => none)
  | _ => none
def dictM (d : D) : M D := fun h => match lstOf h d with
  | some xs => (match pairsK xs with
    | some kvs => .ok (.ref h.length) (h ++ [.dk (mergeKD [] kvs)])
    | none => .stuck)
  | none => .stuck
theorem pairsK_rep {K : Fg} {F H : Hp} {m : List Addr} (sub : ∀ a o, F a = some o → H a = some o) : ∀ {ds : List D} {vs : List V} {kvs : List (Key × D)}, RepL K F m ds vs → pairsK ds = some kvs →
    ∃ (ps : List Addr) (us : List (Key × V)), vs = ps.map V.ref ∧ Paired (fun p kv => SqT K H p [kV kv.1, kv.2]) ps us ∧ RepK K F m kvs us
  | [], vs, kvs, r, h => by
    cases h
    unfold RepL at r
    subst r
    exact ⟨[], [], rfl, .nil, .nil⟩
  | d :: ds, vs, kvs, r, h => by
    unfold RepL at r
    obtain ⟨v, t, rfl, h1, h2⟩ := r
    unfold pairsK at h
    split at h
    · cases ‹_ :: _ = []›
    · rename_i k d' r' heq
      cases heq
      cases hk : keyD k with
      | none =>
        rw [hk] at h
        cases h
      | some kk =>
        cases hr : pairsK ds with
        | none =>
          rw [hk, hr] at h
          cases h
        | some zs =>
          rw [hk, hr] at h
          cases h
          obtain ⟨ps, us, rfl, g1, g2⟩ := pairsK_rep sub h2 hr
          obtain ⟨p, ws, rfl, q1, q2⟩ := tup_of h1 rfl
          obtain ⟨w1, w2, rfl, q3, q4⟩ := RepL.two q2
          have e := key_rep q3 hk
          subst e
          exact ⟨p :: ps, (kk, w2) :: us, rfl, .cons (SqT.up sub q1) g1, .cons ⟨rfl, q4⟩ g2⟩
    · cases h
theorem dict_ok {X : Cx} : ClD X (fun xs H Q => ∃ (a : Addr) (ps : List Addr) (kvs : List (Key × V)), xs = [.ref a] ∧ SqL X.K H a (ps.map V.ref) ∧ Paired (fun p kv => SqT X.K H p [kV kv.1, kv.2]) ps kvs ∧
    ∀ p, H p = none → Q (.ref p) (upd H p (.dK (mergeK [] kvs)))) (ap1 dictM) := ap1_ok fun fr W σ F m ah H d v Q S r k => by
  unfold dictM at k
  cases hx : lstOf ah d with
  | none =>
    simp only [hx] at k
    exact k.elim
  | some xs =>
    cases hp : pairsK xs with
    | none =>
      simp only [hx, hp] at k
      exact k.elim
    | some kvs =>
      simp only [hx, hp] at k
      obtain ⟨a, vs, rfl, h1, h2⟩ := lst_of S r hx
      obtain ⟨ps, us, rfl, g1, g2⟩ := pairsK_rep S.sub h2 hp
      refine ⟨a, ps, us, rfl, h1, g1, fun p hp => ?_⟩
      obtain ⟨s1, e1⟩ := S.laid (o := .dK (mergeK [] us)) (c := .dk (mergeKD [] kvs)) hp ⟨S.freeF hp, _, upd_same, RepK.merge g2 .nil⟩
      refine k _ _ _ _ e1 s1 ?_
      unfold Rep
      refine ⟨p, ?_, rfl⟩
      rw [← S.len, List.getElem?_append_right (Nat.le_refl _)]
      simp
theorem de_dict {e : Expr} {me : M D} {p : Pos} (hcalm : X.calm = true) (hm : X.mg "dict" = none) (ha : DE X W env e me) (hg : Gl X "dict" := by rfl) (he : starEach [e] X.env = [(false, eval e X.env)] := by rfl) (hpl : (backTo pos (starEach [] X.env)).any (·.1) = false := by rfl) :
    DE X W env (.Call (.Name "dict" p) [e] [] pos) (do let x ← me; dictM x) := de_t1 (call_dictP hcalm) dict_ok hm (by decide +kernel) ha hg (by decide) (by decide) he hpl
end
end Lw

/-! SimW: insert, reverse. -/
namespace Lw
open PySem L2
section
variable {X : Cx} {W : WX} {ex env : Env} {pos apos : Pos}
/-- x.m(a, b), a method of lists -/
theorem de_lm2 {o a b : Expr} {mo ma mb : M D} {apos : Pos} {name : Str} {id : String} {r : V → List V → Hp → VK → Prop} {f : D → D → D → M D} (slot : Slot "list" name id) (hty : typeOf (.builtin id) = pure (.type "method_descriptor")) (hm : MtR X id r)
    (hr : ∀ (fr : Fm) (W : WX) (σ : St) (F : Hp) (m : List Addr) (ah : AH) (H : Hp) (d e e2 : D) (v w w2 : V) (Q : VK), Sim X.K X.mg fr F m ah H → Rep X.K F m d v → Rep X.K F m e w → Rep X.K F m e2 w2 → TK X.K X.mg fr W (Rep X.K) σ F m (f d e e2 ah) Q → r v [w, w2] H Q)
    (ho : DE X W env o mo) (ha : DE X W env a ma) (hb : DE X W env b mb) (hbase : attributeBase o name X.env (eval o X.env) = eval o X.env := by rfl)
    (hfew : ((backTo pos (starEach [a, b] X.env)).all (fun x => !x.1) && (backToKw pos (keywordEach [] X.env)).all (fun x => x.1.isSome)
      && decide ([a, b].length + ([] : List Keyword).length + (if ([] : List Keyword).isEmpty then 0 else 1) < 30)) = true := by rfl)
    (hline : (apos.endLine == pos.line) = true := by rfl) (hs : starEach [a, b] X.env = (false, eval a X.env) :: starEach [b] X.env := by rfl) (hs2 : starEach [b] X.env = (false, eval b X.env) :: starEach [] X.env := by rfl) (hplain : (backTo pos (starEach [b] X.env)).any (·.1) = false := by rfl) :
    DE X W env (.Call (.Attribute o name apos) [a, b] [] pos) (do let x ← mo; lchk x; let y ← ma; let z ← mb; f x y z) :=
  PE.from (pe_bm PySem.F.plainAttrs_list slot hty hm ho (da_two ha hb hs hs2) hbase hfew hline hs hplain) fun σ H Q ⟨fr, F, m, ah, s, er, q⟩ => TK.step s er q fun F1 m1 ah1 d v H1 e1 s1 er1 r1 k1 => by
    obtain ⟨h1, k2⟩ := lchk_of s1 r1 k1
    refine ⟨h1, ?_⟩
    have k3 : TK X.K X.mg fr W (Rep X.K) σ F1 m1 (((do let y ← ma; let z ← mb; pure [y, z]) >>= fun ys => ap2 (f d) ys) ah1) Q := by
      rw [bind_assoc]
      simp only [bind_assoc]
      exact k2
    refine TK.step (R := RepL X.K) s1 er1 k3 fun F2 m2 ah2 d2 v2 H2 e2 s2 er2 r2 k4 => ?_
    match d2, r2, k4 with
    | [], _, k4 => exact k4.elim
    | [_], _, k4 => exact k4.elim
    | [d3, d4], r2, k4 =>
      obtain ⟨w, w2, rfl, r3, r4⟩ := RepL.two r2
      exact hr fr W σ F2 m2 ah2 H2 d d3 d4 v w w2 Q s2 (Rep.ext e2 _ _ r1) r3 r4 k4
    | _ :: _ :: _ :: _, _, k4 => exact k4.elim
def insertM (x i y : D) : M D := match i with
  | .int k => onLst x fun xs => if (0 ≤ k ∧ k < 2 ^ 62) ∧ lenOk (xs.length + 1) = true then some (.non, xs.take k.toNat ++ [y] ++ xs.drop k.toNat) else none
  | _ => stuck
theorem de_insert {o a b : Expr} {mo ma mb : M D} {apos : Pos} (ho : DE X W env o mo) (ha : DE X W env a ma) (hb : DE X W env b mb) (hbase : attributeBase o "insert" X.env (eval o X.env) = eval o X.env := by rfl)
    (hfew : ((backTo pos (starEach [a, b] X.env)).all (fun x => !x.1) && (backToKw pos (keywordEach [] X.env)).all (fun x => x.1.isSome)
      && decide ([a, b].length + ([] : List Keyword).length + (if ([] : List Keyword).isEmpty then 0 else 1) < 30)) = true := by rfl)
    (hline : (apos.endLine == pos.line) = true := by rfl) (hs : starEach [a, b] X.env = (false, eval a X.env) :: starEach [b] X.env := by rfl) (hs2 : starEach [b] X.env = (false, eval b X.env) :: starEach [] X.env := by rfl) (hplain : (backTo pos (starEach [b] X.env)).any (·.1) = false := by rfl) :
    DE X W env (.Call (.Attribute o "insert" apos) [a, b] [] pos) (do let x ← mo; lchk x; let y ← ma; let z ← mb; insertM x y z) :=
  de_lm2 PySem.F.slot_list_insert PySem.F.type_list_insert mt_insert (fun fr W σ F m ah H d e e2 v w w2 Q S r r2 r3 k => by
    unfold insertM at k
    cases e <;> try exact k.elim
    rename_i i
    obtain ⟨a, xs, vs, z, ys, h1, h2, h3, h4, h5⟩ := onLst_of S r k
    by_cases hl : (0 ≤ i ∧ i < 2 ^ 62) ∧ lenOk (xs.length + 1) = true
    · rw [if_pos hl] at h4
      cases h4
      unfold Rep at r2
      subst r2
      refine ⟨a, vs, i, w2, h1, rfl, h2, ?_, hl.1.1, ?_, h5 _ (RepL.append (RepL.append (RepL.take _ h3) (RepL.cons r3 RepL.nil)) (RepL.drop _ h3)) _ Rep.non⟩
      · rw [RepL.length h3]
        exact of_decide_eq_true hl.2
      · have := hl.1.2
        omega
    · rw [if_neg hl] at h4
      cases h4) ho ha hb hbase hfew hline hs hs2 hplain
def reverseM (x : D) : M D := onLst x fun xs => some (.non, xs.reverse)
theorem RepL.reverse {K : Fg} {F : Hp} {m : List Addr} : ∀ {ds : List D} {vs : List V}, RepL K F m ds vs → RepL K F m ds.reverse vs.reverse
  | [], vs, r => by
    cases vs with
    | nil => exact r
    | cons v r2 => exact absurd (RepL.length r) (by simp)
  | d :: ds, vs, r => by
    cases vs with
    | nil => exact absurd (RepL.length r) (by simp)
    | cons v us =>
      unfold RepL at r
      obtain ⟨v2, r2, e, h1, h2⟩ := r
      cases e
      rw [List.reverse_cons, List.reverse_cons]
      exact RepL.append (RepL.reverse h2) (RepL.cons h1 RepL.nil)
theorem de_reverse {o : Expr} {mo : M D} {apos : Pos} (ho : DE X W env o mo) (hbase : attributeBase o "reverse" X.env (eval o X.env) = eval o X.env := by rfl) (hline : (apos.endLine == pos.line) = true := by rfl) :
    DE X W env (.Call (.Attribute o "reverse" apos) [] [] pos) (do let x ← mo; lchk x; reverseM x) :=
  de_lm0 PySem.F.slot_list_reverse PySem.F.type_list_reverse mt_reverse (fun fr W σ F m ah H d v Q S r k => by
    obtain ⟨a, xs, vs, z, ys, h1, h2, h3, h4, h5⟩ := onLst_of S r k
    cases h4
    exact (show rReverse _ _ _ _ from ⟨a, vs, h1, rfl, h2, h5 _ (RepL.reverse h3) _ Rep.non⟩)) ho hbase hline
/-! ### in a list, by data -/
def inDM (neg : Bool) (x y : D) : M D := fun h => match lookD h y with
  | .lst xs => if (okD (lookD h x) && okD (.lst xs)) = true then .ok (.bl (if neg = true then !xs.any fun z => PyData.eqv (toP z) (toP (lookD h x)) else xs.any fun z => PyData.eqv (toP z) (toP (lookD h x)))) h else .stuck
  | _ => .stuck
theorem any_toPs (d : PyData) : ∀ xs : List D, ((toPs xs).any fun z => PyData.eqv z d) = xs.any fun z => PyData.eqv (toP z) d
  | [] => rfl
  | x :: r => by
    unfold toPs
    rw [List.any_cons, List.any_cons, any_toPs d r]
theorem okD_two {d : D} (h : okD d = true) : flatD 0 d = true ∧ SeqAt.shaped (toP d) = true := by
  unfold okD at h
  exact Bool.and_eq_true_iff.mp h
theorem inD_ok : OpD X (rInD X.K) (inDM false) := by
  intro fr W σ F m ah H d e x y Q s rx ry k
  unfold inDM at k
  split at k
  · rename_i xs hq
    by_cases c : (okD (lookD ah d) && okD (.lst xs)) = true
    · rw [if_pos c] at k
      rw [Bool.and_eq_true] at c
      obtain ⟨c1, c2⟩ := okD_two c.1
      obtain ⟨c3, c4⟩ := okD_two c.2
      have d1 := dp_look s rx c1
      have d2 := dp_look s ry (by rw [hq]; exact c3)
      rw [hq] at d2
      unfold toP at d2 c4
      refine ⟨_, toPs xs, d1, d2, c2, c4, ?_⟩
      rw [any_toPs]
      exact k.val s Rep.bl
    · rw [if_neg c] at k
      exact k.elim
  · exact k.elim
theorem notInD_ok : OpD X (rNotInD X.K) (inDM true) := by
  intro fr W σ F m ah H d e x y Q s rx ry k
  unfold inDM at k
  split at k
  · rename_i xs hq
    by_cases c : (okD (lookD ah d) && okD (.lst xs)) = true
    · rw [if_pos c] at k
      rw [Bool.and_eq_true] at c
      obtain ⟨c1, c2⟩ := okD_two c.1
      obtain ⟨c3, c4⟩ := okD_two c.2
      have d1 := dp_look s rx c1
      have d2 := dp_look s ry (by rw [hq]; exact c3)
      rw [hq] at d2
      unfold toP at d2 c4
      refine ⟨_, toPs xs, d1, d2, c2, c4, ?_⟩
      rw [any_toPs]
      exact k.val s Rep.bl
    · rw [if_neg c] at k
      exact k.elim
  · exact k.elim
theorem de_inD {a b : Expr} {ma mb : M D} (hu : X.A.units + 66 < cLine) (ha : DE X W env a ma) (hb : DE X W env b mb) (hm : behindInMarks .In b = false := by rfl) : DE X W env (.Compare a [.In] [b] pos) (do let x ← ma; let y ← mb; inDM false x y) := de_cmp (op_inD (by omega)) inD_ok ha hb hm
theorem de_notinD {a b : Expr} {ma mb : M D} (hu : X.A.units + 66 < cLine) (ha : DE X W env a ma) (hb : DE X W env b mb) (hm : behindInMarks .NotIn b = false := by rfl) : DE X W env (.Compare a [.NotIn] [b] pos) (do let x ← ma; let y ← mb; inDM true x y) := de_cmp (op_notInD (by omega)) notInD_ok ha hb hm
end
section
variable {h : AH} {xs : List D} {n : Nat} {y : D} {k : Int}
theorem insertM_ref (e : h[n]? = some (.lst xs)) (k0 : 0 ≤ k) (k1 : k < 2 ^ 62) (l : xs.length < 1000000) : insertM (.ref n) (.int k) y h = .ok .non (h.set n (.lst (xs.take k.toNat ++ [y] ++ xs.drop k.toNat))) := by
  unfold insertM onLst lenOk
  have l2 : xs.length + 1 ≤ sizeLine := Nat.le_trans l (by decide)
  simp only [e, k0, k1, l2, and_self, decide_true, if_true]
theorem reverseM_ref (e : h[n]? = some (.lst xs)) : reverseM (.ref n) h = .ok .non (h.set n (.lst xs.reverse)) := by
  unfold reverseM onLst
  simp only [e]
end
end Lw

/-! SimX: comprehensions whose list is written. -/
namespace Lw
open PySem L2
theorem Sim.adopt {fr : Fm} {K : Fg} {mg : Str → Option Value} {F H : Hp} {m : List Addr} {ah : AH} {p : Addr} {o : HO} {c : Cell} (S : Sim K mg fr F m ah H) (hF : F p = none) (hm : p ∉ m) (h0 : fr.H0 p = none) (hp : H p = some o) (ok : CellOk K mg F m H p c) :
    Sim K mg fr F (m ++ [p]) (ah ++ [c]) H ∧ Ext F m F (m ++ [p]) := by
  have nm : ∀ a, a ∈ m → a ≠ p := fun a ha z => hm (by rw [← z]; exact ha)
  have e : Ext F m F (m ++ [p]) := ⟨fun _ _ h => h, fun i a h => by
    rw [List.getElem?_append_left (List.getElem?_eq_some_iff.mp h).1]
    exact h⟩
  refine ⟨⟨S.sub, by simp [S.len], ?_, fun i x h => ?_, fun a u h n => S.frame a u h n, fun a ha n => ?_, fun i a h => e.pre i a (S.pre i a h), fun a ha => ?_, S.old⟩, e⟩
  · rw [List.nodup_append]
    exact ⟨S.nod, by simp, fun a ha b hb => by
      rw [List.mem_singleton.mp hb]
      exact nm a ha⟩
  · rcases getElem?_snoc_cases h with h | ⟨hi, hx⟩
    · obtain ⟨a, q, okx⟩ := S.cells i x h
      exact ⟨a, e.pre i a q, okx.ext e (fun z => okx.free z) fun _ => rfl⟩
    · refine ⟨p, ?_, ?_⟩
      · rw [hi, ← S.len, List.getElem?_append_right (Nat.le_refl _)]
        simp
      · rw [← hx]
        exact ok.ext e (fun z => ok.free z) fun _ => rfl
  · rcases List.mem_append.mp ha with ha | ha
    · exact S.young a ha n
    · rw [List.mem_singleton.mp ha]
      exact h0
  · rcases List.mem_append.mp ha with ha | ha
    · exact S.there a ha
    · rw [List.mem_singleton.mp ha]
      exact ⟨_, hp⟩
def lcHM (xs : List D) (f : D → M (List D)) : M D := if lenOk xs.length = true then (do let ys ← noexM (compM xs f); newM (.lst ys)) else stuck
abbrev lcDH (xs : List D) {π : Type} (unp : D → Option π) (mt : π → M Bool) (me : π → M D) : M D := lcHM xs (fun x => do let p ← liftO (unp x); let t ← mt p; if t = true then (do let y ← me p; pure [y]) else pure [])
section
variable {X : Cx} {W : WX} {env : Env} {pos : Pos}
theorem lc_fromH {own : List (Str × Nat)} {π : Type} {sl : List Nat} {mi : M (List D)} {unp : D → Option π} {sets : π → Env → Env} {mt : π → M Bool} {me : π → M D} (hsl : ∀ i ∈ sl, i ∈ own.map (·.2)) :
    ∀ σ H Q, TC X.K X.mg W (Rep X.K) env (do let xs ← mi; lcDH xs unp mt me) σ H Q → tLc (TIM X.K X.mg W env mi) (gD X.K X.mg sl unp sets) (fun σ H Q => ∃ p, TC X.K X.mg W0 RB (sets p (wipeE env (own.map (·.2)))) (mt p) σ H Q)
      (fun σ H Q => ∃ p, TC X.K X.mg W0 (Rep X.K) (sets p (wipeE env (own.map (·.2)))) (me p) σ H Q) (own.map (·.2)) σ H Q := by
  intro σ H Q ⟨fr, F, m, ah, s, er, q⟩
  refine ⟨fr, F, m, ah, s, er, ?_⟩
  rw [bind_def] at q
  cases hi' : mi ah with
  | stuck =>
    rw [hi'] at q
    exact q
  | exc x a =>
    rw [hi'] at q
    exact q
  | ok xs a =>
    rw [hi'] at q
    intro F1 m1 J H1 e1 s1 y L hL
    have q1 : TK X.K X.mg fr W (Rep X.K) σ F1 m1 (lcHM xs (fun x => do let p ← liftO (unp x); let t ← mt p; if t = true then (do let y ← me p; pure [y]) else pure []) a) Q := TK.ext e1 q
    have er1 := er.ext e1
    clear q e1 er s
    by_cases hl : lenOk xs.length = true
    case neg =>
      unfold lcHM at q1
      rw [if_neg hl] at q1
      exact q1.elim
    have hlen : xs.length ≤ sizeLine := of_decide_eq_true hl
    have fL : F1 L = none := s1.freeF hL
    have mL : L ∉ m1 := fun z => by
      obtain ⟨u, hu⟩ := s1.there L z
      rw [hL] at hu
      cases hu
    have hL0 := s1.fresh0 hL
    generalize hf : (fun x : D => do let p ← liftO (unp x); let t ← mt p; if t = true then (do let y ← me p; pure [y]) else pure [] : D → M (List D)) = f at q1
    have q2 : TK X.K X.mg fr W (Rep X.K) σ F1 m1 (nores ((compM xs f >>= fun ys => newM (.lst ([] ++ ys))) a)) Q := by
      have z : TK X.K X.mg fr W (Rep X.K) σ F1 m1 ((noexM (compM xs f) >>= fun ys => newM (.lst ys)) a) Q := by
        have z := q1
        unfold lcHM at z
        rw [if_pos hl] at z
        exact z
      rw [bind_def] at z ⊢
      unfold noexM at z
      cases hcm : compM xs f a with
      | ok ys b =>
        rw [hcm] at z
        exact z
      | exc _ _ =>
        rw [hcm] at z
        exact z
      | stuck =>
        rw [hcm] at z
        exact z
    refine ⟨fun i n H => n = xs.length - i ∧ i ≤ xs.length ∧ ∃ F2 m2 ah2 acc vs, Ext F1 m1 F2 m2 ∧ Sim X.K X.mg fr F2 m2 ah2 H ∧ H L = some (.lst vs) ∧ F2 L = none ∧ L ∉ m2 ∧ RepL X.K F2 m2 acc vs ∧ acc.length ≤ i ∧
      TK X.K X.mg fr W (Rep X.K) σ F2 m2 (nores ((compM (xs.drop i) f >>= fun ys => newM (.lst (acc ++ ys))) ah2)) Q,
      ⟨_, rfl, Nat.zero_le _, F1, m1, a, [], [], Ext.refl, s1.other fL mL hL0, upd_same, fL, mL, RepL.nil, Nat.zero_le _, by rw [List.drop_zero]; exact q2⟩, ?_⟩
    rintro i n H2 ⟨rfl, hi2, F2, m2, ah2, acc, vs, e2, s2, hL2, fL2, mL2, ra, la, k2⟩
    by_cases hlt : i < xs.length
    · refine .inr ⟨y.go i fr F2 m2 ah2 H2 e2 s2 hlt, fun H => ∃ F2 m2 ah2 acc vs, Ext F1 m1 F2 m2 ∧ Sim X.K X.mg fr F2 m2 ah2 H ∧ H L = some (.lst vs) ∧ F2 L = none ∧ L ∉ m2 ∧ RepL X.K F2 m2 acc vs ∧ acc.length ≤ i + 1 ∧
        TK X.K X.mg fr W (Rep X.K) σ F2 m2 (nores ((compM (xs.drop (i + 1)) f >>= fun ys => newM (.lst (acc ++ ys))) ah2)) Q, fun H' z => ⟨xs.length - (i + 1), by omega, rfl, hlt, z⟩, fun v H3 yy => ?_⟩
      obtain ⟨F3, d, hd, e3, s3', r3⟩ := y.yld i _ F2 m2 ah2 H2 v H3 e2 s2.re hlt yy
      obtain ⟨hL3, fL3, mL3⟩ := s3'.kept hL2 fL2 mL2
      have s3 := s2.back s3'
      have er3 := ((er1.ext e2).ext e3)
      have hdrop : xs.drop i = d :: xs.drop (i + 1) := by
        rw [List.drop_eq_getElem_cons hlt]
        rw [List.getElem?_eq_getElem hlt] at hd
        cases hd
        rfl
      have k3 : TK X.K X.mg fr W (Rep X.K) σ F3 m2 (nores (((liftO (unp d) >>= fun p => mt p >>= fun t => (if t = true then (me p >>= fun y => pure [y]) else pure [])) >>= fun ys => compM (xs.drop (i + 1)) f >>= fun zs => newM (.lst (acc ++ (ys ++ zs)))) ah2)) Q := by
        have z := TK.ext e3 k2
        rw [hdrop] at z
        have z2 : (compM (d :: xs.drop (i + 1)) f >>= fun ys => newM (.lst (acc ++ ys))) = (f d >>= fun ys => compM (xs.drop (i + 1)) f >>= fun zs => newM (.lst (acc ++ (ys ++ zs)))) := by
          show ((f d >>= fun ys => compM (xs.drop (i + 1)) f >>= fun zs => pure (ys ++ zs)) >>= fun ys => newM (.lst (acc ++ ys))) = _
          rw [bind_assoc]
          congr 1
          funext ys
          rw [bind_assoc]
          rfl
        rw [z2, ← hf] at z
        rw [← hf]
        exact z
      cases hu : unp d with
      | none =>
        rw [hu] at k3
        exact k3.elim
      | some p =>
        rw [hu] at k3
        have k4 : TK X.K X.mg fr W (Rep X.K) σ F3 m2 (nores ((mt p >>= fun t => ((if t = true then (me p >>= fun y => pure [y]) else pure []) >>= fun ys => compM (xs.drop (i + 1)) f >>= fun zs => newM (.lst (acc ++ (ys ++ zs))))) ah2)) Q := by
          rw [← bind_assoc]
          exact k3
        refine ⟨fr, F3, m2, ah2, wipeE env (own.map (·.2)), d, p, s3, er3.wipe _, r3, hu, fun σ4 er4 hw => ⟨?_, p, ?_⟩⟩
        · have z := hw (own.map (·.2)) hsl
          rw [z]
          clear z hw er4 σ4
          have ww : ∀ (vs ws : List Nat) (σ : St), (∀ i ∈ vs, i ∈ ws) → wipe (wipe σ vs) ws = wipe σ ws := by
            intro vs
            induction vs with
            | nil => intro _ _ _; rfl
            | cons v vs ih =>
              intro ws σ h
              show wipe ((wipe σ vs).set v none) ws = _
              rw [wipe_set (h v List.mem_cons_self), ih ws σ fun i hi => h i (List.mem_cons_of_mem _ hi)]
          exact ww _ _ _ fun i hi => hi
        · refine TK.inner s3 er4 k4 fun F5 m5 ah5 t t' H5 e5 s5' er5 r5 k5 => ?_
          have r5 : t = t' := r5
          subst r5
          obtain ⟨hL5, fL5, mL5⟩ := s5'.kept hL3 fL3 mL3
          have s5 := s3.back s5'
          cases t with
          | false =>
            refine iteF ⟨F5, m5, ah5, acc, vs, (e2.trans e3).trans e5, s5, hL5, fL5, mL5, RepL.ext (e3.trans e5) _ _ ra, by omega, ?_⟩
            exact k5
          | true =>
            refine iteT ⟨p, ?_⟩
            have k6 : TK X.K X.mg fr W (Rep X.K) σ F5 m5 (nores ((me p >>= fun y => compM (xs.drop (i + 1)) f >>= fun zs => newM (.lst (acc ++ ([y] ++ zs)))) ah5)) Q := by
              have z : ((me p >>= fun y => pure [y]) >>= fun ys => compM (xs.drop (i + 1)) f >>= fun zs => newM (.lst (acc ++ (ys ++ zs)))) = (me p >>= fun y => compM (xs.drop (i + 1)) f >>= fun zs => newM (.lst (acc ++ ([y] ++ zs)))) := by
                rw [bind_assoc]
                rfl
              rw [← z]
              exact k5
            refine TK.inner s5 er5 k6 fun F7 m7 ah7 y7 v7 H7 e7 s7' er7 r7 k7 => ?_
            obtain ⟨hL7, fL7, mL7⟩ := s7'.kept hL5 fL5 mL5
            have s7 := s5.back s7'
            refine ⟨vs, hL7, ?_, F7, m7, ah7, acc ++ [y7], vs ++ [v7], ((e2.trans e3).trans e5).trans e7, s7.other fL7 mL7 hL0, upd_same, fL7, mL7, RepL.append (RepL.ext ((e3.trans e5).trans e7) _ _ ra) (RepL.cons r7 RepL.nil), by rw [List.length_append, List.length_singleton]; omega, ?_⟩
            · rw [RepL.length ra]
              omega
            · have z : (fun zs => (newM (.lst (acc ++ ([y7] ++ zs))) : M D)) = fun zs => newM (.lst ((acc ++ [y7]) ++ zs)) := by
                funext zs
                rw [List.append_assoc]
              rw [z] at k7
              exact k7
    · have ei : i = xs.length := by omega
      subst ei
      refine .inl ⟨y.stop fr F2 m2 ah2 H2 e2 s2, ?_⟩
      rw [List.drop_length] at k2
      have k3 : TK X.K X.mg fr W (Rep X.K) σ F2 m2 (.ok (.ref ah2.length) (ah2 ++ [.lst acc])) Q := by
        have z : (compM [] f >>= fun ys => (newM (.lst (acc ++ ys)) : M D)) = newM (.lst acc) := by
          show (newM (.lst (acc ++ [])) : M D) = _
          rw [List.append_nil]
        rw [z] at k2
        exact k2
      obtain ⟨s3, e3⟩ := s2.adopt (c := .lst acc) fL2 mL2 hL0 hL2 ⟨fL2, vs, hL2, ra⟩
      refine k3 _ _ _ _ e3 s3 ?_
      unfold Rep
      refine ⟨L, ?_, rfl⟩
      rw [← s2.len, List.getElem?_append_right (Nat.le_refl _)]
      simp
theorem de_lcH {elt tg iter : Expr} {ifs : List Expr} {scope : Scope} {own : List (Str × Nat)} {π : Type} {sl : List Nat} {mi : M (List D)} {unp : D → Option π} {sets : π → Env → Env} {mt : π → M Bool} {me : π → M D}
    (hc : X.calm = true) (hN : X.N.Nodup) (hi : DI X W env tg iter mi) (ok : BlkOk X.N X.env.scope scope own) (hsl : ∀ i ∈ sl, i ∈ own.map (·.2))
    (hg : ∀ (s : Shared) (H : Hp) (C : Addr) (cl : List (Str × Addr)) (fp : List Addr), DG (X.blk s H scope (compEnvC scope cl C X.env) fp) tg sl unp sets)
    (ht : ∀ (s : Shared) (H : Hp) (C : Addr) (cl : List (Str × Addr)) (fp : List Addr) (p : π), PTs (X.blk s H scope (compEnvC scope cl C X.env) fp) ifs (TC X.K X.mg W0 RB (sets p (wipeE env (own.map (·.2)))) (mt p)))
    (he : ∀ (s : Shared) (H : Hp) (C : Addr) (cl : List (Str × Addr)) (fp : List Addr) (p : π), DE (X.blk s H scope (compEnvC scope cl C X.env) fp) W0 (sets p (wipeE env (own.map (·.2)))) elt (me p))
    (hs : ∀ x, foldedSetIterable iter X.env x = pure x := by intro _; rfl) :
    DE X W env (.ListComp elt [⟨tg, iter, ifs, 0⟩] scope pos) (do let xs ← mi; lcHM xs (fun x => do let p ← liftO (unp x); let t ← mt p; if t = true then (do let y ← me p; pure [y]) else pure [])) :=
  PE.from (pe_lc (g := gD X.K X.mg sl unp sets) hc hN hi ok hg (fun s H C cl fp => (⟨fun pins s' σ H' Q I ⟨p, q⟩ => (ht s H C cl fp p).run pins s' σ H' Q I q⟩ : PTs _ ifs (fun σ H Q => ∃ p, TC X.K X.mg W0 RB (sets p (wipeE env (own.map (·.2)))) (mt p) σ H Q)))
    (fun s H C cl fp => (⟨fun pins s' σ H' Q I ⟨p, q⟩ => (he s H C cl fp p).run pins s' σ H' Q I q⟩ : PE _ elt (fun σ H Q => ∃ p, TC X.K X.mg W0 (Rep X.K) (sets p (wipeE env (own.map (·.2)))) (me p) σ H Q))) hs) (lc_fromH hsl)
theorem ds_setLcH (i : Nat) {y : Str} {py spos : Pos} {ex : Env} {τ β : Type} {mk : τ → Env} {lp : β → Env} {rest : List Stmt} {k : D → M (Out τ β)} {elt tg iter : Expr} {ifs : List Expr} {scope : Scope} {own : List (Str × Nat)} {π : Type} {sl : List Nat} {mi : M (List D)} {unp : D → Option π} {sets : π → Env → Env} {mt : π → M Bool} {me : π → M D}
    (hc : X.calm = true) (hN : X.N.Nodup) (hi : DI X W env tg iter mi) (ok : BlkOk X.N X.env.scope scope own) (hsl : ∀ i ∈ sl, i ∈ own.map (·.2))
    (hg : ∀ (s : Shared) (H : Hp) (C : Addr) (cl : List (Str × Addr)) (fp : List Addr), DG (X.blk s H scope (compEnvC scope cl C X.env) fp) tg sl unp sets)
    (ht : ∀ (s : Shared) (H : Hp) (C : Addr) (cl : List (Str × Addr)) (fp : List Addr) (p : π), PTs (X.blk s H scope (compEnvC scope cl C X.env) fp) ifs (TC X.K X.mg W0 RB (sets p (wipeE env (own.map (·.2)))) (mt p)))
    (he : ∀ (s : Shared) (H : Hp) (C : Addr) (cl : List (Str × Addr)) (fp : List Addr) (p : π), DE (X.blk s H scope (compEnvC scope cl C X.env) fp) W0 (sets p (wipeE env (own.map (·.2)))) elt (me p))
    (env' : D → Env) (hx : EnvLe ex env) (hr : ∀ d, DS X W ex (env' d) mk lp rest (k d)) (hs : ∀ x, foldedSetIterable iter X.env x = pure x := by intro _; rfl) (hv : ∀ d, env.set i (some d) = env' d := by intro _; rfl) (hy : X.N[i]? = some y := by rfl) (hyl : X.env.scope.names.lookup y = some .local := by rfl)
    (hsw : swapsWith (.ListComp elt [⟨tg, iter, ifs, 0⟩] scope pos) (some (.Name y py)) spos.line X.env = pure true := by exact sw_true rfl rfl rfl (by decide +kernel)) :
    DS X W ex env mk lp (.Assign [.Name y py] (.ListComp elt [⟨tg, iter, ifs, 0⟩] scope pos) spos :: rest) ((do let xs ← mi; lcHM xs (fun x => do let p ← liftO (unp x); let t ← mt p; if t = true then (do let y ← me p; pure [y]) else pure [])) >>= k) :=
  PSs.from (pss_cons (ps_setLc (g := gD X.K X.mg sl unp sets) hc hN hy hyl hsw hi ok hg (fun s H C cl fp => (⟨fun pins s' σ H' Q I ⟨p, q⟩ => (ht s H C cl fp p).run pins s' σ H' Q I q⟩ : PTs _ ifs (fun σ H Q => ∃ p, TC X.K X.mg W0 RB (sets p (wipeE env (own.map (·.2)))) (mt p) σ H Q)))
    (fun s H C cl fp => (⟨fun pins s' σ H' Q I ⟨p, q⟩ => (he s H C cl fp p).run pins s' σ H' Q I q⟩ : PE _ elt (fun σ H Q => ∃ p, TC X.K X.mg W0 (Rep X.K) (sets p (wipeE env (own.map (·.2)))) (me p) σ H Q))) hs) (PSs.ex hr)) fun Dn σ H ⟨fr, F, m, ah, s, er, q⟩ => lc_fromH (sets := sets) hsl σ H (fun x H1 => gName i x σ H1 fun σ' H' => ∃ a, TB X.K X.mg W ex (env' a) mk lp (k a) Dn σ' H') (TO.step s er hx q fun F1 m1 ah1 d v H1 e1 s1 er1 r1 k1 => ⟨d, fr, F1, m1, ah1, s1, by rw [← hv d]; exact er1.set r1, k1⟩)
/-- what a comprehension's list is: as it stands, or to be written -/
def finM (b : Bool) (ys : List D) : M D := if b = true then newM (.lst ys) else pure (.lst ys)
open Classical in
/-- over a list that is written elsewhere: at each turn it must stand as it was -/
noncomputable def compG (n : Nat) (al : List D) : List D → (D → M (List D)) → M (List D)
  | [], _ => fun h => if h[n]? = some (.lst al) then .ok [] h else .stuck
  | x :: r, f => fun h => if h[n]? = some (.lst al) then (f x >>= fun ys => compG n al r f >>= fun zs => pure (ys ++ zs)) h else .stuck
noncomputable def lcGM (b : Bool) (d : D) (f : D → M (List D)) : M D := fun h => match d with
  | .ref n => (match h[n]? with
    | some (.lst xs) => (if lenOk xs.length = true then (noexM (compG n xs xs f) >>= finM b) h else .stuck)
    | _ => .stuck)
  | _ => .stuck
theorem compG_at {n : Nat} {al r : List D} {f : D → M (List D)} {g : List D → M D} {h : AH} (ne : nores ((compG n al r f >>= g) h) ≠ .stuck) : h[n]? = some (.lst al) := by
  refine Classical.byContradiction fun z => ne ?_
  cases r with
  | nil =>
    rw [bind_def]
    unfold compG
    rw [if_neg z]
    rfl
  | cons x r =>
    rw [bind_def]
    unfold compG
    rw [if_neg z]
    rfl
open Classical in
theorem compG_nil {n : Nat} {al : List D} {f : D → M (List D)} {h : AH} (c : h[n]? = some (.lst al)) : compG n al [] f h = .ok [] h := by
  show (if h[n]? = some (.lst al) then _ else _) = _
  rw [if_pos c]
open Classical in
theorem compG_cons {α : Type} {n : Nat} {al r : List D} {x : D} {f : D → M (List D)} {g : List D → M α} {h : AH} (c : h[n]? = some (.lst al)) : (compG n al (x :: r) f >>= g) h = (f x >>= fun ys => compG n al r f >>= fun zs => g (ys ++ zs)) h := by
  have e : compG n al (x :: r) f h = (f x >>= fun ys => compG n al r f >>= fun zs => pure (ys ++ zs)) h := by
    show (if h[n]? = some (.lst al) then _ else _) = _
    rw [if_pos c]
  rw [bind_def, e, ← bind_def (x := (f x >>= fun ys => compG n al r f >>= fun zs => pure (ys ++ zs))), bind_assoc]
  simp only [bind_assoc]
  rfl
theorem lc_fromG (b : Bool) {own : List (Str × Nat)} {π : Type} {sl : List Nat} {ml : M D} {unp : D → Option π} {sets : π → Env → Env} {mt : π → M Bool} {me : π → M D} (hsl : ∀ i ∈ sl, i ∈ own.map (·.2)) :
    ∀ σ H Q, TC X.K X.mg W (Rep X.K) env (do let x ← ml; lcGM b x (fun x => do let p ← liftO (unp x); let t ← mt p; if t = true then (do let y ← me p; pure [y]) else pure [])) σ H Q → tLc (iSeq X.K (TC X.K X.mg W (Rep X.K) env ml)) (gD X.K X.mg sl unp sets) (fun σ H Q => ∃ p, TC X.K X.mg W0 RB (sets p (wipeE env (own.map (·.2)))) (mt p) σ H Q)
      (fun σ H Q => ∃ p, TC X.K X.mg W0 (Rep X.K) (sets p (wipeE env (own.map (·.2)))) (me p) σ H Q) (own.map (·.2)) σ H Q := by
  intro σ H Q ⟨fr, F, m, ah, s, er, q⟩
  refine TK.step s er q fun F1 m1 a dv v0 H1 e1 s1 er1 r1 q1 => ?_
  clear q e1 er s
  unfold lcGM at q1
  cases dv <;> try exact q1.elim
  rename_i n
  cases hc : a[n]? with
  | none =>
    simp only [hc] at q1
    exact q1.elim
  | some cc =>
  cases cc <;> simp only [hc] at q1 <;> try exact q1.elim
  rename_i xs
  unfold Rep at r1
  obtain ⟨A, hA, hv0⟩ := r1
  subst hv0
  obtain ⟨A', qA, fA, vs0, hv, rv⟩ := s1.cells n _ hc
  rw [hA] at qA
  cases qA
  refine ⟨A, rfl, .inl ⟨vs0, .inl (.inl hv), ?_⟩⟩
  intro L hL
  by_cases hl : lenOk xs.length = true
  case neg =>
    rw [if_neg hl] at q1
    exact q1.elim
  rw [if_pos hl] at q1
  have hlen : xs.length ≤ sizeLine := of_decide_eq_true hl
  have fL : F1 L = none := s1.freeF hL
  have mL : L ∉ m1 := fun z => by
    obtain ⟨u, hu⟩ := s1.there L z
    rw [hL] at hu
    cases hu
  have hL0 := s1.fresh0 hL
  generalize hf : (fun x : D => do let p ← liftO (unp x); let t ← mt p; if t = true then (do let y ← me p; pure [y]) else pure [] : D → M (List D)) = f at q1
  have q2 : TK X.K X.mg fr W (Rep X.K) σ F1 m1 (nores ((compG n xs xs f >>= fun ys => finM b ([] ++ ys)) a)) Q := by
    have z : TK X.K X.mg fr W (Rep X.K) σ F1 m1 ((noexM (compG n xs xs f) >>= finM b) a) Q := q1
    rw [bind_def] at z ⊢
    unfold noexM at z
    cases hcm : compG n xs xs f a with
    | ok ys b' =>
      rw [hcm] at z
      cases b <;> exact z
    | exc _ _ =>
      rw [hcm] at z
      exact z
    | stuck =>
      rw [hcm] at z
      exact z
  refine ⟨fun i n' H => n' = xs.length - i ∧ i ≤ xs.length ∧ ∃ F2 m2 ah2 acc vs, Ext F1 m1 F2 m2 ∧ Sim X.K X.mg fr F2 m2 ah2 H ∧ H L = some (.lst vs) ∧ F2 L = none ∧ L ∉ m2 ∧ RepL X.K F2 m2 acc vs ∧ acc.length ≤ i ∧
    TK X.K X.mg fr W (Rep X.K) σ F2 m2 (nores ((compG n xs (xs.drop i) f >>= fun ys => finM b (acc ++ ys)) ah2)) Q,
    ⟨_, rfl, Nat.zero_le _, F1, m1, a, [], [], Ext.refl, s1.other fL mL hL0, upd_same, fL, mL, RepL.nil, Nat.zero_le _, by rw [List.drop_zero]; exact q2⟩, ?_⟩
  rintro i n' H2 ⟨rfl, hi2, F2, m2, ah2, acc, vs, e2, s2, hL2, fL2, mL2, ra, la, k2⟩
  have hg2 : ah2[n]? = some (.lst xs) := compG_at (fun z => by rw [z] at k2; exact k2.elim)
  obtain ⟨A2, qA2, fA2, vs2, hv2, rv2⟩ := s2.cells n _ hg2
  rw [e2.pre n A hA] at qA2
  cases qA2
  by_cases hlt : i < xs.length
  · refine .inr ⟨(by obtain ⟨vv, hvv, _⟩ := RepL.get rv2 (List.getElem?_eq_getElem hlt); exact ⟨vs2, vv, .inl (.inl hv2), hvv⟩), fun H => ∃ F2 m2 ah2 acc vs, Ext F1 m1 F2 m2 ∧ Sim X.K X.mg fr F2 m2 ah2 H ∧ H L = some (.lst vs) ∧ F2 L = none ∧ L ∉ m2 ∧ RepL X.K F2 m2 acc vs ∧ acc.length ≤ i + 1 ∧
      TK X.K X.mg fr W (Rep X.K) σ F2 m2 (nores ((compG n xs (xs.drop (i + 1)) f >>= fun ys => finM b (acc ++ ys)) ah2)) Q, fun H' z => ⟨xs.length - (i + 1), by omega, rfl, hlt, z⟩, fun v H3 yy => ?_⟩
    obtain ⟨yh, yy⟩ := yy
    subst yh
    obtain ⟨d, hd⟩ : ∃ d, xs[i]? = some d := ⟨_, List.getElem?_eq_getElem hlt⟩
    obtain ⟨vv, hvv, r3⟩ := RepL.get rv2 hd
    have yq := yy vs2 (.inl (.inl hv2))
    rw [hvv] at yq
    cases yq
    have e3 : Ext F2 m2 F2 m2 := Ext.refl
    have s3' := s2.re
    obtain ⟨hL3, fL3, mL3⟩ := s3'.kept hL2 fL2 mL2
    have s3 := s2.back s3'
    have er3 := ((er1.ext e2).ext e3)
    have hdrop : xs.drop i = d :: xs.drop (i + 1) := by
      rw [List.drop_eq_getElem_cons hlt]
      rw [List.getElem?_eq_getElem hlt] at hd
      cases hd
      rfl
    have k3 : TK X.K X.mg fr W (Rep X.K) σ F2 m2 (nores (((liftO (unp d) >>= fun p => mt p >>= fun t => (if t = true then (me p >>= fun y => pure [y]) else pure [])) >>= fun ys => compG n xs (xs.drop (i + 1)) f >>= fun zs => finM b (acc ++ (ys ++ zs))) ah2)) Q := by
      have z := TK.ext e3 k2
      rw [hdrop] at z
      have z2 : (compG n xs (d :: xs.drop (i + 1)) f >>= fun ys => finM b (acc ++ ys)) ah2 = (f d >>= fun ys => compG n xs (xs.drop (i + 1)) f >>= fun zs => finM b (acc ++ (ys ++ zs))) ah2 := compG_cons hg2
      rw [z2, ← hf] at z
      rw [← hf]
      exact z
    cases hu : unp d with
    | none =>
      rw [hu] at k3
      exact k3.elim
    | some p =>
      rw [hu] at k3
      have k4 : TK X.K X.mg fr W (Rep X.K) σ F2 m2 (nores ((mt p >>= fun t => ((if t = true then (me p >>= fun y => pure [y]) else pure []) >>= fun ys => compG n xs (xs.drop (i + 1)) f >>= fun zs => finM b (acc ++ (ys ++ zs)))) ah2)) Q := by
        rw [← bind_assoc]
        exact k3
      refine ⟨fr, F2, m2, ah2, wipeE env (own.map (·.2)), d, p, s3, er3.wipe _, r3, hu, fun σ4 er4 hw => ⟨?_, p, ?_⟩⟩
      · have z := hw (own.map (·.2)) hsl
        rw [z]
        clear z hw er4 σ4
        have ww : ∀ (vs ws : List Nat) (σ : St), (∀ i ∈ vs, i ∈ ws) → wipe (wipe σ vs) ws = wipe σ ws := by
          intro vs
          induction vs with
          | nil => intro _ _ _; rfl
          | cons v vs ih =>
            intro ws σ h
            show wipe ((wipe σ vs).set v none) ws = _
            rw [wipe_set (h v List.mem_cons_self), ih ws σ fun i hi => h i (List.mem_cons_of_mem _ hi)]
        exact ww _ _ _ fun i hi => hi
      · refine TK.inner s3 er4 k4 fun F5 m5 ah5 t t' H5 e5 s5' er5 r5 k5 => ?_
        have r5 : t = t' := r5
        subst r5
        obtain ⟨hL5, fL5, mL5⟩ := s5'.kept hL3 fL3 mL3
        have s5 := s3.back s5'
        cases t with
        | false =>
          refine iteF ⟨F5, m5, ah5, acc, vs, (e2.trans e3).trans e5, s5, hL5, fL5, mL5, RepL.ext (e3.trans e5) _ _ ra, by omega, ?_⟩
          exact k5
        | true =>
          refine iteT ⟨p, ?_⟩
          have k6 : TK X.K X.mg fr W (Rep X.K) σ F5 m5 (nores ((me p >>= fun y => compG n xs (xs.drop (i + 1)) f >>= fun zs => finM b (acc ++ ([y] ++ zs))) ah5)) Q := by
            have z : ((me p >>= fun y => pure [y]) >>= fun ys => compG n xs (xs.drop (i + 1)) f >>= fun zs => finM b (acc ++ (ys ++ zs))) = (me p >>= fun y => compG n xs (xs.drop (i + 1)) f >>= fun zs => finM b (acc ++ ([y] ++ zs))) := by
              rw [bind_assoc]
              rfl
            rw [← z]
            exact k5
          refine TK.inner s5 er5 k6 fun F7 m7 ah7 y7 v7 H7 e7 s7' er7 r7 k7 => ?_
          obtain ⟨hL7, fL7, mL7⟩ := s7'.kept hL5 fL5 mL5
          have s7 := s5.back s7'
          refine ⟨vs, hL7, ?_, F7, m7, ah7, acc ++ [y7], vs ++ [v7], ((e2.trans e3).trans e5).trans e7, s7.other fL7 mL7 hL0, upd_same, fL7, mL7, RepL.append (RepL.ext ((e3.trans e5).trans e7) _ _ ra) (RepL.cons r7 RepL.nil), by rw [List.length_append, List.length_singleton]; omega, ?_⟩
          · rw [RepL.length ra]
            omega
          · have z : (fun zs => (finM b (acc ++ ([y7] ++ zs)) : M D)) = fun zs => finM b ((acc ++ [y7]) ++ zs) := by
              funext zs
              rw [List.append_assoc]
            rw [z] at k7
            exact k7
  · have ei : i = xs.length := by omega
    subst ei
    refine .inl ⟨⟨vs2, .inl (.inl hv2), RepL.none_of rv2 (Nat.le_refl _)⟩, ?_⟩
    rw [List.drop_length] at k2
    have k3 : TK X.K X.mg fr W (Rep X.K) σ F2 m2 (nores (finM b acc ah2)) Q := by
      have z : (compG n xs [] f >>= fun ys => finM b (acc ++ ys)) ah2 = finM b acc ah2 := by
        have z0 : compG n xs [] f ah2 = .ok [] ah2 := compG_nil hg2
        rw [bind_def, z0]
        show finM b (acc ++ []) ah2 = _
        rw [List.append_nil]
      rw [z] at k2
      exact k2
    cases b with
    | false =>
      obtain ⟨s3, e3⟩ := s2.seal fL2 mL2 hL0 hL2
      refine k3 _ _ _ _ e3 s3 ?_
      unfold Rep
      exact ⟨L, vs, rfl, .inl (.inl upd_same), RepL.ext e3 _ _ ra⟩
    | true =>
      obtain ⟨s3, e3⟩ := s2.adopt (c := .lst acc) fL2 mL2 hL0 hL2 ⟨fL2, vs, hL2, ra⟩
      refine k3 _ _ _ _ e3 s3 ?_
      unfold Rep
      refine ⟨L, ?_, rfl⟩
      rw [← s2.len, List.getElem?_append_right (Nat.le_refl _)]
      simp
theorem de_lcG (b : Bool) {elt tg iter : Expr} {ifs : List Expr} {scope : Scope} {own : List (Str × Nat)} {π : Type} {sl : List Nat} {ml : M D} {unp : D → Option π} {sets : π → Env → Env} {mt : π → M Bool} {me : π → M D}
    (hc : X.calm = true) (hN : X.N.Nodup) (hl : DE X W env iter ml) (ok : BlkOk X.N X.env.scope scope own) (hsl : ∀ i ∈ sl, i ∈ own.map (·.2))
    (hg : ∀ (s : Shared) (H : Hp) (C : Addr) (cl : List (Str × Addr)) (fp : List Addr), DG (X.blk s H scope (compEnvC scope cl C X.env) fp) tg sl unp sets)
    (ht : ∀ (s : Shared) (H : Hp) (C : Addr) (cl : List (Str × Addr)) (fp : List Addr) (p : π), PTs (X.blk s H scope (compEnvC scope cl C X.env) fp) ifs (TC X.K X.mg W0 RB (sets p (wipeE env (own.map (·.2)))) (mt p)))
    (he : ∀ (s : Shared) (H : Hp) (C : Addr) (cl : List (Str × Addr)) (fp : List Addr) (p : π), DE (X.blk s H scope (compEnvC scope cl C X.env) fp) W0 (sets p (wipeE env (own.map (·.2)))) elt (me p))
    (hs : ∀ x, foldedSetIterable iter X.env x = pure x := by intro _; rfl) :
    DE X W env (.ListComp elt [⟨tg, iter, ifs, 0⟩] scope pos) (do let x ← ml; lcGM b x (fun x => do let p ← liftO (unp x); let t ← mt p; if t = true then (do let y ← me p; pure [y]) else pure [])) :=
  PE.from (pe_lc (g := gD X.K X.mg sl unp sets) hc hN (pi_seq hl) ok hg (fun s H C cl fp => (⟨fun pins s' σ H' Q I ⟨p, q⟩ => (ht s H C cl fp p).run pins s' σ H' Q I q⟩ : PTs _ ifs (fun σ H Q => ∃ p, TC X.K X.mg W0 RB (sets p (wipeE env (own.map (·.2)))) (mt p) σ H Q)))
    (fun s H C cl fp => (⟨fun pins s' σ H' Q I ⟨p, q⟩ => (he s H C cl fp p).run pins s' σ H' Q I q⟩ : PE _ elt (fun σ H Q => ∃ p, TC X.K X.mg W0 (Rep X.K) (sets p (wipeE env (own.map (·.2)))) (me p) σ H Q))) hs) (lc_fromG b hsl)
theorem ds_setLcG (b : Bool) (i : Nat) {y : Str} {py spos : Pos} {ex : Env} {τ β : Type} {mk : τ → Env} {lp : β → Env} {rest : List Stmt} {k : D → M (Out τ β)} {elt tg iter : Expr} {ifs : List Expr} {scope : Scope} {own : List (Str × Nat)} {π : Type} {sl : List Nat} {ml : M D} {unp : D → Option π} {sets : π → Env → Env} {mt : π → M Bool} {me : π → M D}
    (hc : X.calm = true) (hN : X.N.Nodup) (hl : DE X W env iter ml) (ok : BlkOk X.N X.env.scope scope own) (hsl : ∀ i ∈ sl, i ∈ own.map (·.2))
    (hg : ∀ (s : Shared) (H : Hp) (C : Addr) (cl : List (Str × Addr)) (fp : List Addr), DG (X.blk s H scope (compEnvC scope cl C X.env) fp) tg sl unp sets)
    (ht : ∀ (s : Shared) (H : Hp) (C : Addr) (cl : List (Str × Addr)) (fp : List Addr) (p : π), PTs (X.blk s H scope (compEnvC scope cl C X.env) fp) ifs (TC X.K X.mg W0 RB (sets p (wipeE env (own.map (·.2)))) (mt p)))
    (he : ∀ (s : Shared) (H : Hp) (C : Addr) (cl : List (Str × Addr)) (fp : List Addr) (p : π), DE (X.blk s H scope (compEnvC scope cl C X.env) fp) W0 (sets p (wipeE env (own.map (·.2)))) elt (me p))
    (env' : D → Env) (hx : EnvLe ex env) (hr : ∀ d, DS X W ex (env' d) mk lp rest (k d)) (hs : ∀ x, foldedSetIterable iter X.env x = pure x := by intro _; rfl) (hv : ∀ d, env.set i (some d) = env' d := by intro _; rfl) (hy : X.N[i]? = some y := by rfl) (hyl : X.env.scope.names.lookup y = some .local := by rfl)
    (hsw : swapsWith (.ListComp elt [⟨tg, iter, ifs, 0⟩] scope pos) (some (.Name y py)) spos.line X.env = pure true := by exact sw_true rfl rfl rfl (by decide +kernel)) :
    DS X W ex env mk lp (.Assign [.Name y py] (.ListComp elt [⟨tg, iter, ifs, 0⟩] scope pos) spos :: rest) ((do let x ← ml; lcGM b x (fun x => do let p ← liftO (unp x); let t ← mt p; if t = true then (do let y ← me p; pure [y]) else pure [])) >>= k) :=
  PSs.from (pss_cons (ps_setLc (g := gD X.K X.mg sl unp sets) hc hN hy hyl hsw (pi_seq hl) ok hg (fun s H C cl fp => (⟨fun pins s' σ H' Q I ⟨p, q⟩ => (ht s H C cl fp p).run pins s' σ H' Q I q⟩ : PTs _ ifs (fun σ H Q => ∃ p, TC X.K X.mg W0 RB (sets p (wipeE env (own.map (·.2)))) (mt p) σ H Q)))
    (fun s H C cl fp => (⟨fun pins s' σ H' Q I ⟨p, q⟩ => (he s H C cl fp p).run pins s' σ H' Q I q⟩ : PE _ elt (fun σ H Q => ∃ p, TC X.K X.mg W0 (Rep X.K) (sets p (wipeE env (own.map (·.2)))) (me p) σ H Q))) hs) (PSs.ex hr)) fun Dn σ H ⟨fr, F, m, ah, s, er, q⟩ => lc_fromG b (sets := sets) hsl σ H (fun x H1 => gName i x σ H1 fun σ' H' => ∃ a, TB X.K X.mg W ex (env' a) mk lp (k a) Dn σ' H') (TO.step s er hx q fun F1 m1 ah1 d v H1 e1 s1 er1 r1 k1 => ⟨d, fr, F1, m1, ah1, s1, by rw [← hv d]; exact er1.set r1, k1⟩)
/-- list(x), to be written -/
def listHM (d : D) : M D := fun h => match d with
  | .tup xs => newM (.lst xs) h
  | d => match lstOf h d with
    | some xs => newM (.lst xs) h
    | none => .stuck
theorem listH_ok : ClD X (fun xs H Q => ∃ p ys, xs = [.ref p] ∧ (SqL X.K H p ys ∨ SqT X.K H p ys) ∧ ∀ l, H l = none → Q (.ref l) (upd H l (.lst ys))) (ap1 listHM) := ap1_ok fun fr W σ F m ah H d v Q s r k => by
  unfold listHM at k
  split at k
  · rename_i xs
    obtain ⟨a, vs, h1, h2, h3⟩ := tup_of (xs := xs) r rfl
    subst h1
    exact ⟨_, _, rfl, .inr (SqT.up s.sub h2), fun l hl => TK.newH k s h3 hl⟩
  · cases hx : lstOf ah d with
    | none =>
      rw [hx] at k
      exact k.elim
    | some xs =>
      rw [hx] at k
      obtain ⟨a, vs, h1, h2, h3⟩ := lst_of s r hx
      subst h1
      exact ⟨_, _, rfl, .inl h2, fun l hl => TK.newH k s h3 hl⟩
theorem de_listH {e : Expr} {me : M D} {p : Pos} (hm : X.mg "list" = none) (ha : DE X W env e me) (hg : Gl X "list" := by rfl) (he : starEach [e] X.env = [(false, eval e X.env)] := by rfl) (hpl : (backTo pos (starEach [] X.env)).any (·.1) = false := by rfl) :
    DE X W env (.Call (.Name "list" p) [e] [] pos) (do let x ← me; listHM x) := by
  have h := de_callT (pos := pos) (p := p) call_list_of (listH_ok (X := X)) hm (by decide +kernel) (da_one ha he) hg (by decide) (by decide) he hpl
  rw [bind_assoc] at h
  exact h
/-- list(range(b)) -/
theorem de_listrg1 {b : Expr} {mb : M D} {p p2 pos2 : Pos} (hc : X.calm = true) (hm : X.mg "list" = none) (hm2 : X.mg "range" = none) (hb : DE X W env b mb) (hg : Gl X "list" := by rfl) (hg2 : Gl X "range" := by rfl)
    (na : starEach [b] X.env = (false, eval b X.env) :: starEach [] X.env := by rfl)
    (nr : starEach [.Call (.Name "range" p2) [b] [] pos2] X.env = (false, eval (.Call (.Name "range" p2) [b] [] pos2) X.env) :: starEach [] X.env := by rfl) :
    DE X W env (.Call (.Name "list" p) [.Call (.Name "range" p2) [b] [] pos2] [] pos) (do let y ← mb; lrgM .lst (.int 0) y) :=
  PE.from (pe_listRg hc hg hm (prg_1 hg2 hm2 hb na) nr) fun σ H Q ⟨fr, F, m, ah, s, er, k⟩ => TK.step s er k fun F1 m1 ah1 d v H1 e1 s1 er1 r1 k1 => by
    unfold lrgM at k1
    cases d <;> try exact k1.elim
    rename_i j
    unfold Rep at r1
    by_cases c : (-(2 ^ 62) ≤ (0 : Int) ∧ (0 : Int) < 2 ^ 62) ∧ (-(2 ^ 62) ≤ j ∧ j < 2 ^ 62) ∧ (j - 0).toNat ≤ 2 ^ 24
    · simp only [if_pos c] at k1
      refine ⟨j, r1, ⟨c.1.1, c.1.2, c.2.1.1, c.2.1.2, c.2.2⟩, fun q hq => TK.newL k1 s1 (repl_rg 0 _) hq⟩
    · simp only [if_neg c] at k1
      exact k1.elim
end
end Lw
/-! ### calls without arguments -/
namespace Lw
open PySem L2
def app0 (f : M D) : List D → M D
  | [] => f
  | _ => stuck
theorem pe_callS0 {X : Cx} {CX : CXT} {k : Nat} {f : Addr} {fd : FuncData} {ps : List Str} {sp : Sp} {E : St → XK} {x : Str} {p pos : Pos} (F : FnOk X.prog X.w X.K X.mg X.base CX k f fd ps sp) (hr : Room k X.A) (hg : Gl X x) (hm : X.mg x = some (.ref f)) (hk : PySem.W.keepIn X.K (.ref f) = true) (hb : Binds X.K fd ps []) (hx : ∀ σ, PassesAt CX X σ (E σ))
    (hdb : (x == ("__debug__" : Str)) = false := by decide) : PE X (.Call (.Name x p) [] [] pos) (tCallS sp E tNil) := by
  refine ⟨fun pins s σ H Q I h => ?_⟩
  refine wpAny_Call_Name_kw (ld_glob I hg hm ?_ hdb)
  exact PySem.W.callWith_K0 I.kIn hk (run_fnS (us := []) F hr hb (hx σ) I .nil h)
section
variable {X : Cx} {W : WX} {env : Env} {pos : Pos} {k : Nat} {x : Str} {p : Pos} {g : M D}
theorem de_p0 (C : Cal X.prog X.w X.K X.mg X.base x k 0 (app0 g)) (hr : Room k X.A) (tk : L2N.Takes X W) (hg : Gl X x := by rfl) (hdb : (x == ("__debug__" : Str)) = false := by decide) :
    DE X W env (.Call (.Name x p) [] [] pos) (pcallM (app0 g) []) := by
  obtain ⟨f, fd, ps, G, hm, hk, hb⟩ := C.ex
  exact PE.from (pe_callS0 G hr hg hm hk hb (fun σ => L2N.passAt tk σ) hdb) fun σ H Q ⟨fr, F, m, ah, s, er, q⟩ => by
    refine ⟨rfl, ⟨H, F, []⟩, F, [], [], [], s.bare, RepL.nil, ?_⟩
    unfold pcallM at q
    rw [if_pos (show noRefs [] = true from rfl)] at q
    cases hg' : app0 g [] [] with
    | ok d b =>
      simp only [hg'] at q
      by_cases hd : noRef d = true
      · rw [if_pos hd] at q
        intro F2 m2 u H2 e2 s2 r2
        obtain ⟨s3, e3⟩ := s.pured e2 s2
        exact q F2 m u H2 e3 s3 (Rep.noref d u hd r2)
      · rw [if_neg hd] at q
        exact q.elim
    | exc y b =>
      simp only [hg'] at q
      intro F2 m2 C H2 e2 s2 hC
      obtain ⟨s3, e3⟩ := s.pured e2 s2
      exact q F2 m C H2 e3 s3 hC
    | stuck =>
      simp only [hg'] at q
      exact q.elim
end
theorem fn0 {P : Program} {w : World} {K : Fg} {mg : Str → Option Value} {base : Heap} {x qual : Str} {st : Stmt} {f : Addr} {fd : FuncData} {N ps : List Str} {k : Nat} {τ : Type} {mk : τ → Env} {lp : Empty → Env} {mc : M (Out τ Empty)}
    (F : Fun K x qual st f fd) (S : FnScope N ps (defScope st)) (hn : ps.length = 0)
    (h : ∀ (cdv : Value) (A : Around) (outer : List PySem.Env) (s : Shared) (H : Hp) (E : XK), Room k (A.deeper (PyProof.Rows.envOfC qual (defScope st) s.heap.objs.size f cdv)) →
      DS (cxOf (L2N.CX P w) P w K mg base N qual (defScope st) f cdv A outer s H E) (fun c d _ H => E c d H) (List.replicate N.length none) ([] ++ List.replicate (N.length - 0) none) mk lp (defBody st) mc) :
    FnOk P w K mg base (L2N.CX P w) (k + 1) f fd ps (spD K mg 0 (app0 (defM mc))) :=
  fn_sim (mc := fun ds => match ds with | [] => mc | _ => stuck) F S hn (fun ds hl => match ds, hl with | [], _ => rfl) fun cdv A outer s H E hr ds hl => match ds, hl with | [], _ => h cdv A outer s H E hr
end Lw

/-! SimZ: isinstance by a tuple of classes in a suite; count and index of lists; an object == a number. -/
namespace L2
open PySem PySem.Spec PyProof.Rows
def rIsET (K : PySem.W.Frag) (D a : Addr) : List V → Hp → VK → Prop := fun xs H Q => ∃ (tp : Addr) (cs : List V) (us : List Value) (b : Bool), xs = [.ref a, .ref tp] ∧ H tp = some (.tup cs) ∧ (∀ ws, Vals cs ws → ws = us) ∧ PySem.W.kitAny K (.ref D) us = some b ∧ Q (.bl b) H
theorem call_isET {X : Cx} {a D : Addr} {oe : Obj} {pn : List (Addr × Obj)} (C : ExcC X.K D) (hz : Zc (.ref D) none oe) (hf : ∃ vs, oe.data = .fields vs) : CallR (X.suite a ((a, oe) :: pn)) (.builtin "isinstance") (rIsET X.K D a) := by
  intro pins s σ H xs us Q I r h
  obtain ⟨tp, cs, ws, b, rfl, hT, hcs, e, q⟩ := h
  obtain ⟨u1, u2, rfl, r1, r2⟩ := vals2 r
  cases (show u1 = Value.ref a from r1)
  cases (show u2 = Value.ref tp from r2)
  obtain ⟨_, its, rv, o, h1, h2, n, h3⟩ := (show ObjOk X.prog X.w H s.heap tp (.tup cs) from I.hok tp _ hT)
  have e3 := hcs _ rv
  subst e3
  obtain ⟨oc, od, dt, sl⟩ := o
  simp only at h2 h3
  subst h2 h3
  have g := (I.pin (a, oe) (List.mem_append.mpr (.inl List.mem_cons_self))).1
  have J : PySem.W.InstAt s.heap a oe D none := by
    obtain ⟨vs, hv⟩ := hf
    obtain ⟨oc, od, oda, osl⟩ := oe
    obtain ⟨z1, z2⟩ := hz
    dsimp only at z1 z2 hv
    subst z1 z2 hv
    exact ⟨g, rfl, rfl, trivial⟩
  exact PySem.W.kia_tup (PySem.W.handS_kitx_exc C.hg C.hk C.hs C.hd C.ha C.hn C.ht C.hm) I.kIn J h1 e (fun z => nomatch z) fun tk => ⟨.bl b, H, I.kept (t' := tk) fun _ _ z => z, rfl, q⟩
/-- l.count(x), flat items -/
def rCntV (K : PySem.W.Frag) : V → List V → Hp → VK → Prop := fun x xs H Q => ∃ (a : Addr) (ys : List V) (y : V), x = V.ref a ∧ xs = [y] ∧ SqL K H a ys ∧ flatV y = true ∧ ys.all flatV = true ∧ Q (.int ((ys.countP fun z => eqV z y : Nat) : Int)) H
theorem countP_eqU {x : V} : ∀ {xs : List V} {us : List Value}, Vals xs us → xs.all flatV = true → us.countP (eqU x) = xs.countP fun y => eqV y x
  | _, _, .nil, _ => rfl
  | y :: xs, u :: us, .cons r t, f => by
    rw [List.all_cons, Bool.and_eq_true] at f
    rw [List.countP_cons, List.countP_cons, eqU_of r f.1, countP_eqU t f.2]
section
variable {X : Cx}
theorem mt_countV : MtR X "list.count" (rCntV X.K) := by
  intro pins s σ H x xs v us Q I rx rxs h
  obtain ⟨a, ys, y, rfl, rfl, hs, fy, fys, q⟩ := h
  cases rx
  obtain ⟨uy, rfl, ry⟩ := rxs.one
  obtain ⟨its, rv, ⟨⟨cls, dd, data, sl⟩, n, ho, hc, hdn, hd⟩, hlen⟩ := I.list hs
  simp only at hc hd
  subst hc hd
  refine call_meets PySem.F.slot_list_count ⟨_, ho, rfl⟩ PySem.F.entry_list_count (PySem.F.args_list_count_2 _ _)
    (SeqAt.list_countAt a its.toArray n dd sl uy (eqU y)) ⟨ho, fun z hz => mem_eqAt ry fy rv fys z (by simpa using hz), ?_⟩
  refine ⟨.int ((ys.countP fun z => eqV z y : Nat) : Int), H, I.tok _, ⟨s.toks, ?_⟩, q⟩
  show Value.int ((its.toArray.toList.countP (eqU y) : Nat) : Int) s.toks = Value.int ((ys.countP fun z => eqV z y : Nat) : Int) s.toks
  have e : its.toArray.toList.countP (eqU y) = ys.countP fun z => eqV z y := by simpa using countP_eqU rv fys
  rw [e]
end
end L2
namespace HN2
open PySem PySem.Spec PyProof.Rows PySem.SeqAt HN
section
variable {M : Model} {prog : Program} {w : World} {A : Around} {E : Value → Shared → Prop} {s : Shared} {K : PySem.W.Frag} {x C : Addr} {ox : Obj} {od : Option Obj} {k : Int} {t : Tok}
theorem int_obj_eq (l C dx : Addr) : Meets (Builtin.«int.__eq__» ⟨[.int k t, .ref l], []⟩) (fun _ R s => s.heap.get? l = some (PySem.W.instObj C dx) ∧ R (.ok (.ret .notImplemented)) s) :=
  .of_wp fun prog w A R s h => by obtain ⟨hp, g, d, tk, os⟩ := s; obtain ⟨hl, h⟩ := h; unfold PySem.W.instObj at hl; wp_walk using wpAny_loadPart' hl; exact ⟨_, rfl, h⟩
theorem same_int {R : Bool → Shared → Prop} (h : R false s) : wpAny M A (isSame (.ref x) (.int k t)) R E s := wpAny_of_eq (rfl : isSame (.ref x) (.int k t) = pure false) h
theorem obj_eq_int {Q : Fin → Shared → Prop} (hq : Q (.done (.ret .notImplemented)) s) : wpAny M A (Builtin.«object.__eq__» ⟨[.ref x, .int k t], []⟩) Q E s := by
  unfold Builtin.«object.__eq__»
  repeat (first | with_reducible refine same_int ?_ | wp_step)
  exact hq
theorem call_obj_int {Q : Value → Shared → Prop} (X : K.In s.heap) (I : PySem.W.InstAt s.heap x ox C od) (hm : PySem.W.mroIn K C (.type "object") = some true) (hq : Q .notImplemented s) :
    wpAny (model prog w) A (call (.builtin "object.__eq__") [.ref x, .int k t]) Q E s :=
  wpAny_call (codeAny_call_builtin F.cmp_object.eq.plain F.cmpEntry_eq (PySem.W.check_slot F.cmpKind_eq F.cmpSplit_eq (I.type.andThen (PySem.W.looks_mroIn X hm)) (F.cmpArgs_eq _ _) (obj_eq_int hq)))
theorem sub_int : PySem.W.subIn K (.type "int") (.ref C) = some false := by
  have e : fastBuiltinMro "int" = some [.type "int", .type "object"] := by decide +kernel
  show (fastBuiltinMro "int").map (·.contains (.ref C)) = some false
  rw [e]
  first | rfl | simp
theorem rc_int {dx : Addr} (ho : s.heap.get? x = some (PySem.W.instObj C dx)) (hu : A.units < cLine) (X : K.In s.heap) (I : PySem.W.InstAt s.heap x ox C od) (hm : PySem.W.mroIn K C (.type "object") = some true) (hs : PySem.W.findIn K (.ref C) "__eq__" = some (some (.builtin "object.__eq__"))) :
    RcAt A s (.ref x) (.int k t) false := fun prog w E Q h => by
  have left : wpAny (model prog w) A (tryCompare (.ref x) "__eq__" (.int k t)) (fun r s' => r = none ∧ s' = s) E s := by
    unfold tryCompare
    exact wpAny_bind (ifBound_objEq X I hs (call_obj_int X I hm (wpAny_pure ⟨rfl, rfl⟩)))
  have right : wpAny (model prog w) A (tryCompare (.int k t) "__eq__" (.ref x)) (fun r s' => r = none ∧ s' = s) E s :=
    wpAny_tryCompare_declines (typeIs_int s k t) F.slot_int_eq_refl (call_meets F.slot_int_eq_refl (typeIs_int s k t) F.entry_int_eq (F.args_int_eq_2 _ _) (int_obj_eq x C dx) ⟨ho, rfl, rfl, rfl⟩)
  simp only [richCompare, cmpInfo_Eq, oneThing_ref]
  refine wpAny_holding (wpAny_bind (wpAny_cRoomFor hu (wpAny_bind (I.type.here (wpAny_bind (wpAny_typeOf (typeIs_int s k t) ?_))))))
  split
  · refine wpAny_bind ((PySem.W.looks_subIn X sub_int).here ?_)
    simp only [Bool.false_eq_true, if_false, Bool.not_false, if_true]
    refine wpAny_bind (m := tryCompare (.ref x) _ (.int k t)) (wpAny_mono left (fun r s1 z => ?_) fun _ _ e => e)
    obtain ⟨rfl, rfl⟩ := z
    refine wpAny_bind (m := tryCompare (.int k t) _ (.ref x)) (wpAny_mono right (fun r s2 z => ?_) fun _ _ e => e)
    obtain ⟨rfl, rfl⟩ := z
    exact wpAny_bind (wpAny_rule (wpAny_bind (wpAny_of_eq (rfl : isSame (.ref x) (.int k t) = pure false) (wpAny_pure h))))
  · rename_i q
    exact absurd (by simp) q
end
end HN2
namespace Lw
open PySem L2
theorem hu64S {A : Around} {k : Nat} {v : Option Value} (hr : Room k A) : (A.mark v).units + 64 < cLine := by
  rw [Around.mark_units]
  exact hu64 hr
theorem hu66S {A : Around} {k : Nat} {v : Option Value} (hr : Room k A) : (A.mark v).units + 66 < cLine := by
  rw [Around.mark_units]
  exact hu66 hr
theorem hu0S {A : Around} {k : Nat} {v : Option Value} (hr : Room k A) : (A.mark v).units < cLine := by
  rw [Around.mark_units]
  exact hu0 hr
/-! ### a name that may not stand yet -/
def optM : Option D → M D
  | some d => pure d
  | none => stuck
theorem de_varO {X : Cx} {W : WX} {env : Env} {pos : Pos} (i : Nat) {x : Str} {o : Option D} (he : env[i]? = some o := by rfl) (hN : X.N[i]? = some x := by rfl) (hv : Vis X.env.scope x := by first | exact Or.inl rfl | exact Or.inr (Or.inl rfl) | exact Or.inr (Or.inr rfl)) (hd : (x == ("__debug__" : Str)) = false := by decide)
    (hcd : (x == ("__classdict__" : Str)) = false := by decide) : DE X W env (.Name x pos) (optM o) := by
  cases o with
  | none => exact ⟨fun pins s σ H Q I ⟨fr, F, m, ah, S, er, k⟩ => k.elim⟩
  | some d => exact de_var i he hN hv hd hcd
/-! ### isinstance(e, (A, B, ..)) -/
def orO (a b : Option Bool) : Option Bool := match a, b with
  | some x, some y => some (x || y)
  | _, _ => none
def isEO (r : Option Bool) : M D := match r with
  | some b => pure (.bl b)
  | none => stuck
/-- names of classes, one behind the other -/
def NmsOk (X : Cx) (C : Addr) (es : List Expr) (r : Option Bool) : Prop := ∀ b, r = some b → ∃ (cs : List V) (us : List Value), PA X es (fun _ H Q => Q cs H) ∧ (∀ ws, Vals cs ws → ws = us) ∧ PySem.W.kitAny X.K (.ref C) us = some b ∧ cs.length = es.length ∧ (es ≠ [] → ExcC X.K C)
section
variable {X : Cx} {W : WX} {env : Env} {pos : Pos} {C : Addr}
theorem nms_nil : NmsOk X C [] (some false) := fun b h => by
  cases h
  exact ⟨[], [], pa_nil, fun ws w => by cases w; rfl, rfl, rfl, fun z => absurd rfl z⟩
theorem nms_cons {isE : Str → Str → Option Bool} {z T : Str} {p : Pos} {es : List Expr} {r : Option Bool} (Ex : ExF X.K X.mg isE) (hg : X.mg z = some (.ref C)) (h : NmsOk X C es r) (hgT : Gl X T := by rfl) (hs : starEach (.Name T p :: es) X.env = (false, eval (.Name T p) X.env) :: starEach es X.env := by rfl)
    (hdb : (T == ("__debug__" : Str)) = false := by decide) : NmsOk X C (.Name T p :: es) (orO (isE z T) r) := fun b hb => by
  cases h1 : isE z T with
  | none =>
    rw [h1] at hb
    cases hb
  | some b1 =>
    cases h2 : r with
    | none =>
      rw [h1, h2] at hb
      cases hb
    | some b2 =>
      rw [h1, h2] at hb
      cases hb
      obtain ⟨cs, us, pa, hu, hk, hl, _⟩ := h b2 h2
      obtain ⟨E, v, cv, r1, r2, tv, k1, k2⟩ := Ex.ok z T b1 h1 C hg
      have pe : PE X (.Name T p) (tC v) := by
        rcases tv with t | ⟨t1, t2, t3⟩
        · exact pe_glob hgT t r1 hdb
        · exact pe_bltn hgT t1 t2 r1 t3 hdb
      refine ⟨v :: cs, cv :: us, PA.from (pa_cons pe pa hs) fun σ H Q q => q, fun ws w => ?_, ?_, by rw [List.length_cons, List.length_cons, hl], fun _ => E⟩
      · cases w with
        | cons w1 w2 => rw [r2 _ w1, hu _ w2]
      · unfold PySem.W.kitAny
        rw [k1]
        cases b1 with
        | true => rfl
        | false => exact hk
theorem de_isET {isE : Str → Str → Option Bool} {a : Addr} {oe : Obj} {pn : List (Addr × Obj)} {z : Str} {r : Option Bool} (i : Nat) {n : Str} {es : List Expr} {x1 : Nat} {p p2 p3 : Pos} (Ex : ExF X.K X.mg isE) (hz : L2N.Zn (.ref C) none oe) (hvs : ∃ vs, oe.data = .fields vs) (hg : X.mg z = some (.ref C)) (hm : X.mg "isinstance" = none)
    (hn : NmsOk (X.suite a ((a, oe) :: pn)) C es r) (hl : es.length ≤ 1000) (hes : es ≠ [])
    (he : env[i]? = some (some (.exn z a)) := by rfl) (hN : X.N[i]? = some n := by rfl) (hv : Vis X.env.scope n := by first | exact Or.inl rfl | exact Or.inr (Or.inl rfl) | exact Or.inr (Or.inr rfl)) (hgi : Gl X "isinstance" := by rfl)
    (hs : starEach [.Name n p3, .Tuple es x1 p2] X.env = (false, eval (.Name n p3) X.env) :: starEach [.Tuple es x1 p2] X.env := by rfl) (hs2 : starEach [.Tuple es x1 p2] X.env = (false, eval (.Tuple es x1 p2) X.env) :: starEach [] X.env := by rfl)
    (hpl : (backTo pos (starEach [.Tuple es x1 p2] X.env)).any (·.1) = false := by rfl) (hd : (n == ("__debug__" : Str)) = false := by decide) (hcd : (n == ("__classdict__" : Str)) = false := by decide) :
    DE (X.suite a ((a, oe) :: pn)) W env (.Call (.Name "isinstance" p) [.Name n p3, .Tuple es x1 p2] [] pos) (isEO r) := by
  cases hb : r with
  | none => exact ⟨fun pins s σ H Q I ⟨fr, F, m, ah, S, er, k⟩ => k.elim⟩
  | some b =>
    obtain ⟨cs, us, pa, hu, hk, hcl, hE⟩ := hn b hb
    refine PE.from (pe_callB (call_isET (hE hes) hz.zc hvs) hgi hm (by decide +kernel) (pa_cons (pv i hN hv hd hcd) (pa_cons (pe_tup pa) pa_nil hs2) hs) (by decide) (by decide) hs hpl) fun σ H Q ⟨fr, F, m, ah, S, er, k⟩ => ?_
    obtain ⟨u, h1, h2⟩ := er.2 i _ he
    unfold Rep at h2
    subst h2
    refine ⟨_, h1, by rw [hcl, sizeLine_eq]; omega, fun tp hp => ?_⟩
    obtain ⟨S', e⟩ := S.frozen (o := .tup cs) hp
    exact ⟨tp, cs, us, b, rfl, upd_same, hu, hk, k _ m _ _ e S' Rep.bl⟩
/-! ### count, index of lists of truths -/
def blsM (f : List Bool → Bool → Option Int) (x y : D) : M D := fun h => match y with
  | .bl b => (match lstOf h x with
    | some xs => (match blsOf xs with
      | some bs => (match f bs b with
        | some i => .ok (.int i) h
        | none => .stuck)
      | none => .stuck)
    | none => .stuck)
  | _ => .stuck
def countBM : D → D → M D := blsM fun bs b => some (bs.count b : Nat)
def indexBM : D → D → M D := blsM fun bs b => if b ∈ bs then some (bs.idxOf b : Nat) else none
theorem blsM_of {f : List Bool → Bool → Option Int} {fr : Fm} {σ : St} {F H : Hp} {m : List Addr} {ah : AH} {d e : D} {v w : V} {Q : VK} (S : Sim X.K X.mg fr F m ah H) (r : Rep X.K F m d v) (r2 : Rep X.K F m e w) (k : TK X.K X.mg fr W (Rep X.K) σ F m (blsM f d e ah) Q) :
    ∃ (a : Addr) (bs : List Bool) (b : Bool) (i : Int), v = .ref a ∧ w = .bl b ∧ SqL X.K H a (bs.map V.bl) ∧ f bs b = some i ∧ Q (.int i) H := by
  unfold blsM at k
  cases e <;> try exact k.elim
  rename_i b
  dsimp only at k
  cases hx : lstOf ah d with
  | none =>
    rw [hx] at k
    exact k.elim
  | some xs =>
    rw [hx] at k
    dsimp only at k
    cases hb : blsOf xs with
    | none =>
      rw [hb] at k
      exact k.elim
    | some bs =>
      rw [hb] at k
      dsimp only at k
      cases hf : f bs b with
      | none =>
        rw [hf] at k
        exact k.elim
      | some i =>
        rw [hf] at k
        obtain ⟨l, vs, h1, h2, h3⟩ := lst_of S r hx
        obtain rfl := blsOf_eq hb
        obtain rfl := RepL.bls h3
        unfold Rep at r2
        exact ⟨l, bs, b, i, h1, r2, h2, hf, k.val S Rep.int⟩
theorem flat_bls (bs : List Bool) : (bs.map V.bl).all flatV = true := by
  rw [List.all_map]
  exact List.all_eq_true.mpr fun _ _ => rfl
theorem de_countB {o e : Expr} {mo me : M D} {apos : Pos} (ho : DE X W env o mo) (he : DE X W env e me) (hbase : attributeBase o "count" X.env (eval o X.env) = eval o X.env := by rfl)
    (hfew : ((backTo pos (starEach [e] X.env)).all (fun x => !x.1) && (backToKw pos (keywordEach [] X.env)).all (fun x => x.1.isSome)
      && decide ([e].length + ([] : List Keyword).length + (if ([] : List Keyword).isEmpty then 0 else 1) < 30)) = true := by rfl)
    (hline : (apos.endLine == pos.line) = true := by rfl) (hs : starEach [e] X.env = (false, eval e X.env) :: starEach [] X.env := by rfl) (hplain : (backTo pos (starEach [] X.env)).any (·.1) = false := by rfl) :
    DE X W env (.Call (.Attribute o "count" apos) [e] [] pos) (do let x ← mo; lchk x; let y ← me; countBM x y) :=
  de_lm1 PySem.F.slot_list_count PySem.F.type_list_count mt_countV (fun fr W σ F m ah H d e v w Q S r r2 k => by
    obtain ⟨a, bs, b, i, h1, h2, h3, h4, h5⟩ := blsM_of S r r2 k
    cases h4
    refine ⟨a, _, .bl b, h1, by rw [h2], h3, rfl, flat_bls bs, ?_⟩
    have e : ((bs.map V.bl).countP fun z => eqV z (.bl b)) = bs.count b := by
      rw [List.countP_map]
      rfl
    rw [e]
    exact h5) ho he hbase hfew hline hs hplain
theorem de_indexB {o e : Expr} {mo me : M D} {apos : Pos} (ho : DE X W env o mo) (he : DE X W env e me) (hbase : attributeBase o "index" X.env (eval o X.env) = eval o X.env := by rfl)
    (hfew : ((backTo pos (starEach [e] X.env)).all (fun x => !x.1) && (backToKw pos (keywordEach [] X.env)).all (fun x => x.1.isSome)
      && decide ([e].length + ([] : List Keyword).length + (if ([] : List Keyword).isEmpty then 0 else 1) < 30)) = true := by rfl)
    (hline : (apos.endLine == pos.line) = true := by rfl) (hs : starEach [e] X.env = (false, eval e X.env) :: starEach [] X.env := by rfl) (hplain : (backTo pos (starEach [] X.env)).any (·.1) = false := by rfl) :
    DE X W env (.Call (.Attribute o "index" apos) [e] [] pos) (do let x ← mo; lchk x; let y ← me; indexBM x y) :=
  de_lm1 PySem.F.slot_list_index PySem.F.type_list_index mt_index (fun fr W σ F m ah H d e v w Q S r r2 k => by
    obtain ⟨a, bs, b, i, h1, h2, h3, h4, h5⟩ := blsM_of S r r2 k
    by_cases hm : b ∈ bs
    · rw [if_pos hm] at h4
      cases h4
      have hlt := List.idxOf_lt_length_iff.mpr hm
      have hg : bs[bs.idxOf b]? = some b := by
        rw [List.getElem?_eq_getElem hlt, List.getElem_idxOf]
      refine ⟨a, _, .bl b, bs.idxOf b, .bl b, h1, by rw [h2], h3, rfl, flat_bls bs, by rw [List.getElem?_map, hg]; rfl, by show (b == b) = true; exact beq_self_eq_true b, fun k z' hk hz => ?_, h5⟩
      rw [List.getElem?_map] at hz
      have hkl : k < bs.length := by omega
      rw [List.getElem?_eq_getElem hkl] at hz
      cases hz
      have := List.not_of_lt_findIdx hk
      show (bs[k] == b) = false
      simpa using this
    · rw [if_neg hm] at h4
      cases h4) ho he hbase hfew hline hs hplain
/-! ### an object == a number -/
structure EqF (K : Fg) (mg : Str → Option Value) (c : Str) : Prop where
  ok : ∀ C, mg c = some (.ref C) → PySem.W.mroIn K C (.type "object") = some true ∧ PySem.W.findIn K (.ref C) "__eq__" = some (some (.builtin "object.__eq__"))
def eqOM (c : Str) (x y : D) : M D := fun h => match x, y with
  | .ref n, .int _ => (match h[n]? with
    | some (.ins c' _) => if c' = c then .ok (.bl false) h else .stuck
    | _ => .stuck)
  | .int i, .int j => .ok (.bl (decide (i = j))) h
  | _, _ => .stuck
def rEqOI (K : Fg) : R2 := fun x y H Q => ∃ a C dx fs i, x = .ref a ∧ y = .int i ∧ H a = some (.ins C dx fs) ∧ PySem.W.mroIn K C (.type "object") = some true ∧ PySem.W.findIn K (.ref C) "__eq__" = some (some (.builtin "object.__eq__")) ∧ Q (.bl false) H
theorem op_eqOI (hu : X.A.units + 64 < cLine) : OpR X (compareOp .Eq) (rEqOI X.K) := by
  intro pins s σ H x y v u Q I rx ry h
  obtain ⟨a, C, dx, fs, i, rfl, rfl, ha, hm, hs, q⟩ := h
  cases rx
  obtain ⟨t, rfl⟩ := ry
  obtain ⟨mA, O, _⟩ := ins_get I.hok ha
  obtain ⟨od, J, _⟩ := O.look
  show wpAny _ _ (compareOp .Eq (.ref a) (.int i t)) _ _ _
  exact HN2.rc_int O.obj (by omega) I.kIn J hm hs X.prog X.w X.xe _ ⟨.bl false, H, I, rfl, q⟩
theorem eqO_ok {c : Str} (hE : EqF X.K X.mg c) : OpD X (fun x y H Q => rEqOI X.K x y H Q ∨ rEqX X.K x y H Q) (eqOM c) := by
  intro fr W σ F m ah H d e x y Q s rx ry k
  unfold eqOM at k
  split at k
  · rename_i n i
    split at k
    · rename_i c' fs hc
      by_cases e : c' = c
      · rw [if_pos e] at k
        subst e
        obtain ⟨a, C, dx, vs, h1, h2, h3, h4, h5, h6⟩ := ins_of s rx hc
        obtain ⟨g1, g2⟩ := hE.ok C h4
        unfold Rep at ry
        exact .inl ⟨a, C, dx, vs, i, h1, ry, h5, g1, g2, k.val s Rep.bl⟩
      · rw [if_neg e] at k
        exact k.elim
    · exact k.elim
  · rename_i i j
    exact .inr (eq_ok fr W σ F m ah H (.int i) (.int j) x y Q s rx ry k)
  · exact k.elim
theorem op_eqO (hu : X.A.units + 64 < cLine) : OpR X (compareOp .Eq) (fun x y H Q => rEqOI X.K x y H Q ∨ rEqX X.K x y H Q) := (op_eqOI hu).or (op_eqX hu)
theorem eqf_mk {K : Fg} {mg : Str → Option Value} {c : Str} {C : Addr} (i : InF K mg c C) (a : PySem.W.mroIn K C (.type "object") = some true) (b : PySem.W.findIn K (.ref C) "__eq__" = some (some (.builtin "object.__eq__"))) : EqF K mg c := ⟨fun D hD => by
  have e := i.g.symm.trans hD
  cases e
  exact ⟨a, b⟩⟩
/-! ### x + y, a list that will be written -/
def addHM (x y : D) : M D := fun h => match lstOf h x, lstOf h y with
  | some a, some b => if lenOk (a.length + b.length) = true then newM (.lst (a ++ b)) h else .stuck
  | _, _ => .stuck
theorem addH_ok : OpD X (rCatLs X.K) addHM := by
  intro fr W σ F m ah H d e x y Q s rx ry k
  unfold addHM at k
  cases h1 : lstOf ah d with
  | none =>
    rw [h1] at k
    exact k.elim
  | some a =>
    cases h2 : lstOf ah e with
    | none =>
      rw [h1, h2] at k
      exact k.elim
    | some b =>
      rw [h1, h2] at k
      dsimp only at k
      by_cases hl : lenOk (a.length + b.length) = true
      · rw [if_pos hl] at k
        obtain ⟨p1, vs1, e1, q1, r1⟩ := lst_of s rx h1
        obtain ⟨p2, vs2, e2, q2, r2⟩ := lst_of s ry h2
        refine ⟨p1, p2, vs1, vs2, e1, e2, q1, q2, ?_, fun p hp => TK.newH k s (RepL.append r1 r2) hp⟩
        rw [RepL.length r1, RepL.length r2]
        exact of_decide_eq_true hl
      · rw [if_neg hl] at k
        exact k.elim
theorem de_addH {a b : Expr} {ma mb : M D} (ha : DE X W env a ma) (hb : DE X W env b mb) : DE X W env (.BinOp a .Add b pos) (do let x ← ma; let y ← mb; addHM x y) := de_op op_catLs addH_ok ha hb
end
end Lw

/-! SetQ: what a plain computation ends in, wished for: Wp. -/
namespace Lw
open PySem L2
def Wp {α : Type} (r : Res α) (P : α → AH → Prop) (E : Str → AH → Prop) : Prop := match r with
  | .ok a h => P a h
  | .exc x h => E x h
  | .stuck => False
/-- no error -/
abbrev NoE : Str → AH → Prop := fun _ _ => False
section
variable {α β γ τ τ' : Type} {h : AH} {P : α → AH → Prop} {Q : β → AH → Prop} {E : Str → AH → Prop}
theorem Wp.mono {r : Res α} {P' : α → AH → Prop} {E' : Str → AH → Prop} (w : Wp r P E) (hp : ∀ a h, P a h → P' a h) (he : ∀ x h, E x h → E' x h) : Wp r P' E' := by
  cases r with
  | ok a h => exact hp a h w
  | exc x h => exact he x h w
  | stuck => exact w
theorem Wp.imp {r : Res α} {P' : α → AH → Prop} (w : Wp r P E) (hp : ∀ a h, P a h → P' a h) : Wp r P' E := w.mono hp fun _ _ z => z
theorem Wp.noe {r : Res α} {P' : α → AH → Prop} (w : Wp r P NoE) (hp : ∀ a h, P a h → P' a h) : Wp r P' E := w.mono hp fun _ _ z => z.elim
theorem Wp.get {r : Res α} (w : Wp r P NoE) : ∃ a h, r = .ok a h ∧ P a h := by
  cases r with
  | ok a h => exact ⟨a, h, rfl, w⟩
  | exc x h => exact w.elim
  | stuck => exact w.elim
theorem Wp.of_eq {r : Res α} {a : α} {h' : AH} (e : r = .ok a h') (p : P a h') : Wp r P E := by
  rw [e]
  exact p
theorem w_ok {a : α} : Wp (.ok a h) P E ↔ P a h := Iff.rfl
theorem w_exc {x : Str} : Wp (.exc x h : Res α) P E ↔ E x h := Iff.rfl
theorem w_bind {x : M β} {f : β → M α} : Wp ((x >>= f) h) P E ↔ Wp (x h) (fun a h' => Wp (f a h') P E) E := by
  rw [bind_def]
  cases x h <;> exact Iff.rfl
theorem w_pure {a : α} : Wp ((pure a : M α) h) P E ↔ P a h := Iff.rfl
theorem w_throw {x : Str} : Wp ((throwM x : M α) h) P E ↔ E x h := Iff.rfl
theorem w_ite {c : Bool} {a b : M α} : Wp ((if c = true then a else b) h) P E ↔ if c = true then Wp (a h) P E else Wp (b h) P E := by
  cases c <;> exact Iff.rfl
theorem w_iteP {c : Prop} [Decidable c] {a b : M α} : Wp ((if c then a else b) h) P E ↔ if c then Wp (a h) P E else Wp (b h) P E := by
  by_cases q : c
  · rw [if_pos q, if_pos q]
  · rw [if_neg q, if_neg q]
def oK (k : τ' → M (Out τ β)) (P : Out τ β → AH → Prop) (E : Str → AH → Prop) : Out τ' β → AH → Prop := fun o h => match o with
  | .nx t => Wp (k t h) P E
  | .ret d => P (.ret d) h
  | .bk b => P (.bk b) h
  | .ct b => P (.ct b) h
section
variable {k : τ' → M (Out τ β)} {O : Out τ β → AH → Prop}
theorem w_obind {x : M (Out τ' β)} : Wp (obind x k h) O E ↔ Wp (x h) (oK k O E) E := by
  show Wp (ores k (x h)) O E ↔ _
  cases x h with
  | ok o h' => cases o <;> exact Iff.rfl
  | exc _ _ => exact Iff.rfl
  | stuck => exact Iff.rfl
theorem oK_nx {t : τ'} : oK k O E (.nx t) h ↔ Wp (k t h) O E := Iff.rfl
theorem oK_ret {d : D} : oK k O E (.ret d) h ↔ O (.ret d) h := Iff.rfl
theorem oK_bk {d : β} : oK k O E (.bk d) h ↔ O (.bk d) h := Iff.rfl
theorem oK_ct {d : β} : oK k O E (.ct d) h ↔ O (.ct d) h := Iff.rfl
end
def dK (P : D → AH → Prop) : Out τ β → AH → Prop := fun o h => match o with
  | .nx _ => P .non h
  | .ret d => P d h
  | _ => False
section
variable {P : D → AH → Prop}
theorem w_def {x : M (Out τ β)} : Wp (defM x h) P E ↔ Wp (x h) (dK P) E := by
  show Wp (dres (x h)) P E ↔ _
  cases x h with
  | ok o h' => cases o <;> exact Iff.rfl
  | exc _ _ => exact Iff.rfl
  | stuck => exact Iff.rfl
theorem dK_nx {t : τ} : (dK P : Out τ β → AH → Prop) (.nx t) h ↔ P .non h := Iff.rfl
theorem dK_ret {d : D} : (dK P : Out τ β → AH → Prop) (.ret d) h ↔ P d h := Iff.rfl
end
def lK (k : τ → M (Out τ β)) (P : Out τ β → AH → Prop) (E : Str → AH → Prop) : Out τ τ → AH → Prop := fun o h => match o with
  | .nx t => Wp (k t h) P E
  | .ct t => Wp (k t h) P E
  | .bk t => P (.nx t) h
  | .ret d => P (.ret d) h
section
variable {k : τ → M (Out τ β)} {O : Out τ β → AH → Prop}
theorem w_lbind {x : M (Out τ τ)} : Wp (lbind x k h) O E ↔ Wp (x h) (lK k O E) E := by
  show Wp (lres k (x h)) O E ↔ _
  cases x h with
  | ok o h' => cases o <;> exact Iff.rfl
  | exc _ _ => exact Iff.rfl
  | stuck => exact Iff.rfl
theorem lK_nx {t : τ} : lK k O E (.nx t) h ↔ Wp (k t h) O E := Iff.rfl
theorem lK_ct {t : τ} : lK k O E (.ct t) h ↔ Wp (k t h) O E := Iff.rfl
theorem lK_bk {t : τ} : lK k O E (.bk t) h ↔ O (.nx t) h := Iff.rfl
theorem lK_ret {d : D} : lK k O E (.ret d) h ↔ O (.ret d) h := Iff.rfl
theorem w_for0 {t : τ} {f : D → τ → M (Out τ τ)} : Wp ((forM [] t f : M (Out τ β)) h) O E ↔ O (.nx t) h := Iff.rfl
theorem w_for1 {x : D} {r : List D} {t : τ} {f : D → τ → M (Out τ τ)} : Wp ((forM (x :: r) t f : M (Out τ β)) h) O E ↔ Wp (f x t h) (lK (fun t' => forM r t' f) O E) E := w_lbind
/-- what a loop's turn ends in -/
def tK (N : τ → AH → Prop) (O : Out τ β → AH → Prop) : Out τ τ → AH → Prop := fun o h => match o with
  | .nx t => N t h
  | .ct t => N t h
  | .bk t => O (.nx t) h
  | .ret d => O (.ret d) h
theorem tK_nx {N : τ → AH → Prop} {t : τ} : tK N O (.nx t) h ↔ N t h := Iff.rfl
theorem tK_ct {N : τ → AH → Prop} {t : τ} : tK N O (.ct t) h ↔ N t h := Iff.rfl
theorem tK_bk {N : τ → AH → Prop} {t : τ} : tK N O (.bk t) h ↔ O (.nx t) h := Iff.rfl
theorem tK_ret {N : τ → AH → Prop} {d : D} : tK N O (.ret d) h ↔ O (.ret d) h := Iff.rfl
theorem lK_of {N : τ → AH → Prop} {o : Out τ τ} {h : AH} (q : tK N O o h) (n : ∀ t h, N t h → Wp (k t h) O E) : lK k O E o h := by
  cases o with
  | nx t => exact n t h q
  | ct t => exact n t h q
  | bk t => exact q
  | ret d => exact q
/-- a loop by what stays true: I k t h ahead of item k -/
theorem w_for_at {f : D → τ → M (Out τ τ)} (I : Nat → τ → AH → Prop) {xs : List D} (hs : ∀ (k : Nat) x t h, xs[k]? = some x → I k t h → Wp (f x t h) (tK (I (k + 1)) O) E) (he : ∀ t h, I xs.length t h → O (.nx t) h) :
    ∀ (r : List D) (n : Nat) (t : τ) (h : AH), xs.drop n = r → n ≤ xs.length → I n t h → Wp ((forM r t f : M (Out τ β)) h) O E
  | [], n, t, h, e, l, i => by
    have : n = xs.length := by
      have z := congrArg List.length e
      rw [List.length_drop, List.length_nil] at z
      omega
    subst this
    exact he t h i
  | x :: r, n, t, h, e, l, i => by
    have hx : xs[n]? = some x := by
      have z : (xs.drop n)[0]? = some x := by rw [e]; rfl
      rw [List.getElem?_drop] at z
      simpa using z
    have hl := (List.getElem?_eq_some_iff.mp hx).1
    refine w_for1.mpr ((hs n x t h hx i).imp fun o h' q => lK_of q fun t' h' q' => w_for_at I hs he r (n + 1) t' h' ?_ (by omega) q')
    rw [← List.drop_drop, e]
    rfl
theorem w_for {f : D → τ → M (Out τ τ)} (I : Nat → τ → AH → Prop) {xs : List D} {t : τ} (h0 : I 0 t h) (hs : ∀ (k : Nat) x t h, xs[k]? = some x → I k t h → Wp (f x t h) (tK (I (k + 1)) O) E) (he : ∀ t h, I xs.length t h → O (.nx t) h) :
    Wp ((forM xs t f : M (Out τ β)) h) O E := w_for_at I hs he xs 0 t h rfl (Nat.zero_le _) h0
theorem w_while1 {n : Nat} {t : τ} {c : τ → M Bool} {f : τ → M (Out τ τ)} : Wp ((whileM (n + 1) t c f : M (Out τ β)) h) O E ↔ Wp (c t h) (fun b h' => if b = true then Wp (f t h') (lK (fun t' => whileM n t' c f) O E) E else O (.nx t) h') E := by
  show Wp ((c t >>= fun b => if b = true then lbind (f t) fun t' => whileM n t' c f else pure (.nx t)) h) O E ↔ _
  rw [w_bind]
  cases c t h with
  | ok b h' =>
    cases b with
    | true => exact w_lbind
    | false => exact Iff.rfl
  | exc _ _ => exact Iff.rfl
  | stuck => exact Iff.rfl
end
theorem w_lift {a : α} : Wp ((liftO (some a) : M α) h) P E ↔ P a h := Iff.rfl
theorem w_noex {x : M α} : Wp (noexM x h) P E ↔ Wp (x h) P NoE := by
  show Wp (nores (x h)) P E ↔ _
  cases x h <;> exact Iff.rfl
def hK (c : Str → Option Bool) (hM : Str → M (Out τ β)) (O : Out τ β → AH → Prop) (E : Str → AH → Prop) : Str → AH → Prop := fun x h => match c x with
  | some true => Wp (hM x h) O NoE
  | some false => E x h
  | none => False
theorem hK_t {c : Str → Option Bool} {hM : Str → M (Out τ β)} {O : Out τ β → AH → Prop} {x : Str} (e : c x = some true) : hK c hM O E x h ↔ Wp (hM x h) O NoE := by
  unfold hK
  rw [e]
theorem hK_f {c : Str → Option Bool} {hM : Str → M (Out τ β)} {O : Out τ β → AH → Prop} {x : Str} (e : c x = some false) : hK c hM O E x h ↔ E x h := by
  unfold hK
  rw [e]
theorem w_try {c : Str → Option Bool} {mb : M (Out τ β)} {hM : Str → M (Out τ β)} {O : Out τ β → AH → Prop} : Wp (tryM c mb hM h) O E ↔ Wp (mb h) O (hK c hM O E) := by
  unfold tryM
  cases mb h with
  | ok o h' => exact Iff.rfl
  | stuck => exact Iff.rfl
  | exc x h' =>
    show Wp (match c x with | some true => noexM (hM x) h' | some false => .exc x h' | none => .stuck) O E ↔ hK c hM O E x h'
    unfold hK
    cases c x with
    | none => exact Iff.rfl
    | some b =>
      cases b with
      | true => exact w_noex
      | false => exact Iff.rfl
theorem w_pcall {P : D → AH → Prop} {g : List D → M D} {ds : List D} : Wp (pcallM g ds h) P E ↔ noRefs ds = true ∧ Wp (g ds []) (fun d _ => noRef d = true ∧ P d h) (fun x _ => E x h) := by
  unfold pcallM
  by_cases n : noRefs ds = true
  · simp only [n, if_true, true_and]
    cases g ds [] with
    | ok d h' =>
      by_cases m : noRef d = true
      · simp only [m, if_true]
        exact ⟨fun z => ⟨m, z⟩, fun z => z.2⟩
      · simp only [m]
        exact ⟨fun z => z.elim, fun z => absurd z.1 m⟩
    | exc x h' => exact Iff.rfl
    | stuck => exact Iff.rfl
  · simp only [n]
    exact ⟨fun z => z.elim, fun z => nomatch z.1⟩
/-! comprehensions -/
theorem w_comp {f : D → M (List D)} {P : List D → AH → Prop} (I : Nat → List D → AH → Prop) {xs : List D} (hs : ∀ (k : Nat) x acc h, xs[k]? = some x → I k acc h → Wp (f x h) (fun ys h' => I (k + 1) (acc ++ ys) h') E) :
    ∀ (r : List D) (n : Nat) (acc : List D) (h : AH), xs.drop n = r → n ≤ xs.length → I n acc h → (∀ ys h', I xs.length (acc ++ ys) h' → P ys h') → Wp (compM r f h) P E
  | [], n, acc, h, e, l, i, he => by
    have : n = xs.length := by
      have z := congrArg List.length e
      rw [List.length_drop, List.length_nil] at z
      omega
    subst this
    exact he [] h (by rw [List.append_nil]; exact i)
  | x :: r, n, acc, h, e, l, i, he => by
    have hx : xs[n]? = some x := by
      have z : (xs.drop n)[0]? = some x := by rw [e]; rfl
      rw [List.getElem?_drop] at z
      simpa using z
    have hl := (List.getElem?_eq_some_iff.mp hx).1
    show Wp ((f x >>= fun ys => compM r f >>= fun zs => pure (ys ++ zs)) h) P E
    rw [w_bind]
    refine (hs n x acc h hx i).imp fun ys h' q => ?_
    rw [w_bind]
    exact w_comp (P := fun zs h' => P (ys ++ zs) h') I hs r (n + 1) (acc ++ ys) h' (by rw [← List.drop_drop, e]; rfl) (by omega) q fun zs h2 z => he (ys ++ zs) h2 (by rw [← List.append_assoc]; exact z)
theorem w_lc {f : D → M (List D)} {P : D → AH → Prop} (I : Nat → List D → AH → Prop) {xs : List D} (l : xs.length ≤ 1000000) (h0 : I 0 [] h) (hs : ∀ (k : Nat) x acc h, xs[k]? = some x → I k acc h → Wp (f x h) (fun ys h' => I (k + 1) (acc ++ ys) h') NoE)
    (he : ∀ ys h', I xs.length ys h' → P (.lst ys) h') : Wp (lcM xs f h) P E := by
  unfold lcM
  rw [if_pos (show lenOk xs.length = true from decide_eq_true (Nat.le_trans l (by decide))), w_bind, w_noex]
  exact w_comp I hs xs 0 [] h rfl (Nat.zero_le _) h0 fun ys h' q => he ys h' q
/-- each item by itself, the heap stays -/
theorem w_lc_map {f : D → M (List D)} {P : D → AH → Prop} (g : D → List D) {xs : List D} (l : xs.length ≤ 1000000) (hs : ∀ x ∈ xs, f x h = .ok (g x) h) (he : P (.lst (xs.map g).flatten) h) : Wp (lcM xs f h) P E :=
  Wp.of_eq (lcM_run g l hs) he
/-! locked dicts -/
theorem w_lockX {me : M D} {mc : M α} {n : Nat} {kvs : List (Key × D)} {h' : AH} (e : me h = .ok (.ref n) h') (c : h[n]? = some (.dk kvs)) (w : Wp (mc (h.set n (.dkL kvs))) (fun a h2 => ∃ k2, h2[n]? = some (.dkL k2) ∧ P a (h2.set n (.dk k2))) NoE) : Wp (lockX me mc h) P E := by
  unfold lockX
  simp only [e, c]
  cases hm : mc (h.set n (.dkL kvs)) with
  | ok a h2 =>
    rw [hm] at w
    obtain ⟨k2, q1, q2⟩ := w
    unfold lockRx
    simp only [q1]
    exact q2
  | exc x h2 =>
    rw [hm] at w
    exact w.elim
  | stuck =>
    rw [hm] at w
    exact w.elim
theorem w_lockE {O : Out τ β → AH → Prop} {me : M D} {mc : M (Out τ β)} {n : Nat} {kvs : List (Key × D)} {h' : AH} (e : me h = .ok (.ref n) h') (c : h[n]? = some (.dk kvs)) (w : Wp (mc (h.set n (.dkL kvs))) (fun a h2 => ∃ k2, h2[n]? = some (.dkL k2) ∧ O a (h2.set n (.dk k2))) NoE) : Wp (lockE me mc h) O E := by
  unfold lockE
  simp only [e, c]
  cases hm : mc (h.set n (.dkL kvs)) with
  | ok a h2 =>
    rw [hm] at w
    obtain ⟨k2, q1, q2⟩ := w
    unfold lockR
    simp only [q1]
    exact q2
  | exc x h2 =>
    rw [hm] at w
    exact w.elim
  | stuck =>
    rw [hm] at w
    exact w.elim
end
/-! ### operations -/
section
variable {h : AH} {E : Str → AH → Prop} {P : D → AH → Prop} {i j : Int} {n : Nat} {xs ys : List D} {x y z : D}
theorem w_add : Wp (addM (.int i) (.int j) h) P E ↔ P (.int (i + j)) h := Iff.rfl
theorem w_sub : Wp (subM (.int i) (.int j) h) P E ↔ P (.int (i - j)) h := Iff.rfl
theorem w_neg : Wp (negM (.int i) h) P E ↔ P (.int (-i)) h := Iff.rfl
theorem w_lt : Wp (ltM (.int i) (.int j) h) P E ↔ P (.bl (decide (i < j))) h := Iff.rfl
theorem w_le : Wp (leM (.int i) (.int j) h) P E ↔ P (.bl (decide (i ≤ j))) h := Iff.rfl
theorem w_gt : Wp (gtM (.int i) (.int j) h) P E ↔ P (.bl (decide (j < i))) h := Iff.rfl
theorem w_ge : Wp (geM (.int i) (.int j) h) P E ↔ P (.bl (decide (j ≤ i))) h := Iff.rfl
theorem w_max : Wp (maxM (.int i) (.int j) h) P E ↔ P (.int (max i j)) h := by rw [maxM_int] <;> exact Iff.rfl
theorem w_min : Wp (minM (.int i) (.int j) h) P E ↔ P (.int (min i j)) h := by rw [minM_int] <;> exact Iff.rfl
theorem w_eqi : Wp (eqM (.int i) (.int j) h) P E ↔ P (.bl (decide (i = j))) h := by rw [eqM_int] <;> exact Iff.rfl
theorem w_nei : Wp (neM (.int i) (.int j) h) P E ↔ P (.bl (decide (i ≠ j))) h := by rw [neM_int] <;> exact Iff.rfl
theorem w_eqs {a b : Str} : Wp (eqM (.str a) (.str b) h) P E ↔ P (.bl (decide (a = b))) h := Iff.rfl
theorem w_nes {a b : Str} : Wp (neM (.str a) (.str b) h) P E ↔ P (.bl (!decide (a = b))) h := Iff.rfl
theorem w_eqn (e : lstOf h x = some xs) : Wp (eqM x (.lst []) h) P E ↔ P (.bl xs.isEmpty) h := by rw [eqM_nil e] <;> exact Iff.rfl
theorem w_nen (e : lstOf h x = some xs) : Wp (neM x (.lst []) h) P E ↔ P (.bl (!xs.isEmpty)) h := by rw [neM_nil e] <;> exact Iff.rfl
theorem w_mul (c : i.natAbs.log2 + j.natAbs.log2 < 1000000) : Wp (mulM (.int i) (.int j) h) P E ↔ P (.int (i * j)) h := by rw [mulM_int c] <;> exact Iff.rfl
theorem w_fdiv (c : 0 < j) (c2 : j.natAbs.log2 < 9000) : Wp (fdivM (.int i) (.int j) h) P E ↔ P (.int (i / j)) h := by rw [fdivM_int c c2] <;> exact Iff.rfl
theorem w_mod (c : 0 < j) : Wp (modM (.int i) (.int j) h) P E ↔ P (.int (i % j)) h := by rw [modM_int c] <;> exact Iff.rfl
theorem w_pow (c : 0 ≤ j ∧ j ≤ 1000000 ∧ i.natAbs < 2 ^ 64) : Wp (powM (.int i) (.int j) h) P E ↔ P (.int (i ^ j.toNat)) h := by rw [powM_int c] <;> exact Iff.rfl
theorem w_asB {b : Bool} {P : Bool → AH → Prop} : Wp (asB (.bl b) h) P E ↔ P b h := Iff.rfl
theorem w_asI {P : Option Int → AH → Prop} : Wp (asI (.int i) h) P E ↔ P (some i) h := Iff.rfl
theorem w_not {b : Bool} : Wp (notV (.bl b) h) P E ↔ P (.bl (!b)) h := Iff.rfl
theorem w_tru {b : Bool} {P : Bool → AH → Prop} : Wp (truM (.bl b) h) P E ↔ P b h := Iff.rfl
theorem w_and {b : Bool} {m : M D} : Wp (andV (.bl b) m h) P E ↔ if b = true then Wp (m h) P E else P (.bl false) h := by cases b <;> exact Iff.rfl
theorem w_or {b : Bool} {m : M D} : Wp (orV (.bl b) m h) P E ↔ if b = true then P (.bl true) h else Wp (m h) P E := by cases b <;> exact Iff.rfl
theorem w_chlt {b : Bool} {f g : D → D → M D} {m : M D} (e : f x y h = .ok (.bl b) h) : Wp (chainM f g x y m h) P E ↔ if b = true then Wp (m h) (fun z h' => Wp (g y z h') P E) E else P (.bl false) h := by
  rw [chainM_lt e]
  cases b with
  | true =>
    simp only [if_true]
    cases m h <;> exact Iff.rfl
  | false => exact Iff.rfl
theorem w_tup (l : xs.length ≤ 1000000) : Wp (tupM xs h) P E ↔ P (.tup xs) h := by rw [tupM_run l] <;> exact Iff.rfl
theorem w_lst (l : xs.length ≤ 1000000) : Wp (lstM xs h) P E ↔ P (.lst xs) h := by rw [lstM_run l] <;> exact Iff.rfl
theorem w_lstH (l : xs.length ≤ 1000000) : Wp (lstH xs h) P E ↔ P (.ref h.length) (h ++ [.lst xs]) := by rw [lstH_run l] <;> exact Iff.rfl
theorem w_tup0 : Wp (tupM [] h) P E ↔ P (.tup []) h := w_tup (Nat.le_of_ble_eq_true rfl)
theorem w_lst0 : Wp (lstM [] h) P E ↔ P (.lst []) h := w_lst (Nat.le_of_ble_eq_true rfl)
theorem w_lsH0 : Wp (lstH [] h) P E ↔ P (.ref h.length) (h ++ [.lst []]) := w_lstH (Nat.le_of_ble_eq_true rfl)
theorem w_tup1 {x0 : D} : Wp (tupM [x0] h) P E ↔ P (.tup [x0]) h := w_tup (Nat.le_of_ble_eq_true rfl)
theorem w_lst1 {x0 : D} : Wp (lstM [x0] h) P E ↔ P (.lst [x0]) h := w_lst (Nat.le_of_ble_eq_true rfl)
theorem w_lsH1 {x0 : D} : Wp (lstH [x0] h) P E ↔ P (.ref h.length) (h ++ [.lst [x0]]) := w_lstH (Nat.le_of_ble_eq_true rfl)
theorem w_tup2 {x0 x1 : D} : Wp (tupM [x0, x1] h) P E ↔ P (.tup [x0, x1]) h := w_tup (Nat.le_of_ble_eq_true rfl)
theorem w_lst2 {x0 x1 : D} : Wp (lstM [x0, x1] h) P E ↔ P (.lst [x0, x1]) h := w_lst (Nat.le_of_ble_eq_true rfl)
theorem w_lsH2 {x0 x1 : D} : Wp (lstH [x0, x1] h) P E ↔ P (.ref h.length) (h ++ [.lst [x0, x1]]) := w_lstH (Nat.le_of_ble_eq_true rfl)
theorem w_tup3 {x0 x1 x2 : D} : Wp (tupM [x0, x1, x2] h) P E ↔ P (.tup [x0, x1, x2]) h := w_tup (Nat.le_of_ble_eq_true rfl)
theorem w_lst3 {x0 x1 x2 : D} : Wp (lstM [x0, x1, x2] h) P E ↔ P (.lst [x0, x1, x2]) h := w_lst (Nat.le_of_ble_eq_true rfl)
theorem w_lsH3 {x0 x1 x2 : D} : Wp (lstH [x0, x1, x2] h) P E ↔ P (.ref h.length) (h ++ [.lst [x0, x1, x2]]) := w_lstH (Nat.le_of_ble_eq_true rfl)
theorem w_tup4 {x0 x1 x2 x3 : D} : Wp (tupM [x0, x1, x2, x3] h) P E ↔ P (.tup [x0, x1, x2, x3]) h := w_tup (Nat.le_of_ble_eq_true rfl)
theorem w_lst4 {x0 x1 x2 x3 : D} : Wp (lstM [x0, x1, x2, x3] h) P E ↔ P (.lst [x0, x1, x2, x3]) h := w_lst (Nat.le_of_ble_eq_true rfl)
theorem w_lsH4 {x0 x1 x2 x3 : D} : Wp (lstH [x0, x1, x2, x3] h) P E ↔ P (.ref h.length) (h ++ [.lst [x0, x1, x2, x3]]) := w_lstH (Nat.le_of_ble_eq_true rfl)
theorem w_tup5 {x0 x1 x2 x3 x4 : D} : Wp (tupM [x0, x1, x2, x3, x4] h) P E ↔ P (.tup [x0, x1, x2, x3, x4]) h := w_tup (Nat.le_of_ble_eq_true rfl)
theorem w_lst5 {x0 x1 x2 x3 x4 : D} : Wp (lstM [x0, x1, x2, x3, x4] h) P E ↔ P (.lst [x0, x1, x2, x3, x4]) h := w_lst (Nat.le_of_ble_eq_true rfl)
theorem w_lsH5 {x0 x1 x2 x3 x4 : D} : Wp (lstH [x0, x1, x2, x3, x4] h) P E ↔ P (.ref h.length) (h ++ [.lst [x0, x1, x2, x3, x4]]) := w_lstH (Nat.le_of_ble_eq_true rfl)
theorem w_tup6 {x0 x1 x2 x3 x4 x5 : D} : Wp (tupM [x0, x1, x2, x3, x4, x5] h) P E ↔ P (.tup [x0, x1, x2, x3, x4, x5]) h := w_tup (Nat.le_of_ble_eq_true rfl)
theorem w_lst6 {x0 x1 x2 x3 x4 x5 : D} : Wp (lstM [x0, x1, x2, x3, x4, x5] h) P E ↔ P (.lst [x0, x1, x2, x3, x4, x5]) h := w_lst (Nat.le_of_ble_eq_true rfl)
theorem w_lsH6 {x0 x1 x2 x3 x4 x5 : D} : Wp (lstH [x0, x1, x2, x3, x4, x5] h) P E ↔ P (.ref h.length) (h ++ [.lst [x0, x1, x2, x3, x4, x5]]) := w_lstH (Nat.le_of_ble_eq_true rfl)
theorem w_tup7 {x0 x1 x2 x3 x4 x5 x6 : D} : Wp (tupM [x0, x1, x2, x3, x4, x5, x6] h) P E ↔ P (.tup [x0, x1, x2, x3, x4, x5, x6]) h := w_tup (Nat.le_of_ble_eq_true rfl)
theorem w_lst7 {x0 x1 x2 x3 x4 x5 x6 : D} : Wp (lstM [x0, x1, x2, x3, x4, x5, x6] h) P E ↔ P (.lst [x0, x1, x2, x3, x4, x5, x6]) h := w_lst (Nat.le_of_ble_eq_true rfl)
theorem w_lsH7 {x0 x1 x2 x3 x4 x5 x6 : D} : Wp (lstH [x0, x1, x2, x3, x4, x5, x6] h) P E ↔ P (.ref h.length) (h ++ [.lst [x0, x1, x2, x3, x4, x5, x6]]) := w_lstH (Nat.le_of_ble_eq_true rfl)
theorem w_tup8 {x0 x1 x2 x3 x4 x5 x6 x7 : D} : Wp (tupM [x0, x1, x2, x3, x4, x5, x6, x7] h) P E ↔ P (.tup [x0, x1, x2, x3, x4, x5, x6, x7]) h := w_tup (Nat.le_of_ble_eq_true rfl)
theorem w_lst8 {x0 x1 x2 x3 x4 x5 x6 x7 : D} : Wp (lstM [x0, x1, x2, x3, x4, x5, x6, x7] h) P E ↔ P (.lst [x0, x1, x2, x3, x4, x5, x6, x7]) h := w_lst (Nat.le_of_ble_eq_true rfl)
theorem w_lsH8 {x0 x1 x2 x3 x4 x5 x6 x7 : D} : Wp (lstH [x0, x1, x2, x3, x4, x5, x6, x7] h) P E ↔ P (.ref h.length) (h ++ [.lst [x0, x1, x2, x3, x4, x5, x6, x7]]) := w_lstH (Nat.le_of_ble_eq_true rfl)
theorem w_new {c : Cell} : Wp (newM c h) P E ↔ P (.ref h.length) (h ++ [c]) := Iff.rfl
theorem w_lenT : Wp (lenM (.tup xs) h) P E ↔ P (.int xs.length) h := Iff.rfl
theorem w_lenL : Wp (lenM (.lst xs) h) P E ↔ P (.int xs.length) h := Iff.rfl
theorem w_lenR (e : h[n]? = some (.lst xs)) : Wp (lenM (.ref n) h) P E ↔ P (.int xs.length) h := by rw [lenM_ref e] <;> exact Iff.rfl
theorem w_ixT (e : atI xs i = some x) : Wp (ixM (.tup xs) (.int i) h) P E ↔ P x h := by rw [ixM_tup e] <;> exact Iff.rfl
theorem w_ixL (e : atI xs i = some x) : Wp (ixM (.lst xs) (.int i) h) P E ↔ P x h := by rw [ixM_lst e] <;> exact Iff.rfl
theorem w_ixR (q : h[n]? = some (.lst xs)) (e : atI xs i = some x) : Wp (ixM (.ref n) (.int i) h) P E ↔ P x h := by rw [ixM_ref q e] <;> exact Iff.rfl
theorem w_lchk {P : Unit → AH → Prop} (e : h[n]? = some (.lst xs)) : Wp (lchk (.ref n) h) P E ↔ P () h := by rw [lchk_ref e] <;> exact Iff.rfl
theorem w_append (e : h[n]? = some (.lst xs)) (l : xs.length < 1000000) : Wp (appendM (.ref n) x h) P E ↔ P .non (h.set n (.lst (xs ++ [x]))) := by rw [appendM_ref e l] <;> exact Iff.rfl
theorem w_setix {P : Unit → AH → Prop} (q : h[n]? = some (.lst xs)) (h0 : 0 ≤ i) (h1 : i < xs.length) : Wp (setIxM (.ref n) (.int i) x h) P E ↔ P () (h.set n (.lst (xs.set i.toNat x))) := by rw [setIxM_pos q h0 h1] <;> exact Iff.rfl
theorem w_setlast {P : Unit → AH → Prop} (q : h[n]? = some (.lst (xs ++ [y]))) : Wp (setIxM (.ref n) (.int (-1)) x h) P E ↔ P () (h.set n (.lst (xs ++ [x]))) := by rw [setIxM_last q] <;> exact Iff.rfl
theorem w_freeze (e : h[n]? = some (.lst xs)) : Wp (freezeM (.ref n) h) P E ↔ P (.lst xs) (h.set n .dead) := by rw [freezeM_ref e] <;> exact Iff.rfl
theorem w_itT {P : List D → AH → Prop} : Wp (itemsM (.tup xs) h) P E ↔ P xs h := Iff.rfl
theorem w_itL {P : List D → AH → Prop} : Wp (itemsM (.lst xs) h) P E ↔ P xs h := Iff.rfl
theorem w_tupT : Wp (tupleM (.tup xs) h) P E ↔ P (.tup xs) h := Iff.rfl
theorem w_tupL : Wp (tupleM (.lst xs) h) P E ↔ P (.tup xs) h := Iff.rfl
theorem w_tupR (e : h[n]? = some (.lst xs)) : Wp (tupleM (.ref n) h) P E ↔ P (.tup xs) h := by rw [tupleM_ref e] <;> exact Iff.rfl
theorem w_listT : Wp (listM (.tup xs) h) P E ↔ P (.lst xs) h := Iff.rfl
theorem w_listL : Wp (listM (.lst xs) h) P E ↔ P (.lst xs) h := Iff.rfl
theorem w_rng1 {P : List D → AH → Prop} (a : -(2 ^ 62) ≤ j) (b : j < 2 ^ 62) : Wp (rng1M [.int j] h) P E ↔ P (rangeD 0 j.toNat) h := by rw [rng1M_run a b] <;> exact Iff.rfl
theorem w_rng2 {P : List D → AH → Prop} (a : -(2 ^ 62) ≤ i) (b : i < 2 ^ 62) (c : -(2 ^ 62) ≤ j) (d : j < 2 ^ 62) : Wp (rng2M [.int i, .int j] h) P E ↔ P (rangeD i (j - i).toNat) h := by rw [rng2M_run a b c d] <;> exact Iff.rfl
theorem w_addT (l : xs.length + ys.length ≤ 1000000) : Wp (addM (.tup xs) (.tup ys) h) P E ↔ P (.tup (xs ++ ys)) h := by rw [addM_tup l] <;> exact Iff.rfl
theorem w_addL (l : xs.length + ys.length ≤ 1000000) : Wp (addM (.lst xs) (.lst ys) h) P E ↔ P (.lst (xs ++ ys)) h := by rw [addM_lst l] <;> exact Iff.rfl
theorem w_addS {a b : Str} (l : a.length + b.length ≤ 1000000) : Wp (addM (.str a) (.str b) h) P E ↔ P (.str (a ++ b)) h := by rw [addM_str l] <;> exact Iff.rfl
theorem w_sum {ns : List Int} : Wp (sumM (.lst (ns.map D.int)) h) P E ↔ P (.int ns.sum) h := by rw [sumM_lst] <;> exact Iff.rfl
theorem w_any {ns : List Bool} : Wp (anyM (.lst (ns.map D.bl)) h) P E ↔ P (.bl (ns.any id)) h := by rw [anyM_lst] <;> exact Iff.rfl
theorem w_all {ns : List Bool} : Wp (allM (.lst (ns.map D.bl)) h) P E ↔ P (.bl (ns.all id)) h := by rw [allM_lst] <;> exact Iff.rfl
theorem w_slT {lo hi : Option Int} : Wp (sliceM (.tup xs) lo hi h) P E ↔ P (.tup (cutD xs lo hi)) h := Iff.rfl
theorem w_slL {lo hi : Option Int} : Wp (sliceM (.lst xs) lo hi h) P E ↔ P (.lst (cutD xs lo hi)) h := Iff.rfl
theorem w_isn : Wp (isM false x .non h) P E ↔ P (.bl (isC x .non)) h := by
  show P (.bl (xor false (isC x .non))) h ↔ _
  rw [Bool.false_xor]
theorem w_isnn : Wp (isM true x .non h) P E ↔ P (.bl (!isC x .non)) h := by
  show P (.bl (xor true (isC x .non))) h ↔ _
  rw [Bool.true_xor]
theorem w_inti : Wp (intM (.int i) h) P E ↔ P (.int i) h := Iff.rfl
theorem w_intb {b : Bool} : Wp (intM (.bl b) h) P E ↔ P (.int (if b = true then 1 else 0)) h := Iff.rfl
theorem w_strs {a : Str} : Wp (strM (.str a) h) P E ↔ P (.str a) h := Iff.rfl
theorem w_stri (c : i.natAbs.log2 < 1920) : Wp (strM (.int i) h) P E ↔ P (.str (toString i)) h := by
  have e : strM (.int i) h = .ok (.str (toString i)) h := by
    show (if i.natAbs.log2 < 1920 then _ else _) = _
    rw [if_pos c]
  rw [e] <;> exact Iff.rfl
theorem w_schk {a : Str} {P : Unit → AH → Prop} : Wp (schk (.str a) h) P E ↔ P () h := Iff.rfl
theorem w_zipT {P : List D → AH → Prop} : Wp (zipM [.tup xs, .tup ys] h) P E ↔ P (zipD xs ys) h := Iff.rfl
theorem w_zipL {P : List D → AH → Prop} : Wp (zipM [.lst xs, .lst ys] h) P E ↔ P (zipD xs ys) h := Iff.rfl
theorem w_zipLT {P : List D → AH → Prop} : Wp (zipLTM [.lst xs, .tup ys] h) P E ↔ P (zipD xs ys) h := Iff.rfl
theorem w_enumT {P : List D → AH → Prop} : Wp (enumM (.tup xs) h) P E ↔ P (enumD 0 xs) h := Iff.rfl
theorem w_enumL {P : List D → AH → Prop} : Wp (enumM (.lst xs) h) P E ↔ P (enumD 0 xs) h := Iff.rfl
theorem w_app1 {g : D → M D} : Wp (app1 g [x] h) P E ↔ Wp (g x h) P E := Iff.rfl
theorem w_app2 {g : D → D → M D} : Wp (app2 g [x, y] h) P E ↔ Wp (g x y h) P E := Iff.rfl
theorem w_app3 {g : D → D → D → M D} : Wp (app3 g [x, y, z] h) P E ↔ Wp (g x y z h) P E := Iff.rfl
theorem w_app4 {g : D → D → D → D → M D} {u : D} : Wp (app4 g [x, y, z, u] h) P E ↔ Wp (g x y z u h) P E := Iff.rfl
theorem w_app5 {g : D → D → D → D → D → M D} {u v : D} : Wp (app5 g [x, y, z, u, v] h) P E ↔ Wp (g x y z u v h) P E := Iff.rfl
theorem w_eq_t {a b : D} (ha : nb 60 (lookD h a) = true) (hb : nb 60 (lookD h b) = true) (e : lookD h a = lookD h b) : Wp (eqM a b h) P E ↔ P (.bl true) h := by rw [eqM_eq ha hb e] <;> exact Iff.rfl
theorem w_eq_f {a b : D} (ha : nb 60 (lookD h a) = true) (hb : nb 60 (lookD h b) = true) (e : lookD h a ≠ lookD h b) : Wp (eqM a b h) P E ↔ P (.bl false) h := by rw [eqM_ne ha hb e] <;> exact Iff.rfl
theorem w_ne_f {a b : D} (ha : nb 60 (lookD h a) = true) (hb : nb 60 (lookD h b) = true) (e : lookD h a = lookD h b) : Wp (neM a b h) P E ↔ P (.bl false) h := by rw [neM_eq ha hb e] <;> exact Iff.rfl
theorem w_ne_t {a b : D} (ha : nb 60 (lookD h a) = true) (hb : nb 60 (lookD h b) = true) (e : lookD h a ≠ lookD h b) : Wp (neM a b h) P E ↔ P (.bl true) h := by rw [neM_ne ha hb e] <;> exact Iff.rfl
end
/-! ### objects, dicts -/
section
variable {h : AH} {E : Str → AH → Prop} {P : D → AH → Prop} {U : Unit → AH → Prop} {n : Nat} {tab : CTab} {c f : Str} {fs : List (Str × D)} {v x : D} {kvs : List (Key × D)} {k : Key}
theorem w_fld (e : h[n]? = some (.ins c fs)) (t : hasF tab c f = true) (l : fs.lookup f = some v) : Wp (fldM tab f (.ref n) h) P E ↔ P v h := by
  unfold fldM
  simp only [e, t, l, if_true] <;> exact Iff.rfl
theorem w_setf (e : h[n]? = some (.ins c fs)) (t : (hasF tab c f && decide (fs.length < 1000)) = true) : Wp (setFM tab f (.ref n) v h) U E ↔ U () (h.set n (.ins c (putD f v fs))) := by
  unfold setFM
  simp only [e]
  rw [if_pos t] <;> exact Iff.rfl
theorem w_mchk {m : Str} (e : h[n]? = some (.ins c fs)) (l : fs.lookup m = none) : Wp (mchkM c m (.ref n) h) U E ↔ U () h := by
  unfold mchkM
  simp only [e, l]
  rw [if_pos (by simp)] <;> exact Iff.rfl
theorem w_make {g : List D → M D} {as : List D} : Wp (makeM c g as h) P E ↔ Wp (g (.ref h.length :: as) (h ++ [.ins c []])) (fun v h' => v = .non ∧ P (.ref h.length) h') E := by
  unfold makeM
  rw [w_bind, w_new, w_bind]
  cases g (.ref h.length :: as) (h ++ [.ins c []]) with
  | ok v h' =>
    cases v <;> first | exact ⟨fun z => ⟨rfl, z⟩, fun z => z.2⟩ | exact ⟨fun z => z.elim, fun z => nomatch z.1⟩
  | exc x h' => exact Iff.rfl
  | stuck => exact Iff.rfl
theorem w_dget (e : dkOf h x = some kvs) (ek : keyD y = some k) (l : valD kvs k = some v) : Wp (dgetM x y h) P E ↔ P v h := by
  unfold dgetM
  simp only [e, ek, l] <;> exact Iff.rfl
theorem w_dget1 (e : dkOf h x = some kvs) (ek : keyD y = some k) : Wp (dget1M x y h) P E ↔ P ((valD kvs k).getD .non) h := by
  unfold dget1M
  simp only [e, ek] <;> exact Iff.rfl
theorem w_din (e : dkOf h x = some kvs) (ek : keyD y = some k) : Wp (dinM false y x h) P E ↔ P (.bl (valD kvs k).isSome) h := by
  unfold dinM
  simp only [e, ek, Bool.false_xor] <;> exact Iff.rfl
theorem w_dnin (e : dkOf h x = some kvs) (ek : keyD y = some k) : Wp (dinM true y x h) P E ↔ P (.bl (!(valD kvs k).isSome)) h := by
  unfold dinM
  simp only [e, ek, Bool.true_xor] <;> exact Iff.rfl
theorem w_dchk (e : dkOf h x = some kvs) : Wp (dchk x h) U E ↔ U () h := by
  unfold dchk
  simp only [e] <;> exact Iff.rfl
theorem w_dput (e : h[n]? = some (.dk kvs)) (ek : keyD y = some k) (l : kvs.length < 1000000) : Wp (dputM (.ref n) y v h) U E ↔ U () (h.set n (.dk (putKD kvs k v))) := by
  unfold dputM
  simp only [e, ek]
  rw [if_pos (show lenOk (kvs.length + 1) = true from decide_eq_true (Nat.le_trans l (by decide)))] <;> exact Iff.rfl
theorem w_dpop (e : h[n]? = some (.dk kvs)) (ek : keyD y = some k) (l : valD kvs k = some v) : Wp (dpopM (.ref n) y h) P E ↔ P v (h.set n (.dk (dropKD kvs k))) := by
  unfold dpopM
  simp only [e, ek, l] <;> exact Iff.rfl
theorem dkOf_ref (e : h[n]? = some (.dk kvs)) : dkOf h (.ref n) = some kvs := by
  unfold dkOf
  simp only [e]
theorem dkOf_refL (e : h[n]? = some (.dkL kvs)) : dkOf h (.ref n) = some kvs := by
  unfold dkOf
  simp only [e]
theorem w_keys {P : List D → AH → Prop} (e : h[n]? = some (.dkL kvs)) : Wp (keysM (.ref n) h) P E ↔ P (kvs.map fun p => keyKD p.1) h := by
  unfold keysM
  simp only [e] <;> exact Iff.rfl
theorem w_vals {P : List D → AH → Prop} (e : h[n]? = some (.dkL kvs)) : Wp (valsM (.ref n) h) P E ↔ P (kvs.map fun p => p.2) h := by
  unfold valsM
  simp only [e] <;> exact Iff.rfl
end
end Lw

/-! the plain reading of the text (printed by gen.py) -/
noncomputable section
namespace Lw
open PySem L2
def tabE : Tab := [("BadPlace", [("BadBound", false), ("BadCut", false), ("BadJoin", false), ("BadLine", false), ("BadMoment", false), ("BadPlace", true), ("BadPlan", false), ("BadTelling", false), ("BadWork", false), ("BadWorker", false), ("Down", false), ("Fallen", false), ("LentError", true), ("Lost", false), ("NoBook", false), ("NoLending", false), ("NoLine", false), ("NoPiece", false), ("NoText", false), ("Otherwise", false), ("Twice", false), ("ValueError", true)]), ("BadWork", [("BadBound", false), ("BadCut", false), ("BadJoin", false), ("BadLine", false), ("BadMoment", false), ("BadPlace", false), ("BadPlan", false), ("BadTelling", false), ("BadWork", true), ("BadWorker", false), ("Down", false), ("Fallen", false), ("LentError", true), ("Lost", false), ("NoBook", false), ("NoLending", false), ("NoLine", false), ("NoPiece", false), ("NoText", false), ("Otherwise", false), ("Twice", false), ("ValueError", true)]), ("Twice", [("BadBound", false), ("BadCut", false), ("BadJoin", false), ("BadLine", false), ("BadMoment", false), ("BadPlace", false), ("BadPlan", false), ("BadTelling", false), ("BadWork", false), ("BadWorker", false), ("Down", false), ("Fallen", false), ("LentError", true), ("Lost", false), ("NoBook", false), ("NoLending", false), ("NoLine", false), ("NoPiece", false), ("NoText", false), ("Otherwise", false), ("Twice", true), ("ValueError", true)])]
def isE : Str → Str → Option Bool := isEt tabE
def tabC : CTab := [("Sheet", ["work", "by_place", "laid"])]
def b_law_tape (cell1 : D) : M (Out Unit Empty) := (((((pure (.int 0)) >>= fun x6 => ((pure cell1) >>= fun x4 => ((pure (.int 10)) >>= fun x2 => (pure (.int 18)) >>= fun y3 => powM x2 y3) >>= fun y5 => subM x4 y5) >>= fun y7 => maxM x6 y7) >>= fun a12 => (((pure cell1) >>= fun x8 => (pure (.int 2147483647)) >>= fun y9 => modM x8 y9) >>= fun a10 => (pure (.int 0)) >>= fun a11 => pure [a10, a11]) >>= fun as13 => pure (a12 :: as13)) >>= fun xs14 => lstH xs14) >>= fun d15 => (pure (Out.ret d15) : M (Out (Unit) (Empty))))
def f_law_tape (cell1 : D) : M D := defM (b_law_tape cell1)
def b_law_take (tape_here16 : D) (many17 : D) : M (Out Unit Empty) := (((((pure tape_here16) >>= fun x18 => (pure (.int 0)) >>= fun y19 => ixM x18 y19) >>= fun x20 => (pure (.int 0)) >>= fun y21 => gtM x20 y21) >>= fun b22 => asB b22) >>= fun t23 => if t23 = true then obind ((((pure tape_here16) >>= fun x25 => (pure (.int 0)) >>= fun y26 => ixM x25 y26) >>= fun x27 => (pure many17) >>= fun y28 => modM x27 y28) >>= fun found24 => ((((pure tape_here16) >>= fun x29 => (pure (.int 0)) >>= fun y30 => ixM x29 y30) >>= fun x31 => (pure many17) >>= fun y32 => fdivM x31 y32) >>= fun v33 => (pure tape_here16) >>= fun x34 => (pure (.int 0)) >>= fun y35 => setIxM x34 y35 v33 >>= fun _ => ((pure found24) >>= fun d36 => (pure (Out.ret d36) : M (Out (Empty) (Empty)))))) (fun e => e.elim) else ((((pure tape_here16) >>= fun x37 => (pure (.int 2)) >>= fun y38 => ixM x37 y38) >>= fun x39 => (pure (.int 1)) >>= fun y40 => addM x39 y40) >>= fun v41 => (pure tape_here16) >>= fun x42 => (pure (.int 2)) >>= fun y43 => setIxM x42 y43 v41 >>= fun _ => (((((((pure tape_here16) >>= fun x45 => (pure (.int 1)) >>= fun y46 => ixM x45 y46) >>= fun x51 => ((pure (.int 7919)) >>= fun x49 => ((pure tape_here16) >>= fun x47 => (pure (.int 2)) >>= fun y48 => ixM x47 y48) >>= fun y50 => mulM x49 y50) >>= fun y52 => addM x51 y52) >>= fun x53 => (pure (.int 1)) >>= fun y54 => addM x53 y54) >>= fun x55 => (pure (.int 48271)) >>= fun y56 => mulM x55 y56) >>= fun x57 => (pure (.int 2147483647)) >>= fun y58 => modM x57 y58) >>= fun number44 => ((((pure number44) >>= fun x64 => (((pure number44) >>= fun x60 => (pure (.int 1009)) >>= fun y61 => fdivM x60 y61) >>= fun x62 => (pure (.int 69621)) >>= fun y63 => addM x62 y63) >>= fun y65 => mulM x64 y65) >>= fun x66 => (pure (.int 2147483647)) >>= fun y67 => modM x66 y67) >>= fun number59 => ((((pure number59) >>= fun x73 => (((pure number59) >>= fun x69 => (pure (.int 2003)) >>= fun y70 => fdivM x69 y70) >>= fun x71 => (pure (.int 40692)) >>= fun y72 => addM x71 y72) >>= fun y74 => mulM x73 y74) >>= fun x75 => (pure (.int 2147483399)) >>= fun y76 => modM x75 y76) >>= fun number68 => ((((pure number68) >>= fun x77 => (pure (.int 7)) >>= fun y78 => fdivM x77 y78) >>= fun x79 => (pure many17) >>= fun y80 => modM x79 y80) >>= fun d81 => (pure (Out.ret d81) : M (Out (Unit) (Empty)))))))))
def f_law_take (tape_here16 : D) (many17 : D) : M D := defM (b_law_take tape_here16 many17)
def b_law_start (tape_here82 : D) : M (Out Unit Empty) := ((((pure tape_here82) >>= fun a84 => (pure (.int 201)) >>= fun a85 => f_law_take a84 a85) >>= fun x86 => (pure (.int 100)) >>= fun y87 => subM x86 y87) >>= fun near83 => (((((pure tape_here82) >>= fun a89 => ((pure (.int 2)) >>= fun x92 => ((pure (.int 10)) >>= fun x90 => (pure (.int 9)) >>= fun y91 => powM x90 y91) >>= fun y93 => mulM x92 y93) >>= fun a94 => f_law_take a89 a94) >>= fun x97 => ((pure (.int 10)) >>= fun x95 => (pure (.int 9)) >>= fun y96 => powM x95 y96) >>= fun y98 => subM x97 y98) >>= fun x99 => (pure (.int 99999999)) >>= fun y100 => mulM x99 y100) >>= fun far88 => (((((pure (.int 0)) >>= fun a105 => ((pure near83) >>= fun a103 => ((pure near83) >>= fun a101 => (pure far88) >>= fun a102 => pure [a101, a102]) >>= fun as104 => pure (a103 :: as104)) >>= fun as106 => pure (a105 :: as106)) >>= fun xs107 => lstM xs107) >>= fun x110 => ((pure tape_here82) >>= fun a108 => (pure (.int 4)) >>= fun a109 => f_law_take a108 a109) >>= fun y111 => ixM x110 y111) >>= fun d112 => (pure (Out.ret d112) : M (Out (Unit) (Empty))))))
def f_law_start (tape_here82 : D) : M D := defM (b_law_start tape_here82)
def l_law_work_1 (tape_here113 : D) (wide115 : D) (found116 : D) : D → (D) → M (Out (D) (D)) := fun x128 t120 => liftO (some x128) >>= fun p129 => (((pure t120) >>= fun x146 => ((((pure (.int 0)) >>= fun a139 => ((pure (.int 0)) >>= fun a137 => (((pure tape_here113) >>= fun a131 => (pure (.int 4)) >>= fun a132 => f_law_take a131 a132) >>= fun a135 => ((pure tape_here113) >>= fun a133 => (pure (.int 60)) >>= fun a134 => f_law_take a133 a134) >>= fun a136 => pure [a135, a136]) >>= fun as138 => pure (a137 :: as138)) >>= fun as140 => pure (a139 :: as140)) >>= fun xs141 => lstM xs141) >>= fun x144 => ((pure tape_here113) >>= fun a142 => (pure (.int 4)) >>= fun a143 => f_law_take a142 a143) >>= fun y145 => ixM x144 y145) >>= fun y147 => addM x146 y147) >>= fun low130 => ((((pure low130) >>= fun x149 => (pure (.int 1)) >>= fun y150 => addM x149 y150) >>= fun x153 => ((pure tape_here113) >>= fun a151 => (pure wide115) >>= fun a152 => f_law_take a151 a152) >>= fun y154 => addM x153 y154) >>= fun at148 => (((pure found116) >>= fun x158 => lchk x158 >>= fun _ => (((pure low130) >>= fun a155 => (pure at148) >>= fun a156 => pure [a155, a156]) >>= fun xs157 => tupM xs157) >>= fun y159 => appendM x158 y159) >>= fun _ => (pure (Out.nx at148) : M (Out (D) (D))))))
def b_law_work (tape_here113 : D) (most114 : D) (wide115 : D) : M (Out Unit Empty) := (((pure []) >>= fun xs117 => lstH xs117) >>= fun found116 => (((pure tape_here113) >>= fun a119 => f_law_start a119) >>= fun at118 => ((((pure tape_here113) >>= fun a122 => ((pure most114) >>= fun x123 => (pure (.int 1)) >>= fun y124 => addM x123 y124) >>= fun a125 => f_law_take a122 a125) >>= fun x126 => rng1M [x126]) >>= fun xs127 => obind (forM xs127 (at118 : D) (l_law_work_1 tape_here113 wide115 found116)) (fun s121 => (freezeM found116 >>= fun found160 => (((pure found160) >>= fun x161 => tupleM x161) >>= fun d162 => (pure (Out.ret d162) : M (Out (Unit) (Empty)))))))))
def f_law_work (tape_here113 : D) (most114 : D) (wide115 : D) : M D := defM (b_law_work tape_here113 most114 wide115)
def b_law_no_work (tape_here163 : D) (work_here164 : D) : M (Out Unit Empty) := (((pure work_here164) >>= fun x166 => ((pure (.int 1)) >>= fun x165 => negM x165) >>= fun y167 => ixM x166 y167) >>= fun d168 => liftO ((unpT (uCons some (uCons some uNil))) d168) >>= fun p169 => ((((pure .non) >>= fun a205 => ((pure (.int 5)) >>= fun a203 => ((pure (.str "work")) >>= fun a201 => (((pure work_here164) >>= fun x171 => listM x171) >>= fun a199 => (empM >>= fun a197 => ((pure (.bl true)) >>= fun a195 => ((((pure p169.1) >>= fun a172 => (pure p169.2.1) >>= fun a173 => pure [a172, a173]) >>= fun xs174 => tupM xs174) >>= fun a193 => (((pure work_here164) >>= fun x180 => (((((pure p169.2.1) >>= fun a175 => (pure p169.2.1) >>= fun a176 => pure [a175, a176]) >>= fun xs177 => tupM xs177) >>= fun a178 => pure [a178]) >>= fun xs179 => tupM xs179) >>= fun y181 => addM x180 y181) >>= fun a191 => ((pure work_here164) >>= fun x189 => (((((pure p169.2.1) >>= fun a184 => ((pure p169.2.1) >>= fun x182 => (pure (.int 1)) >>= fun y183 => subM x182 y183) >>= fun a185 => pure [a184, a185]) >>= fun xs186 => tupM xs186) >>= fun a187 => pure [a187]) >>= fun xs188 => tupM xs188) >>= fun y190 => addM x189 y190) >>= fun a192 => pure [a191, a192]) >>= fun as194 => pure (a193 :: as194)) >>= fun as196 => pure (a195 :: as196)) >>= fun as198 => pure (a197 :: as198)) >>= fun as200 => pure (a199 :: as200)) >>= fun as202 => pure (a201 :: as202)) >>= fun as204 => pure (a203 :: as204)) >>= fun as206 => pure (a205 :: as206)) >>= fun xs207 => lstM xs207) >>= fun some170 => (((pure some170) >>= fun x241 => ((((pure work_here164) >>= fun x214 => (((((pure p169.1) >>= fun a209 => (pure p169.2.1) >>= fun a210 => pure [a209, a210]) >>= fun xs211 => tupM xs211) >>= fun a212 => pure [a212]) >>= fun xs213 => tupM xs213) >>= fun y215 => addM x214 y215) >>= fun a238 => (((pure work_here164) >>= fun x225 => ((((((pure p169.2.1) >>= fun x216 => (pure (.int 1)) >>= fun y217 => subM x216 y217) >>= fun a220 => ((pure p169.2.1) >>= fun x218 => (pure (.int 2)) >>= fun y219 => addM x218 y219) >>= fun a221 => pure [a220, a221]) >>= fun xs222 => tupM xs222) >>= fun a223 => pure [a223]) >>= fun xs224 => tupM xs224) >>= fun y226 => addM x225 y226) >>= fun a236 => ((pure work_here164) >>= fun x234 => (((((pure p169.2.1) >>= fun a229 => ((pure p169.2.1) >>= fun x227 => (pure (.int 1)) >>= fun y228 => addM x227 y228) >>= fun a230 => pure [a229, a230]) >>= fun xs231 => lstM xs231) >>= fun a232 => pure [a232]) >>= fun xs233 => tupM xs233) >>= fun y235 => addM x234 y235) >>= fun a237 => pure [a236, a237]) >>= fun as239 => pure (a238 :: as239)) >>= fun xs240 => lstM xs240) >>= fun y242 => addM x241 y242) >>= fun some208 => (((pure some208) >>= fun x272 => ((((pure work_here164) >>= fun x248 => (((((pure p169.2.1) >>= fun a244 => pure [a244]) >>= fun xs245 => tupM xs245) >>= fun a246 => pure [a246]) >>= fun xs247 => tupM xs247) >>= fun y249 => addM x248 y249) >>= fun a269 => (((pure work_here164) >>= fun x261 => (((((pure p169.2.1) >>= fun a256 => (((pure p169.2.1) >>= fun x250 => (pure (.int 1)) >>= fun y251 => addM x250 y251) >>= fun a254 => ((pure p169.2.1) >>= fun x252 => (pure (.int 2)) >>= fun y253 => addM x252 y253) >>= fun a255 => pure [a254, a255]) >>= fun as257 => pure (a256 :: as257)) >>= fun xs258 => tupM xs258) >>= fun a259 => pure [a259]) >>= fun xs260 => tupM xs260) >>= fun y262 => addM x261 y262) >>= fun a267 => ((pure work_here164) >>= fun x265 => (((pure .non) >>= fun a263 => pure [a263]) >>= fun xs264 => tupM xs264) >>= fun y266 => addM x265 y266) >>= fun a268 => pure [a267, a268]) >>= fun as270 => pure (a269 :: as270)) >>= fun xs271 => lstM xs271) >>= fun y273 => addM x272 y273) >>= fun some243 => (((pure some243) >>= fun x292 => ((((pure work_here164) >>= fun x280 => (((((pure p169.2.1) >>= fun a275 => (pure .non) >>= fun a276 => pure [a275, a276]) >>= fun xs277 => tupM xs277) >>= fun a278 => pure [a278]) >>= fun xs279 => tupM xs279) >>= fun y281 => addM x280 y281) >>= fun a289 => ((pure work_here164) >>= fun x287 => (((((pure (.str "a")) >>= fun a282 => (pure (.str "b")) >>= fun a283 => pure [a282, a283]) >>= fun xs284 => tupM xs284) >>= fun a285 => pure [a285]) >>= fun xs286 => tupM xs286) >>= fun y288 => addM x287 y288) >>= fun a290 => pure [a289, a290]) >>= fun xs291 => lstM xs291) >>= fun y293 => addM x292 y293) >>= fun some274 => (((pure some274) >>= fun x346 => (((((((pure (.bl true)) >>= fun a295 => (pure (.int 5)) >>= fun a296 => pure [a295, a296]) >>= fun xs297 => tupM xs297) >>= fun a298 => pure [a298]) >>= fun xs299 => tupM xs299) >>= fun a343 => ((((((pure (.int 0)) >>= fun a300 => (pure (.bl true)) >>= fun a301 => pure [a300, a301]) >>= fun xs302 => tupM xs302) >>= fun a303 => pure [a303]) >>= fun xs304 => tupM xs304) >>= fun a341 => ((((((pure .non) >>= fun a305 => (pure .non) >>= fun a306 => pure [a305, a306]) >>= fun xs307 => tupM xs307) >>= fun a308 => pure [a308]) >>= fun xs309 => tupM xs309) >>= fun a339 => ((((((pure (.int 0)) >>= fun a310 => (pure (.str "1")) >>= fun a311 => pure [a310, a311]) >>= fun xs312 => tupM xs312) >>= fun a313 => pure [a313]) >>= fun xs314 => tupM xs314) >>= fun a337 => ((((((pure (.int 0)) >>= fun a315 => (pure (.int 1)) >>= fun a316 => pure [a315, a316]) >>= fun xs317 => tupM xs317) >>= fun a318 => (pure (.int 5)) >>= fun a319 => pure [a318, a319]) >>= fun xs320 => tupM xs320) >>= fun a335 => ((((pure (.str "01")) >>= fun a321 => pure [a321]) >>= fun xs322 => tupM xs322) >>= fun a333 => (((((pure []) >>= fun xs323 => tupM xs323) >>= fun a324 => pure [a324]) >>= fun xs325 => tupM xs325) >>= fun a331 => (((((pure []) >>= fun xs326 => lstM xs326) >>= fun a327 => pure [a327]) >>= fun xs328 => lstM xs328) >>= fun a329 => (pure (.str "")) >>= fun a330 => pure [a329, a330]) >>= fun as332 => pure (a331 :: as332)) >>= fun as334 => pure (a333 :: as334)) >>= fun as336 => pure (a335 :: as336)) >>= fun as338 => pure (a337 :: as338)) >>= fun as340 => pure (a339 :: as340)) >>= fun as342 => pure (a341 :: as342)) >>= fun as344 => pure (a343 :: as344)) >>= fun xs345 => lstM xs345) >>= fun y347 => addM x346 y347) >>= fun some294 => (((pure some294) >>= fun x376 => (((((((pure (.int 0)) >>= fun a349 => pure [a349]) >>= fun xs350 => tupM xs350) >>= fun a351 => pure [a351]) >>= fun xs352 => tupM xs352) >>= fun a373 => (((((((pure p169.2.1) >>= fun a355 => ((pure p169.2.1) >>= fun x353 => (pure (.int 1)) >>= fun y354 => addM x353 y354) >>= fun a356 => pure [a355, a356]) >>= fun xs357 => tupM xs357) >>= fun a358 => pure [a358]) >>= fun xs359 => tupM xs359) >>= fun x360 => (pure work_here164) >>= fun y361 => addM x360 y361) >>= fun a371 => ((pure work_here164) >>= fun x369 => (((((pure p169.2.1) >>= fun a364 => (((pure (.int 1)) >>= fun a362 => pure [a362]) >>= fun xs363 => lstM xs363) >>= fun a365 => pure [a364, a365]) >>= fun xs366 => tupM xs366) >>= fun a367 => pure [a367]) >>= fun xs368 => tupM xs368) >>= fun y370 => addM x369 y370) >>= fun a372 => pure [a371, a372]) >>= fun as374 => pure (a373 :: as374)) >>= fun xs375 => lstM xs375) >>= fun y377 => addHM x376 y377) >>= fun some348 => (((pure some348) >>= fun x395 => lchk x395 >>= fun _ => ((pure work_here164) >>= fun x393 => ((((((pure p169.2.1) >>= fun x378 => (pure (.int 1)) >>= fun y379 => addM x378 y379) >>= fun a382 => ((pure p169.2.1) >>= fun x380 => (pure (.int 2)) >>= fun y381 => addM x380 y381) >>= fun a383 => pure [a382, a383]) >>= fun xs384 => tupM xs384) >>= fun a390 => (((pure p169.2.1) >>= fun a387 => ((pure p169.2.1) >>= fun x385 => (pure (.int 1)) >>= fun y386 => addM x385 y386) >>= fun a388 => pure [a387, a388]) >>= fun xs389 => tupM xs389) >>= fun a391 => pure [a390, a391]) >>= fun xs392 => tupM xs392) >>= fun y394 => addM x393 y394) >>= fun y396 => appendM x395 y396) >>= fun _ => (freezeM some348 >>= fun some397 => (((pure some397) >>= fun x400 => ((pure tape_here163) >>= fun a398 => (pure (.int 30)) >>= fun a399 => f_law_take a398 a399) >>= fun y401 => ixM x400 y401) >>= fun d402 => (pure (Out.ret d402) : M (Out (Unit) (Empty)))))))))))))
def f_law_no_work (tape_here163 : D) (work_here164 : D) : M D := defM (b_law_no_work tape_here163 work_here164)
def b_is_whole (thing403 : D) : M (Out Unit Empty) := ((((pure thing403) >>= fun x404 => isiM "int" x404) >>= fun x410 => andV x410 (((pure thing403) >>= fun x405 => (pure (.bl true)) >>= fun y406 => isM true x405 y406) >>= fun x409 => andV x409 ((pure thing403) >>= fun x407 => (pure (.bl false)) >>= fun y408 => isM true x407 y408))) >>= fun d411 => (pure (Out.ret d411) : M (Out (Unit) (Empty))))
def f_is_whole (thing403 : D) : M D := defM (b_is_whole thing403)
def b_is_stretch (thing412 : D) : M (Out Unit Empty) := ((((((pure thing412) >>= fun x413 => isiM "tuple" x413) >>= fun x414 => truM x414) >>= fun t415 => pure (!t415)) >>= fun t420 => if t420 = true then pure true else ((((pure thing412) >>= fun x416 => lenM x416) >>= fun x417 => (pure (.int 2)) >>= fun y418 => neM x417 y418) >>= fun b419 => asB b419)) >>= fun t421 => if t421 = true then obind ((pure (.bl false)) >>= fun d422 => (pure (Out.ret d422) : M (Out (Empty) (Empty)))) (fun e => e.elim) else (((((pure thing412) >>= fun x423 => (pure (.int 0)) >>= fun y424 => ixM x423 y424) >>= fun a425 => pcallM (app1 f_is_whole) [a425]) >>= fun x436 => andV x436 ((((pure thing412) >>= fun x426 => (pure (.int 1)) >>= fun y427 => ixM x426 y427) >>= fun a428 => pcallM (app1 f_is_whole) [a428]) >>= fun x435 => andV x435 (((pure thing412) >>= fun x429 => (pure (.int 0)) >>= fun y430 => ixM x429 y430) >>= fun x433 => ((pure thing412) >>= fun x431 => (pure (.int 1)) >>= fun y432 => ixM x431 y432) >>= fun y434 => ltM x433 y434))) >>= fun d437 => (pure (Out.ret d437) : M (Out (Unit) (Empty)))))
def f_is_stretch (thing412 : D) : M D := defM (b_is_stretch thing412)
def c_check_work_1 : D → M (List D) := fun x444 => liftO (some x444) >>= fun p445 => (pure true) >>= fun t446 => if t446 = true then (((pure p445) >>= fun a448 => pcallM (app1 f_is_stretch) [a448]) >>= fun y447 => pure [y447]) else pure []
def l_check_work_2 : D → (Unit) → M (Out (Unit) (Unit)) := fun x463 t454 => liftO ((unpT (uCons some (uCons some uNil))) x463) >>= fun p464 => (((((pure p464.2.1) >>= fun x465 => (pure (.int 0)) >>= fun y466 => ixM x465 y466) >>= fun x469 => ((pure p464.1) >>= fun x467 => (pure (.int 1)) >>= fun y468 => ixM x467 y468) >>= fun y470 => ltM x469 y470) >>= fun b471 => asB b471) >>= fun t472 => if t472 = true then obind (throwM "BadWork" : M (Out (Empty) (Unit))) (fun e => e.elim) else (pure (Out.nx ()) : M (Out (Unit) (Unit))))
def b_check_work (work438 : D) : M (Out Unit Empty) := ((((((pure work438) >>= fun x439 => isiM "tuple" x439) >>= fun x440 => truM x440) >>= fun t441 => pure (!t441)) >>= fun t452 => if t452 = true then pure true else ((((((pure work438) >>= fun x442 => itemsM x442) >>= fun xs443 => lcM xs443 c_check_work_1) >>= fun x449 => allM x449) >>= fun x450 => truM x450) >>= fun t451 => pure (!t451))) >>= fun t453 => if t453 = true then obind (throwM "BadWork" : M (Out (Empty) (Empty))) (fun e => e.elim) else (((pure work438) >>= fun x460 => ((pure work438) >>= fun x457 => ((pure (.int 1)) >>= fun x456 => asI x456) >>= fun l458 => (pure none) >>= fun u459 => sliceM x457 l458 u459) >>= fun y461 => zipM [x460, y461]) >>= fun xs462 => obind (forM xs462 (() : Unit) l_check_work_2) (fun s455 => (pure (Out.nx ()) : M (Out (Unit) (Empty))))))
def f_check_work (work438 : D) : M D := defM (b_check_work work438)
def b_Sheet___init__ (self473 : D) (work474 : D) : M (Out Unit Empty) := (((pure work474) >>= fun a475 => pcallM (app1 f_check_work) [a475]) >>= fun _ => ((pure work474) >>= fun v476 => (pure self473) >>= fun x477 => setFM tabC "work" x477 v476 >>= fun _ => ((newM (.dk [])) >>= fun v478 => (pure self473) >>= fun x479 => setFM tabC "by_place" x479 v478 >>= fun _ => (((pure []) >>= fun xs480 => tupM xs480) >>= fun v481 => (pure self473) >>= fun x482 => setFM tabC "laid" x482 v481 >>= fun _ => (pure (Out.nx ()) : M (Out (Unit) (Empty)))))))
def f_Sheet___init__ (self473 : D) (work474 : D) : M D := defM (b_Sheet___init__ self473 work474)
def l_law_places_1 (found484 : D) : D → (Unit) → M (Out (Unit) (Unit)) := fun x490 t486 => liftO ((unpT (uCons some (uCons some uNil))) x490) >>= fun p491 => (((pure found484) >>= fun x494 => lchk x494 >>= fun _ => ((pure p491.1) >>= fun x492 => (pure p491.2.1) >>= fun y493 => lrgM .lst x492 y493) >>= fun y495 => extendM x494 y495) >>= fun _ => (pure (Out.nx ()) : M (Out (Unit) (Unit))))
def b_law_places (work_here483 : D) : M (Out Unit Empty) := (((pure []) >>= fun xs485 => lstH xs485) >>= fun found484 => (((pure work_here483) >>= fun x488 => itemsM x488) >>= fun xs489 => obind (forM xs489 (() : Unit) (l_law_places_1 found484)) (fun s487 => (freezeM found484 >>= fun found496 => ((pure found496) >>= fun d497 => (pure (Out.ret d497) : M (Out (Unit) (Empty))))))))
def f_law_places (work_here483 : D) : M D := defM (b_law_places work_here483)
def l_laid_together_1 (found499 : D) : D → (Unit) → M (Out (Unit) (Unit)) := fun x505 t501 => liftO ((unpT (uCons some (uCons some uNil))) x505) >>= fun p506 => (((((pure found499) >>= fun x508 => ((pure []) >>= fun xs507 => lstM xs507) >>= fun y509 => neM x508 y509) >>= fun b510 => asB b510) >>= fun t519 => if t519 = true then (((pure p506.1) >>= fun x516 => (((pure found499) >>= fun x512 => ((pure (.int 1)) >>= fun x511 => negM x511) >>= fun y513 => ixM x512 y513) >>= fun x514 => (pure (.int 1)) >>= fun y515 => ixM x514 y515) >>= fun y517 => leM x516 y517) >>= fun b518 => asB b518) else pure false) >>= fun t520 => obind ((if t520 = true then ((((((pure found499) >>= fun x522 => ((pure (.int 1)) >>= fun x521 => negM x521) >>= fun y523 => ixM x522 y523) >>= fun x524 => (pure (.int 0)) >>= fun y525 => ixM x524 y525) >>= fun a533 => ((((pure found499) >>= fun x527 => ((pure (.int 1)) >>= fun x526 => negM x526) >>= fun y528 => ixM x527 y528) >>= fun x529 => (pure (.int 1)) >>= fun y530 => ixM x529 y530) >>= fun x531 => (pure p506.2.1) >>= fun y532 => maxM x531 y532) >>= fun a534 => pure [a533, a534]) >>= fun xs535 => tupM xs535) >>= fun v537 => (pure found499) >>= fun x538 => ((pure (.int 1)) >>= fun x536 => negM x536) >>= fun y539 => setIxM x538 y539 v537 >>= fun _ => (pure (Out.nx ()) : M (Out (Unit) (Unit)))) else (((pure found499) >>= fun x543 => lchk x543 >>= fun _ => (((pure p506.1) >>= fun a540 => (pure p506.2.1) >>= fun a541 => pure [a540, a541]) >>= fun xs542 => tupM xs542) >>= fun y544 => appendM x543 y544) >>= fun _ => (pure (Out.nx ()) : M (Out (Unit) (Unit))))) : M (Out (Unit) (Unit))) (fun s545 => (pure (Out.nx ()) : M (Out (Unit) (Unit)))))
def b_laid_together (stretches498 : D) : M (Out Unit Empty) := (((pure []) >>= fun xs500 => lstH xs500) >>= fun found499 => (((pure stretches498) >>= fun x503 => itemsM x503) >>= fun xs504 => obind (forM xs504 (() : Unit) (l_laid_together_1 found499)) (fun s502 => (freezeM found499 >>= fun found546 => (((pure found546) >>= fun x547 => tupleM x547) >>= fun d548 => (pure (Out.ret d548) : M (Out (Unit) (Empty))))))))
def f_laid_together (stretches498 : D) : M D := defM (b_laid_together stretches498)
def b_either (one549 : D) (other550 : D) : M (Out Unit Empty) := (((((pure one549) >>= fun x551 => (pure other550) >>= fun y552 => addM x551 y552) >>= fun x553 => sortedM x553) >>= fun a554 => pcallM (app1 f_laid_together) [a554]) >>= fun d555 => (pure (Out.ret d555) : M (Out (Unit) (Empty))))
def f_either (one549 : D) (other550 : D) : M D := defM (b_either one549 other550)
def l_without_1 (p565 : D × D × Unit) (found558 : D) : D → (D) → M (Out (D) (D)) := fun x571 t567 => liftO ((unpT (uCons some (uCons some uNil))) x571) >>= fun p572 => (((((pure p572.1) >>= fun x573 => (pure p565.2.1) >>= fun y574 => ltM x573 y574) >>= fun b575 => asB b575) >>= fun t579 => if t579 = true then (((pure t567) >>= fun x576 => (pure p572.2.1) >>= fun y577 => ltM x576 y577) >>= fun b578 => asB b578) else pure false) >>= fun t580 => obind ((if t580 = true then ((((pure t567) >>= fun x581 => (pure p572.1) >>= fun y582 => ltM x581 y582) >>= fun b583 => asB b583) >>= fun t584 => obind ((if t584 = true then (((pure found558) >>= fun x588 => lchk x588 >>= fun _ => (((pure t567) >>= fun a585 => (pure p572.1) >>= fun a586 => pure [a585, a586]) >>= fun xs587 => tupM xs587) >>= fun y589 => appendM x588 y589) >>= fun _ => (pure (Out.nx ()) : M (Out (Unit) (D)))) else (pure (Out.nx ()) : M (Out (Unit) (D)))) : M (Out (Unit) (D))) (fun s590 => ((pure p572.2.1) >>= fun at591 => (pure (Out.nx at591) : M (Out (D) (D)))))) else (pure (Out.nx t567) : M (Out (D) (D)))) : M (Out (D) (D))) (fun s592 => (pure (Out.nx s592) : M (Out (D) (D)))))
def l_without_2 (other557 : D) (found558 : D) : D → (Unit) → M (Out (Unit) (Unit)) := fun x564 t560 => liftO ((unpT (uCons some (uCons some uNil))) x564) >>= fun p565 => ((pure p565.1) >>= fun at566 => (((pure other557) >>= fun x569 => itemsM x569) >>= fun xs570 => obind (forM xs570 (at566 : D) (l_without_1 p565 found558)) (fun s568 => ((((pure s568) >>= fun x593 => (pure p565.2.1) >>= fun y594 => ltM x593 y594) >>= fun b595 => asB b595) >>= fun t596 => obind ((if t596 = true then (((pure found558) >>= fun x600 => lchk x600 >>= fun _ => (((pure s568) >>= fun a597 => (pure p565.2.1) >>= fun a598 => pure [a597, a598]) >>= fun xs599 => tupM xs599) >>= fun y601 => appendM x600 y601) >>= fun _ => (pure (Out.nx ()) : M (Out (Unit) (Unit)))) else (pure (Out.nx ()) : M (Out (Unit) (Unit)))) : M (Out (Unit) (Unit))) (fun s602 => (pure (Out.nx ()) : M (Out (Unit) (Unit))))))))
def b_without (one556 : D) (other557 : D) : M (Out Unit Empty) := (((pure []) >>= fun xs559 => lstH xs559) >>= fun found558 => (((pure one556) >>= fun x562 => itemsM x562) >>= fun xs563 => obind (forM xs563 (() : Unit) (l_without_2 other557 found558)) (fun s561 => (freezeM found558 >>= fun found603 => (((pure found603) >>= fun a604 => pcallM (app1 f_laid_together) [a604]) >>= fun d605 => (pure (Out.ret d605) : M (Out (Unit) (Empty))))))))
def f_without (one556 : D) (other557 : D) : M D := defM (b_without one556 other557)
def l_both_1 (p615 : D × D × Unit) (found608 : D) : D → (Unit) → M (Out (Unit) (Unit)) := fun x620 t616 => liftO ((unpT (uCons some (uCons some uNil))) x620) >>= fun p621 => (((((pure p621.1) >>= fun x622 => (pure p615.2.1) >>= fun y623 => ltM x622 y623) >>= fun b624 => asB b624) >>= fun t628 => if t628 = true then (((pure p615.1) >>= fun x625 => (pure p621.2.1) >>= fun y626 => ltM x625 y626) >>= fun b627 => asB b627) else pure false) >>= fun t629 => obind ((if t629 = true then (((pure found608) >>= fun x637 => lchk x637 >>= fun _ => ((((pure p615.1) >>= fun x630 => (pure p621.1) >>= fun y631 => maxM x630 y631) >>= fun a634 => ((pure p615.2.1) >>= fun x632 => (pure p621.2.1) >>= fun y633 => minM x632 y633) >>= fun a635 => pure [a634, a635]) >>= fun xs636 => tupM xs636) >>= fun y638 => appendM x637 y638) >>= fun _ => (pure (Out.nx ()) : M (Out (Unit) (Unit)))) else (pure (Out.nx ()) : M (Out (Unit) (Unit)))) : M (Out (Unit) (Unit))) (fun s639 => (pure (Out.nx ()) : M (Out (Unit) (Unit)))))
def l_both_2 (other607 : D) (found608 : D) : D → (Unit) → M (Out (Unit) (Unit)) := fun x614 t610 => liftO ((unpT (uCons some (uCons some uNil))) x614) >>= fun p615 => (((pure other607) >>= fun x618 => itemsM x618) >>= fun xs619 => obind (forM xs619 (() : Unit) (l_both_1 p615 found608)) (fun s617 => (pure (Out.nx ()) : M (Out (Unit) (Unit)))))
def b_both (one606 : D) (other607 : D) : M (Out Unit Empty) := (((pure []) >>= fun xs609 => lstH xs609) >>= fun found608 => (((pure one606) >>= fun x612 => itemsM x612) >>= fun xs613 => obind (forM xs613 (() : Unit) (l_both_2 other607 found608)) (fun s611 => (freezeM found608 >>= fun found640 => (((pure found640) >>= fun a641 => pcallM (app1 f_laid_together) [a641]) >>= fun d642 => (pure (Out.ret d642) : M (Out (Unit) (Empty))))))))
def f_both (one606 : D) (other607 : D) : M D := defM (b_both one606 other607)
def c_Sheet_lay_1 : D → M (List D) := fun x654 => liftO (some x654) >>= fun p655 => (pure true) >>= fun t656 => if t656 = true then (((pure p655) >>= fun a658 => pcallM (app1 f_is_whole) [a658]) >>= fun y657 => pure [y657]) else pure []
def l_Sheet_lay_2 (self643 : D) (place644 : D) : D → (Unit) → M (Out (Unit) (Unit)) := fun x699 t695 => liftO ((unpT (uCons some (uCons some uNil))) x699) >>= fun p700 => ((pure p700.2.1) >>= fun v704 => ((pure self643) >>= fun x701 => fldM tabC "by_place" x701) >>= fun x705 => ((pure place644) >>= fun x702 => (pure p700.1) >>= fun y703 => addM x702 y703) >>= fun y706 => dputM x705 y706 v704 >>= fun _ => (pure (Out.nx ()) : M (Out (Unit) (Unit))))
def b_Sheet_lay (self643 : D) (place644 : D) (numbers645 : D) : M (Out Unit Empty) := ((((((pure place644) >>= fun a646 => pcallM (app1 f_is_whole) [a646]) >>= fun x647 => truM x647) >>= fun t648 => pure (!t648)) >>= fun t663 => if t663 = true then pure true else (((((pure numbers645) >>= fun x649 => isiM "tuple" x649) >>= fun x650 => truM x650) >>= fun t651 => pure (!t651)) >>= fun t662 => if t662 = true then pure true else ((((((pure numbers645) >>= fun x652 => itemsM x652) >>= fun xs653 => lcM xs653 c_Sheet_lay_1) >>= fun x659 => allM x659) >>= fun x660 => truM x660) >>= fun t661 => pure (!t661)))) >>= fun t664 => if t664 = true then obind (throwM "BadPlace" : M (Out (Empty) (Empty))) (fun e => e.elim) else ((((pure numbers645) >>= fun x666 => ((pure []) >>= fun xs665 => tupM xs665) >>= fun y667 => eqM x666 y667) >>= fun b668 => asB b668) >>= fun t669 => if t669 = true then obind (pure (Out.ret .non) : M (Out (Empty) (Empty))) (fun e => e.elim) else ((((((pure place644) >>= fun a674 => ((pure place644) >>= fun x672 => ((pure numbers645) >>= fun x671 => lenM x671) >>= fun y673 => addM x672 y673) >>= fun a675 => pure [a674, a675]) >>= fun xs676 => tupM xs676) >>= fun a677 => pure [a677]) >>= fun xs678 => tupM xs678) >>= fun here670 => (((((pure here670) >>= fun a679 => ((pure self643) >>= fun x680 => fldM tabC "work" x680) >>= fun a681 => pcallM (app2 f_without) [a679, a681]) >>= fun x683 => ((pure []) >>= fun xs682 => tupM xs682) >>= fun y684 => neM x683 y684) >>= fun b685 => asB b685) >>= fun t686 => if t686 = true then obind (throwM "BadPlace" : M (Out (Empty) (Empty))) (fun e => e.elim) else (((((pure here670) >>= fun a687 => ((pure self643) >>= fun x688 => fldM tabC "laid" x688) >>= fun a689 => pcallM (app2 f_both) [a687, a689]) >>= fun x691 => ((pure []) >>= fun xs690 => tupM xs690) >>= fun y692 => neM x691 y692) >>= fun b693 => asB b693) >>= fun t694 => if t694 = true then obind (throwM "Twice" : M (Out (Empty) (Empty))) (fun e => e.elim) else (((pure numbers645) >>= fun x697 => enumM x697) >>= fun xs698 => obind (forM xs698 (() : Unit) (l_Sheet_lay_2 self643 place644)) (fun s696 => ((((pure self643) >>= fun x707 => fldM tabC "laid" x707) >>= fun a708 => (pure here670) >>= fun a709 => pcallM (app2 f_either) [a708, a709]) >>= fun v710 => (pure self643) >>= fun x711 => setFM tabC "laid" x711 v710 >>= fun _ => (pure (Out.nx ()) : M (Out (Unit) (Empty)))))))))))
def f_Sheet_lay (self643 : D) (place644 : D) (numbers645 : D) : M D := defM (b_Sheet_lay self643 place644 numbers645)
def c_Sheet_all_results_1 (self712 : D) : D → M (List D) := fun x723 => liftO (some x723) >>= fun p724 => (pure true) >>= fun t725 => if t725 = true then ((((pure self712) >>= fun x727 => fldM tabC "by_place" x727) >>= fun x728 => (pure p724) >>= fun y729 => dgetM x728 y729) >>= fun y726 => pure [y726]) else pure []
def c_Sheet_all_results_2 (self712 : D) : D → M (List D) := fun x716 => liftO ((unpT (uCons some (uCons some uNil))) x716) >>= fun p717 => (pure true) >>= fun t718 => if t718 = true then ((((pure p717.1) >>= fun a731 => ((((pure p717.1) >>= fun x720 => (pure p717.2.1) >>= fun y721 => rng2M [x720, y721]) >>= fun xs722 => lcM xs722 (c_Sheet_all_results_1 self712)) >>= fun x730 => tupleM x730) >>= fun a732 => pure [a731, a732]) >>= fun xs733 => tupM xs733) >>= fun y719 => pure [y719]) else pure []
def b_Sheet_all_results (self712 : D) : M (Out Unit Empty) := (((((pure self712) >>= fun x713 => fldM tabC "laid" x713) >>= fun x714 => itemsM x714) >>= fun xs715 => lcHM xs715 (c_Sheet_all_results_2 self712)) >>= fun d734 => (pure (Out.ret d734) : M (Out (Unit) (Empty))))
def f_Sheet_all_results (self712 : D) : M D := defM (b_Sheet_all_results self712)
def b_Sheet_left_work (self735 : D) : M (Out Unit Empty) := ((((pure self735) >>= fun x736 => fldM tabC "work" x736) >>= fun a737 => ((pure self735) >>= fun x738 => fldM tabC "laid" x738) >>= fun a739 => pcallM (app2 f_without) [a737, a739]) >>= fun d740 => (pure (Out.ret d740) : M (Out (Unit) (Empty))))
def f_Sheet_left_work (self735 : D) : M D := defM (b_Sheet_left_work self735)
def b_law_spoilt (sheet741 : D) : M (Out Unit Empty) := (((pure sheet741) >>= fun x743 => mchkM "Sheet" "all_results" x743 >>= fun _ => app1 f_Sheet_all_results [x743]) >>= fun some742 => (((pure some742) >>= fun x749 => lchk x749 >>= fun _ => (((pure (.int 0)) >>= fun a746 => (((pure (.int 1)) >>= fun a744 => pure [a744]) >>= fun xs745 => tupM xs745) >>= fun a747 => pure [a746, a747]) >>= fun xs748 => tupM xs748) >>= fun y750 => appendM x749 y750) >>= fun _ => (((pure some742) >>= fun x751 => lchk x751 >>= fun _ => reverseM x751) >>= fun _ => ((((((pure sheet741) >>= fun x752 => mchkM "Sheet" "all_results" x752 >>= fun _ => app1 f_Sheet_all_results [x752]) >>= fun d753 => freezeM d753) >>= fun a755 => ((pure sheet741) >>= fun x754 => mchkM "Sheet" "left_work" x754 >>= fun _ => app1 f_Sheet_left_work [x754]) >>= fun a756 => pure [a755, a756]) >>= fun xs757 => tupM xs757) >>= fun d758 => (pure (Out.ret d758) : M (Out (Unit) (Empty)))))))
def f_law_spoilt (sheet741 : D) : M D := defM (b_law_spoilt sheet741)
def b_Sheet_result_at (self759 : D) (place760 : D) : M (Out Unit Empty) := (((((pure place760) >>= fun a761 => pcallM (app1 f_is_whole) [a761]) >>= fun x762 => truM x762) >>= fun t763 => pure (!t763)) >>= fun t764 => if t764 = true then obind ((pure .non) >>= fun d765 => (pure (Out.ret d765) : M (Out (Empty) (Empty)))) (fun e => e.elim) else ((((pure self759) >>= fun x766 => fldM tabC "by_place" x766) >>= fun x767 => dchk x767 >>= fun _ => (pure place760) >>= fun y768 => dget1M x767 y768) >>= fun d769 => (pure (Out.ret d769) : M (Out (Unit) (Empty)))))
def f_Sheet_result_at (self759 : D) (place760 : D) : M D := defM (b_Sheet_result_at self759 place760)
def b_law_cell_at (script770 : D) (at771 : D) : M (Out Unit Empty) := ((((pure at771) >>= fun x773 => ((pure script770) >>= fun x772 => lenM x772) >>= fun y774 => ltM x773 y774) >>= fun b775 => asB b775) >>= fun t776 => if t776 = true then obind (((pure script770) >>= fun x777 => (pure at771) >>= fun y778 => ixM x777 y778) >>= fun d779 => (pure (Out.ret d779) : M (Out (Empty) (Empty)))) (fun e => e.elim) else ((pure (.int 0)) >>= fun d780 => (pure (Out.ret d780) : M (Out (Unit) (Empty)))))
def f_law_cell_at (script770 : D) (at771 : D) : M D := defM (b_law_cell_at script770 at771)
def b_law_bad (tape_here781 : D) (place782 : D) : M (Out Unit Empty) := (((((pure .non) >>= fun a798 => ((pure (.bl true)) >>= fun a796 => ((pure (.str "0")) >>= fun a794 => ((((pure place782) >>= fun a784 => pure [a784]) >>= fun xs785 => lstM xs785) >>= fun a792 => ((((pure place782) >>= fun a786 => pure [a786]) >>= fun xs787 => tupM xs787) >>= fun a790 => ((pure (.bl false)) >>= fun a788 => empM >>= fun a789 => pure [a788, a789]) >>= fun as791 => pure (a790 :: as791)) >>= fun as793 => pure (a792 :: as793)) >>= fun as795 => pure (a794 :: as795)) >>= fun as797 => pure (a796 :: as797)) >>= fun as799 => pure (a798 :: as799)) >>= fun xs800 => lstM xs800) >>= fun x803 => ((pure tape_here781) >>= fun a801 => (pure (.int 7)) >>= fun a802 => f_law_take a801 a802) >>= fun y804 => ixM x803 y804) >>= fun odd783 => (((((((pure (.int 1)) >>= fun a806 => pure [a806]) >>= fun xs807 => lstM xs807) >>= fun a843 => ((pure .non) >>= fun a841 => ((((pure (.bl true)) >>= fun a808 => pure [a808]) >>= fun xs809 => tupM xs809) >>= fun a839 => ((((pure (.int 1)) >>= fun a810 => (pure .non) >>= fun a811 => pure [a810, a811]) >>= fun xs812 => tupM xs812) >>= fun a837 => ((pure (.str "12")) >>= fun a835 => ((((pure (.str "1")) >>= fun a813 => pure [a813]) >>= fun xs814 => tupM xs814) >>= fun a833 => ((((((pure (.int 1)) >>= fun a815 => pure [a815]) >>= fun xs816 => tupM xs816) >>= fun a817 => pure [a817]) >>= fun xs818 => tupM xs818) >>= fun a831 => (empM >>= fun a829 => ((pure (.int 5)) >>= fun a827 => (((pure []) >>= fun xs819 => lstM xs819) >>= fun a825 => ((((pure (.int 1)) >>= fun a820 => (pure (.bl false)) >>= fun a821 => pure [a820, a821]) >>= fun xs822 => tupM xs822) >>= fun a823 => (pure (.str "")) >>= fun a824 => pure [a823, a824]) >>= fun as826 => pure (a825 :: as826)) >>= fun as828 => pure (a827 :: as828)) >>= fun as830 => pure (a829 :: as830)) >>= fun as832 => pure (a831 :: as832)) >>= fun as834 => pure (a833 :: as834)) >>= fun as836 => pure (a835 :: as836)) >>= fun as838 => pure (a837 :: as838)) >>= fun as840 => pure (a839 :: as840)) >>= fun as842 => pure (a841 :: as842)) >>= fun as844 => pure (a843 :: as844)) >>= fun xs845 => lstM xs845) >>= fun x848 => ((pure tape_here781) >>= fun a846 => (pure (.int 12)) >>= fun a847 => f_law_take a846 a847) >>= fun y849 => ixM x848 y849) >>= fun bad_here805 => (((((((pure odd783) >>= fun a852 => (((pure (.int 1)) >>= fun a850 => pure [a850]) >>= fun xs851 => tupM xs851) >>= fun a853 => pure [a852, a853]) >>= fun xs854 => tupM xs854) >>= fun a869 => ((((pure place782) >>= fun a855 => (pure bad_here805) >>= fun a856 => pure [a855, a856]) >>= fun xs857 => tupM xs857) >>= fun a867 => ((((pure odd783) >>= fun a858 => (pure bad_here805) >>= fun a859 => pure [a858, a859]) >>= fun xs860 => tupM xs860) >>= fun a865 => (((pure odd783) >>= fun a862 => ((pure []) >>= fun xs861 => tupM xs861) >>= fun a863 => pure [a862, a863]) >>= fun xs864 => tupM xs864) >>= fun a866 => pure [a865, a866]) >>= fun as868 => pure (a867 :: as868)) >>= fun as870 => pure (a869 :: as870)) >>= fun xs871 => lstM xs871) >>= fun x874 => ((pure tape_here781) >>= fun a872 => (pure (.int 4)) >>= fun a873 => f_law_take a872 a873) >>= fun y875 => ixM x874 y875) >>= fun d876 => (pure (Out.ret d876) : M (Out (Unit) (Empty))))))
def f_law_bad (tape_here781 : D) (place782 : D) : M D := defM (b_law_bad tape_here781 place782)
def h_law_word_1 : Str → M (Out (D) (Empty)) := fun z881 => ((((isEZ isE "BadWork" z881) >>= fun a902 => ((isEZ isE "BadPlace" z881) >>= fun a900 => (isEZ isE "Twice" z881) >>= fun a901 => pure [a900, a901]) >>= fun as903 => pure (a902 :: as903)) >>= fun xs904 => lstM xs904) >>= fun some899 => ((isEO (orO (isE z881 "BadBound") (orO (isE z881 "BadCut") (orO (isE z881 "BadJoin") (orO (isE z881 "BadLine") (orO (isE z881 "BadMoment") (orO (isE z881 "BadPlan") (orO (isE z881 "BadTelling") (orO (isE z881 "BadWorker") (orO (isE z881 "Down") (some false))))))))))) >>= fun others905 => (((pure others905) >>= fun x907 => orV x907 (isEO (orO (isE z881 "Fallen") (orO (isE z881 "Lost") (orO (isE z881 "NoBook") (orO (isE z881 "NoLending") (orO (isE z881 "NoLine") (orO (isE z881 "NoPiece") (orO (isE z881 "NoText") (orO (isE z881 "Otherwise") (some false))))))))))) >>= fun others906 => ((pure (.str "other")) >>= fun word_here908 => ((((((pure some899) >>= fun x909 => lchk x909 >>= fun _ => (pure (.bl true)) >>= fun y910 => countBM x909 y910) >>= fun x911 => (pure (.int 1)) >>= fun y912 => eqM x911 y912) >>= fun b913 => asB b913) >>= fun t918 => if t918 = true then (((isEZ isE "ValueError" z881) >>= fun x914 => truM x914) >>= fun t917 => if t917 = true then (((pure others906) >>= fun x915 => truM x915) >>= fun t916 => pure (!t916)) else pure false) else pure false) >>= fun t919 => obind ((if t919 = true then (((((pure (.str "work")) >>= fun a923 => ((pure (.str "place")) >>= fun a921 => (pure (.str "twice")) >>= fun a922 => pure [a921, a922]) >>= fun as924 => pure (a923 :: as924)) >>= fun xs925 => lstM xs925) >>= fun x928 => ((pure some899) >>= fun x926 => lchk x926 >>= fun _ => (pure (.bl true)) >>= fun y927 => indexBM x926 y927) >>= fun y929 => ixM x928 y929) >>= fun word_here920 => (pure (Out.nx word_here920) : M (Out (D) (Empty)))) else (pure (Out.nx word_here908) : M (Out (D) (Empty)))) : M (Out (D) (Empty))) (fun s930 => (pure (Out.nx s930) : M (Out (D) (Empty)))))))))
def b_law_word (way877 : D) (first878 : D) (second879 : D) : M (Out Unit Empty) := ((pure (.str "told")) >>= fun word_here880 => (obind ((tryM (fun z => isE z "LentError") ((((pure way877) >>= fun x882 => (pure (.int 0)) >>= fun y883 => eqOM "Sheet" x882 y883) >>= fun b884 => asB b884) >>= fun t885 => obind ((if t885 = true then ((((pure first878) >>= fun a886 => pure [a886]) >>= fun as887 => makeM "Sheet" (app2 f_Sheet___init__) as887) >>= fun _ => (pure (Out.nx ()) : M (Out (Unit) (Empty)))) else ((((pure way877) >>= fun x888 => (pure (.int 1)) >>= fun y889 => eqOM "Sheet" x888 y889) >>= fun b890 => asB b890) >>= fun t891 => obind ((if t891 = true then (((pure first878) >>= fun a892 => pcallM (app1 f_check_work) [a892]) >>= fun _ => (pure (Out.nx ()) : M (Out (Unit) (Empty)))) else (((pure way877) >>= fun x893 => mchkM "Sheet" "lay" x893 >>= fun _ => ((pure first878) >>= fun a894 => (pure second879) >>= fun a895 => pure [a894, a895]) >>= fun as896 => app3 f_Sheet_lay (x893 :: as896)) >>= fun _ => (pure (Out.nx ()) : M (Out (Unit) (Empty))))) : M (Out (Unit) (Empty))) (fun s897 => (pure (Out.nx ()) : M (Out (Unit) (Empty)))))) : M (Out (Unit) (Empty))) (fun s898 => (pure (Out.nx word_here880) : M (Out (D) (Empty))))) h_law_word_1) : M (Out (D) (Empty))) (fun s931 => ((pure s931) >>= fun d932 => (pure (Out.ret d932) : M (Out (Unit) (Empty)))))))
def f_law_word (way877 : D) (first878 : D) (second879 : D) : M D := defM (b_law_word way877 first878 second879)
def l_law_1 (sheet993 : D) : D → (Unit) → M (Out (Unit) (Unit)) := fun x1111 t1085 => liftO (some x1111) >>= fun p1112 => (((((pure sheet993) >>= fun x1113 => mchkM "Sheet" "result_at" x1113 >>= fun _ => ((pure p1112) >>= fun a1114 => pure [a1114]) >>= fun as1115 => app2 f_Sheet_result_at (x1113 :: as1115)) >>= fun x1116 => (pure .non) >>= fun y1117 => isM true x1116 y1117) >>= fun b1118 => asB b1118) >>= fun t1119 => if t1119 = true then obind ((pure (.bl false)) >>= fun d1120 => (pure (Out.ret d1120) : M (Out (Empty) (Unit)))) (fun e => e.elim) else (pure (Out.nx ()) : M (Out (Unit) (Unit))))
def l_law_2 (tape_here951 : D) (sheet993 : D) (seen1006 : D) : D → (Unit) → M (Out (Unit) (Unit)) := fun x1026 t1008 => liftO (some x1026) >>= fun p1027 => (((pure tape_here951) >>= fun a1028 => (pure p1027) >>= fun a1029 => f_law_bad a1028 a1029) >>= fun d1030 => liftO ((unpT (uCons some (uCons some uNil))) d1030) >>= fun p1031 => ((((((pure sheet993) >>= fun a1032 => (pure p1031.1) >>= fun a1033 => (pure p1031.2.1) >>= fun a1034 => f_law_word a1032 a1033 a1034) >>= fun x1035 => (pure (.str "place")) >>= fun y1036 => neM x1035 y1036) >>= fun b1037 => asB b1037) >>= fun t1042 => if t1042 = true then pure true else ((((pure sheet993) >>= fun a1038 => f_law_spoilt a1038) >>= fun x1039 => (pure seen1006) >>= fun y1040 => neM x1039 y1040) >>= fun b1041 => asB b1041)) >>= fun t1043 => if t1043 = true then obind ((pure (.bl false)) >>= fun d1044 => (pure (Out.ret d1044) : M (Out (Empty) (Unit)))) (fun e => e.elim) else ((((((pure sheet993) >>= fun x1045 => mchkM "Sheet" "lay" x1045 >>= fun _ => ((pure p1027) >>= fun a1047 => ((pure []) >>= fun xs1046 => tupM xs1046) >>= fun a1048 => pure [a1047, a1048]) >>= fun as1049 => app3 f_Sheet_lay (x1045 :: as1049)) >>= fun x1050 => (pure .non) >>= fun y1051 => isM true x1050 y1051) >>= fun b1052 => asB b1052) >>= fun t1065 => if t1065 = true then pure true else ((((pure sheet993) >>= fun x1053 => mchkM "Sheet" "lay" x1053 >>= fun _ => (((pure p1027) >>= fun x1056 => ((pure (.int 10)) >>= fun x1054 => (pure (.int 9)) >>= fun y1055 => powM x1054 y1055) >>= fun y1057 => subM x1056 y1057) >>= fun a1059 => ((pure []) >>= fun xs1058 => tupM xs1058) >>= fun a1060 => pure [a1059, a1060]) >>= fun as1061 => app3 f_Sheet_lay (x1053 :: as1061)) >>= fun x1062 => (pure .non) >>= fun y1063 => isM true x1062 y1063) >>= fun b1064 => asB b1064)) >>= fun t1066 => if t1066 = true then obind ((pure (.bl false)) >>= fun d1067 => (pure (Out.ret d1067) : M (Out (Empty) (Unit)))) (fun e => e.elim) else (pure (Out.nx ()) : M (Out (Unit) (Unit))))))
def l_law_3 : D → (Option D × Option D) → M (Out (Option D × Option D) (Option D × Option D)) := fun x949 t934 => liftO (some x949) >>= fun p950 => (((pure p950) >>= fun a952 => f_law_tape a952) >>= fun tape_here951 => (((pure tape_here951) >>= fun a954 => (pure (.int 4)) >>= fun a955 => (pure (.int 6)) >>= fun a956 => f_law_work a954 a955 a956) >>= fun work_here953 => ((((pure work_here953) >>= fun x958 => ((pure []) >>= fun xs957 => tupM xs957) >>= fun y959 => eqM x958 y959) >>= fun b960 => asB b960) >>= fun t961 => obind ((if t961 = true then ((((((pure (.int 3)) >>= fun a963 => (pure (.int 9)) >>= fun a964 => pure [a963, a964]) >>= fun xs965 => tupM xs965) >>= fun a966 => pure [a966]) >>= fun xs967 => tupM xs967) >>= fun work_here962 => (pure (Out.nx work_here962) : M (Out (D) (Option D × Option D)))) else (pure (Out.nx work_here953) : M (Out (D) (Option D × Option D)))) : M (Out (D) (Option D × Option D))) (fun s968 => (((pure tape_here951) >>= fun a970 => (pure s968) >>= fun a971 => f_law_no_work a970 a971) >>= fun thing969 => ((((((pure (.int 0)) >>= fun a972 => (pure thing969) >>= fun a973 => (pure .non) >>= fun a974 => f_law_word a972 a973 a974) >>= fun x975 => (pure (.str "work")) >>= fun y976 => neM x975 y976) >>= fun b977 => asB b977) >>= fun t984 => if t984 = true then pure true else ((((pure (.int 1)) >>= fun a978 => (pure thing969) >>= fun a979 => (pure .non) >>= fun a980 => f_law_word a978 a979 a980) >>= fun x981 => (pure (.str "work")) >>= fun y982 => neM x981 y982) >>= fun b983 => asB b983)) >>= fun t985 => if t985 = true then obind ((pure (.bl false)) >>= fun d986 => (pure (Out.ret d986) : M (Out (Empty) (Option D × Option D)))) (fun e => e.elim) else (((((pure s968) >>= fun a987 => pcallM (app1 f_check_work) [a987]) >>= fun x988 => (pure .non) >>= fun y989 => isM true x988 y989) >>= fun b990 => asB b990) >>= fun t991 => if t991 = true then obind ((pure (.bl false)) >>= fun d992 => (pure (Out.ret d992) : M (Out (Empty) (Option D × Option D)))) (fun e => e.elim) else ((((pure s968) >>= fun a994 => pure [a994]) >>= fun as995 => makeM "Sheet" (app2 f_Sheet___init__) as995) >>= fun sheet993 => (((pure s968) >>= fun a997 => pcallM (app1 f_law_places) [a997]) >>= fun some996 => (((pure sheet993) >>= fun x998 => mchkM "Sheet" "lay" x998 >>= fun _ => (((pure some996) >>= fun x999 => (pure (.int 0)) >>= fun y1000 => ixM x999 y1000) >>= fun a1003 => (((pure (.int 4)) >>= fun a1001 => pure [a1001]) >>= fun xs1002 => tupM xs1002) >>= fun a1004 => pure [a1003, a1004]) >>= fun as1005 => app3 f_Sheet_lay (x998 :: as1005)) >>= fun _ => (((pure sheet993) >>= fun a1007 => f_law_spoilt a1007) >>= fun seen1006 => ((((((pure some996) >>= fun x1010 => (pure (.int 0)) >>= fun y1011 => ixM x1010 y1011) >>= fun a1021 => (((pure some996) >>= fun x1013 => ((pure (.int 1)) >>= fun x1012 => negM x1012) >>= fun y1014 => ixM x1013 y1014) >>= fun a1019 => (((pure some996) >>= fun x1015 => (pure (.int 0)) >>= fun y1016 => ixM x1015 y1016) >>= fun x1017 => (pure (.int 1)) >>= fun y1018 => subM x1017 y1018) >>= fun a1020 => pure [a1019, a1020]) >>= fun as1022 => pure (a1021 :: as1022)) >>= fun xs1023 => lstM xs1023) >>= fun x1024 => itemsM x1024) >>= fun xs1025 => obind (forM xs1025 (() : Unit) (l_law_2 tape_here951 sheet993 seen1006)) (fun s1009 => ((((((pure sheet993) >>= fun a1068 => ((pure some996) >>= fun x1069 => (pure (.int 0)) >>= fun y1070 => ixM x1069 y1070) >>= fun a1071 => (((pure (.int 4)) >>= fun a1072 => pure [a1072]) >>= fun xs1073 => tupM xs1073) >>= fun a1074 => f_law_word a1068 a1071 a1074) >>= fun x1075 => (pure (.str "twice")) >>= fun y1076 => neM x1075 y1076) >>= fun b1077 => asB b1077) >>= fun t1082 => if t1082 = true then pure true else ((((pure sheet993) >>= fun a1078 => f_law_spoilt a1078) >>= fun x1079 => (pure seen1006) >>= fun y1080 => neM x1079 y1080) >>= fun b1081 => asB b1081)) >>= fun t1083 => if t1083 = true then obind ((pure (.bl false)) >>= fun d1084 => (pure (Out.ret d1084) : M (Out (Empty) (Option D × Option D)))) (fun e => e.elim) else (((((pure .non) >>= fun a1106 => ((pure (.bl true)) >>= fun a1104 => ((((pure some996) >>= fun x1087 => (pure (.int 0)) >>= fun y1088 => ixM x1087 y1088) >>= fun x1089 => strM x1089) >>= fun a1102 => (((((pure some996) >>= fun x1090 => (pure (.int 0)) >>= fun y1091 => ixM x1090 y1091) >>= fun a1092 => pure [a1092]) >>= fun xs1093 => lstM xs1093) >>= fun a1100 => (((((pure some996) >>= fun x1094 => (pure (.int 0)) >>= fun y1095 => ixM x1094 y1095) >>= fun a1096 => pure [a1096]) >>= fun xs1097 => tupM xs1097) >>= fun a1098 => empM >>= fun a1099 => pure [a1098, a1099]) >>= fun as1101 => pure (a1100 :: as1101)) >>= fun as1103 => pure (a1102 :: as1103)) >>= fun as1105 => pure (a1104 :: as1105)) >>= fun as1107 => pure (a1106 :: as1107)) >>= fun xs1108 => lstM xs1108) >>= fun x1109 => itemsM x1109) >>= fun xs1110 => obind (forM xs1110 (() : Unit) (l_law_1 sheet993)) (fun s1086 => (pure (Out.nx ((some sheet993), (some some996))) : M (Out (Option D × Option D) (Option D × Option D)))))))))))))))))))
def b_law (script933 : D) : M (Out Unit Empty) := (((((((pure script933) >>= fun a936 => (pure (.int 0)) >>= fun a937 => pcallM (app2 f_law_cell_at) [a936, a937]) >>= fun a938 => pure [a938]) >>= fun xs939 => lstM xs939) >>= fun x945 => ((pure script933) >>= fun x942 => ((pure (.int 1)) >>= fun x940 => asI x940) >>= fun l943 => ((pure (.int 10)) >>= fun x941 => asI x941) >>= fun u944 => sliceM x942 l943 u944) >>= fun y946 => addM x945 y946) >>= fun x947 => itemsM x947) >>= fun xs948 => obind (forM xs948 ((none, none) : Option D × Option D) l_law_3) (fun s935 => ((((optM s935.1) >>= fun x1121 => mchkM "Sheet" "result_at" x1121 >>= fun _ => (((optM s935.2) >>= fun x1122 => (pure (.int 0)) >>= fun y1123 => ixM x1122 y1123) >>= fun a1124 => pure [a1124]) >>= fun as1125 => app2 f_Sheet_result_at (x1121 :: as1125)) >>= fun x1126 => (pure (.int 4)) >>= fun y1127 => eqM x1126 y1127) >>= fun d1128 => (pure (Out.ret d1128) : M (Out (Unit) (Empty))))))
def f_law (script933 : D) : M D := defM (b_law script933)
end Lw

/-! SetG: small facts. -/
namespace Lw
open PySem L2
/-- all but the cell n is as it was -/
def Fr (n : Nat) (h h' : AH) : Prop := h'.length = h.length ∧ ∀ i, i ≠ n → h'[i]? = h[i]?
theorem Fr.set {n : Nat} {h : AH} {c : Cell} : Fr n h (h.set n c) := ⟨List.length_set .., fun i q => List.getElem?_set_ne (Ne.symm q)⟩
theorem Fr.refl {n : Nat} {h : AH} : Fr n h h := ⟨rfl, fun _ _ => rfl⟩
theorem Fr.trans {n : Nat} {a b c : AH} (x : Fr n a b) (y : Fr n b c) : Fr n a c := ⟨y.1.trans x.1, fun i q => (y.2 i q).trans (x.2 i q)⟩
theorem log_small {i : Int} {k : Nat} (h : i.natAbs < 2 ^ k) (h0 : 0 < k) : i.natAbs.log2 < k := by
  by_cases z : i.natAbs = 0
  · rw [z]
    simpa using h0
  · exact (Nat.log2_lt z).mpr h
theorem mulOk {i j : Int} (a : i.natAbs < 2 ^ 1000) (b : j.natAbs < 2 ^ 1000) : i.natAbs.log2 + j.natAbs.log2 < 1000000 := by
  have := log_small a (by decide)
  have := log_small b (by decide)
  omega
theorem small {i : Int} (a : -(2 ^ 100) < i) (b : i < 2 ^ 100) : i.natAbs < 2 ^ 1000 := by
  have : i.natAbs < 2 ^ 100 := by omega
  exact Nat.lt_of_lt_of_le this (Nat.pow_le_pow_right (by decide) (by decide))
theorem getElem?_lt {α : Type} {l : List α} {n : Nat} {x : α} (e : l[n]? = some x) : n < l.length := (List.getElem?_eq_some_iff.mp e).1
theorem rangeD_get {lo : Int} {n k : Nat} {x : D} (hx : (rangeD lo n)[k]? = some x) : k < n ∧ x = .int (lo + (k : Nat)) := by
  unfold rangeD at hx
  rw [List.getElem?_map] at hx
  by_cases hk : k < n
  · rw [List.getElem?_range hk] at hx
    exact ⟨hk, (Option.some.inj hx).symm⟩
  · rw [List.getElem?_eq_none (by rw [List.length_range]; omega)] at hx
    cases hx
theorem rangeD_len {lo : Int} {n : Nat} : (rangeD lo n).length = n := by simp [rangeD]
theorem atI_in {α : Type} {xs : List α} {i : Int} (h0 : 0 ≤ i) (h1 : i < xs.length) : ∃ x, atI xs i = some x ∧ x ∈ xs := by
  have hn : i.toNat < xs.length := by omega
  exact ⟨xs[i.toNat], atI_pos h0 (List.getElem?_eq_getElem hn), List.getElem_mem hn⟩
section
variable {h : AH} {E : Str → AH → Prop} {P : D → AH → Prop}
theorem w_pick {xs : List D} {i : Int} (h0 : 0 ≤ i) (h1 : i < xs.length) (p : ∀ x ∈ xs, P x h) : Wp (ixM (.lst xs) (.int i) h) P E := by
  obtain ⟨x, e, m⟩ := atI_in h0 h1
  exact (w_ixL e).mpr (p x m)
end
theorem cutD_mid {α : Type} {xs : List α} (a b : Nat) : cutD xs (some (a : Int)) (some (b : Int)) = (xs.drop a).take (b - a) := by
  unfold cutD
  rw [HT.sIx_nat, HT.sIx_nat]
  by_cases q : a ≤ xs.length
  · rw [Nat.min_eq_left q]
    by_cases r : b ≤ xs.length
    · rw [Nat.min_eq_left r]
    · rw [Nat.min_eq_right (by omega), List.take_of_length_le (by rw [List.length_drop]; exact Nat.le_refl _), List.take_of_length_le (by rw [List.length_drop]; omega)]
  · rw [Nat.min_eq_right (by omega : xs.length ≤ a), List.drop_of_length_le (Nat.le_refl _), List.drop_of_length_le (by omega)]
    simp
end Lw

/-! SetH: comprehensions whose list is written, or over such lists. -/
namespace Lw
open PySem L2
section
variable {h h' : AH} {n : Nat} {xs ys al : List D} {f : D → M (List D)} {g : D → List D}
theorem lcHM_of (e : lcM xs f h = .ok (.lst ys) h') : lcHM xs f h = .ok (.ref h'.length) (h' ++ [.lst ys]) := by
  unfold lcM at e
  unfold lcHM
  by_cases l : lenOk xs.length = true
  · rw [if_pos l] at e ⊢
    rw [bind_def] at e ⊢
    cases hc : noexM (compM xs f) h with
    | ok zs h2 =>
      rw [hc] at e
      cases e
      rfl
    | exc x h2 =>
      rw [hc] at e
      cases e
    | stuck =>
      rw [hc] at e
      cases e
  · rw [if_neg l] at e
    cases e
theorem compG_run (c : h[n]? = some (.lst al)) : ∀ r : List D, (∀ x ∈ r, f x h = .ok (g x) h) → compG n al r f h = .ok (r.map g).flatten h
  | [], _ => compG_nil c
  | x :: r, q => by
    have e := compG_cons (n := n) (al := al) (r := r) (x := x) (f := f) (g := fun ys => (pure ys : M (List D))) c
    have e2 : ∀ (m : M (List D)), (m >>= fun ys => (pure ys : M (List D))) h = m h := fun m => by
      rw [bind_def]
      cases m h <;> rfl
    rw [e2] at e
    rw [e, bind_def, q x (by simp)]
    show (compG n al r f >>= fun zs => pure (g x ++ zs)) h = _
    rw [bind_def, compG_run c r fun y hy => q y (List.mem_cons_of_mem _ hy)]
    rfl
theorem lcGM_run {b : Bool} (c : h[n]? = some (.lst xs)) (l : xs.length ≤ 1000000) (q : ∀ x ∈ xs, f x h = .ok (g x) h) : lcGM b (.ref n) f h = finM b (xs.map g).flatten h := by
  unfold lcGM
  simp only [c]
  rw [if_pos (show lenOk xs.length = true from decide_eq_true (Nat.le_trans l (by decide)))]
  rw [bind_def]
  have e : noexM (compG n xs xs f) h = .ok (xs.map g).flatten h := by
    show nores _ = _
    rw [compG_run c xs q]
    rfl
  rw [e]
end
end Lw

/-! SetW: stretches of places as sets, in plain Lean. -/
namespace Lw
abbrev P2 := Int × Int
def mem (n : Int) (w : List P2) : Prop := ∃ p, p ∈ w ∧ p.1 ≤ n ∧ n < p.2
/-- stretches one behind the other -/
def Wk (w : List P2) : Prop := w.Pairwise (fun p q => p.2 ≤ q.1) ∧ ∀ p, p ∈ w → p.1 < p.2
/-- none touches the next -/
def Can (w : List P2) : Prop := w.Pairwise (fun p q => p.2 < q.1) ∧ ∀ p, p ∈ w → p.1 < p.2
/-- by their lows -/
def Lo (w : List P2) : Prop := w.Pairwise (fun p q => p.1 ≤ q.1) ∧ ∀ p, p ∈ w → p.1 < p.2
theorem Can.wk {w : List P2} (h : Can w) : Wk w := ⟨h.1.imp fun h => by omega, h.2⟩
theorem Wk.lo {w : List P2} (h : Wk w) : Lo w := by
  refine ⟨?_, h.2⟩
  refine List.Pairwise.imp_of_mem ?_ h.1
  intro a b ha hb q
  have := h.2 a ha
  omega
theorem Wk.nil : Wk [] := ⟨List.Pairwise.nil, fun _ h => nomatch h⟩
theorem Can.nil : Can [] := ⟨List.Pairwise.nil, fun _ h => nomatch h⟩
theorem mem_nil {n : Int} : mem n [] ↔ False := ⟨fun ⟨p, h, _⟩ => (nomatch h), False.elim⟩
theorem mem_cons {n : Int} {p : P2} {w : List P2} : mem n (p :: w) ↔ (p.1 ≤ n ∧ n < p.2) ∨ mem n w := by
  unfold mem
  constructor
  · rintro ⟨q, hq, a, b⟩
    rcases List.mem_cons.mp hq with rfl | hq
    · exact .inl ⟨a, b⟩
    · exact .inr ⟨q, hq, a, b⟩
  · rintro (⟨a, b⟩ | ⟨q, hq, a, b⟩)
    · exact ⟨p, List.mem_cons_self, a, b⟩
    · exact ⟨q, List.mem_cons_of_mem _ hq, a, b⟩
theorem mem_append {n : Int} {w u : List P2} : mem n (w ++ u) ↔ mem n w ∨ mem n u := by
  unfold mem
  constructor
  · rintro ⟨q, hq, a, b⟩
    rcases List.mem_append.mp hq with hq | hq
    · exact .inl ⟨q, hq, a, b⟩
    · exact .inr ⟨q, hq, a, b⟩
  · rintro (⟨q, hq, a, b⟩ | ⟨q, hq, a, b⟩)
    · exact ⟨q, List.mem_append_left _ hq, a, b⟩
    · exact ⟨q, List.mem_append_right _ hq, a, b⟩
theorem mem_one {n : Int} {p : P2} : mem n [p] ↔ p.1 ≤ n ∧ n < p.2 := by
  rw [mem_cons, mem_nil, or_false]
theorem mem_perm {n : Int} {w u : List P2} (h : w.Perm u) : mem n w ↔ mem n u := by
  unfold mem
  constructor
  · rintro ⟨q, hq, a, b⟩
    exact ⟨q, h.mem_iff.mp hq, a, b⟩
  · rintro ⟨q, hq, a, b⟩
    exact ⟨q, h.mem_iff.mpr hq, a, b⟩

/-! ### laid together -/
def lstep (acc : List P2) (p : P2) : List P2 := match acc.getLast? with
  | some q => if p.1 ≤ q.2 then acc.dropLast ++ [(q.1, max q.2 p.2)] else acc ++ [p]
  | none => acc ++ [p]
def laid (xs : List P2) : List P2 := xs.foldl lstep []
theorem lstep_nil (p : P2) : lstep [] p = [p] := rfl
theorem lstep_le {init : List P2} {q p : P2} (h : p.1 ≤ q.2) : lstep (init ++ [q]) p = init ++ [(q.1, max q.2 p.2)] := by
  unfold lstep
  simp [h]
theorem lstep_gt {init : List P2} {q p : P2} (h : ¬ p.1 ≤ q.2) : lstep (init ++ [q]) p = init ++ [q] ++ [p] := by
  unfold lstep
  simp [h]
theorem snoc_cases (acc : List P2) : acc = [] ∨ ∃ init q, acc = init ++ [q] := by
  rcases List.eq_nil_or_concat acc with h | ⟨i, q, h⟩
  · exact .inl h
  · exact .inr ⟨i, q, by rw [h, List.concat_eq_append]⟩
theorem can_snoc {init : List P2} {q : P2} : Can (init ++ [q]) ↔ Can init ∧ (∀ p, p ∈ init → p.2 < q.1) ∧ q.1 < q.2 := by
  unfold Can
  rw [List.pairwise_append]
  constructor
  · rintro ⟨⟨h1, _, h3⟩, h4⟩
    exact ⟨⟨h1, fun p hp => h4 p (List.mem_append_left _ hp)⟩, fun p hp => h3 p hp q (by simp), h4 q (by simp)⟩
  · rintro ⟨⟨h1, h2⟩, h3, h4⟩
    refine ⟨⟨h1, by simp, fun a ha b hb => ?_⟩, fun p hp => ?_⟩
    · rw [List.mem_singleton.mp hb]
      exact h3 a ha
    · rcases List.mem_append.mp hp with hp | hp
      · exact h2 p hp
      · rw [List.mem_singleton.mp hp]
        exact h4
theorem lstep_spec {acc : List P2} {p : P2} (h : Can acc) (hp : p.1 < p.2) (hl : ∀ q, q ∈ acc → q.1 ≤ p.1) :
    Can (lstep acc p) ∧ (∀ n, mem n (lstep acc p) ↔ mem n acc ∨ (p.1 ≤ n ∧ n < p.2)) ∧ (∀ q, q ∈ lstep acc p → q.1 ≤ p.1) ∧ (lstep acc p).length ≤ acc.length + 1 := by
  rcases snoc_cases acc with rfl | ⟨init, q, rfl⟩
  · rw [lstep_nil]
    refine ⟨⟨by simp, fun q hq => by rw [List.mem_singleton.mp hq]; exact hp⟩, fun n => by rw [mem_one, mem_nil, false_or], fun q hq => by rw [List.mem_singleton.mp hq]; omega, by simp⟩
  · obtain ⟨c1, c2, c3⟩ := can_snoc.mp h
    have hq := hl q (by simp)
    by_cases hc : p.1 ≤ q.2
    · rw [lstep_le hc]
      refine ⟨can_snoc.mpr ⟨c1, c2, by show q.1 < max q.2 p.2; omega⟩, fun n => ?_, fun r hr => ?_, by simp⟩
      · rw [mem_append, mem_append, mem_one, mem_one, or_assoc]
        constructor
        · rintro (a | a)
          · exact .inl a
          · have a : q.1 ≤ n ∧ n < max q.2 p.2 := a
            by_cases z : n < q.2
            · exact .inr (.inl ⟨a.1, z⟩)
            · exact .inr (.inr ⟨by omega, by omega⟩)
        · rintro (a | a | a)
          · exact .inl a
          · exact .inr ⟨a.1, by show n < max q.2 p.2; omega⟩
          · exact .inr ⟨by show q.1 ≤ n; omega, by show n < max q.2 p.2; omega⟩
      · rcases List.mem_append.mp hr with hr | hr
        · exact hl r (List.mem_append_left _ hr)
        · rw [List.mem_singleton.mp hr]
          exact hq
    · rw [lstep_gt hc]
      refine ⟨can_snoc.mpr ⟨h, fun r hr => ?_, hp⟩, fun n => by rw [mem_append, mem_one], fun r hr => ?_, by simp⟩
      · rcases List.mem_append.mp hr with hr | hr
        · have := c2 r hr
          omega
        · rw [List.mem_singleton.mp hr]
          omega
      · rcases List.mem_append.mp hr with hr | hr
        · exact hl r hr
        · rw [List.mem_singleton.mp hr]
          omega
theorem laidGo_spec : ∀ (xs acc : List P2), Can acc → Lo xs → (∀ q, q ∈ acc → ∀ p, p ∈ xs → q.1 ≤ p.1) →
    Can (xs.foldl lstep acc) ∧ (∀ n, mem n (xs.foldl lstep acc) ↔ mem n acc ∨ mem n xs) ∧ (xs.foldl lstep acc).length ≤ acc.length + xs.length
  | [], acc, h, _, _ => ⟨h, fun n => by rw [mem_nil, or_false]; rfl, Nat.le_refl _⟩
  | p :: xs, acc, h, hx, hl => by
    obtain ⟨a, b, c, d⟩ := lstep_spec h (hx.2 p List.mem_cons_self) fun q hq => hl q hq p List.mem_cons_self
    have hx1 := List.pairwise_cons.mp hx.1
    obtain ⟨a2, b2, d2⟩ := laidGo_spec xs (lstep acc p) a ⟨hx1.2, fun q hq => hx.2 q (List.mem_cons_of_mem _ hq)⟩ fun q hq r hr => by
      have := c q hq
      have := hx1.1 r hr
      omega
    refine ⟨a2, fun n => ?_, ?_⟩
    · rw [List.foldl_cons, b2, b, mem_cons, or_assoc]
    · rw [List.foldl_cons, List.length_cons]
      omega
theorem laid_can {xs : List P2} (h : Lo xs) : Can (laid xs) := (laidGo_spec xs [] Can.nil h (fun _ h => nomatch h)).1
theorem laid_mem {xs : List P2} (h : Lo xs) {n : Int} : mem n (laid xs) ↔ mem n xs := by
  unfold laid
  rw [(laidGo_spec xs [] Can.nil h (fun _ h => nomatch h)).2.1, mem_nil, false_or]
theorem laid_length {xs : List P2} (h : Lo xs) : (laid xs).length ≤ xs.length := by
  have := (laidGo_spec xs [] Can.nil h (fun _ h => nomatch h)).2.2
  simpa [laid] using this

/-! ### one set, one row of stretches -/
theorem can_ext : ∀ {xs ys : List P2}, Can xs → Can ys → (∀ n, mem n xs ↔ mem n ys) → xs = ys
  | [], [], _, _, _ => rfl
  | [], q :: ys, _, hy, h => by
    have z := (h q.1).mpr (mem_cons.mpr (.inl ⟨Int.le_refl _, hy.2 q List.mem_cons_self⟩))
    exact (mem_nil.mp z).elim
  | p :: xs, [], hx, _, h => by
    have z := (h p.1).mp (mem_cons.mpr (.inl ⟨Int.le_refl _, hx.2 p List.mem_cons_self⟩))
    exact (mem_nil.mp z).elim
  | p :: xs, q :: ys, hx, hy, h => by
    have hp := hx.2 p List.mem_cons_self
    have hq := hy.2 q List.mem_cons_self
    have x1 := List.pairwise_cons.mp hx.1
    have y1 := List.pairwise_cons.mp hy.1
    have hx2 : Can xs := ⟨x1.2, fun r hr => hx.2 r (List.mem_cons_of_mem _ hr)⟩
    have hy2 : Can ys := ⟨y1.2, fun r hr => hy.2 r (List.mem_cons_of_mem _ hr)⟩
    have lowx : ∀ n, mem n xs → p.2 < n := fun n ⟨r, hr, a, b⟩ => by
      have := x1.1 r hr
      omega
    have lowy : ∀ n, mem n ys → q.2 < n := fun n ⟨r, hr, a, b⟩ => by
      have := y1.1 r hr
      omega
    have e1 : p.1 = q.1 := by
      have a := (h p.1).mp (mem_cons.mpr (.inl ⟨Int.le_refl _, hp⟩))
      have b := (h q.1).mpr (mem_cons.mpr (.inl ⟨Int.le_refl _, hq⟩))
      rcases mem_cons.mp a with a | a <;> rcases mem_cons.mp b with b | b
      · omega
      · have := lowx _ b
        omega
      · have := lowy _ a
        omega
      · have := lowx _ b
        have := lowy _ a
        omega
    have e2 : p.2 = q.2 := by
      by_cases c : p.2 < q.2
      · have b := (h p.2).mpr (mem_cons.mpr (.inl ⟨by omega, c⟩))
        rcases mem_cons.mp b with b | b
        · omega
        · have := lowx _ b
          omega
      · by_cases c2 : q.2 < p.2
        · have b := (h q.2).mp (mem_cons.mpr (.inl ⟨by omega, c2⟩))
          rcases mem_cons.mp b with b | b
          · omega
          · have := lowy _ b
            omega
        · omega
    have e : p = q := Prod.ext e1 e2
    subst e
    rw [can_ext hx2 hy2 fun n => ?_]
    constructor
    · intro a
      have l := lowx n a
      rcases mem_cons.mp ((h n).mp (mem_cons.mpr (.inr a))) with b | b
      · omega
      · exact b
    · intro a
      have l := lowy n a
      rcases mem_cons.mp ((h n).mpr (mem_cons.mpr (.inr a))) with b | b
      · omega
      · exact b

/-! ### what both hold -/
def bothP (p q : P2) : Bool := decide (q.1 < p.2) && decide (p.1 < q.2)
def bothR (p : P2) (other : List P2) : List P2 := (other.filter (bothP p)).map fun q => (max p.1 q.1, min p.2 q.2)
def bothX (one other : List P2) : List P2 := one.flatMap fun p => bothR p other
def both (one other : List P2) : List P2 := laid (bothX one other)
theorem bothR_mem {p r : P2} {other : List P2} : r ∈ bothR p other ↔ ∃ q, q ∈ other ∧ (q.1 < p.2 ∧ p.1 < q.2) ∧ r = (max p.1 q.1, min p.2 q.2) := by
  unfold bothR bothP
  simp only [List.mem_map, List.mem_filter, Bool.and_eq_true, decide_eq_true_eq]
  constructor
  · rintro ⟨q, ⟨a, b⟩, rfl⟩
    exact ⟨q, a, b, rfl⟩
  · rintro ⟨q, a, b, rfl⟩
    exact ⟨q, ⟨a, b⟩, rfl⟩
theorem bothX_lo {one other : List P2} (h : Wk one) (k : Wk other) : Lo (bothX one other) := by
  refine ⟨?_, ?_⟩
  · unfold bothX
    rw [List.pairwise_flatMap]
    refine ⟨fun p hp => ?_, ?_⟩
    · unfold bothR
      rw [List.pairwise_map]
      refine List.Pairwise.filter _ (List.Pairwise.imp_of_mem ?_ k.1)
      intro a b ha hb q
      have := k.2 a ha
      show max p.1 a.1 ≤ max p.1 b.1
      omega
    · refine List.Pairwise.imp_of_mem ?_ h.1
      intro a b ha hb q x hx y hy
      have := h.2 a ha
      obtain ⟨u, hu, c, rfl⟩ := bothR_mem.mp hx
      obtain ⟨v, hv, d, rfl⟩ := bothR_mem.mp hy
      have := k.2 u hu
      by_cases z : a.1 < a.2
      · show max a.1 u.1 ≤ max b.1 v.1
        omega
      · show max a.1 u.1 ≤ max b.1 v.1
        omega
  · intro r hr
    obtain ⟨p, hp, hr⟩ := List.mem_flatMap.mp hr
    obtain ⟨q, hq, c, rfl⟩ := bothR_mem.mp hr
    have := h.2 p hp
    have := k.2 q hq
    show max p.1 q.1 < min p.2 q.2
    omega
theorem bothX_mem {one other : List P2} {n : Int} : mem n (bothX one other) ↔ mem n one ∧ mem n other := by
  constructor
  · rintro ⟨r, hr, a, b⟩
    obtain ⟨p, hp, hr⟩ := List.mem_flatMap.mp hr
    obtain ⟨q, hq, c, rfl⟩ := bothR_mem.mp hr
    have a : max p.1 q.1 ≤ n := a
    have b : n < min p.2 q.2 := b
    exact ⟨⟨p, hp, by omega, by omega⟩, ⟨q, hq, by omega, by omega⟩⟩
  · rintro ⟨⟨p, hp, a, b⟩, ⟨q, hq, c, d⟩⟩
    exact ⟨(max p.1 q.1, min p.2 q.2), List.mem_flatMap.mpr ⟨p, hp, bothR_mem.mpr ⟨q, hq, ⟨by omega, by omega⟩, rfl⟩⟩, by show max p.1 q.1 ≤ n; omega, by show n < min p.2 q.2; omega⟩
theorem bothX_length (one other : List P2) : (bothX one other).length ≤ one.length * other.length := by
  unfold bothX
  induction one with
  | nil => simp
  | cons p r ih =>
    rw [List.flatMap_cons, List.length_append, List.length_cons, Nat.add_mul, Nat.one_mul]
    have z : (bothR p other).length ≤ other.length := by
      unfold bothR
      rw [List.length_map]
      exact List.length_filter_le _ _
    omega

/-! ### the one without the other -/
def wgo (hi : Int) : Int → List P2 → List P2
  | a, [] => if a < hi then [(a, hi)] else []
  | a, q :: r => if q.1 < hi ∧ a < q.2 then (if a < q.1 then [(a, q.1)] else []) ++ wgo hi q.2 r else wgo hi a r
def withoutX (one other : List P2) : List P2 := one.flatMap fun p => wgo p.2 p.1 other
def without (one other : List P2) : List P2 := laid (withoutX one other)
theorem wgo_in {hi : Int} : ∀ (other : List P2) (a : Int) (r : P2), Wk other → r ∈ wgo hi a other → a ≤ r.1 ∧ r.1 < r.2 ∧ r.2 ≤ hi
  | [], a, r, _, h => by
    unfold wgo at h
    split at h
    · rw [List.mem_singleton.mp h]
      exact ⟨Int.le_refl _, by assumption, Int.le_refl _⟩
    · nomatch h
  | q :: t, a, r, w, h => by
    have w1 := List.pairwise_cons.mp w.1
    have wt : Wk t := ⟨w1.2, fun p hp => w.2 p (List.mem_cons_of_mem _ hp)⟩
    have hq := w.2 q List.mem_cons_self
    unfold wgo at h
    split at h
    · rename_i c
      rcases List.mem_append.mp h with h | h
      · split at h
        · rw [List.mem_singleton.mp h]
          refine ⟨Int.le_refl _, by assumption, ?_⟩
          show q.1 ≤ hi
          omega
        · nomatch h
      · have := wgo_in t q.2 r wt h
        omega
    · exact wgo_in t a r wt h
theorem wgo_lo {hi : Int} : ∀ (other : List P2) (a : Int), Wk other → (wgo hi a other).Pairwise (fun p q => p.1 ≤ q.1)
  | [], a, _ => by
    unfold wgo
    split
    · simp
    · simp
  | q :: t, a, w => by
    have w1 := List.pairwise_cons.mp w.1
    have wt : Wk t := ⟨w1.2, fun p hp => w.2 p (List.mem_cons_of_mem _ hp)⟩
    unfold wgo
    split
    · rename_i c
      split
      · rw [List.singleton_append, List.pairwise_cons]
        refine ⟨fun r hr => ?_, wgo_lo t q.2 wt⟩
        have := (wgo_in t q.2 r wt hr).1
        show a ≤ r.1
        omega
      · rw [List.nil_append]
        exact wgo_lo t q.2 wt
    · exact wgo_lo t a wt
theorem wgo_mem {hi n : Int} : ∀ (other : List P2) (a : Int), Wk other → (mem n (wgo hi a other) ↔ (a ≤ n ∧ n < hi) ∧ ¬ mem n other)
  | [], a, _ => by
    unfold wgo
    split
    · rw [mem_one, mem_nil]
      simp
    · rw [mem_nil]
      constructor
      · intro h
        exact h.elim
      · rintro ⟨b, _⟩
        omega
  | q :: t, a, w => by
    have w1 := List.pairwise_cons.mp w.1
    have wt : Wk t := ⟨w1.2, fun p hp => w.2 p (List.mem_cons_of_mem _ hp)⟩
    have hq := w.2 q List.mem_cons_self
    have low : mem n t → q.2 ≤ n := fun ⟨r, hr, c, d⟩ => by
      have := w1.1 r hr
      omega
    unfold wgo
    split
    · rename_i c
      rw [mem_append, wgo_mem t q.2 wt, mem_cons]
      have e : mem n (if a < q.1 then [(a, q.1)] else []) ↔ a ≤ n ∧ n < q.1 := by
        split
        · rw [mem_one]
        · rw [mem_nil]
          exact ⟨False.elim, fun z => by omega⟩
      rw [e]
      constructor
      · rintro (h | ⟨h, k⟩)
        · refine ⟨by omega, ?_⟩
          rintro (z | z)
          · omega
          · have := low z
            omega
        · refine ⟨by omega, ?_⟩
          rintro (z | z)
          · omega
          · exact k z
      · rintro ⟨h, k⟩
        by_cases z : n < q.1
        · exact .inl ⟨h.1, z⟩
        · refine .inr ⟨⟨?_, h.2⟩, fun y => k (.inr y)⟩
          by_cases y : q.2 ≤ n
          · exact y
          · exact absurd (.inl ⟨by omega, by omega⟩) k
    · rename_i c
      rw [wgo_mem t a wt, mem_cons]
      constructor
      · rintro ⟨h, k⟩
        refine ⟨h, ?_⟩
        rintro (z | z)
        · omega
        · exact k z
      · rintro ⟨h, k⟩
        exact ⟨h, fun z => k (.inr z)⟩
theorem wgo_length {hi : Int} : ∀ (other : List P2) (a : Int), (wgo hi a other).length ≤ other.length + 1
  | [], a => by
    unfold wgo
    split <;> simp
  | q :: t, a => by
    unfold wgo
    split
    · have := wgo_length (hi := hi) t q.2
      rw [List.length_append, List.length_cons]
      split
      · simp only [List.length_singleton]
        omega
      · simp only [List.length_nil]
        omega
    · have := wgo_length (hi := hi) t a
      rw [List.length_cons]
      omega
theorem withoutX_lo {one other : List P2} (h : Wk one) (k : Wk other) : Lo (withoutX one other) := by
  refine ⟨?_, ?_⟩
  · unfold withoutX
    rw [List.pairwise_flatMap]
    refine ⟨fun p hp => wgo_lo other _ k, ?_⟩
    refine h.1.imp ?_
    intro a b q x hx y hy
    have := wgo_in other _ x k hx
    have := wgo_in other _ y k hy
    omega
  · intro r hr
    obtain ⟨p, hp, hr⟩ := List.mem_flatMap.mp hr
    exact (wgo_in other _ r k hr).2.1
theorem withoutX_mem {one other : List P2} {n : Int} (k : Wk other) : mem n (withoutX one other) ↔ mem n one ∧ ¬ mem n other := by
  unfold withoutX
  induction one with
  | nil => simp [mem_nil]
  | cons p r ih =>
    rw [List.flatMap_cons, mem_append, ih, wgo_mem other _ k, mem_cons]
    constructor
    · rintro (⟨a, b⟩ | ⟨a, b⟩)
      · exact ⟨.inl a, b⟩
      · exact ⟨.inr a, b⟩
    · rintro ⟨a | a, b⟩
      · exact .inl ⟨a, b⟩
      · exact .inr ⟨a, b⟩
theorem withoutX_length (one other : List P2) : (withoutX one other).length ≤ one.length * (other.length + 1) := by
  unfold withoutX
  induction one with
  | nil => simp
  | cons p r ih =>
    rw [List.flatMap_cons, List.length_append, List.length_cons, Nat.add_mul r.length, Nat.one_mul]
    have := wgo_length (hi := p.2) other p.1
    omega

/-! ### what either holds -/
def lexLe (p q : P2) : Bool := decide (p.1 < q.1 ∨ (p.1 = q.1 ∧ p.2 ≤ q.2))
def either (one other : List P2) : List P2 := laid ((one ++ other).mergeSort lexLe)
theorem eitherX_lo {one other : List P2} (h : Wk one) (k : Wk other) : Lo ((one ++ other).mergeSort lexLe) := by
  refine ⟨?_, fun p hp => ?_⟩
  · have z := List.pairwise_mergeSort (le := lexLe) (fun a b c => by unfold lexLe; simp only [decide_eq_true_eq]; omega) (fun a b => by unfold lexLe; simp only [Bool.or_eq_true, decide_eq_true_eq]; omega) (one ++ other)
    refine z.imp ?_
    intro a b q
    unfold lexLe at q
    simp only [decide_eq_true_eq] at q
    omega
  · rcases List.mem_append.mp ((List.mergeSort_perm _ _).mem_iff.mp hp) with q | q
    · exact h.2 p q
    · exact k.2 p q

/-! ### the facts of the three -/
section
variable {a b : List P2} {n : Int}
theorem either_can (h : Wk a) (k : Wk b) : Can (either a b) := laid_can (eitherX_lo h k)
theorem either_mem (h : Wk a) (k : Wk b) : mem n (either a b) ↔ mem n a ∨ mem n b := by
  unfold either
  rw [laid_mem (eitherX_lo h k), mem_perm (List.mergeSort_perm _ _), mem_append]
theorem either_length (h : Wk a) (k : Wk b) : (either a b).length ≤ a.length + b.length := by
  have := laid_length (eitherX_lo h k)
  rw [List.length_mergeSort, List.length_append] at this
  exact this
theorem both_can (h : Wk a) (k : Wk b) : Can (both a b) := laid_can (bothX_lo h k)
theorem both_mem (h : Wk a) (k : Wk b) : mem n (both a b) ↔ mem n a ∧ mem n b := by
  unfold both
  rw [laid_mem (bothX_lo h k), bothX_mem]
theorem both_length (h : Wk a) (k : Wk b) : (both a b).length ≤ a.length * b.length := Nat.le_trans (laid_length (bothX_lo h k)) (bothX_length a b)
theorem without_can (h : Wk a) (k : Wk b) : Can (without a b) := laid_can (withoutX_lo h k)
theorem without_mem (h : Wk a) (k : Wk b) : mem n (without a b) ↔ mem n a ∧ ¬ mem n b := by
  unfold without
  rw [laid_mem (withoutX_lo h k), withoutX_mem k]
theorem without_length (h : Wk a) (k : Wk b) : (without a b).length ≤ a.length * (b.length + 1) := Nat.le_trans (laid_length (withoutX_lo h k)) (withoutX_length a b)
theorem laid_self (h : Can a) : laid a = a := can_ext (laid_can h.wk.lo) h fun n => laid_mem h.wk.lo
end

/-! ### how many places -/
def size (w : List P2) : Int := (w.map fun p => p.2 - p.1).sum
def ind (w : List P2) (n : Int) : Int := if w.any (fun p => decide (p.1 ≤ n) && decide (n < p.2)) = true then 1 else 0
def S (f : Int → Int) (L : Int) : Nat → Int
  | 0 => 0
  | k + 1 => S f L k + f (L + k)
theorem S_add (f g : Int → Int) (L : Int) : ∀ k, S (fun n => f n + g n) L k = S f L k + S g L k
  | 0 => rfl
  | k + 1 => by
    show S (fun n => f n + g n) L k + (f (L + k) + g (L + k)) = S f L k + f (L + k) + (S g L k + g (L + k))
    rw [S_add f g L k]
    omega
theorem S_congr {f g : Int → Int} (L : Int) (h : ∀ n, f n = g n) : ∀ k, S f L k = S g L k
  | 0 => rfl
  | k + 1 => by
    show S f L k + f (L + k) = S g L k + g (L + k)
    rw [S_congr L h k, h]
def ind1 (p : P2) (n : Int) : Int := if p.1 ≤ n ∧ n < p.2 then 1 else 0
theorem S_ind1 {p : P2} {L : Int} (hp : p.1 < p.2) (h1 : L ≤ p.1) : ∀ k : Nat, S (ind1 p) L k = if L + k ≤ p.1 then 0 else if L + k ≤ p.2 then L + k - p.1 else p.2 - p.1
  | 0 => by
    rw [if_pos (by omega)]
    rfl
  | k + 1 => by
    show S (ind1 p) L k + ind1 p (L + k) = _
    rw [S_ind1 hp h1 k]
    unfold ind1
    by_cases a : L + k ≤ p.1
    · rw [if_pos a]
      by_cases b : L + k = p.1
      · rw [if_pos (by omega), if_neg (by omega), if_pos (by omega)]
        omega
      · rw [if_neg (by omega), if_pos (by omega)]
        rfl
    · rw [if_neg a]
      by_cases b : L + k < p.2
      · rw [if_pos (by omega), if_pos (by omega), if_neg (by omega), if_pos (by omega)]
        omega
      · by_cases c : L + k ≤ p.2
        · rw [if_pos c, if_neg (by omega), if_neg (by omega), if_neg (by omega)]
          omega
        · rw [if_neg c, if_neg (by omega), if_neg (by omega), if_neg (by omega)]
          omega
theorem ind_mem {w : List P2} {n : Int} : ind w n = 1 ↔ mem n w := by
  have e : (w.any (fun p => decide (p.1 ≤ n) && decide (n < p.2)) = true) ↔ mem n w := by
    unfold mem
    rw [List.any_eq_true]
    simp only [Bool.and_eq_true, decide_eq_true_eq]
  unfold ind
  by_cases q : w.any (fun p => decide (p.1 ≤ n) && decide (n < p.2)) = true
  · rw [if_pos q]
    exact ⟨fun _ => e.mp q, fun _ => rfl⟩
  · rw [if_neg q]
    exact ⟨fun z => by omega, fun z => absurd (e.mpr z) q⟩
theorem ind_01 (w : List P2) (n : Int) : ind w n = 0 ∨ ind w n = 1 := by
  unfold ind
  split
  · exact .inr rfl
  · exact .inl rfl
theorem ind_cons {p : P2} {w : List P2} {n : Int} (h : Wk (p :: w)) : ind (p :: w) n = ind1 p n + ind w n := by
  have h1 := List.pairwise_cons.mp h.1
  by_cases a : p.1 ≤ n ∧ n < p.2
  · have z : ¬ mem n w := fun ⟨r, hr, c, d⟩ => by
      have := h1.1 r hr
      omega
    have y : ind w n = 0 := by
      rcases ind_01 w n with y | y
      · exact y
      · exact absurd (ind_mem.mp y) z
    rw [ind_mem.mpr (mem_cons.mpr (.inl a)), y]
    unfold ind1
    rw [if_pos a]
    rfl
  · have e : mem n (p :: w) ↔ mem n w := by
      rw [mem_cons]
      exact ⟨fun z => z.resolve_left a, .inr⟩
    unfold ind1
    rw [if_neg a]
    rcases ind_01 w n with y | y
    · rcases ind_01 (p :: w) n with x | x
      · omega
      · have := ind_mem.mpr (e.mp (ind_mem.mp x))
        omega
    · rw [ind_mem.mpr (e.mpr (ind_mem.mp y))]
      omega
theorem size_S {L : Int} {k : Nat} : ∀ {w : List P2}, Wk w → (∀ p, p ∈ w → L ≤ p.1 ∧ p.2 ≤ L + k) → size w = S (ind w) L k
  | [], _, _ => by
    have z : ∀ k, S (ind []) L k = 0 := by
      intro k
      induction k with
      | zero => rfl
      | succ k ih =>
        show S (ind []) L k + ind [] (L + k) = 0
        rw [ih]
        rfl
    rw [z]
    rfl
  | p :: w, h, b => by
    have h1 := List.pairwise_cons.mp h.1
    have hw : Wk w := ⟨h1.2, fun q hq => h.2 q (List.mem_cons_of_mem _ hq)⟩
    have hp := h.2 p List.mem_cons_self
    have bp := b p List.mem_cons_self
    rw [S_congr L (fun n => ind_cons (n := n) h), S_add, ← size_S hw fun q hq => b q (List.mem_cons_of_mem _ hq), S_ind1 hp bp.1]
    rw [if_neg (by omega)]
    unfold size
    rw [List.map_cons, List.sum_cons]
    by_cases z : L + k ≤ p.2
    · rw [if_pos z]
      omega
    · rw [if_neg z]
theorem bounds : ∀ w : List P2, ∃ (L : Int) (k : Nat), ∀ p, p ∈ w → L ≤ p.1 ∧ p.2 ≤ L + k
  | [] => ⟨0, 0, fun _ h => nomatch h⟩
  | p :: w => by
    obtain ⟨L, k, h⟩ := bounds w
    refine ⟨min L p.1, (L - min L p.1).toNat + k + (p.2 - min L p.1).toNat, fun q hq => ?_⟩
    rcases List.mem_cons.mp hq with rfl | hq
    · omega
    · have := h q hq
      omega
theorem size_ie {a b : List P2} (h : Wk a) (k : Wk b) : size (either a b) + size (both a b) = size a + size b := by
  obtain ⟨L, N, hb⟩ := bounds (either a b ++ both a b ++ a ++ b)
  rw [size_S (either_can h k).wk fun p hp => hb p (by simp [hp]), size_S (both_can h k).wk fun p hp => hb p (by simp [hp]), size_S h fun p hp => hb p (by simp [hp]), size_S k fun p hp => hb p (by simp [hp]), ← S_add, ← S_add]
  refine S_congr L (fun n => ?_) N
  have e1 := either_mem (n := n) h k
  have e2 := both_mem (n := n) h k
  rw [← ind_mem, ← ind_mem, ← ind_mem] at e1 e2
  rcases ind_01 a n with x | x <;> rcases ind_01 b n with y | y <;> rcases ind_01 (either a b) n with z | z <;> rcases ind_01 (both a b) n with u | u <;> omega
end Lw

/-! SetP: stretches as data. -/
namespace Lw
open PySem L2
def pd (p : P2) : D := .tup [.int p.1, .int p.2]
def wk (w : List P2) : D := .tup (w.map pd)
def wl (w : List P2) : D := .lst (w.map pd)
theorem noRef_pd (p : P2) : noRef (pd p) = true := by
  unfold pd
  rw [noRef_tup, noRefs_cons, noRefs_cons, noRef_int, noRef_int]
  rfl
theorem noRef_wk (w : List P2) : noRef (wk w) = true := by
  unfold wk
  rw [noRef_tup]
  exact noRefs_map noRef_pd
theorem noRef_wl (w : List P2) : noRef (wl w) = true := by
  unfold wl
  rw [noRef_lst]
  exact noRefs_map noRef_pd
theorem nb_pd (n : Nat) (p : P2) : nb (n + 1) (pd p) = true := rfl
theorem nbs_pd (n : Nat) : ∀ w : List P2, nbs (n + 1) (w.map pd) = true
  | [] => rfl
  | p :: w => by
    rw [List.map_cons]
    unfold nbs
    rw [nb_pd, nbs_pd n w]
    rfl
theorem nb_wk (w : List P2) : nb 60 (wk w) = true := by
  unfold wk nb
  exact nbs_pd _ w
theorem nb_wl (w : List P2) : nb 60 (wl w) = true := by
  unfold wl nb
  exact nbs_pd _ w
theorem pd_inj {p q : P2} (h : pd p = pd q) : p = q := by
  unfold pd at h
  cases p
  cases q
  simp at h
  exact Prod.ext h.1 h.2
theorem map_pd_inj : ∀ {w u : List P2}, w.map pd = u.map pd → w = u
  | [], [], _ => rfl
  | [], _ :: _, h => by cases h
  | _ :: _, [], h => by cases h
  | p :: w, q :: u, h => by
    rw [List.map_cons, List.map_cons] at h
    rw [pd_inj (List.cons.inj h).1, map_pd_inj (List.cons.inj h).2]
theorem wk_inj {w u : List P2} (h : wk w = wk u) : w = u := map_pd_inj (D.tup.inj h)
theorem unp_pd (p : P2) : unpT (uCons some (uCons some uNil)) (pd p) = some (D.int p.1, D.int p.2, ()) := rfl
section
variable {h : AH}
theorem eq_wk {w u : List P2} : eqM (wk w) (wk u) h = .ok (.bl (decide (w = u))) h := by
  by_cases e : w = u
  · rw [eqM_eq (by rw [lookD_nb (nb_wk w)]; exact nb_wk w) (by rw [lookD_nb (nb_wk u)]; exact nb_wk u) (by rw [e]), decide_eq_true e]
  · rw [eqM_ne (by rw [lookD_nb (nb_wk w)]; exact nb_wk w) (by rw [lookD_nb (nb_wk u)]; exact nb_wk u) (by rw [lookD_nb (nb_wk w), lookD_nb (nb_wk u)]; exact fun z => e (wk_inj z)), decide_eq_false e]
theorem ne_wk {w u : List P2} : neM (wk w) (wk u) h = .ok (.bl (decide (w ≠ u))) h := by
  by_cases e : w = u
  · rw [neM_eq (by rw [lookD_nb (nb_wk w)]; exact nb_wk w) (by rw [lookD_nb (nb_wk u)]; exact nb_wk u) (by rw [e]), decide_eq_false (by simpa using e)]
  · rw [neM_ne (by rw [lookD_nb (nb_wk w)]; exact nb_wk w) (by rw [lookD_nb (nb_wk u)]; exact nb_wk u) (by rw [lookD_nb (nb_wk w), lookD_nb (nb_wk u)]; exact fun z => e (wk_inj z)), decide_eq_true e]
theorem items_wk {w : List P2} : itemsM (wk w) h = .ok (w.map pd) h := rfl
theorem items_wl {w : List P2} : itemsM (wl w) h = .ok (w.map pd) h := rfl
end

/-! ### a row of stretches in the heap -/
theorem app_run {acc : List P2} {d : D} (p : P2) (e : d = pd p) (l : acc.length < 1000000) : appendM (.ref 0) d [.lst (acc.map pd)] = .ok .non [.lst ((acc ++ [p]).map pd)] := by
  have z := appendM_ref (h := [.lst (acc.map pd)]) (n := 0) (xs := acc.map pd) (d := d) rfl (by rw [List.length_map]; exact l)
  rw [z, List.map_append, e]
  rfl
theorem tup_pd (a b : Int) (h : AH) : tupM [D.int a, D.int b] h = .ok (pd (a, b)) h := tupM_run (Nat.le_of_ble_eq_true rfl)
theorem chk_run {acc : List P2} : lchk (.ref 0) [.lst (acc.map pd)] = .ok () [.lst (acc.map pd)] := lchk_ref rfl
theorem frz (xs : List D) : freezeM (.ref 0) [.lst xs] = .ok (.lst xs) [.dead] := freezeM_ref rfl
theorem noRefs_two {d e : D} (a : noRef d = true) (b : noRef e = true) : noRefs [d, e] = true := by
  rw [noRefs_cons, noRefs_cons, a, b]
  rfl
theorem noRefs_one {d : D} (a : noRef d = true) : noRefs [d] = true := by
  rw [noRefs_cons, a]
  rfl
end Lw

/-! SetR: what the package's stretches compute. -/
namespace Lw
open PySem L2
/-! ### laid together -/
theorem ne_foundT {xs : List D} (b : nbs 59 xs = true) (e : xs ≠ []) : neM (.ref 0) (.lst []) [.lst xs] = .ok (.bl true) [.lst xs] := by
  refine neM_ne ?_ (by rfl) ?_
  · show nb 60 (.lst xs) = true
    unfold nb
    exact b
  · show D.lst xs ≠ D.lst []
    intro z
    cases z
    exact e rfl
theorem ne_foundF : neM (.ref 0) (.lst []) [.lst []] = .ok (.bl false) [.lst []] := by
  exact neM_eq (by rfl) (by rfl) rfl
theorem laid_step (acc : List P2) (p : P2) (l : acc.length < 100000) : l_laid_together_1 (.ref 0) (pd p) () [.lst (acc.map pd)] = .ok (.nx ()) [.lst ((lstep acc p).map pd)] := by
  unfold l_laid_together_1
  rw [unp_pd]
  rcases snoc_cases acc with rfl | ⟨init, q, rfl⟩
  · have t : ∀ h, tupM [D.int p.1, D.int p.2] h = .ok (pd p) h := fun h => tupM_run (Nat.le_of_ble_eq_true rfl)
    have l0 : ∀ h, lstM [] h = .ok (.lst []) h := fun h => lstM_run (Nat.zero_le _)
    have c : lchk (.ref 0) [.lst []] = .ok () [.lst []] := lchk_ref rfl
    have a : appendM (.ref 0) (pd p) [.lst []] = .ok .non [.lst [pd p]] := appendM_ref (xs := []) rfl (Nat.le_of_ble_eq_true rfl)
    simp only [r_bind, r_pure, r_ok, r_exc, r_stuck, r_ite, r_iteP, r_obind, r_nx, r_ret, r_bk, r_ct, r_oexc, r_lbind, r_lnx, r_lct, r_lbk, r_lret, r_lexc, r_def, r_dnx, r_dret, r_dexc, r_lift, r_throw, addM_int, subM_int, negM_int, ltM_int, leM_int, gtM_int, geM_int, maxM_int, minM_int, eqM_int, neM_int, asB_bl, asI_int, notV_bl, truM_bl, andV_bl, orV_bl, lenM_tup, lenM_lst, itemsM_tup, itemsM_lst, tupleM_tup, tupleM_lst, listM_tup, listM_lst, sliceM_tup, sliceM_lst, lstH_nil, decide_eq_true_eq, ite_true, ite_false, if_true, if_false, reduceIte, Bool.false_eq_true, List.length_cons, List.length_nil, List.getElem?_cons_zero, List.getElem?_cons_succ, List.nil_append, Bool.not_true, Bool.not_false, List.map_nil, l0, ne_foundF, c, t, a, lstep_nil, List.map_cons]
  · have t : ∀ (a b : Int) h, tupM [D.int a, D.int b] h = .ok (pd (a, b)) h := fun a b h => tupM_run (Nat.le_of_ble_eq_true rfl)
    have l0 : ∀ h, lstM [] h = .ok (.lst []) h := fun h => lstM_run (Nat.zero_le _)
    have n : neM (.ref 0) (.lst []) [.lst (init.map pd ++ [pd q])] = .ok (.bl true) [.lst (init.map pd ++ [pd q])] := ne_foundT (by have := nbs_pd 58 (init ++ [q]); rw [List.map_append] at this; exact this) (by simp)
    have x : ixM (.ref 0) (.int (-1)) [.lst (init.map pd ++ [pd q])] = .ok (pd q) [.lst (init.map pd ++ [pd q])] := ixM_ref rfl atI_last
    have x0 : ∀ h, ixM (pd q) (.int 0) h = .ok (.int q.1) h := fun h => ixM_tup rfl
    have x1 : ∀ h, ixM (pd q) (.int 1) h = .ok (.int q.2) h := fun h => ixM_tup rfl
    have c : lchk (.ref 0) [.lst (init.map pd ++ [pd q])] = .ok () [.lst (init.map pd ++ [pd q])] := lchk_ref rfl
    have a : appendM (.ref 0) (pd p) [.lst (init.map pd ++ [pd q])] = .ok .non [.lst (init.map pd ++ [pd q] ++ [pd p])] := appendM_ref rfl (by
      rw [List.length_append, List.length_map, List.length_singleton]
      rw [List.length_append, List.length_singleton] at l
      omega)
    have s : ∀ v, setIxM (.ref 0) (.int (-1)) v [.lst (init.map pd ++ [pd q])] = .ok () [.lst (init.map pd ++ [v])] := fun v => setIxM_last rfl
    by_cases hc : p.1 ≤ q.2
    · rw [lstep_le hc]
      simp only [r_bind, r_pure, r_ok, r_exc, r_stuck, r_ite, r_iteP, r_obind, r_nx, r_ret, r_bk, r_ct, r_oexc, r_lbind, r_lnx, r_lct, r_lbk, r_lret, r_lexc, r_def, r_dnx, r_dret, r_dexc, r_lift, r_throw, addM_int, subM_int, negM_int, ltM_int, leM_int, gtM_int, geM_int, maxM_int, minM_int, eqM_int, neM_int, asB_bl, asI_int, notV_bl, truM_bl, andV_bl, orV_bl, lenM_tup, lenM_lst, itemsM_tup, itemsM_lst, tupleM_tup, tupleM_lst, listM_tup, listM_lst, sliceM_tup, sliceM_lst, lstH_nil, decide_eq_true_eq, ite_true, ite_false, if_true, if_false, reduceIte, Bool.false_eq_true, List.length_cons, List.length_nil, List.getElem?_cons_zero, List.getElem?_cons_succ, List.nil_append, Bool.not_true, Bool.not_false, List.map_append, List.map_cons, List.map_nil, l0, n, x, x0, x1, t, s, hc]
    · rw [lstep_gt hc]
      have t2 : ∀ h, tupM [D.int p.1, D.int p.2] h = .ok (pd p) h := fun h => t _ _ h
      simp only [r_bind, r_pure, r_ok, r_exc, r_stuck, r_ite, r_iteP, r_obind, r_nx, r_ret, r_bk, r_ct, r_oexc, r_lbind, r_lnx, r_lct, r_lbk, r_lret, r_lexc, r_def, r_dnx, r_dret, r_dexc, r_lift, r_throw, addM_int, subM_int, negM_int, ltM_int, leM_int, gtM_int, geM_int, maxM_int, minM_int, eqM_int, neM_int, asB_bl, asI_int, notV_bl, truM_bl, andV_bl, orV_bl, lenM_tup, lenM_lst, itemsM_tup, itemsM_lst, tupleM_tup, tupleM_lst, listM_tup, listM_lst, sliceM_tup, sliceM_lst, lstH_nil, decide_eq_true_eq, ite_true, ite_false, if_true, if_false, reduceIte, Bool.false_eq_true, List.length_cons, List.length_nil, List.getElem?_cons_zero, List.getElem?_cons_succ, List.nil_append, Bool.not_true, Bool.not_false, List.map_append, List.map_cons, List.map_nil, l0, n, x, x0, x1, t2, c, a, hc]
theorem laid_loop {β : Type} : ∀ (xs acc : List P2), acc.length + xs.length < 100000 → (forM (xs.map pd) () (l_laid_together_1 (.ref 0)) : M (Out Unit β)) [.lst (acc.map pd)] = .ok (.nx ()) [.lst ((xs.foldl lstep acc).map pd)]
  | [], acc, _ => rfl
  | p :: xs, acc, l => by
    rw [List.length_cons] at l
    have z : (lstep acc p).length ≤ acc.length + 1 := by
      rcases snoc_cases acc with rfl | ⟨init, q, rfl⟩
      · rw [lstep_nil]
        simp
      · by_cases hc : p.1 ≤ q.2
        · rw [lstep_le hc]
          simp
        · rw [lstep_gt hc]
          simp
    rw [List.map_cons, r_for, laid_step acc p (by omega), r_lnx, laid_loop xs (lstep acc p) (by omega)]
    rfl
theorem laid_run {d : D} {w : List P2} {h : AH} (hd : d = wk w ∨ d = wl w) (l : w.length < 100000) : pcallM (app1 f_laid_together) [d] h = .ok (wk (laid w)) h := by
  have i : ∀ h, itemsM d h = .ok (w.map pd) h := fun h => by
    rcases hd with rfl | rfl <;> rfl
  have n : noRefs [d] = true := by
    rw [noRefs_cons]
    rcases hd with rfl | rfl
    · rw [noRef_wk]; rfl
    · rw [noRef_wl]; rfl
  have g : ∀ xs : List D, freezeM (.ref 0) [.lst xs] = .ok (.lst xs) [.dead] := fun xs => freezeM_ref rfl
  have e : f_laid_together d [] = .ok (wk (laid w)) [.dead] := by
    have z := laid_loop (β := Empty) w [] (by simpa using l)
    rw [List.map_nil] at z
    unfold f_laid_together b_laid_together
    simp only [r_bind, r_pure, r_ok, r_exc, r_stuck, r_ite, r_iteP, r_obind, r_nx, r_ret, r_bk, r_ct, r_oexc, r_lbind, r_lnx, r_lct, r_lbk, r_lret, r_lexc, r_def, r_dnx, r_dret, r_dexc, r_lift, r_throw, addM_int, subM_int, negM_int, ltM_int, leM_int, gtM_int, geM_int, maxM_int, minM_int, eqM_int, neM_int, asB_bl, asI_int, notV_bl, truM_bl, andV_bl, orV_bl, lenM_tup, lenM_lst, itemsM_tup, itemsM_lst, tupleM_tup, tupleM_lst, listM_tup, listM_lst, sliceM_tup, sliceM_lst, lstH_nil, decide_eq_true_eq, ite_true, ite_false, if_true, if_false, reduceIte, Bool.false_eq_true, List.length_cons, List.length_nil, List.getElem?_cons_zero, List.getElem?_cons_succ, List.nil_append, Bool.not_true, Bool.not_false, i, z, g]
    rfl
  exact pcallM_run n e (noRef_wk _)

/-! ### both -/
theorem both_step (p q : P2) (acc : List P2) (l : acc.length < 100000) : l_both_1 (.int p.1, .int p.2, ()) (.ref 0) (pd q) () [.lst (acc.map pd)] = .ok (.nx ()) [.lst ((acc ++ bothR p [q]).map pd)] := by
  unfold l_both_1
  rw [unp_pd]
  have a := app_run (acc := acc) (d := pd (max p.1 q.1, min p.2 q.2)) (max p.1 q.1, min p.2 q.2) rfl (by omega)
  by_cases c : q.1 < p.2
  · by_cases d : p.1 < q.2
    · have e : bothR p [q] = [(max p.1 q.1, min p.2 q.2)] := by
        unfold bothR bothP
        simp [c, d]
      rw [e]
      simp only [r_bind, r_pure, r_ok, r_exc, r_stuck, r_ite, r_iteP, r_obind, r_nx, r_ret, r_bk, r_ct, r_oexc, r_lbind, r_lnx, r_lct, r_lbk, r_lret, r_lexc, r_def, r_dnx, r_dret, r_dexc, r_lift, r_throw, addM_int, subM_int, negM_int, ltM_int, leM_int, gtM_int, geM_int, maxM_int, minM_int, eqM_int, neM_int, asB_bl, asI_int, notV_bl, truM_bl, andV_bl, orV_bl, lenM_tup, lenM_lst, itemsM_tup, itemsM_lst, tupleM_tup, tupleM_lst, listM_tup, listM_lst, sliceM_tup, sliceM_lst, lstH_nil, decide_eq_true_eq, ite_true, ite_false, if_true, if_false, reduceIte, Bool.false_eq_true, List.length_cons, List.length_nil, List.getElem?_cons_zero, List.getElem?_cons_succ, List.nil_append, Bool.not_true, Bool.not_false, c, d, tup_pd, chk_run, a]
    · have e : bothR p [q] = [] := by
        unfold bothR bothP
        simp [c, d]
      rw [e]
      simp only [r_bind, r_pure, r_ok, r_exc, r_stuck, r_ite, r_iteP, r_obind, r_nx, r_ret, r_bk, r_ct, r_oexc, r_lbind, r_lnx, r_lct, r_lbk, r_lret, r_lexc, r_def, r_dnx, r_dret, r_dexc, r_lift, r_throw, addM_int, subM_int, negM_int, ltM_int, leM_int, gtM_int, geM_int, maxM_int, minM_int, eqM_int, neM_int, asB_bl, asI_int, notV_bl, truM_bl, andV_bl, orV_bl, lenM_tup, lenM_lst, itemsM_tup, itemsM_lst, tupleM_tup, tupleM_lst, listM_tup, listM_lst, sliceM_tup, sliceM_lst, lstH_nil, decide_eq_true_eq, ite_true, ite_false, if_true, if_false, reduceIte, Bool.false_eq_true, List.length_cons, List.length_nil, List.getElem?_cons_zero, List.getElem?_cons_succ, List.nil_append, Bool.not_true, Bool.not_false, c, d, List.append_nil, decide_false]
  · have e : bothR p [q] = [] := by
      unfold bothR bothP
      simp [c]
    rw [e]
    simp only [r_bind, r_pure, r_ok, r_exc, r_stuck, r_ite, r_iteP, r_obind, r_nx, r_ret, r_bk, r_ct, r_oexc, r_lbind, r_lnx, r_lct, r_lbk, r_lret, r_lexc, r_def, r_dnx, r_dret, r_dexc, r_lift, r_throw, addM_int, subM_int, negM_int, ltM_int, leM_int, gtM_int, geM_int, maxM_int, minM_int, eqM_int, neM_int, asB_bl, asI_int, notV_bl, truM_bl, andV_bl, orV_bl, lenM_tup, lenM_lst, itemsM_tup, itemsM_lst, tupleM_tup, tupleM_lst, listM_tup, listM_lst, sliceM_tup, sliceM_lst, lstH_nil, decide_eq_true_eq, ite_true, ite_false, if_true, if_false, reduceIte, Bool.false_eq_true, List.length_cons, List.length_nil, List.getElem?_cons_zero, List.getElem?_cons_succ, List.nil_append, Bool.not_true, Bool.not_false, c, List.append_nil]
theorem bothR_cons (p q : P2) (r : List P2) : bothR p (q :: r) = bothR p [q] ++ bothR p r := by
  unfold bothR
  rw [← List.map_append, ← List.filter_append]
  rfl
theorem bothR_len (p : P2) (r : List P2) : (bothR p r).length ≤ r.length := by
  unfold bothR
  rw [List.length_map]
  exact List.length_filter_le _ _
theorem both_loop {β : Type} (p : P2) : ∀ (xs acc : List P2), acc.length + xs.length < 100000 → (forM (xs.map pd) () (l_both_1 (.int p.1, .int p.2, ()) (.ref 0)) : M (Out Unit β)) [.lst (acc.map pd)] = .ok (.nx ()) [.lst ((acc ++ bothR p xs).map pd)]
  | [], acc, _ => by
    rw [show bothR p [] = [] from rfl, List.append_nil]
    rfl
  | q :: xs, acc, l => by
    rw [List.length_cons] at l
    have z := bothR_len p [q]
    rw [List.length_singleton] at z
    rw [List.map_cons, r_for, both_step p q acc (by omega), r_lnx, both_loop p xs _ (by rw [List.length_append]; omega), bothR_cons p q xs, List.append_assoc]
theorem both_step2 (p : P2) (other acc : List P2) (l : acc.length + other.length < 100000) : l_both_2 (wk other) (.ref 0) (pd p) () [.lst (acc.map pd)] = .ok (.nx ()) [.lst ((acc ++ bothR p other).map pd)] := by
  unfold l_both_2
  rw [unp_pd]
  have z := both_loop (β := Unit) p other acc l
  simp only [r_bind, r_pure, r_ok, r_exc, r_stuck, r_ite, r_iteP, r_obind, r_nx, r_ret, r_bk, r_ct, r_oexc, r_lbind, r_lnx, r_lct, r_lbk, r_lret, r_lexc, r_def, r_dnx, r_dret, r_dexc, r_lift, r_throw, addM_int, subM_int, negM_int, ltM_int, leM_int, gtM_int, geM_int, maxM_int, minM_int, eqM_int, neM_int, asB_bl, asI_int, notV_bl, truM_bl, andV_bl, orV_bl, lenM_tup, lenM_lst, itemsM_tup, itemsM_lst, tupleM_tup, tupleM_lst, listM_tup, listM_lst, sliceM_tup, sliceM_lst, lstH_nil, decide_eq_true_eq, ite_true, ite_false, if_true, if_false, reduceIte, Bool.false_eq_true, List.length_cons, List.length_nil, List.getElem?_cons_zero, List.getElem?_cons_succ, List.nil_append, Bool.not_true, Bool.not_false, items_wk, z]
theorem both_loop2 {β : Type} (other : List P2) : ∀ (xs acc : List P2), acc.length + (xs.length + 1) * other.length < 100000 → (forM (xs.map pd) () (l_both_2 (wk other) (.ref 0)) : M (Out Unit β)) [.lst (acc.map pd)] = .ok (.nx ()) [.lst ((acc ++ bothX xs other).map pd)]
  | [], acc, _ => by
    rw [show bothX [] other = [] from rfl, List.append_nil]
    rfl
  | p :: xs, acc, l => by
    rw [List.length_cons, Nat.add_mul, Nat.one_mul] at l
    have z := bothR_len p other
    have z2 : 0 ≤ (xs.length + 1) * other.length := Nat.zero_le _
    rw [List.map_cons, r_for, both_step2 p other acc (by omega), r_lnx, both_loop2 other xs _ (by rw [List.length_append]; omega)]
    show Res.ok _ [Cell.lst (((acc ++ bothR p other) ++ bothX xs other).map pd)] = Res.ok _ [Cell.lst ((acc ++ bothX (p :: xs) other).map pd)]
    rw [List.append_assoc]
    rfl
theorem both_run {a b : List P2} {h : AH} (l : (a.length + 1) * b.length < 100000) : pcallM (app2 f_both) [wk a, wk b] h = .ok (wk (both a b)) h := by
  have e : f_both (wk a) (wk b) [] = .ok (wk (both a b)) [.dead] := by
    have z := both_loop2 (β := Empty) b a [] (by simpa using l)
    rw [List.map_nil, List.nil_append] at z
    have k := bothX_length a b
    have k2 : a.length * b.length ≤ (a.length + 1) * b.length := Nat.mul_le_mul_right _ (Nat.le_succ _)
    have y : ∀ h, pcallM (app1 f_laid_together) [D.lst ((bothX a b).map pd)] h = .ok (wk (both a b)) h := fun h => laid_run (.inr rfl) (by omega)
    unfold f_both b_both
    simp only [r_bind, r_pure, r_ok, r_exc, r_stuck, r_ite, r_iteP, r_obind, r_nx, r_ret, r_bk, r_ct, r_oexc, r_lbind, r_lnx, r_lct, r_lbk, r_lret, r_lexc, r_def, r_dnx, r_dret, r_dexc, r_lift, r_throw, addM_int, subM_int, negM_int, ltM_int, leM_int, gtM_int, geM_int, maxM_int, minM_int, eqM_int, neM_int, asB_bl, asI_int, notV_bl, truM_bl, andV_bl, orV_bl, lenM_tup, lenM_lst, itemsM_tup, itemsM_lst, tupleM_tup, tupleM_lst, listM_tup, listM_lst, sliceM_tup, sliceM_lst, lstH_nil, decide_eq_true_eq, ite_true, ite_false, if_true, if_false, reduceIte, Bool.false_eq_true, List.length_cons, List.length_nil, List.getElem?_cons_zero, List.getElem?_cons_succ, List.nil_append, Bool.not_true, Bool.not_false, items_wk, z, frz, y]
  exact pcallM_run (noRefs_two (noRef_wk _) (noRef_wk _)) e (noRef_wk _)

/-! ### without -/
theorem wgo_cons (hi a : Int) (q : P2) (r : List P2) : wgo hi a (q :: r) = if q.1 < hi ∧ a < q.2 then (if a < q.1 then [(a, q.1)] else []) ++ wgo hi q.2 r else wgo hi a r := rfl
theorem wgo_nil (hi a : Int) : wgo hi a [] = if a < hi then [(a, hi)] else [] := rfl
theorem without_loop {β : Type} (p : P2) : ∀ (xs acc : List P2) (a : Int), acc.length + xs.length < 100000 → ∃ b : Int, ∃ ys : List P2,
    (forM (xs.map pd) (D.int a) (l_without_1 (.int p.1, .int p.2, ()) (.ref 0)) : M (Out D β)) [.lst (acc.map pd)] = .ok (.nx (.int b)) [.lst ((acc ++ ys).map pd)] ∧ wgo p.2 a xs = ys ++ wgo p.2 b [] ∧ ys.length ≤ xs.length
  | [], acc, a, _ => ⟨a, [], by rw [List.append_nil]; rfl, rfl, Nat.le_refl _⟩
  | q :: xs, acc, a, l => by
    rw [List.length_cons] at l
    by_cases c : q.1 < p.2
    · by_cases d : a < q.2
      · by_cases e : a < q.1
        · obtain ⟨b, ys, h1, h2, h3⟩ := without_loop (β := β) p xs (acc ++ [(a, q.1)]) q.2 (by rw [List.length_append, List.length_singleton]; omega)
          refine ⟨b, (a, q.1) :: ys, ?_, ?_, by rw [List.length_cons, List.length_cons]; omega⟩
          · have y := app_run (acc := acc) (d := pd (a, q.1)) (a, q.1) rfl (by omega)
            have s : l_without_1 (.int p.1, .int p.2, ()) (.ref 0) (pd q) (.int a) [.lst (acc.map pd)] = .ok (.nx (.int q.2)) [.lst ((acc ++ [(a, q.1)]).map pd)] := by
              unfold l_without_1
              rw [unp_pd]
              simp only [r_bind, r_pure, r_ok, r_exc, r_stuck, r_ite, r_iteP, r_obind, r_nx, r_ret, r_bk, r_ct, r_oexc, r_lbind, r_lnx, r_lct, r_lbk, r_lret, r_lexc, r_def, r_dnx, r_dret, r_dexc, r_lift, r_throw, addM_int, subM_int, negM_int, ltM_int, leM_int, gtM_int, geM_int, maxM_int, minM_int, eqM_int, neM_int, asB_bl, asI_int, notV_bl, truM_bl, andV_bl, orV_bl, lenM_tup, lenM_lst, itemsM_tup, itemsM_lst, tupleM_tup, tupleM_lst, listM_tup, listM_lst, sliceM_tup, sliceM_lst, lstH_nil, decide_eq_true_eq, ite_true, ite_false, if_true, if_false, reduceIte, Bool.false_eq_true, List.length_cons, List.length_nil, List.getElem?_cons_zero, List.getElem?_cons_succ, List.nil_append, Bool.not_true, Bool.not_false, c, d, e, tup_pd, chk_run, y]
            rw [List.map_cons, r_for, s, r_lnx, h1, List.append_assoc]
            rfl
          · rw [wgo_cons, if_pos ⟨c, d⟩, if_pos e, h2]
            rfl
        · obtain ⟨b, ys, h1, h2, h3⟩ := without_loop (β := β) p xs acc q.2 (by omega)
          refine ⟨b, ys, ?_, ?_, by rw [List.length_cons]; omega⟩
          · have s : l_without_1 (.int p.1, .int p.2, ()) (.ref 0) (pd q) (.int a) [.lst (acc.map pd)] = .ok (.nx (.int q.2)) [.lst (acc.map pd)] := by
              unfold l_without_1
              rw [unp_pd]
              simp only [r_bind, r_pure, r_ok, r_exc, r_stuck, r_ite, r_iteP, r_obind, r_nx, r_ret, r_bk, r_ct, r_oexc, r_lbind, r_lnx, r_lct, r_lbk, r_lret, r_lexc, r_def, r_dnx, r_dret, r_dexc, r_lift, r_throw, addM_int, subM_int, negM_int, ltM_int, leM_int, gtM_int, geM_int, maxM_int, minM_int, eqM_int, neM_int, asB_bl, asI_int, notV_bl, truM_bl, andV_bl, orV_bl, lenM_tup, lenM_lst, itemsM_tup, itemsM_lst, tupleM_tup, tupleM_lst, listM_tup, listM_lst, sliceM_tup, sliceM_lst, lstH_nil, decide_eq_true_eq, ite_true, ite_false, if_true, if_false, reduceIte, Bool.false_eq_true, List.length_cons, List.length_nil, List.getElem?_cons_zero, List.getElem?_cons_succ, List.nil_append, Bool.not_true, Bool.not_false, c, d, e]
            rw [List.map_cons, r_for, s, r_lnx, h1]
          · rw [wgo_cons, if_pos ⟨c, d⟩, if_neg e, h2]
            rfl
      · obtain ⟨b, ys, h1, h2, h3⟩ := without_loop (β := β) p xs acc a (by omega)
        refine ⟨b, ys, ?_, ?_, by rw [List.length_cons]; omega⟩
        · have s : l_without_1 (.int p.1, .int p.2, ()) (.ref 0) (pd q) (.int a) [.lst (acc.map pd)] = .ok (.nx (.int a)) [.lst (acc.map pd)] := by
            unfold l_without_1
            rw [unp_pd]
            simp only [r_bind, r_pure, r_ok, r_exc, r_stuck, r_ite, r_iteP, r_obind, r_nx, r_ret, r_bk, r_ct, r_oexc, r_lbind, r_lnx, r_lct, r_lbk, r_lret, r_lexc, r_def, r_dnx, r_dret, r_dexc, r_lift, r_throw, addM_int, subM_int, negM_int, ltM_int, leM_int, gtM_int, geM_int, maxM_int, minM_int, eqM_int, neM_int, asB_bl, asI_int, notV_bl, truM_bl, andV_bl, orV_bl, lenM_tup, lenM_lst, itemsM_tup, itemsM_lst, tupleM_tup, tupleM_lst, listM_tup, listM_lst, sliceM_tup, sliceM_lst, lstH_nil, decide_eq_true_eq, ite_true, ite_false, if_true, if_false, reduceIte, Bool.false_eq_true, List.length_cons, List.length_nil, List.getElem?_cons_zero, List.getElem?_cons_succ, List.nil_append, Bool.not_true, Bool.not_false, c, d]
          rw [List.map_cons, r_for, s, r_lnx, h1]
        · rw [wgo_cons, if_neg (fun z => d z.2), h2]
    · obtain ⟨b, ys, h1, h2, h3⟩ := without_loop (β := β) p xs acc a (by omega)
      refine ⟨b, ys, ?_, ?_, by rw [List.length_cons]; omega⟩
      · have s : l_without_1 (.int p.1, .int p.2, ()) (.ref 0) (pd q) (.int a) [.lst (acc.map pd)] = .ok (.nx (.int a)) [.lst (acc.map pd)] := by
          unfold l_without_1
          rw [unp_pd]
          simp only [r_bind, r_pure, r_ok, r_exc, r_stuck, r_ite, r_iteP, r_obind, r_nx, r_ret, r_bk, r_ct, r_oexc, r_lbind, r_lnx, r_lct, r_lbk, r_lret, r_lexc, r_def, r_dnx, r_dret, r_dexc, r_lift, r_throw, addM_int, subM_int, negM_int, ltM_int, leM_int, gtM_int, geM_int, maxM_int, minM_int, eqM_int, neM_int, asB_bl, asI_int, notV_bl, truM_bl, andV_bl, orV_bl, lenM_tup, lenM_lst, itemsM_tup, itemsM_lst, tupleM_tup, tupleM_lst, listM_tup, listM_lst, sliceM_tup, sliceM_lst, lstH_nil, decide_eq_true_eq, ite_true, ite_false, if_true, if_false, reduceIte, Bool.false_eq_true, List.length_cons, List.length_nil, List.getElem?_cons_zero, List.getElem?_cons_succ, List.nil_append, Bool.not_true, Bool.not_false, c]
        rw [List.map_cons, r_for, s, r_lnx, h1]
      · rw [wgo_cons, if_neg (fun z => c z.1), h2]
theorem without_step2 (p : P2) (other acc : List P2) (l : acc.length + other.length < 100000) : l_without_2 (wk other) (.ref 0) (pd p) () [.lst (acc.map pd)] = .ok (.nx ()) [.lst ((acc ++ wgo p.2 p.1 other).map pd)] := by
  obtain ⟨b, ys, h1, h2, h3⟩ := without_loop (β := Unit) p other acc p.1 l
  unfold l_without_2
  rw [unp_pd, h2]
  by_cases c : b < p.2
  · have y := app_run (acc := acc ++ ys) (d := pd (b, p.2)) (b, p.2) rfl (by rw [List.length_append]; omega)
    rw [wgo_nil, if_pos c]
    simp only [r_bind, r_pure, r_ok, r_exc, r_stuck, r_ite, r_iteP, r_obind, r_nx, r_ret, r_bk, r_ct, r_oexc, r_lbind, r_lnx, r_lct, r_lbk, r_lret, r_lexc, r_def, r_dnx, r_dret, r_dexc, r_lift, r_throw, addM_int, subM_int, negM_int, ltM_int, leM_int, gtM_int, geM_int, maxM_int, minM_int, eqM_int, neM_int, asB_bl, asI_int, notV_bl, truM_bl, andV_bl, orV_bl, lenM_tup, lenM_lst, itemsM_tup, itemsM_lst, tupleM_tup, tupleM_lst, listM_tup, listM_lst, sliceM_tup, sliceM_lst, lstH_nil, decide_eq_true_eq, ite_true, ite_false, if_true, if_false, reduceIte, Bool.false_eq_true, List.length_cons, List.length_nil, List.getElem?_cons_zero, List.getElem?_cons_succ, List.nil_append, Bool.not_true, Bool.not_false, items_wk, h1, c, tup_pd, chk_run, y, List.append_assoc]
  · rw [wgo_nil, if_neg c, List.append_nil]
    simp only [r_bind, r_pure, r_ok, r_exc, r_stuck, r_ite, r_iteP, r_obind, r_nx, r_ret, r_bk, r_ct, r_oexc, r_lbind, r_lnx, r_lct, r_lbk, r_lret, r_lexc, r_def, r_dnx, r_dret, r_dexc, r_lift, r_throw, addM_int, subM_int, negM_int, ltM_int, leM_int, gtM_int, geM_int, maxM_int, minM_int, eqM_int, neM_int, asB_bl, asI_int, notV_bl, truM_bl, andV_bl, orV_bl, lenM_tup, lenM_lst, itemsM_tup, itemsM_lst, tupleM_tup, tupleM_lst, listM_tup, listM_lst, sliceM_tup, sliceM_lst, lstH_nil, decide_eq_true_eq, ite_true, ite_false, if_true, if_false, reduceIte, Bool.false_eq_true, List.length_cons, List.length_nil, List.getElem?_cons_zero, List.getElem?_cons_succ, List.nil_append, Bool.not_true, Bool.not_false, items_wk, h1, c]
theorem without_loop2 {β : Type} (other : List P2) : ∀ (xs acc : List P2), acc.length + (xs.length + 1) * (other.length + 1) < 100000 → (forM (xs.map pd) () (l_without_2 (wk other) (.ref 0)) : M (Out Unit β)) [.lst (acc.map pd)] = .ok (.nx ()) [.lst ((acc ++ withoutX xs other).map pd)]
  | [], acc, _ => by
    rw [show withoutX [] other = [] from rfl, List.append_nil]
    rfl
  | p :: xs, acc, l => by
    rw [List.length_cons, Nat.add_mul, Nat.one_mul] at l
    have z := wgo_length (hi := p.2) other p.1
    have z2 : 0 ≤ (xs.length + 1) * (other.length + 1) := Nat.zero_le _
    rw [List.map_cons, r_for, without_step2 p other acc (by omega), r_lnx, without_loop2 other xs _ (by rw [List.length_append]; omega)]
    show Res.ok _ [Cell.lst (((acc ++ wgo p.2 p.1 other) ++ withoutX xs other).map pd)] = Res.ok _ [Cell.lst ((acc ++ withoutX (p :: xs) other).map pd)]
    rw [List.append_assoc]
    rfl
theorem without_run {a b : List P2} {h : AH} (l : (a.length + 1) * (b.length + 1) < 100000) : pcallM (app2 f_without) [wk a, wk b] h = .ok (wk (without a b)) h := by
  have e : f_without (wk a) (wk b) [] = .ok (wk (without a b)) [.dead] := by
    have z := without_loop2 (β := Empty) b a [] (by simpa using l)
    rw [List.map_nil, List.nil_append] at z
    have k := withoutX_length a b
    have k2 : a.length * (b.length + 1) ≤ (a.length + 1) * (b.length + 1) := Nat.mul_le_mul_right _ (Nat.le_succ _)
    have y : ∀ h, pcallM (app1 f_laid_together) [D.lst ((withoutX a b).map pd)] h = .ok (wk (without a b)) h := fun h => laid_run (.inr rfl) (by omega)
    unfold f_without b_without
    simp only [r_bind, r_pure, r_ok, r_exc, r_stuck, r_ite, r_iteP, r_obind, r_nx, r_ret, r_bk, r_ct, r_oexc, r_lbind, r_lnx, r_lct, r_lbk, r_lret, r_lexc, r_def, r_dnx, r_dret, r_dexc, r_lift, r_throw, addM_int, subM_int, negM_int, ltM_int, leM_int, gtM_int, geM_int, maxM_int, minM_int, eqM_int, neM_int, asB_bl, asI_int, notV_bl, truM_bl, andV_bl, orV_bl, lenM_tup, lenM_lst, itemsM_tup, itemsM_lst, tupleM_tup, tupleM_lst, listM_tup, listM_lst, sliceM_tup, sliceM_lst, lstH_nil, decide_eq_true_eq, ite_true, ite_false, if_true, if_false, reduceIte, Bool.false_eq_true, List.length_cons, List.length_nil, List.getElem?_cons_zero, List.getElem?_cons_succ, List.nil_append, Bool.not_true, Bool.not_false, items_wk, z, frz, y]
  exact pcallM_run (noRefs_two (noRef_wk _) (noRef_wk _)) e (noRef_wk _)

/-! ### either -/
theorem toP_pd (p : P2) : toP (pd p) = .tuple [.int p.1, .int p.2] := rfl
theorem le_pd (p q : P2) : lexLe p q = PySem.W.dataLe false toP (pd p) (pd q) := by
  have z := PySem.W.dataLe_ii (β := P2) (fun b => b.1) (fun b => b.2)
  have y : PySem.W.dataLe false (fun b : P2 => PyData.tuple [.int b.1, .int b.2]) p q = PySem.W.dataLe false toP (pd p) (pd q) := rfl
  rw [← y, z]
  rfl
theorem sorted_pd (w : List P2) : sortedD (w.map pd) = (w.mergeSort lexLe).map pd := by
  unfold sortedD
  exact (List.map_mergeSort fun a _ b _ => le_pd a b).symm
theorem flat_pd : ∀ w : List P2, flatDs 0 (w.map pd) = true
  | [] => rfl
  | p :: w => by
    rw [List.map_cons]
    unfold flatDs
    rw [flat_pd w]
    rfl
theorem sortOk_pd (w : List P2) : sortOk ((w.map pd).map toP) = true := by
  rw [List.map_map]
  unfold sortOk
  have m : ∀ d, d ∈ w.map (toP ∘ pd) → ∃ p : P2, d = .tuple [.int p.1, .int p.2] := fun d hd => by
    obtain ⟨p, _, e⟩ := List.mem_map.mp hd
    exact ⟨p, e.symm⟩
  simp only [Bool.and_eq_true, Bool.or_eq_true, List.all_eq_true]
  refine ⟨⟨fun d hd e he => ?_, .inl fun d hd => ?_⟩, fun d hd => ?_⟩
  · obtain ⟨p, rfl⟩ := m d hd
    obtain ⟨q, rfl⟩ := m e he
    rfl
  · obtain ⟨p, rfl⟩ := m d hd
    rfl
  · obtain ⟨p, rfl⟩ := m d hd
    rfl
theorem sorted_run {w : List P2} {h : AH} (l : w.length ≤ 1000000) : sortedM (wk w) h = .ok (wl (w.mergeSort lexLe)) h := by
  unfold sortedM seqOf wk
  simp only [flat_pd, sortOk_pd]
  unfold lenOk
  rw [decide_eq_true (by rw [List.length_map]; exact Nat.le_trans l (by decide)), sorted_pd]
  rfl
theorem either_run {a b : List P2} {h : AH} (l : a.length + b.length < 100000) : pcallM (app2 f_either) [wk a, wk b] h = .ok (wk (either a b)) h := by
  have e : f_either (wk a) (wk b) [] = .ok (wk (either a b)) [] := by
    have s : ∀ h, addM (wk a) (wk b) h = .ok (wk (a ++ b)) h := fun h => by
      unfold wk
      rw [addM_tup (by rw [List.length_map, List.length_map]; omega), List.map_append]
    have t : ∀ h, sortedM (wk (a ++ b)) h = .ok (wl ((a ++ b).mergeSort lexLe)) h := fun h => sorted_run (by rw [List.length_append]; omega)
    have y : ∀ h, pcallM (app1 f_laid_together) [wl ((a ++ b).mergeSort lexLe)] h = .ok (wk (either a b)) h := fun h => laid_run (.inr rfl) (by rw [List.length_mergeSort, List.length_append]; omega)
    unfold f_either b_either
    simp only [r_bind, r_pure, r_ok, r_exc, r_stuck, r_ite, r_iteP, r_obind, r_nx, r_ret, r_bk, r_ct, r_oexc, r_lbind, r_lnx, r_lct, r_lbk, r_lret, r_lexc, r_def, r_dnx, r_dret, r_dexc, r_lift, r_throw, addM_int, subM_int, negM_int, ltM_int, leM_int, gtM_int, geM_int, maxM_int, minM_int, eqM_int, neM_int, asB_bl, asI_int, notV_bl, truM_bl, andV_bl, orV_bl, lenM_tup, lenM_lst, itemsM_tup, itemsM_lst, tupleM_tup, tupleM_lst, listM_tup, listM_lst, sliceM_tup, sliceM_lst, lstH_nil, decide_eq_true_eq, ite_true, ite_false, if_true, if_false, reduceIte, Bool.false_eq_true, List.length_cons, List.length_nil, List.getElem?_cons_zero, List.getElem?_cons_succ, List.nil_append, Bool.not_true, Bool.not_false, s, t, y]
  exact pcallM_run (noRefs_two (noRef_wk _) (noRef_wk _)) e (noRef_wk _)
end Lw

/-! SetCw: what is a whole number. -/
namespace Lw
open PySem L2
/-! data with no list of the heap, no error in it -/
mutual
def pla : D → Bool
  | .ref _ => false
  | .exn _ _ => false
  | .tup xs => plas xs
  | .lst xs => plas xs
  | _ => true
def plas : List D → Bool
  | [] => true
  | d :: ds => pla d && plas ds
end
mutual
theorem pla_noRef : ∀ d : D, pla d = true → noRef d = true
  | .non, _ => by simp [noRef]
  | .bl _, _ => by simp [noRef]
  | .int _, _ => by simp [noRef]
  | .str _, _ => by simp [noRef]
  | .emp, _ => by simp [noRef]
  | .ref _, h => by
    unfold pla at h
    cases h
  | .exn _ _, h => by
    unfold pla at h
    cases h
  | .tup xs, h => by
    unfold pla at h
    rw [noRef_tup]
    exact plas_noRef xs h
  | .lst xs, h => by
    unfold pla at h
    rw [noRef_lst]
    exact plas_noRef xs h
theorem plas_noRef : ∀ ds : List D, plas ds = true → noRefs ds = true
  | [], _ => rfl
  | d :: ds, h => by
    unfold plas at h
    rw [Bool.and_eq_true] at h
    rw [noRefs_cons, pla_noRef d h.1, plas_noRef ds h.2]
    rfl
end
theorem plas_mem : ∀ {ds : List D}, plas ds = true → ∀ d ∈ ds, pla d = true
  | [], _, _, h => nomatch h
  | e :: ds, h, d, hd => by
    unfold plas at h
    rw [Bool.and_eq_true] at h
    rcases List.mem_cons.mp hd with rfl | hd
    · exact h.1
    · exact plas_mem h.2 d hd
theorem plas_of : ∀ {ds : List D}, (∀ d ∈ ds, pla d = true) → plas ds = true
  | [], _ => rfl
  | e :: ds, h => by
    unfold plas
    rw [h e List.mem_cons_self, plas_of fun d hd => h d (List.mem_cons_of_mem _ hd)]
    rfl
theorem pla_pd (p : P2) : pla (pd p) = true := rfl
theorem pla_wk (w : List P2) : pla (wk w) = true := by
  unfold wk pla
  exact plas_of fun d hd => by
    obtain ⟨p, _, rfl⟩ := List.mem_map.mp hd
    exact pla_pd p
def isInt : D → Bool
  | .int _ => true
  | _ => false
def isNum : D → Bool
  | .int _ => true
  | .bl _ => true
  | _ => false
def isTup : D → Bool
  | .tup _ => true
  | _ => false
def isStr : D → Bool
  | .tup [.int a, .int b] => decide (a < b)
  | _ => false
section
variable {h : AH}
theorem isM_T {d : D} {neg : Bool} (b : Bool) : isM neg d (.bl b) h = .ok (.bl (xor neg (isC d (.bl b)))) h := by
  unfold isM
  rfl
theorem isM_N {d : D} {neg : Bool} : isM neg d .non h = .ok (.bl (xor neg (isC d .non))) h := by
  unfold isM
  rfl
theorem isi_int (d : D) (q : pla d = true) : isiM "int" d h = .ok (.bl (isNum d)) h := by
  unfold isiM
  cases d <;> first | rfl | (unfold pla at q; cases q)
theorem isi_tup (d : D) (q : pla d = true) : isiM "tuple" d h = .ok (.bl (isTup d)) h := by
  unfold isiM
  cases d <;> first | rfl | (unfold pla at q; cases q)
theorem whole_body (d : D) (q : pla d = true) : f_is_whole d [] = .ok (.bl (isInt d)) [] := by
  unfold f_is_whole b_is_whole
  have a := isi_int (h := []) d q
  cases d with
  | int i => simp only [r_bind, r_pure, r_ok, r_exc, r_stuck, r_ite, r_iteP, r_obind, r_nx, r_ret, r_bk, r_ct, r_oexc, r_lbind, r_lnx, r_lct, r_lbk, r_lret, r_lexc, r_def, r_dnx, r_dret, r_dexc, r_lift, r_throw, addM_int, subM_int, negM_int, ltM_int, leM_int, gtM_int, geM_int, maxM_int, minM_int, eqM_int, neM_int, asB_bl, asI_int, notV_bl, truM_bl, andV_bl, orV_bl, lenM_tup, lenM_lst, itemsM_tup, itemsM_lst, tupleM_tup, tupleM_lst, listM_tup, listM_lst, sliceM_tup, sliceM_lst, lstH_nil, decide_eq_true_eq, ite_true, ite_false, if_true, if_false, reduceIte, Bool.false_eq_true, List.length_cons, List.length_nil, List.getElem?_cons_zero, List.getElem?_cons_succ, List.nil_append, Bool.not_true, Bool.not_false, a, isNum, isM_T, isC, isInt]; rfl
  | bl b => cases b <;> (simp only [r_bind, r_pure, r_ok, r_exc, r_stuck, r_ite, r_iteP, r_obind, r_nx, r_ret, r_bk, r_ct, r_oexc, r_lbind, r_lnx, r_lct, r_lbk, r_lret, r_lexc, r_def, r_dnx, r_dret, r_dexc, r_lift, r_throw, addM_int, subM_int, negM_int, ltM_int, leM_int, gtM_int, geM_int, maxM_int, minM_int, eqM_int, neM_int, asB_bl, asI_int, notV_bl, truM_bl, andV_bl, orV_bl, lenM_tup, lenM_lst, itemsM_tup, itemsM_lst, tupleM_tup, tupleM_lst, listM_tup, listM_lst, sliceM_tup, sliceM_lst, lstH_nil, decide_eq_true_eq, ite_true, ite_false, if_true, if_false, reduceIte, Bool.false_eq_true, List.length_cons, List.length_nil, List.getElem?_cons_zero, List.getElem?_cons_succ, List.nil_append, Bool.not_true, Bool.not_false, a, isNum, isM_T, isC, isInt]; rfl)
  | non => simp only [r_bind, r_pure, r_ok, r_exc, r_stuck, r_ite, r_iteP, r_obind, r_nx, r_ret, r_bk, r_ct, r_oexc, r_lbind, r_lnx, r_lct, r_lbk, r_lret, r_lexc, r_def, r_dnx, r_dret, r_dexc, r_lift, r_throw, addM_int, subM_int, negM_int, ltM_int, leM_int, gtM_int, geM_int, maxM_int, minM_int, eqM_int, neM_int, asB_bl, asI_int, notV_bl, truM_bl, andV_bl, orV_bl, lenM_tup, lenM_lst, itemsM_tup, itemsM_lst, tupleM_tup, tupleM_lst, listM_tup, listM_lst, sliceM_tup, sliceM_lst, lstH_nil, decide_eq_true_eq, ite_true, ite_false, if_true, if_false, reduceIte, Bool.false_eq_true, List.length_cons, List.length_nil, List.getElem?_cons_zero, List.getElem?_cons_succ, List.nil_append, Bool.not_true, Bool.not_false, a, isNum, isInt]
  | str x => simp only [r_bind, r_pure, r_ok, r_exc, r_stuck, r_ite, r_iteP, r_obind, r_nx, r_ret, r_bk, r_ct, r_oexc, r_lbind, r_lnx, r_lct, r_lbk, r_lret, r_lexc, r_def, r_dnx, r_dret, r_dexc, r_lift, r_throw, addM_int, subM_int, negM_int, ltM_int, leM_int, gtM_int, geM_int, maxM_int, minM_int, eqM_int, neM_int, asB_bl, asI_int, notV_bl, truM_bl, andV_bl, orV_bl, lenM_tup, lenM_lst, itemsM_tup, itemsM_lst, tupleM_tup, tupleM_lst, listM_tup, listM_lst, sliceM_tup, sliceM_lst, lstH_nil, decide_eq_true_eq, ite_true, ite_false, if_true, if_false, reduceIte, Bool.false_eq_true, List.length_cons, List.length_nil, List.getElem?_cons_zero, List.getElem?_cons_succ, List.nil_append, Bool.not_true, Bool.not_false, a, isNum, isInt]
  | tup x => simp only [r_bind, r_pure, r_ok, r_exc, r_stuck, r_ite, r_iteP, r_obind, r_nx, r_ret, r_bk, r_ct, r_oexc, r_lbind, r_lnx, r_lct, r_lbk, r_lret, r_lexc, r_def, r_dnx, r_dret, r_dexc, r_lift, r_throw, addM_int, subM_int, negM_int, ltM_int, leM_int, gtM_int, geM_int, maxM_int, minM_int, eqM_int, neM_int, asB_bl, asI_int, notV_bl, truM_bl, andV_bl, orV_bl, lenM_tup, lenM_lst, itemsM_tup, itemsM_lst, tupleM_tup, tupleM_lst, listM_tup, listM_lst, sliceM_tup, sliceM_lst, lstH_nil, decide_eq_true_eq, ite_true, ite_false, if_true, if_false, reduceIte, Bool.false_eq_true, List.length_cons, List.length_nil, List.getElem?_cons_zero, List.getElem?_cons_succ, List.nil_append, Bool.not_true, Bool.not_false, a, isNum, isInt]
  | lst x => simp only [r_bind, r_pure, r_ok, r_exc, r_stuck, r_ite, r_iteP, r_obind, r_nx, r_ret, r_bk, r_ct, r_oexc, r_lbind, r_lnx, r_lct, r_lbk, r_lret, r_lexc, r_def, r_dnx, r_dret, r_dexc, r_lift, r_throw, addM_int, subM_int, negM_int, ltM_int, leM_int, gtM_int, geM_int, maxM_int, minM_int, eqM_int, neM_int, asB_bl, asI_int, notV_bl, truM_bl, andV_bl, orV_bl, lenM_tup, lenM_lst, itemsM_tup, itemsM_lst, tupleM_tup, tupleM_lst, listM_tup, listM_lst, sliceM_tup, sliceM_lst, lstH_nil, decide_eq_true_eq, ite_true, ite_false, if_true, if_false, reduceIte, Bool.false_eq_true, List.length_cons, List.length_nil, List.getElem?_cons_zero, List.getElem?_cons_succ, List.nil_append, Bool.not_true, Bool.not_false, a, isNum, isInt]
  | emp => simp only [r_bind, r_pure, r_ok, r_exc, r_stuck, r_ite, r_iteP, r_obind, r_nx, r_ret, r_bk, r_ct, r_oexc, r_lbind, r_lnx, r_lct, r_lbk, r_lret, r_lexc, r_def, r_dnx, r_dret, r_dexc, r_lift, r_throw, addM_int, subM_int, negM_int, ltM_int, leM_int, gtM_int, geM_int, maxM_int, minM_int, eqM_int, neM_int, asB_bl, asI_int, notV_bl, truM_bl, andV_bl, orV_bl, lenM_tup, lenM_lst, itemsM_tup, itemsM_lst, tupleM_tup, tupleM_lst, listM_tup, listM_lst, sliceM_tup, sliceM_lst, lstH_nil, decide_eq_true_eq, ite_true, ite_false, if_true, if_false, reduceIte, Bool.false_eq_true, List.length_cons, List.length_nil, List.getElem?_cons_zero, List.getElem?_cons_succ, List.nil_append, Bool.not_true, Bool.not_false, a, isNum, isInt]
  | ref n => unfold pla at q; cases q
  | exn c n => unfold pla at q; cases q
theorem whole_run (d : D) (q : pla d = true) : pcallM (app1 f_is_whole) [d] h = .ok (.bl (isInt d)) h := pcallM_run (noRefs_one (pla_noRef d q)) (whole_body d q) noRef_bl
end
end Lw

/-! SetC: what is a stretch, work. -/
namespace Lw
open PySem L2
section
variable {h : AH}
theorem neInt2 (n : Nat) : neM (.int (n : Int)) (.int 2) h = .ok (.bl (decide (n ≠ 2))) h := by
  rw [neM_int]
  have e : ((n : Int) ≠ 2) = (n ≠ 2) := propext ⟨fun h k => h (by omega), fun h k => h (by omega)⟩
  congr 2
  exact decide_eq_decide.mpr (by rw [e])
theorem isStr_eq {d : D} (e : isStr d = true) : ∃ a b : Int, d = .tup [.int a, .int b] ∧ a < b := by
  unfold isStr at e
  split at e
  · exact ⟨_, _, rfl, of_decide_eq_true e⟩
  · cases e
theorem stretch_body (d : D) (q : pla d = true) : f_is_stretch d [] = .ok (.bl (isStr d)) [] := by
  have it := isi_tup (h := []) d q
  unfold f_is_stretch b_is_stretch
  cases d with
  | tup xs =>
    have q' : plas xs = true := by
      unfold pla at q
      exact q
    by_cases c : xs.length = 2
    · obtain ⟨x, y, rfl⟩ : ∃ x y, xs = [x, y] := by
        match xs, c with
        | [x, y], _ => exact ⟨x, y, rfl⟩
      have px : pla x = true := plas_mem q' x (by simp)
      have py : pla y = true := plas_mem q' y (by simp)
      have x0 : ixM (.tup [x, y]) (.int 0) [] = .ok x [] := ixM_tup rfl
      have x1 : ixM (.tup [x, y]) (.int 1) [] = .ok y [] := ixM_tup rfl
      have l2 : lenM (.tup [x, y]) [] = .ok (.int 2) [] := lenM_tup
      have n2 : neM (.int 2) (.int 2) [] = .ok (.bl false) [] := neInt2 2
      have wx := whole_run (h := []) x px
      have wy := whole_run (h := []) y py
      cases x with
      | int a =>
        cases y with
        | int b =>
          simp only [r_bind, r_pure, r_ok, r_exc, r_stuck, r_ite, r_iteP, r_obind, r_nx, r_ret, r_bk, r_ct, r_oexc, r_lbind, r_lnx, r_lct, r_lbk, r_lret, r_lexc, r_def, r_dnx, r_dret, r_dexc, r_lift, r_throw, addM_int, subM_int, negM_int, ltM_int, leM_int, gtM_int, geM_int, maxM_int, minM_int, asB_bl, asI_int, notV_bl, truM_bl, andV_bl, orV_bl, itemsM_tup, itemsM_lst, tupleM_tup, tupleM_lst, listM_tup, listM_lst, sliceM_tup, sliceM_lst, lstH_nil, decide_eq_true_eq, ite_true, ite_false, if_true, if_false, reduceIte, Bool.false_eq_true, List.getElem?_cons_zero, List.getElem?_cons_succ, List.nil_append, Bool.not_true, Bool.not_false, it, isTup, l2, n2, x0, x1, wx, wy, isInt, isStr]
        | _ => simp only [r_bind, r_pure, r_ok, r_exc, r_stuck, r_ite, r_iteP, r_obind, r_nx, r_ret, r_bk, r_ct, r_oexc, r_lbind, r_lnx, r_lct, r_lbk, r_lret, r_lexc, r_def, r_dnx, r_dret, r_dexc, r_lift, r_throw, addM_int, subM_int, negM_int, ltM_int, leM_int, gtM_int, geM_int, maxM_int, minM_int, asB_bl, asI_int, notV_bl, truM_bl, andV_bl, orV_bl, itemsM_tup, itemsM_lst, tupleM_tup, tupleM_lst, listM_tup, listM_lst, sliceM_tup, sliceM_lst, lstH_nil, decide_eq_true_eq, ite_true, ite_false, if_true, if_false, reduceIte, Bool.false_eq_true, List.getElem?_cons_zero, List.getElem?_cons_succ, List.nil_append, Bool.not_true, Bool.not_false, it, isTup, l2, n2, x0, x1, wx, wy, isInt, isStr]
      | _ => simp only [r_bind, r_pure, r_ok, r_exc, r_stuck, r_ite, r_iteP, r_obind, r_nx, r_ret, r_bk, r_ct, r_oexc, r_lbind, r_lnx, r_lct, r_lbk, r_lret, r_lexc, r_def, r_dnx, r_dret, r_dexc, r_lift, r_throw, addM_int, subM_int, negM_int, ltM_int, leM_int, gtM_int, geM_int, maxM_int, minM_int, asB_bl, asI_int, notV_bl, truM_bl, andV_bl, orV_bl, itemsM_tup, itemsM_lst, tupleM_tup, tupleM_lst, listM_tup, listM_lst, sliceM_tup, sliceM_lst, lstH_nil, decide_eq_true_eq, ite_true, ite_false, if_true, if_false, reduceIte, Bool.false_eq_true, List.getElem?_cons_zero, List.getElem?_cons_succ, List.nil_append, Bool.not_true, Bool.not_false, it, isTup, l2, n2, x0, x1, wx, wy, isInt, isStr]
    · have n2 : neM (.int (xs.length : Int)) (.int 2) [] = .ok (.bl true) [] := by rw [neInt2, decide_eq_true c]
      have e : isStr (.tup xs) = false := by
        cases z : isStr (.tup xs) with
        | false => rfl
        | true =>
          obtain ⟨a, b, e, _⟩ := isStr_eq z
          cases e
          exact absurd rfl c
      rw [e]
      have l2 : lenM (.tup xs) [] = .ok (.int xs.length) [] := lenM_tup
      simp only [r_bind, r_pure, r_ok, r_exc, r_stuck, r_ite, r_iteP, r_obind, r_nx, r_ret, r_bk, r_ct, r_oexc, r_lbind, r_lnx, r_lct, r_lbk, r_lret, r_lexc, r_def, r_dnx, r_dret, r_dexc, r_lift, r_throw, addM_int, subM_int, negM_int, ltM_int, leM_int, gtM_int, geM_int, maxM_int, minM_int, asB_bl, asI_int, notV_bl, truM_bl, andV_bl, orV_bl, itemsM_tup, itemsM_lst, tupleM_tup, tupleM_lst, listM_tup, listM_lst, sliceM_tup, sliceM_lst, lstH_nil, decide_eq_true_eq, ite_true, ite_false, if_true, if_false, reduceIte, Bool.false_eq_true, List.getElem?_cons_zero, List.getElem?_cons_succ, List.nil_append, Bool.not_true, Bool.not_false, it, isTup, l2, n2]
  | ref n => unfold pla at q; cases q
  | exn c n => unfold pla at q; cases q
  | _ => simp only [r_bind, r_pure, r_ok, r_exc, r_stuck, r_ite, r_iteP, r_obind, r_nx, r_ret, r_bk, r_ct, r_oexc, r_lbind, r_lnx, r_lct, r_lbk, r_lret, r_lexc, r_def, r_dnx, r_dret, r_dexc, r_lift, r_throw, addM_int, subM_int, negM_int, ltM_int, leM_int, gtM_int, geM_int, maxM_int, minM_int, asB_bl, asI_int, notV_bl, truM_bl, andV_bl, orV_bl, itemsM_tup, itemsM_lst, tupleM_tup, tupleM_lst, listM_tup, listM_lst, sliceM_tup, sliceM_lst, lstH_nil, decide_eq_true_eq, ite_true, ite_false, if_true, if_false, reduceIte, Bool.false_eq_true, List.getElem?_cons_zero, List.getElem?_cons_succ, List.nil_append, Bool.not_true, Bool.not_false, it, isTup, isStr]
theorem stretch_run (d : D) (q : pla d = true) : pcallM (app1 f_is_stretch) [d] h = .ok (.bl (isStr d)) h := pcallM_run (noRefs_one (pla_noRef d q)) (stretch_body d q) noRef_bl
/-- right work -/
def isWork (d : D) : Prop := ∃ w : List P2, d = wk w ∧ Wk w
theorem all_str : ∀ {xs : List D}, xs.all isStr = true → ∃ w : List P2, xs = w.map pd ∧ ∀ p, p ∈ w → p.1 < p.2
  | [], _ => ⟨[], rfl, fun _ h => nomatch h⟩
  | d :: xs, e => by
    rw [List.all_cons, Bool.and_eq_true] at e
    obtain ⟨a, b, rfl, l⟩ := isStr_eq e.1
    obtain ⟨w, rfl, hw⟩ := all_str e.2
    refine ⟨(a, b) :: w, rfl, fun p hp => ?_⟩
    rcases List.mem_cons.mp hp with rfl | hp
    · exact l
    · exact hw p hp
theorem all_pd {w : List P2} (hw : ∀ p, p ∈ w → p.1 < p.2) : (w.map pd).all isStr = true := by
  rw [List.all_eq_true]
  intro d hd
  obtain ⟨p, hp, rfl⟩ := List.mem_map.mp hd
  exact decide_eq_true (hw p hp)
/-- one by one they rise -/
def rises : List P2 → Bool
  | p :: q :: r => decide (¬ q.1 < p.2) && rises (q :: r)
  | _ => true
theorem rises_wk : ∀ {w : List P2}, (∀ p, p ∈ w → p.1 < p.2) → (rises w = true ↔ Wk w)
  | [], _ => ⟨fun _ => Wk.nil, fun _ => rfl⟩
  | [p], h => ⟨fun _ => ⟨by simp, h⟩, fun _ => rfl⟩
  | p :: q :: r, h => by
    have ih := rises_wk (w := q :: r) fun x hx => h x (List.mem_cons_of_mem _ hx)
    have hq := h q (by simp)
    unfold rises
    rw [Bool.and_eq_true, decide_eq_true_eq, ih]
    constructor
    · rintro ⟨a, b, c⟩
      refine ⟨List.pairwise_cons.mpr ⟨fun x hx => ?_, b⟩, h⟩
      rcases List.mem_cons.mp hx with rfl | hx
      · omega
      · have := (List.pairwise_cons.mp b).1 x hx
        omega
    · rintro ⟨b, c⟩
      have b1 := List.pairwise_cons.mp b
      have := b1.1 q (by simp)
      exact ⟨by omega, b1.2, fun x hx => c x (List.mem_cons_of_mem _ hx)⟩
theorem zip_cons (p q : P2) (r : List P2) : zipD ((p :: q :: r).map pd) ((q :: r).map pd) = .tup [pd p, pd q] :: zipD ((q :: r).map pd) (r.map pd) := rfl
theorem check_loop {β : Type} : ∀ w : List P2, (forM (zipD (w.map pd) (w.tail.map pd)) () l_check_work_2 : M (Out Unit β)) h = if rises w = true then .ok (.nx ()) h else .exc "BadWork" h
  | [] => rfl
  | [p] => rfl
  | p :: q :: r => by
    have x0 : ixM (pd q) (.int 0) h = .ok (.int q.1) h := ixM_tup rfl
    have x1 : ixM (pd p) (.int 1) h = .ok (.int p.2) h := ixM_tup rfl
    have un : (liftO (unpT (uCons some (uCons some uNil)) (.tup [pd p, pd q])) : M _) h = .ok (pd p, pd q, ()) h := rfl
    show (forM (zipD ((p :: q :: r).map pd) ((q :: r).map pd)) () l_check_work_2 : M (Out Unit β)) h = _
    rw [zip_cons, r_for]
    by_cases c : q.1 < p.2
    · have s : l_check_work_2 (.tup [pd p, pd q]) () h = .exc "BadWork" h := by
        unfold l_check_work_2
        simp only [r_bind, r_pure, r_ok, r_exc, r_stuck, r_ite, r_iteP, r_obind, r_nx, r_ret, r_bk, r_ct, r_oexc, r_lbind, r_lnx, r_lct, r_lbk, r_lret, r_lexc, r_def, r_dnx, r_dret, r_dexc, r_lift, r_throw, addM_int, subM_int, negM_int, ltM_int, leM_int, gtM_int, geM_int, maxM_int, minM_int, eqM_int, neM_int, asB_bl, asI_int, notV_bl, truM_bl, andV_bl, orV_bl, lenM_tup, lenM_lst, itemsM_tup, itemsM_lst, tupleM_tup, tupleM_lst, listM_tup, listM_lst, sliceM_tup, sliceM_lst, lstH_nil, decide_eq_true_eq, ite_true, ite_false, if_true, if_false, reduceIte, Bool.false_eq_true, List.length_cons, List.length_nil, List.getElem?_cons_zero, List.getElem?_cons_succ, List.nil_append, Bool.not_true, Bool.not_false, un, x0, x1, c]
      have e : rises (p :: q :: r) = false := by
        unfold rises
        simp [c]
      rw [s, e]
      rfl
    · have s : l_check_work_2 (.tup [pd p, pd q]) () h = .ok (.nx ()) h := by
        unfold l_check_work_2
        simp only [r_bind, r_pure, r_ok, r_exc, r_stuck, r_ite, r_iteP, r_obind, r_nx, r_ret, r_bk, r_ct, r_oexc, r_lbind, r_lnx, r_lct, r_lbk, r_lret, r_lexc, r_def, r_dnx, r_dret, r_dexc, r_lift, r_throw, addM_int, subM_int, negM_int, ltM_int, leM_int, gtM_int, geM_int, maxM_int, minM_int, eqM_int, neM_int, asB_bl, asI_int, notV_bl, truM_bl, andV_bl, orV_bl, lenM_tup, lenM_lst, itemsM_tup, itemsM_lst, tupleM_tup, tupleM_lst, listM_tup, listM_lst, sliceM_tup, sliceM_lst, lstH_nil, decide_eq_true_eq, ite_true, ite_false, if_true, if_false, reduceIte, Bool.false_eq_true, List.length_cons, List.length_nil, List.getElem?_cons_zero, List.getElem?_cons_succ, List.nil_append, Bool.not_true, Bool.not_false, un, x0, x1, c]
      have e : rises (p :: q :: r) = rises (q :: r) := by
        conv => lhs; unfold rises
        simp [c]
      rw [s, e, r_lnx]
      exact check_loop (q :: r)
theorem check_all (xs : List D) (q : plas xs = true) (l : xs.length ≤ 1000000) : lcM xs c_check_work_1 h = .ok (.lst ((xs.map isStr).map D.bl)) h := by
  have z := lcM_map (h := h) (f := c_check_work_1) (u := id) (v := fun x => D.bl (isStr x)) (zs := xs) l fun x hx => by
    have s := fun h => stretch_run (h := h) x (plas_mem q x hx)
    unfold c_check_work_1
    simp only [r_bind, r_pure, r_ok, r_exc, r_stuck, r_ite, r_iteP, r_obind, r_nx, r_ret, r_bk, r_ct, r_oexc, r_lbind, r_lnx, r_lct, r_lbk, r_lret, r_lexc, r_def, r_dnx, r_dret, r_dexc, r_lift, r_throw, addM_int, subM_int, negM_int, ltM_int, leM_int, gtM_int, geM_int, maxM_int, minM_int, eqM_int, neM_int, asB_bl, asI_int, notV_bl, truM_bl, andV_bl, orV_bl, lenM_tup, lenM_lst, itemsM_tup, itemsM_lst, tupleM_tup, tupleM_lst, listM_tup, listM_lst, sliceM_tup, sliceM_lst, lstH_nil, decide_eq_true_eq, ite_true, ite_false, if_true, if_false, reduceIte, Bool.false_eq_true, List.length_cons, List.length_nil, List.getElem?_cons_zero, List.getElem?_cons_succ, List.nil_append, Bool.not_true, Bool.not_false, id, s]
  rw [List.map_id] at z
  rw [z, List.map_map]
  rfl
/-- check_work lets right work by, and refuses all else -/
theorem check_body (d : D) (q : pla d = true) (l : ∀ xs, d = .tup xs → xs.length ≤ 1000000) : (isWork d ∧ f_check_work d [] = .ok .non []) ∨ (¬ isWork d ∧ f_check_work d [] = .exc "BadWork" []) := by
  have it := isi_tup (h := []) d q
  have no : ∀ {d : D}, (∀ xs, d ≠ .tup xs) → ¬ isWork d := fun h ⟨w, e, _⟩ => h _ e
  unfold f_check_work b_check_work
  cases d with
  | tup xs =>
    have q' : plas xs = true := by
      unfold pla at q
      exact q
    have ca := check_all (h := []) xs q' (l xs rfl)
    have al : allM (.lst ((xs.map isStr).map D.bl)) [] = .ok (.bl ((xs.map isStr).all id)) [] := allM_lst
    by_cases c : xs.all isStr = true
    · have e : ((xs.map isStr).all id) = true := by
        rw [List.all_map]
        exact c
      obtain ⟨w, rfl, hw⟩ := all_str c
      have sl : cutD (w.map pd) (some 1) none = w.tail.map pd := by
        rw [show (some (1 : Int)) = some ((1 : Nat) : Int) from rfl, cutD_drop, ← List.map_drop, List.drop_one]
      have zp : zipM [.tup (w.map pd), .tup (w.tail.map pd)] [] = .ok (zipD (w.map pd) (w.tail.map pd)) [] := zipM_tup
      have lp := check_loop (h := []) (β := Empty) w
      by_cases r : rises w = true
      · refine .inl ⟨⟨w, rfl, (rises_wk hw).mp r⟩, ?_⟩
        rw [if_pos r] at lp
        simp only [r_bind, r_pure, r_ok, r_exc, r_stuck, r_ite, r_iteP, r_obind, r_nx, r_ret, r_bk, r_ct, r_oexc, r_lbind, r_lnx, r_lct, r_lbk, r_lret, r_lexc, r_def, r_dnx, r_dret, r_dexc, r_lift, r_throw, addM_int, subM_int, negM_int, ltM_int, leM_int, gtM_int, geM_int, maxM_int, minM_int, asB_bl, asI_int, notV_bl, truM_bl, andV_bl, orV_bl, itemsM_tup, itemsM_lst, tupleM_tup, tupleM_lst, listM_tup, listM_lst, sliceM_tup, sliceM_lst, lstH_nil, decide_eq_true_eq, ite_true, ite_false, if_true, if_false, reduceIte, Bool.false_eq_true, List.getElem?_cons_zero, List.getElem?_cons_succ, List.nil_append, Bool.not_true, Bool.not_false, it, isTup, ca, al, e, sl, zp, lp]
      · refine .inr ⟨fun ⟨u, e, hu⟩ => ?_, ?_⟩
        · have := map_pd_inj (D.tup.inj e)
          subst this
          exact r ((rises_wk hw).mpr hu)
        · rw [if_neg r] at lp
          simp only [r_bind, r_pure, r_ok, r_exc, r_stuck, r_ite, r_iteP, r_obind, r_nx, r_ret, r_bk, r_ct, r_oexc, r_lbind, r_lnx, r_lct, r_lbk, r_lret, r_lexc, r_def, r_dnx, r_dret, r_dexc, r_lift, r_throw, addM_int, subM_int, negM_int, ltM_int, leM_int, gtM_int, geM_int, maxM_int, minM_int, asB_bl, asI_int, notV_bl, truM_bl, andV_bl, orV_bl, itemsM_tup, itemsM_lst, tupleM_tup, tupleM_lst, listM_tup, listM_lst, sliceM_tup, sliceM_lst, lstH_nil, decide_eq_true_eq, ite_true, ite_false, if_true, if_false, reduceIte, Bool.false_eq_true, List.getElem?_cons_zero, List.getElem?_cons_succ, List.nil_append, Bool.not_true, Bool.not_false, it, isTup, ca, al, e, sl, zp, lp]
    · have e : ((xs.map isStr).all id) = false := by
        rw [List.all_map]
        exact Bool.eq_false_iff.mpr c
      refine .inr ⟨fun ⟨u, e, hu⟩ => ?_, ?_⟩
      · rw [D.tup.inj e] at c
        exact c (all_pd hu.2)
      · simp only [r_bind, r_pure, r_ok, r_exc, r_stuck, r_ite, r_iteP, r_obind, r_nx, r_ret, r_bk, r_ct, r_oexc, r_lbind, r_lnx, r_lct, r_lbk, r_lret, r_lexc, r_def, r_dnx, r_dret, r_dexc, r_lift, r_throw, addM_int, subM_int, negM_int, ltM_int, leM_int, gtM_int, geM_int, maxM_int, minM_int, asB_bl, asI_int, notV_bl, truM_bl, andV_bl, orV_bl, itemsM_tup, itemsM_lst, tupleM_tup, tupleM_lst, listM_tup, listM_lst, sliceM_tup, sliceM_lst, lstH_nil, decide_eq_true_eq, ite_true, ite_false, if_true, if_false, reduceIte, Bool.false_eq_true, List.getElem?_cons_zero, List.getElem?_cons_succ, List.nil_append, Bool.not_true, Bool.not_false, it, isTup, ca, al, e]
  | ref n => unfold pla at q; cases q
  | exn c n => unfold pla at q; cases q
  | _ => refine .inr ⟨no (by intro _ z; cases z), ?_⟩; simp only [r_bind, r_pure, r_ok, r_exc, r_stuck, r_ite, r_iteP, r_obind, r_nx, r_ret, r_bk, r_ct, r_oexc, r_lbind, r_lnx, r_lct, r_lbk, r_lret, r_lexc, r_def, r_dnx, r_dret, r_dexc, r_lift, r_throw, addM_int, subM_int, negM_int, ltM_int, leM_int, gtM_int, geM_int, maxM_int, minM_int, asB_bl, asI_int, notV_bl, truM_bl, andV_bl, orV_bl, itemsM_tup, itemsM_lst, tupleM_tup, tupleM_lst, listM_tup, listM_lst, sliceM_tup, sliceM_lst, lstH_nil, decide_eq_true_eq, ite_true, ite_false, if_true, if_false, reduceIte, Bool.false_eq_true, List.getElem?_cons_zero, List.getElem?_cons_succ, List.nil_append, Bool.not_true, Bool.not_false, it, isTup]
theorem check_ok (d : D) (q : pla d = true) (l : ∀ xs, d = .tup xs → xs.length ≤ 1000000) (w : isWork d) (h : AH) : pcallM (app1 f_check_work) [d] h = .ok .non h := by
  rcases check_body d q l with ⟨_, e⟩ | ⟨n, _⟩
  · exact pcallM_run (noRefs_one (pla_noRef d q)) e noRef_non
  · exact absurd w n
theorem check_bad (d : D) (q : pla d = true) (l : ∀ xs, d = .tup xs → xs.length ≤ 1000000) (w : ¬ isWork d) (h : AH) : pcallM (app1 f_check_work) [d] h = .exc "BadWork" h := by
  rcases check_body d q l with ⟨n, _⟩ | ⟨_, e⟩
  · exact absurd n w
  · exact pcallM_exc (noRefs_one (pla_noRef d q)) e
end
end Lw

/-! SetS: sheets. -/
namespace Lw
open PySem L2
structure Sheet where
  work : List P2
  laid : List P2
  res : List (Int × Int)
def kvI (l : List (Int × Int)) : List (Key × D) := l.map fun p => (Sum.inl p.1, D.int p.2)
def resAt (l : List (Int × Int)) (p : Int) : Option Int := (l.find? fun q => decide (q.1 = p)).map (·.2)
def shC (b : Nat) (S : Sheet) : Cell := .ins "Sheet" [("work", wk S.work), ("by_place", .ref b), ("laid", wk S.laid)]
structure ShOk (S : Sheet) : Prop where
  w : Wk S.work
  c : Can S.laid
  dom : ∀ p, mem p S.laid ↔ (resAt S.res p).isSome = true
  sub : ∀ p, mem p S.laid → mem p S.work
structure ShAt (h : AH) (n b : Nat) (S : Sheet) : Prop where
  obj : h[n]? = some (shC b S)
  dct : h[b]? = some (.dk (kvI S.res))
  ok : ShOk S
/-- all but two cells are as they were -/
def Fr2 (n b : Nat) (h h' : AH) : Prop := h'.length = h.length ∧ ∀ i, i ≠ n → i ≠ b → h'[i]? = h[i]?
theorem valD_kvI (l : List (Int × Int)) (p : Int) : valD (kvI l) (.inl p) = (resAt l p).map D.int := by
  unfold valD kvI resAt
  induction l with
  | nil => rfl
  | cons q r ih =>
    rw [List.map_cons, List.find?_cons, List.find?_cons]
    by_cases e : q.1 = p
    · simp [e]
    · have e2 : ¬ ((Sum.inl q.1 : Key) = .inl p) := fun z => e (Sum.inl.inj z)
      simp only [e, e2, decide_false]
      exact ih
theorem any_kvI (l : List (Int × Int)) (p : Int) : ((kvI l).any fun kv => decide (kv.1 = .inl p)) = (resAt l p).isSome := by
  unfold kvI resAt
  induction l with
  | nil => rfl
  | cons q r ih =>
    rw [List.map_cons, List.any_cons, List.find?_cons]
    by_cases e : q.1 = p
    · simp [e]
    · have e2 : ¬ ((Sum.inl q.1 : Key) = .inl p) := fun z => e (Sum.inl.inj z)
      simp only [e, e2, decide_false, Bool.false_or]
      exact ih
theorem resAt_append (l r : List (Int × Int)) (p : Int) : resAt (l ++ r) p = (resAt l p).or (resAt r p) := by
  unfold resAt
  rw [List.find?_append]
  cases l.find? (fun q => decide (q.1 = p)) <;> rfl
theorem put_kvI {l : List (Int × Int)} {p x : Int} (e : resAt l p = none) : putKD (kvI l) (.inl p) (.int x) = kvI (l ++ [(p, x)]) := by
  unfold putKD
  rw [any_kvI, e]
  simp only [Option.isSome_none, Bool.false_eq_true, if_false]
  unfold kvI
  rw [List.map_append]
  rfl
/-- numbers from a place on -/
def numAt (p : Int) : List Int → List (Int × Int)
  | [] => []
  | x :: r => (p, x) :: numAt (p + 1) r
theorem numAt_length (p : Int) (ns : List Int) : (numAt p ns).length = ns.length := by
  induction ns generalizing p with
  | nil => rfl
  | cons x r ih => simp [numAt, ih]
theorem numAt_get : ∀ (ns : List Int) (p : Int) (k : Nat), (numAt p ns)[k]? = (ns[k]?).map fun x => (p + (k : Int), x)
  | [], p, k => by simp [numAt]
  | x :: r, p, 0 => by simp [numAt]
  | x :: r, p, k + 1 => by
    rw [numAt, List.getElem?_cons_succ, List.getElem?_cons_succ, numAt_get r (p + 1) k]
    congr 1
    funext y
    congr 1
    omega
theorem resAt_numAt : ∀ (ns : List Int) (p q : Int), resAt (numAt p ns) q = if p ≤ q then ns[(q - p).toNat]? else none
  | [], p, q => by
    unfold numAt resAt
    simp
  | x :: r, p, q => by
    unfold numAt resAt
    rw [List.find?_cons]
    by_cases e : p = q
    · subst e
      simp
    · simp only [e, decide_false]
      have ih := resAt_numAt r (p + 1) q
      unfold resAt at ih
      rw [ih]
      by_cases l : p ≤ q
      · rw [if_pos (by omega), if_pos l]
        have z : (q - p).toNat = (q - (p + 1)).toNat + 1 := by omega
        rw [z, List.getElem?_cons_succ]
      · rw [if_neg (by omega), if_neg l]
theorem resAt_take (ns : List Int) (p q : Int) (k : Nat) (hq : p + k ≤ q) : resAt (numAt p (ns.take k)) q = none := by
  rw [resAt_numAt]
  split
  · rw [List.getElem?_eq_none]
    rw [List.length_take]
    omega
  · rfl
theorem getElem?_ltS {α : Type} {l : List α} {n : Nat} {x : α} (e : l[n]? = some x) : n < l.length := (List.getElem?_eq_some_iff.mp e).1
theorem set_same {α : Type} {l : List α} {n : Nat} {x : α} (e : l[n]? = some x) : l.set n x = l := by
  refine List.ext_getElem? fun i => ?_
  by_cases z : n = i
  · subst z
    rw [List.getElem?_set_self (getElem?_ltS e), e]
  · rw [List.getElem?_set_ne z]
inductive Lay where
  | bad | twice | ok (S : Sheet)
/-- what a laying comes to -/
def aLay (S : Sheet) (p : Int) (ns : List Int) : Lay :=
  if ns = [] then .ok S
  else if without [(p, p + ns.length)] S.work ≠ [] then .bad
  else if both [(p, p + ns.length)] S.laid ≠ [] then .twice
  else .ok ⟨S.work, either S.laid [(p, p + ns.length)], S.res ++ numAt p ns⟩
theorem wk_one {p q : Int} (h : p < q) : Wk [(p, q)] := ⟨List.pairwise_singleton _ _, fun r hr => by
  rw [List.mem_singleton.mp hr]
  exact h⟩
theorem lay_ok {S S' : Sheet} {p : Int} {ns : List Int} (o : ShOk S) (e : aLay S p ns = .ok S') (hn : ns ≠ []) : ShOk S' ∧ S' = ⟨S.work, either S.laid [(p, p + ns.length)], S.res ++ numAt p ns⟩ ∧ (∀ q, p ≤ q → q < p + ns.length → mem q S.work ∧ ¬ mem q S.laid) ∧ S'.laid.length ≤ S.laid.length + 1 := by
  unfold aLay at e
  rw [if_neg hn] at e
  have hl : 0 < ns.length := List.length_pos_iff.mpr hn
  have k1 : Wk [(p, p + ns.length)] := wk_one (by omega)
  by_cases h1 : without [(p, p + ns.length)] S.work = []
  · rw [if_neg (fun z => z h1)] at e
    by_cases h2 : both [(p, p + ns.length)] S.laid = []
    · rw [if_neg (fun z => z h2)] at e
      cases e
      have m1 : ∀ q, p ≤ q → q < p + ns.length → mem q S.work := fun q a b => by
        have z := not_congr (without_mem (n := q) k1 o.w)
        rw [h1] at z
        exact Classical.byContradiction fun y => (z.mp (fun x => mem_nil.mp x)) ⟨mem_one.mpr ⟨a, b⟩, y⟩
      have m2 : ∀ q, p ≤ q → q < p + ns.length → ¬ mem q S.laid := fun q a b y => by
        have z := (both_mem (n := q) k1 o.c.wk)
        rw [h2] at z
        exact mem_nil.mp (z.mpr ⟨mem_one.mpr ⟨a, b⟩, y⟩)
      refine ⟨⟨o.w, either_can o.c.wk k1, fun q => ?_, fun q hq => ?_⟩, rfl, fun q a b => ⟨m1 q a b, m2 q a b⟩, either_length o.c.wk k1⟩
      · rw [either_mem o.c.wk k1, mem_one, o.dom q, resAt_append]
        show _ ↔ ((resAt S.res q).or (resAt (numAt p ns) q)).isSome = true
        rw [Option.isSome_or, Bool.or_eq_true, resAt_numAt]
        refine or_congr Iff.rfl ?_
        show p ≤ q ∧ q < p + ns.length ↔ _
        constructor
        · rintro ⟨a, b⟩
          rw [if_pos a, List.getElem?_eq_getElem (by omega)]
          rfl
        · intro z
          by_cases a : p ≤ q
          · rw [if_pos a] at z
            obtain ⟨x, hx⟩ := Option.isSome_iff_exists.mp z
            have := (List.getElem?_eq_some_iff.mp hx).1
            omega
          · rw [if_neg a] at z
            cases z
      · rcases (either_mem o.c.wk k1).mp hq with z | z
        · exact o.sub q z
        · have z := mem_one.mp z
          exact m1 q z.1 z.2
    · rw [if_pos h2] at e
      cases e
  · rw [if_pos h1] at e
    cases e
section
variable {h : AH} {n b : Nat} {E : Str → AH → Prop} {P : D → AH → Prop} {S : Sheet}
theorem Wp.run {r : Res D} {a : D} {h' : AH} (e : r = .ok a h') : Wp r P E ↔ P a h' := by
  rw [e] <;> exact Iff.rfl
theorem w_eqwk {w u : List P2} : Wp (eqM (wk w) (wk u) h) P E ↔ P (.bl (decide (w = u))) h := Wp.run eq_wk
theorem w_newk {w u : List P2} : Wp (neM (wk w) (wk u) h) P E ↔ P (.bl (decide (w ≠ u))) h := Wp.run ne_wk
theorem w_pwhole (d : D) (q : pla d = true) : Wp (pcallM (app1 f_is_whole) [d] h) P E ↔ P (.bl (isInt d)) h := Wp.run (whole_run d q)
theorem w_isit (d : D) (q : pla d = true) : Wp (isiM "tuple" d h) P E ↔ P (.bl (isTup d)) h := Wp.run (isi_tup d q)
theorem ints_nil {ns : List Int} : Wp (eqM (.tup (ns.map D.int)) (.tup []) h) P E ↔ P (.bl (decide (ns = []))) h := by
  have nbi : ∀ l : List Int, nbs 59 (l.map D.int) = true := fun l => by
    induction l with
    | nil => rfl
    | cons x r ih =>
      rw [List.map_cons]
      show (nb 59 (.int x) && nbs 59 (r.map D.int)) = true
      rw [ih]
      rfl
  cases ns with
  | nil => exact Wp.run (eqM_eq (by rfl) (by rfl) rfl)
  | cons x r =>
    refine Wp.run (eqM_ne (a := .tup ((x :: r).map D.int)) (by show nb 60 (.tup ((x :: r).map D.int)) = true; unfold nb; exact nbi _) (by rfl) (fun z => ?_))
    have z : D.tup ((x :: r).map D.int) = .tup [] := z
    cases z
theorem all_whole {ns : List Int} (l : ns.length ≤ 1000000) : Wp (lcM (ns.map D.int) c_Sheet_lay_1 h) P E ↔ P (.lst ((ns.map fun _ => true).map D.bl)) h := by
  have e := lcM_map (h := h) (f := c_Sheet_lay_1) (u := D.int) (v := fun _ => D.bl true) (zs := ns) l fun x _ => by
    unfold c_Sheet_lay_1
    simp only [r_bind, r_pure, r_ok, r_lift, if_true, whole_run (.int x) rfl, isInt]
  rw [List.map_map]
  exact Wp.run e
theorem ShAt.chk (s : ShAt h n b S) {m : Str} {U : Unit → AH → Prop} (e : ([("work", wk S.work), ("by_place", D.ref b), ("laid", wk S.laid)] : List (Str × D)).lookup m = none := by rfl) : Wp (mchkM "Sheet" m (.ref n) h) U E ↔ U () h := w_mchk s.obj e
theorem lay_w {p : Int} {ns : List Int} (s : ShAt h n b S) (nl : ns.length < 10000) (sz : (S.work.length + 1) * (S.laid.length + 2) < 50000) (rz : S.res.length < 500000)
    (k : match aLay S p ns with | .bad => E "BadPlace" h | .twice => E "Twice" h | .ok S' => ∀ h', ShAt h' n b S' → Fr2 n b h h' → P .non h') :
    Wp (f_Sheet_lay (.ref n) (.int p) (.tup (ns.map D.int)) h) P E := by
  have tr : (ns.map fun _ => true).all id = true := by simp
  unfold f_Sheet_lay b_Sheet_lay
  simp only [w_bind, w_pure, w_throw, w_tup0, w_lst0, w_lsH0, w_tup1, w_lst1, w_lsH1, w_tup2, w_lst2, w_lsH2, w_tup3, w_lst3, w_lsH3, w_tup4, w_lst4, w_lsH4, w_tup5, w_lst5, w_lsH5, w_tup6, w_lst6, w_lsH6, w_tup7, w_lst7, w_lsH7, w_tup8, w_lst8, w_lsH8, w_ite, w_iteP, w_obind, oK_nx, oK_ret, oK_bk, oK_ct, w_def, dK_nx, dK_ret, w_lift, w_noex, w_add, w_sub, w_neg, w_lt, w_le, w_gt, w_ge, w_max, w_min, w_eqi, w_nei, w_eqs, w_nes, w_asB, w_asI, w_not, w_tru, w_and, w_or, w_new, w_lenT, w_lenL, w_itT, w_itL, w_tupT, w_tupL, w_listT, w_listL, w_slT, w_slL, w_isn, w_isnn, w_inti, w_intb, w_strs, w_schk, w_zipT, w_zipL, w_zipLT, w_enumT, w_enumL, w_app1, w_app2, w_app3, w_app4, w_app5, tK_nx, tK_ct, tK_bk, tK_ret, lK_nx, lK_ct, lK_bk, lK_ret, decide_eq_true_eq, if_true, if_false, reduceIte, Bool.false_eq_true, Bool.not_true, Bool.not_false, List.length_cons, List.length_nil, w_pwhole (.int p) rfl, isInt, show isiM "tuple" (.tup (ns.map D.int)) = fun h => .ok (.bl true) h from rfl, w_ok, all_whole (show ns.length ≤ 1000000 by omega), w_all, tr, ints_nil]
  by_cases hn : ns = []
  · subst hn
    simp only [if_true]
    exact k h s ⟨rfl, fun _ _ _ => rfl⟩
  · have hl : 0 < ns.length := List.length_pos_iff.mpr hn
    have fw : fldM tabC "work" (.ref n) h = .ok (wk S.work) h := by
      unfold fldM
      simp only [s.obj, shC]
      rfl
    have fl : fldM tabC "laid" (.ref n) h = .ok (wk S.laid) h := by
      unfold fldM
      simp only [s.obj, shC]
      rfl
    have z0 : (S.work.length + 1) * 2 ≤ (S.work.length + 1) * (S.laid.length + 2) := Nat.mul_le_mul_left _ (by omega)
    have z1 : S.laid.length + 2 ≤ (S.work.length + 1) * (S.laid.length + 2) := Nat.le_mul_of_pos_left _ (by omega)
    have here : D.tup [.tup [.int p, .int (p + ns.length)]] = wk [(p, p + ns.length)] := rfl
    simp only [hn, w_bind, w_pure, w_throw, w_tup0, w_lst0, w_lsH0, w_tup1, w_lst1, w_lsH1, w_tup2, w_lst2, w_lsH2, w_tup3, w_lst3, w_lsH3, w_tup4, w_lst4, w_lsH4, w_tup5, w_lst5, w_lsH5, w_tup6, w_lst6, w_lsH6, w_tup7, w_lst7, w_lsH7, w_tup8, w_lst8, w_lsH8, w_ite, w_iteP, w_obind, oK_nx, oK_ret, oK_bk, oK_ct, w_def, dK_nx, dK_ret, w_lift, w_noex, w_add, w_sub, w_neg, w_lt, w_le, w_gt, w_ge, w_max, w_min, w_eqi, w_nei, w_eqs, w_nes, w_asB, w_asI, w_not, w_tru, w_and, w_or, w_new, w_lenT, w_lenL, w_itT, w_itL, w_tupT, w_tupL, w_listT, w_listL, w_slT, w_slL, w_isn, w_isnn, w_inti, w_intb, w_strs, w_schk, w_zipT, w_zipL, w_zipLT, w_enumT, w_enumL, w_app1, w_app2, w_app3, w_app4, w_app5, tK_nx, tK_ct, tK_bk, tK_ret, lK_nx, lK_ct, lK_bk, lK_ret, decide_eq_true_eq, if_true, if_false, reduceIte, Bool.false_eq_true, Bool.not_true, Bool.not_false, List.length_cons, List.length_nil, List.length_map, here, Wp.run fw, Wp.run fl,
      Wp.run (without_run (a := [(p, p + ns.length)]) (b := S.work) (h := h) (by simp only [List.length_cons, List.length_nil]; omega)), show D.tup [] = wk [] from rfl, w_newk]
    unfold aLay at k
    rw [if_neg hn] at k
    by_cases h1 : without [(p, p + ns.length)] S.work = []
    · have h1' : ¬ (without [(p, p + ns.length)] S.work ≠ []) := fun z => z h1
      rw [if_neg h1'] at k
      simp only [h1', decide_false, w_bind, w_pure, w_throw, w_tup0, w_lst0, w_lsH0, w_tup1, w_lst1, w_lsH1, w_tup2, w_lst2, w_lsH2, w_tup3, w_lst3, w_lsH3, w_tup4, w_lst4, w_lsH4, w_tup5, w_lst5, w_lsH5, w_tup6, w_lst6, w_lsH6, w_tup7, w_lst7, w_lsH7, w_tup8, w_lst8, w_lsH8, w_ite, w_iteP, w_obind, oK_nx, oK_ret, oK_bk, oK_ct, w_def, dK_nx, dK_ret, w_lift, w_noex, w_add, w_sub, w_neg, w_lt, w_le, w_gt, w_ge, w_max, w_min, w_eqi, w_nei, w_eqs, w_nes, w_asB, w_asI, w_not, w_tru, w_and, w_or, w_new, w_lenT, w_lenL, w_itT, w_itL, w_tupT, w_tupL, w_listT, w_listL, w_slT, w_slL, w_isn, w_isnn, w_inti, w_intb, w_strs, w_schk, w_zipT, w_zipL, w_zipLT, w_enumT, w_enumL, w_app1, w_app2, w_app3, w_app4, w_app5, tK_nx, tK_ct, tK_bk, tK_ret, lK_nx, lK_ct, lK_bk, lK_ret, decide_eq_true_eq, if_true, if_false, reduceIte, Bool.false_eq_true, Bool.not_true, Bool.not_false, List.length_cons, List.length_nil, Wp.run (both_run (a := [(p, p + ns.length)]) (b := S.laid) (h := h) (by simp only [List.length_cons, List.length_nil]; omega)), show D.tup [] = wk [] from rfl, w_newk, Wp.run fl]
      by_cases h2 : both [(p, p + ns.length)] S.laid = []
      · have h2' : ¬ (both [(p, p + ns.length)] S.laid ≠ []) := fun z => z h2
        rw [if_neg h2'] at k
        have al : aLay S p ns = .ok ⟨S.work, either S.laid [(p, p + ns.length)], S.res ++ numAt p ns⟩ := by
          unfold aLay
          rw [if_neg hn, if_neg h1', if_neg h2']
        obtain ⟨ok', _, free, len'⟩ := lay_ok s.ok al hn
        have nb' : n ≠ b := fun z => by
          have q := s.obj
          rw [z, s.dct] at q
          cases q
        simp only [h2', decide_false, w_bind, w_pure, w_throw, w_tup0, w_lst0, w_lsH0, w_tup1, w_lst1, w_lsH1, w_tup2, w_lst2, w_lsH2, w_tup3, w_lst3, w_lsH3, w_tup4, w_lst4, w_lsH4, w_tup5, w_lst5, w_lsH5, w_tup6, w_lst6, w_lsH6, w_tup7, w_lst7, w_lsH7, w_tup8, w_lst8, w_lsH8, w_ite, w_iteP, w_obind, oK_nx, oK_ret, oK_bk, oK_ct, w_def, dK_nx, dK_ret, w_lift, w_noex, w_add, w_sub, w_neg, w_lt, w_le, w_gt, w_ge, w_max, w_min, w_eqi, w_nei, w_eqs, w_nes, w_asB, w_asI, w_not, w_tru, w_and, w_or, w_new, w_lenT, w_lenL, w_itT, w_itL, w_tupT, w_tupL, w_listT, w_listL, w_slT, w_slL, w_isn, w_isnn, w_inti, w_intb, w_strs, w_schk, w_zipT, w_zipL, w_zipLT, w_enumT, w_enumL, w_app1, w_app2, w_app3, w_app4, w_app5, tK_nx, tK_ct, tK_bk, tK_ret, lK_nx, lK_ct, lK_bk, lK_ret, decide_eq_true_eq, if_true, if_false, reduceIte, Bool.false_eq_true, Bool.not_true, Bool.not_false, List.length_cons, List.length_nil]
        refine w_for (fun k _ hh => hh = h.set b (.dk (kvI (S.res ++ numAt p (ns.take k))))) ?_ (fun k x t hh hx i => ?_) fun t hh i => ?_
        · rw [List.take_zero]
          show h = h.set b (.dk (kvI (S.res ++ [])))
          rw [List.append_nil]
          exact (set_same s.dct).symm
        · subst i
          have hb := getElem?_ltS s.dct
          cases hk : ns[k]? with
          | none =>
            rw [List.getElem?_eq_none (by rw [enumD_length, List.length_map]; exact List.getElem?_eq_none_iff.mp hk)] at hx
            cases hx
          | some y =>
            have hx2 := enumD_get (lo := 0) (xs := ns.map D.int) (i := k) (d := .int y) (by rw [List.getElem?_map, hk]; rfl)
            rw [hx2] at hx
            cases hx
            have hkl := (List.getElem?_eq_some_iff.mp hk).1
            have e1 : (h.set b (.dk (kvI (S.res ++ numAt p (ns.take k)))))[n]? = some (shC b S) := by
              rw [List.getElem?_set_ne (Ne.symm nb')]
              exact s.obj
            have e2 : (h.set b (.dk (kvI (S.res ++ numAt p (ns.take k)))))[b]? = some (.dk (kvI (S.res ++ numAt p (ns.take k)))) := List.getElem?_set_self hb
            have fb : fldM tabC "by_place" (.ref n) (h.set b (.dk (kvI (S.res ++ numAt p (ns.take k))))) = .ok (.ref b) (h.set b (.dk (kvI (S.res ++ numAt p (ns.take k))))) := by
              unfold fldM
              simp only [e1, shC]
              rfl
            have none : resAt (S.res ++ numAt p (ns.take k)) (p + (k : Int)) = none := by
              rw [resAt_append, resAt_take _ _ _ _ (Int.le_refl _)]
              have f := (free (p + k) (by omega) (by omega)).2
              rw [s.ok.dom] at f
              cases q : resAt S.res (p + k) with
              | none => rfl
              | some _ =>
                rw [q] at f
                exact absurd rfl f
            unfold l_Sheet_lay_2
            simp only [w_bind, w_pure, w_throw, w_tup0, w_lst0, w_lsH0, w_tup1, w_lst1, w_lsH1, w_tup2, w_lst2, w_lsH2, w_tup3, w_lst3, w_lsH3, w_tup4, w_lst4, w_lsH4, w_tup5, w_lst5, w_lsH5, w_tup6, w_lst6, w_lsH6, w_tup7, w_lst7, w_lsH7, w_tup8, w_lst8, w_lsH8, w_ite, w_iteP, w_obind, oK_nx, oK_ret, oK_bk, oK_ct, w_def, dK_nx, dK_ret, w_lift, w_noex, w_add, w_sub, w_neg, w_lt, w_le, w_gt, w_ge, w_max, w_min, w_eqi, w_nei, w_eqs, w_nes, w_asB, w_asI, w_not, w_tru, w_and, w_or, w_new, w_lenT, w_lenL, w_itT, w_itL, w_tupT, w_tupL, w_listT, w_listL, w_slT, w_slL, w_isn, w_isnn, w_inti, w_intb, w_strs, w_schk, w_zipT, w_zipL, w_zipLT, w_enumT, w_enumL, w_app1, w_app2, w_app3, w_app4, w_app5, tK_nx, tK_ct, tK_bk, tK_ret, lK_nx, lK_ct, lK_bk, lK_ret, decide_eq_true_eq, if_true, if_false, reduceIte, Bool.false_eq_true, Bool.not_true, Bool.not_false, List.length_cons, List.length_nil, unpT, items?, uCons, uNil, Wp.run fb]
            have ke : keyD (.int (p + (0 + (k : Int)))) = some (.inl (p + (k : Int))) := by
              rw [Int.zero_add]
              rfl
            rw [w_dput e2 ke (by unfold kvI; rw [List.length_map, List.length_append, numAt_length, List.length_take]; omega), put_kvI none, List.set_set]
            have tk : ns.take (k + 1) = ns.take k ++ [y] := by
              rw [List.take_add_one, hk]
              rfl
            have na : ∀ (l : List Int) (q z : Int), numAt q (l ++ [z]) = numAt q l ++ [(q + l.length, z)] := by
              intro l
              induction l with
              | nil =>
                intro q z
                simp [numAt]
              | cons x r ih =>
                intro q z
                rw [List.cons_append, numAt, numAt, ih, List.cons_append]
                congr 3
                simp only [List.length_cons]
                congr 1
                omega
            rw [tk, na, List.length_take, Nat.min_eq_left (by omega), List.append_assoc]
        · have hb := getElem?_ltS s.dct
          subst i
          rw [oK_nx, enumD_length, List.length_map, List.take_length]
          have e1 : (h.set b (.dk (kvI (S.res ++ numAt p ns))))[n]? = some (shC b S) := by
            rw [List.getElem?_set_ne (Ne.symm nb')]
            exact s.obj
          have fl2 : fldM tabC "laid" (.ref n) (h.set b (.dk (kvI (S.res ++ numAt p ns)))) = .ok (wk S.laid) (h.set b (.dk (kvI (S.res ++ numAt p ns)))) := by
            unfold fldM
            simp only [e1, shC]
            rfl
          simp only [w_bind, w_pure, w_throw, w_tup0, w_lst0, w_lsH0, w_tup1, w_lst1, w_lsH1, w_tup2, w_lst2, w_lsH2, w_tup3, w_lst3, w_lsH3, w_tup4, w_lst4, w_lsH4, w_tup5, w_lst5, w_lsH5, w_tup6, w_lst6, w_lsH6, w_tup7, w_lst7, w_lsH7, w_tup8, w_lst8, w_lsH8, w_ite, w_iteP, w_obind, oK_nx, oK_ret, oK_bk, oK_ct, w_def, dK_nx, dK_ret, w_lift, w_noex, w_add, w_sub, w_neg, w_lt, w_le, w_gt, w_ge, w_max, w_min, w_eqi, w_nei, w_eqs, w_nes, w_asB, w_asI, w_not, w_tru, w_and, w_or, w_new, w_lenT, w_lenL, w_itT, w_itL, w_tupT, w_tupL, w_listT, w_listL, w_slT, w_slL, w_isn, w_isnn, w_inti, w_intb, w_strs, w_schk, w_zipT, w_zipL, w_zipLT, w_enumT, w_enumL, w_app1, w_app2, w_app3, w_app4, w_app5, tK_nx, tK_ct, tK_bk, tK_ret, lK_nx, lK_ct, lK_bk, lK_ret, decide_eq_true_eq, if_true, if_false, reduceIte, Bool.false_eq_true, Bool.not_true, Bool.not_false, List.length_cons, List.length_nil, Wp.run fl2, Wp.run (either_run (a := S.laid) (b := [(p, p + ns.length)]) (h := h.set b (.dk (kvI (S.res ++ numAt p ns)))) (by simp only [List.length_cons, List.length_nil]; omega)), w_setf e1 (show (hasF tabC "Sheet" "laid" && decide (([("work", wk S.work), ("by_place", D.ref b), ("laid", wk S.laid)] : List (Str × D)).length < 1000)) = true from rfl)]
          refine k _ ⟨?_, ?_, ok'⟩ ⟨by rw [List.length_set, List.length_set], fun i h1 h2 => by rw [List.getElem?_set_ne (Ne.symm h1), List.getElem?_set_ne (Ne.symm h2)]⟩
          · rw [List.getElem?_set_self (getElem?_ltS e1)]
            rfl
          · rw [List.getElem?_set_ne nb', List.getElem?_set_self hb]
      · rw [if_pos h2] at k
        simp only [h2, w_bind, w_pure, w_throw, w_tup0, w_lst0, w_lsH0, w_tup1, w_lst1, w_lsH1, w_tup2, w_lst2, w_lsH2, w_tup3, w_lst3, w_lsH3, w_tup4, w_lst4, w_lsH4, w_tup5, w_lst5, w_lsH5, w_tup6, w_lst6, w_lsH6, w_tup7, w_lst7, w_lsH7, w_tup8, w_lst8, w_lsH8, w_ite, w_iteP, w_obind, oK_nx, oK_ret, oK_bk, oK_ct, w_def, dK_nx, dK_ret, w_lift, w_noex, w_add, w_sub, w_neg, w_lt, w_le, w_gt, w_ge, w_max, w_min, w_eqi, w_nei, w_eqs, w_nes, w_asB, w_asI, w_not, w_tru, w_and, w_or, w_new, w_lenT, w_lenL, w_itT, w_itL, w_tupT, w_tupL, w_listT, w_listL, w_slT, w_slL, w_isn, w_isnn, w_inti, w_intb, w_strs, w_schk, w_zipT, w_zipL, w_zipLT, w_enumT, w_enumL, w_app1, w_app2, w_app3, w_app4, w_app5, tK_nx, tK_ct, tK_bk, tK_ret, lK_nx, lK_ct, lK_bk, lK_ret, decide_eq_true_eq, if_true, if_false, reduceIte, Bool.false_eq_true, Bool.not_true, Bool.not_false, List.length_cons, List.length_nil, ne_eq, not_false_eq_true, decide_true]
        exact k
    · rw [if_pos h1] at k
      simp only [h1, w_bind, w_pure, w_throw, w_tup0, w_lst0, w_lsH0, w_tup1, w_lst1, w_lsH1, w_tup2, w_lst2, w_lsH2, w_tup3, w_lst3, w_lsH3, w_tup4, w_lst4, w_lsH4, w_tup5, w_lst5, w_lsH5, w_tup6, w_lst6, w_lsH6, w_tup7, w_lst7, w_lsH7, w_tup8, w_lst8, w_lsH8, w_ite, w_iteP, w_obind, oK_nx, oK_ret, oK_bk, oK_ct, w_def, dK_nx, dK_ret, w_lift, w_noex, w_add, w_sub, w_neg, w_lt, w_le, w_gt, w_ge, w_max, w_min, w_eqi, w_nei, w_eqs, w_nes, w_asB, w_asI, w_not, w_tru, w_and, w_or, w_new, w_lenT, w_lenL, w_itT, w_itL, w_tupT, w_tupL, w_listT, w_listL, w_slT, w_slL, w_isn, w_isnn, w_inti, w_intb, w_strs, w_schk, w_zipT, w_zipL, w_zipLT, w_enumT, w_enumL, w_app1, w_app2, w_app3, w_app4, w_app5, tK_nx, tK_ct, tK_bk, tK_ret, lK_nx, lK_ct, lK_bk, lK_ret, decide_eq_true_eq, if_true, if_false, reduceIte, Bool.false_eq_true, Bool.not_true, Bool.not_false, List.length_cons, List.length_nil, ne_eq, not_false_eq_true, decide_true]
      exact k
/-- all results, as they are told -/
def resD (S : Sheet) : D := .lst (S.laid.map fun q => D.tup [.int q.1, .tup ((List.range (q.2 - q.1).toNat).map fun k => D.int ((resAt S.res (q.1 + (k : Nat))).getD 0))])
theorem left_w (s : ShAt h n b S) (sz : (S.work.length + 1) * (S.laid.length + 1) < 100000) (k : P (wk (without S.work S.laid)) h) : Wp (f_Sheet_left_work (.ref n) h) P E := by
  have fw : fldM tabC "work" (.ref n) h = .ok (wk S.work) h := by
    unfold fldM
    simp only [s.obj, shC]
    rfl
  have fl : fldM tabC "laid" (.ref n) h = .ok (wk S.laid) h := by
    unfold fldM
    simp only [s.obj, shC]
    rfl
  unfold f_Sheet_left_work b_Sheet_left_work
  simp only [w_bind, w_pure, w_throw, w_tup0, w_lst0, w_lsH0, w_tup1, w_lst1, w_lsH1, w_tup2, w_lst2, w_lsH2, w_tup3, w_lst3, w_lsH3, w_tup4, w_lst4, w_lsH4, w_tup5, w_lst5, w_lsH5, w_tup6, w_lst6, w_lsH6, w_tup7, w_lst7, w_lsH7, w_tup8, w_lst8, w_lsH8, w_ite, w_iteP, w_obind, oK_nx, oK_ret, oK_bk, oK_ct, w_def, dK_nx, dK_ret, w_lift, w_noex, w_add, w_sub, w_neg, w_lt, w_le, w_gt, w_ge, w_max, w_min, w_eqi, w_nei, w_eqs, w_nes, w_asB, w_asI, w_not, w_tru, w_and, w_or, w_new, w_lenT, w_lenL, w_itT, w_itL, w_tupT, w_tupL, w_listT, w_listL, w_slT, w_slL, w_isn, w_isnn, w_inti, w_intb, w_strs, w_schk, w_zipT, w_zipL, w_zipLT, w_enumT, w_enumL, w_app1, w_app2, w_app3, w_app4, w_app5, tK_nx, tK_ct, tK_bk, tK_ret, lK_nx, lK_ct, lK_bk, lK_ret, decide_eq_true_eq, if_true, if_false, reduceIte, Bool.false_eq_true, Bool.not_true, Bool.not_false, List.length_cons, List.length_nil, Wp.run fl, Wp.run fw, Wp.run (without_run (h := h) sz)]
  exact k
/-- a new sheet -/
theorem sheet_w {d : D} (q : pla d = true) (l : ∀ xs, d = .tup xs → xs.length ≤ 1000000) (bad : ¬ isWork d → E "BadWork" (h ++ [.ins "Sheet" []])) (k : ∀ w, d = wk w → Wk w → ∀ h', ShAt h' h.length (h.length + 1) ⟨w, [], []⟩ → h'.length = h.length + 2 → (∀ i, i < h.length → h'[i]? = h[i]?) → P (.ref h.length) h') :
    Wp (makeM "Sheet" (app2 f_Sheet___init__) [d] h) P E := by
  rw [w_make, w_app2]
  have o4 : (h ++ [Cell.ins "Sheet" []])[h.length]? = some (.ins "Sheet" []) := by simp
  have l4 : (h ++ [Cell.ins "Sheet" []]).length = h.length + 1 := by simp
  have k4 : ∀ i, i < h.length → (h ++ [Cell.ins "Sheet" []])[i]? = h[i]? := fun i hi => List.getElem?_append_left hi
  unfold f_Sheet___init__ b_Sheet___init__
  by_cases iw : isWork d
  · obtain ⟨w, rfl, hw⟩ := iw
    generalize h ++ [Cell.ins "Sheet" []] = h4 at o4 l4 k4
    have cw := check_ok (wk w) q l ⟨w, rfl, hw⟩ h4
    simp only [w_bind, w_pure, w_throw, w_tup0, w_lst0, w_lsH0, w_tup1, w_lst1, w_lsH1, w_tup2, w_lst2, w_lsH2, w_tup3, w_lst3, w_lsH3, w_tup4, w_lst4, w_lsH4, w_tup5, w_lst5, w_lsH5, w_tup6, w_lst6, w_lsH6, w_tup7, w_lst7, w_lsH7, w_tup8, w_lst8, w_lsH8, w_ite, w_iteP, w_obind, oK_nx, oK_ret, oK_bk, oK_ct, w_def, dK_nx, dK_ret, w_lift, w_noex, w_add, w_sub, w_neg, w_lt, w_le, w_gt, w_ge, w_max, w_min, w_eqi, w_nei, w_eqs, w_nes, w_asB, w_asI, w_not, w_tru, w_and, w_or, w_new, w_lenT, w_lenL, w_itT, w_itL, w_tupT, w_tupL, w_listT, w_listL, w_slT, w_slL, w_isn, w_isnn, w_inti, w_intb, w_strs, w_schk, w_zipT, w_zipL, w_zipLT, w_enumT, w_enumL, w_app1, w_app2, w_app3, w_app4, w_app5, tK_nx, tK_ct, tK_bk, tK_ret, lK_nx, lK_ct, lK_bk, lK_ret, decide_eq_true_eq, if_true, if_false, reduceIte, Bool.false_eq_true, Bool.not_true, Bool.not_false, List.length_cons, List.length_nil, Wp.run cw, w_setf o4 (show (hasF tabC "Sheet" "work" && decide (([] : List (Str × D)).length < 1000)) = true from rfl)]
    have o5 : (h4.set h.length (.ins "Sheet" [("work", wk w)]) ++ [Cell.dk []])[h.length]? = some (.ins "Sheet" [("work", wk w)]) := by
      rw [List.getElem?_append_left (by rw [List.length_set]; omega), List.getElem?_set_self (by omega)]
    have d5 : (h4.set h.length (.ins "Sheet" [("work", wk w)]) ++ [Cell.dk []])[h.length + 1]? = some (.dk []) := by
      rw [List.getElem?_append_right (by rw [List.length_set]; omega), List.length_set, l4]
      simp
    have l5 : (h4.set h.length (.ins "Sheet" [("work", wk w)]) ++ [Cell.dk []]).length = h.length + 2 := by
      rw [List.length_append, List.length_set, l4]
      rfl
    have k5 : ∀ i, i < h.length → (h4.set h.length (.ins "Sheet" [("work", wk w)]) ++ [Cell.dk []])[i]? = h[i]? := fun i hi => by
      rw [List.getElem?_append_left (by rw [List.length_set]; omega), List.getElem?_set_ne (by omega)]
      exact k4 i hi
    rw [show putD "work" (wk w) [] = [(("work" : Str), wk w)] from rfl, List.length_set, l4]
    generalize h4.set h.length (.ins "Sheet" [("work", wk w)]) ++ [Cell.dk []] = h5 at o5 d5 l5 k5
    simp only [w_bind, w_pure, w_throw, w_tup0, w_lst0, w_lsH0, w_tup1, w_lst1, w_lsH1, w_tup2, w_lst2, w_lsH2, w_tup3, w_lst3, w_lsH3, w_tup4, w_lst4, w_lsH4, w_tup5, w_lst5, w_lsH5, w_tup6, w_lst6, w_lsH6, w_tup7, w_lst7, w_lsH7, w_tup8, w_lst8, w_lsH8, w_ite, w_iteP, w_obind, oK_nx, oK_ret, oK_bk, oK_ct, w_def, dK_nx, dK_ret, w_lift, w_noex, w_add, w_sub, w_neg, w_lt, w_le, w_gt, w_ge, w_max, w_min, w_eqi, w_nei, w_eqs, w_nes, w_asB, w_asI, w_not, w_tru, w_and, w_or, w_new, w_lenT, w_lenL, w_itT, w_itL, w_tupT, w_tupL, w_listT, w_listL, w_slT, w_slL, w_isn, w_isnn, w_inti, w_intb, w_strs, w_schk, w_zipT, w_zipL, w_zipLT, w_enumT, w_enumL, w_app1, w_app2, w_app3, w_app4, w_app5, tK_nx, tK_ct, tK_bk, tK_ret, lK_nx, lK_ct, lK_bk, lK_ret, decide_eq_true_eq, if_true, if_false, reduceIte, Bool.false_eq_true, Bool.not_true, Bool.not_false, List.length_cons, List.length_nil, w_setf o5 (show (hasF tabC "Sheet" "by_place" && decide (([("work", wk w)] : List (Str × D)).length < 1000)) = true from rfl)]
    have o6 : (h5.set h.length (.ins "Sheet" [("work", wk w), ("by_place", .ref (h.length + 1))]))[h.length]? = some (.ins "Sheet" [("work", wk w), ("by_place", .ref (h.length + 1))]) := List.getElem?_set_self (by omega)
    rw [show putD "by_place" (D.ref (h.length + 1)) [(("work" : Str), wk w)] = [(("work" : Str), wk w), ("by_place", .ref (h.length + 1))] from rfl]
    simp only [w_bind, w_pure, w_throw, w_tup0, w_lst0, w_lsH0, w_tup1, w_lst1, w_lsH1, w_tup2, w_lst2, w_lsH2, w_tup3, w_lst3, w_lsH3, w_tup4, w_lst4, w_lsH4, w_tup5, w_lst5, w_lsH5, w_tup6, w_lst6, w_lsH6, w_tup7, w_lst7, w_lsH7, w_tup8, w_lst8, w_lsH8, w_ite, w_iteP, w_obind, oK_nx, oK_ret, oK_bk, oK_ct, w_def, dK_nx, dK_ret, w_lift, w_noex, w_add, w_sub, w_neg, w_lt, w_le, w_gt, w_ge, w_max, w_min, w_eqi, w_nei, w_eqs, w_nes, w_asB, w_asI, w_not, w_tru, w_and, w_or, w_new, w_lenT, w_lenL, w_itT, w_itL, w_tupT, w_tupL, w_listT, w_listL, w_slT, w_slL, w_isn, w_isnn, w_inti, w_intb, w_strs, w_schk, w_zipT, w_zipL, w_zipLT, w_enumT, w_enumL, w_app1, w_app2, w_app3, w_app4, w_app5, tK_nx, tK_ct, tK_bk, tK_ret, lK_nx, lK_ct, lK_bk, lK_ret, decide_eq_true_eq, if_true, if_false, reduceIte, Bool.false_eq_true, Bool.not_true, Bool.not_false, List.length_cons, List.length_nil, w_setf o6 (show (hasF tabC "Sheet" "laid" && decide (([("work", wk w), ("by_place", D.ref (h.length + 1))] : List (Str × D)).length < 1000)) = true from rfl)]
    refine ⟨trivial, k w rfl hw _ ⟨?_, ?_, ⟨hw, Can.nil, fun p => ⟨fun z => (mem_nil.mp z).elim, fun z => by cases z⟩, fun p z => (mem_nil.mp z).elim⟩⟩ (by rw [List.length_set, List.length_set]; exact l5) fun i hi => ?_⟩
    · rw [List.getElem?_set_self (by rw [List.length_set]; omega)]
      rfl
    · rw [List.getElem?_set_ne (by omega), List.getElem?_set_ne (by omega)]
      exact d5
    · rw [List.getElem?_set_ne (by omega), List.getElem?_set_ne (by omega)]
      exact k5 i hi
  · have cw := check_bad d q l iw (h ++ [Cell.ins "Sheet" []])
    have cw2 : ∀ {Q : D → AH → Prop}, Wp (pcallM (app1 f_check_work) [d] (h ++ [Cell.ins "Sheet" []])) Q E := fun {Q} => by
      rw [cw]
      exact bad iw
    simp only [w_bind, w_pure, w_throw, w_tup0, w_lst0, w_lsH0, w_tup1, w_lst1, w_lsH1, w_tup2, w_lst2, w_lsH2, w_tup3, w_lst3, w_lsH3, w_tup4, w_lst4, w_lsH4, w_tup5, w_lst5, w_lsH5, w_tup6, w_lst6, w_lsH6, w_tup7, w_lst7, w_lsH7, w_tup8, w_lst8, w_lsH8, w_ite, w_iteP, w_obind, oK_nx, oK_ret, oK_bk, oK_ct, w_def, dK_nx, dK_ret, w_lift, w_noex, w_add, w_sub, w_neg, w_lt, w_le, w_gt, w_ge, w_max, w_min, w_eqi, w_nei, w_eqs, w_nes, w_asB, w_asI, w_not, w_tru, w_and, w_or, w_new, w_lenT, w_lenL, w_itT, w_itL, w_tupT, w_tupL, w_listT, w_listL, w_slT, w_slL, w_isn, w_isnn, w_inti, w_intb, w_strs, w_schk, w_zipT, w_zipL, w_zipLT, w_enumT, w_enumL, w_app1, w_app2, w_app3, w_app4, w_app5, tK_nx, tK_ct, tK_bk, tK_ret, lK_nx, lK_ct, lK_bk, lK_ret, decide_eq_true_eq, if_true, if_false, reduceIte, Bool.false_eq_true, Bool.not_true, Bool.not_false, List.length_cons, List.length_nil]
    exact cw2
end
end Lw

/-! SetSa: a place of a sheet asked. -/
namespace Lw
open PySem L2
section
variable {h : AH} {n b : Nat} {E : Str → AH → Prop} {P : D → AH → Prop} {S : Sheet}
/-- what a place has -/
theorem at_w {p : Int} (s : ShAt h n b S) (k : P (((resAt S.res p).map D.int).getD .non) h) : Wp (f_Sheet_result_at (.ref n) (.int p) h) P E := by
  have fb : fldM tabC "by_place" (.ref n) h = .ok (.ref b) h := by
    unfold fldM
    simp only [s.obj, shC]
    rfl
  unfold f_Sheet_result_at b_Sheet_result_at
  simp only [w_bind, w_pure, w_throw, w_tup0, w_lst0, w_lsH0, w_tup1, w_lst1, w_lsH1, w_tup2, w_lst2, w_lsH2, w_tup3, w_lst3, w_lsH3, w_tup4, w_lst4, w_lsH4, w_tup5, w_lst5, w_lsH5, w_tup6, w_lst6, w_lsH6, w_tup7, w_lst7, w_lsH7, w_tup8, w_lst8, w_lsH8, w_ite, w_iteP, w_obind, oK_nx, oK_ret, oK_bk, oK_ct, w_def, dK_nx, dK_ret, w_lift, w_noex, w_add, w_sub, w_neg, w_lt, w_le, w_gt, w_ge, w_max, w_min, w_eqi, w_nei, w_eqs, w_nes, w_asB, w_asI, w_not, w_tru, w_and, w_or, w_new, w_lenT, w_lenL, w_itT, w_itL, w_tupT, w_tupL, w_listT, w_listL, w_slT, w_slL, w_isn, w_isnn, w_inti, w_intb, w_strs, w_schk, w_zipT, w_zipL, w_zipLT, w_enumT, w_enumL, w_app1, w_app2, w_app3, w_app4, w_app5, tK_nx, tK_ct, tK_bk, tK_ret, lK_nx, lK_ct, lK_bk, lK_ret, decide_eq_true_eq, if_true, if_false, reduceIte, Bool.false_eq_true, Bool.not_true, Bool.not_false, List.length_cons, List.length_nil, w_pwhole (.int p) rfl, isInt, Wp.run fb, w_dchk (dkOf_ref s.dct), w_dget1 (dkOf_ref s.dct) (show keyD (.int p) = some (.inl p) from rfl), valD_kvI]
  exact k
end
end Lw

/-! SetSrH: all results of a sheet, to be written. -/
namespace Lw
open PySem L2
section
variable {h : AH} {n b : Nat} {E : Str → AH → Prop} {P : D → AH → Prop} {S : Sheet}
def resL (S : Sheet) : List D := S.laid.map fun q => D.tup [.int q.1, .tup ((List.range (q.2 - q.1).toNat).map fun k => D.int ((resAt S.res (q.1 + (k : Nat))).getD 0))]
theorem res_w (s : ShAt h n b S) (ll : S.laid.length ≤ 100000) (bd : ∀ q ∈ S.laid, -(2 ^ 61) < q.1 ∧ q.2 < 2 ^ 61 ∧ q.2 - q.1 ≤ 100000) (k : P (.ref h.length) (h ++ [.lst (resL S)])) : Wp (f_Sheet_all_results (.ref n) h) P E := by
  have fb : fldM tabC "by_place" (.ref n) h = .ok (.ref b) h := by
    unfold fldM
    simp only [s.obj, shC]
    rfl
  have fl : fldM tabC "laid" (.ref n) h = .ok (wk S.laid) h := by
    unfold fldM
    simp only [s.obj, shC]
    rfl
  unfold f_Sheet_all_results b_Sheet_all_results
  simp only [w_bind, w_pure, w_throw, w_tup0, w_lst0, w_lsH0, w_tup1, w_lst1, w_lsH1, w_tup2, w_lst2, w_lsH2, w_tup3, w_lst3, w_lsH3, w_tup4, w_lst4, w_lsH4, w_tup5, w_lst5, w_lsH5, w_tup6, w_lst6, w_lsH6, w_tup7, w_lst7, w_lsH7, w_tup8, w_lst8, w_lsH8, w_ite, w_iteP, w_obind, oK_nx, oK_ret, oK_bk, oK_ct, w_def, dK_nx, dK_ret, w_lift, w_noex, w_add, w_sub, w_neg, w_lt, w_le, w_gt, w_ge, w_max, w_min, w_eqi, w_nei, w_eqs, w_nes, w_asB, w_asI, w_not, w_tru, w_and, w_or, w_new, w_lenT, w_lenL, w_itT, w_itL, w_tupT, w_tupL, w_listT, w_listL, w_slT, w_slL, w_isn, w_isnn, w_inti, w_intb, w_strs, w_schk, w_zipT, w_zipL, w_zipLT, w_enumT, w_enumL, w_app1, w_app2, w_app3, w_app4, w_app5, tK_nx, tK_ct, tK_bk, tK_ret, lK_nx, lK_ct, lK_bk, lK_ret, decide_eq_true_eq, if_true, if_false, reduceIte, Bool.false_eq_true, Bool.not_true, Bool.not_false, List.length_cons, List.length_nil, Wp.run fl, wk]
  have e := lcM_map (h := h) (f := c_Sheet_all_results_2 (.ref n)) (u := pd) (v := fun q => D.tup [.int q.1, .tup ((List.range (q.2 - q.1).toNat).map fun k => D.int ((resAt S.res (q.1 + (k : Nat))).getD 0))]) (zs := S.laid) (by omega) fun q hq => by
    obtain ⟨b1, b2, b3⟩ := bd q hq
    have b0 := s.ok.c.2 q hq
    have e2 : lcM (rangeD q.1 (q.2 - q.1).toNat) (c_Sheet_all_results_1 (.ref n)) h = .ok (.lst ((List.range (q.2 - q.1).toNat).map fun k => D.int ((resAt S.res (q.1 + (k : Nat))).getD 0))) h := by
      unfold rangeD
      refine lcM_map (u := fun k : Nat => D.int (q.1 + (k : Nat))) (by rw [List.length_range]; omega) fun k hk => ?_
      have hk := List.mem_range.mp hk
      have sm : (resAt S.res (q.1 + (k : Nat))).isSome = true := (s.ok.dom _).mp ⟨q, hq, by omega, by omega⟩
      obtain ⟨y, hy⟩ := Option.isSome_iff_exists.mp sm
      have dg : dgetM (.ref b) (.int (q.1 + (k : Nat))) h = .ok (.int y) h := by
        unfold dgetM
        simp only [dkOf_ref s.dct, keyD, valD_kvI, hy, Option.map_some]
      unfold c_Sheet_all_results_1
      simp only [r_bind, r_pure, r_ok, r_lift, if_true, fb, dg, hy, Option.getD_some]
    unfold c_Sheet_all_results_2
    have t2 : ∀ x y : D, tupM [x, y] h = .ok (.tup [x, y]) h := fun x y => tupM_run (Nat.le_of_ble_eq_true rfl)
    simp only [r_bind, r_pure, r_ok, unp_pd, r_lift, if_true, rng2M_run (i := q.1) (j := q.2) (h := h) (by omega) (by omega) (by omega) (by omega), e2, tupleM_lst, t2]
  exact Wp.of_eq (lcHM_of e) k
end
end Lw

/-! SetT: tapes. -/
namespace Lw
open PySem L2
/-- a tape at n, that m draws are still taken of -/
structure Tape (h : AH) (n m : Nat) : Prop where
  ex : ∃ a b c : Int, h[n]? = some (.lst [.int a, .int b, .int c]) ∧ 0 ≤ a ∧ 0 ≤ b ∧ b < 2 ^ 40 ∧ 0 ≤ c ∧ c + m < 2 ^ 40
theorem Tape.less {h : AH} {n m m' : Nat} (w : Tape h n m) (l : m' ≤ m) : Tape h n m' := by
  obtain ⟨a, b, c, e, a0, b0, b1, c0, c1⟩ := w.ex
  exact ⟨a, b, c, e, a0, b0, b1, c0, by omega⟩
theorem Tape.lt {h : AH} {n m : Nat} (w : Tape h n m) : n < h.length := by
  obtain ⟨_, _, _, e, _⟩ := w.ex
  exact getElem?_lt e
theorem Tape.at {h h' : AH} {n m : Nat} (w : Tape h n m) (e : h'[n]? = h[n]?) : Tape h' n m := by
  obtain ⟨a, b, c, q, r⟩ := w.ex
  exact ⟨a, b, c, e.trans q, r⟩
section
variable {h : AH} {n m : Nat} {E : Str → AH → Prop} {P : D → AH → Prop}
theorem take_w {k : Int} (w : Tape h n (m + 1)) (k0 : 0 < k) (kb : k < 2 ^ 100) (p : ∀ r h', 0 ≤ r → r < k → Tape h' n m → Fr n h h' → P (.int r) h') : Wp (f_law_take (.ref n) (.int k) h) P E := by
  obtain ⟨a, b, c, e, a0, b0, b1, c0, c1⟩ := w.ex
  have hn := getElem?_lt e
  have l0 : (0 : Int) < (([D.int a, .int b, .int c] : List D).length : Int) := by simp
  have l2 : (2 : Int) < (([D.int a, .int b, .int c] : List D).length : Int) := by simp
  unfold f_law_take b_law_take
  simp only [w_bind, w_pure, w_throw, w_tup0, w_lst0, w_lsH0, w_tup1, w_lst1, w_lsH1, w_tup2, w_lst2, w_lsH2, w_tup3, w_lst3, w_lsH3, w_tup4, w_lst4, w_lsH4, w_tup5, w_lst5, w_lsH5, w_tup6, w_lst6, w_lsH6, w_tup7, w_lst7, w_lsH7, w_tup8, w_lst8, w_lsH8, w_ite, w_iteP, w_obind, oK_nx, oK_ret, oK_bk, oK_ct, w_def, dK_nx, dK_ret, w_lift, w_noex, w_add, w_sub, w_neg, w_lt, w_le, w_gt, w_ge, w_max, w_min, w_eqi, w_nei, w_eqs, w_nes, w_asB, w_asI, w_not, w_tru, w_and, w_or, w_new, w_lenT, w_lenL, w_itT, w_itL, w_tupT, w_tupL, w_listT, w_listL, w_slT, w_slL, w_isn, w_isnn, w_inti, w_intb, w_strs, w_schk, w_zipT, w_zipL, w_zipLT, w_enumT, w_enumL, w_app1, w_app2, w_app3, w_app4, w_app5, tK_nx, tK_ct, tK_bk, tK_ret, lK_nx, lK_ct, lK_bk, lK_ret, decide_eq_true_eq, if_true, if_false, reduceIte, Bool.false_eq_true, Bool.not_true, Bool.not_false, List.length_cons, List.length_nil, w_ixR e (show atI [D.int a, .int b, .int c] 0 = some (.int a) from rfl), w_ixR e (show atI [D.int a, .int b, .int c] 1 = some (.int b) from rfl), w_ixR e (show atI [D.int a, .int b, .int c] 2 = some (.int c) from rfl),
    w_mod k0, w_fdiv k0 (Nat.lt_trans (log_small (k := 100) (by omega) (by decide)) (by decide)), w_setix e (show (0 : Int) ≤ 0 by decide) l0, w_setix e (show (0 : Int) ≤ 2 by decide) l2]
  by_cases hb : 0 < a
  · rw [if_pos hb]
    refine p _ _ (Int.emod_nonneg _ (by omega)) (Int.emod_lt_of_pos _ k0) ⟨a / k, b, c, by rw [List.getElem?_set_self hn]; rfl, Int.ediv_nonneg a0 (by omega), b0, b1, c0, by omega⟩ Fr.set
  · rw [if_neg hb]
    have e2 : (h.set n (.lst [.int a, .int b, .int (c + 1)]))[n]? = some (.lst [.int a, .int b, .int (c + 1)]) := List.getElem?_set_self hn
    rw [show ([D.int a, .int b, .int c].set (2 : Int).toNat (.int (c + 1))) = [.int a, .int b, .int (c + 1)] from rfl]
    have q1 := Int.emod_nonneg ((b + 7919 * (c + 1) + 1) * 48271) (show (2147483647 : Int) ≠ 0 by decide)
    have q2 := Int.emod_lt_of_pos ((b + 7919 * (c + 1) + 1) * 48271) (show (0 : Int) < 2147483647 by decide)
    generalize hu : (b + 7919 * (c + 1) + 1) * 48271 % 2147483647 = u at q1 q2
    have d1 : 0 ≤ u / 1009 := Int.ediv_nonneg q1 (by decide)
    have d2 : u / 1009 ≤ u := Int.ediv_le_self _ q1
    have q3 := Int.emod_nonneg (u * (u / 1009 + 69621)) (show (2147483647 : Int) ≠ 0 by decide)
    have q4 := Int.emod_lt_of_pos (u * (u / 1009 + 69621)) (show (0 : Int) < 2147483647 by decide)
    generalize hv : u * (u / 1009 + 69621) % 2147483647 = v at q3 q4
    have d3 : 0 ≤ v / 2003 := Int.ediv_nonneg q3 (by decide)
    have d4 : v / 2003 ≤ v := Int.ediv_le_self _ q3
    simp only [w_bind, w_pure, w_throw, w_tup0, w_lst0, w_lsH0, w_tup1, w_lst1, w_lsH1, w_tup2, w_lst2, w_lsH2, w_tup3, w_lst3, w_lsH3, w_tup4, w_lst4, w_lsH4, w_tup5, w_lst5, w_lsH5, w_tup6, w_lst6, w_lsH6, w_tup7, w_lst7, w_lsH7, w_tup8, w_lst8, w_lsH8, w_ite, w_iteP, w_obind, oK_nx, oK_ret, oK_bk, oK_ct, w_def, dK_nx, dK_ret, w_lift, w_noex, w_add, w_sub, w_neg, w_lt, w_le, w_gt, w_ge, w_max, w_min, w_eqi, w_nei, w_eqs, w_nes, w_asB, w_asI, w_not, w_tru, w_and, w_or, w_new, w_lenT, w_lenL, w_itT, w_itL, w_tupT, w_tupL, w_listT, w_listL, w_slT, w_slL, w_isn, w_isnn, w_inti, w_intb, w_strs, w_schk, w_zipT, w_zipL, w_zipLT, w_enumT, w_enumL, w_app1, w_app2, w_app3, w_app4, w_app5, tK_nx, tK_ct, tK_bk, tK_ret, lK_nx, lK_ct, lK_bk, lK_ret, decide_eq_true_eq, if_true, if_false, reduceIte, Bool.false_eq_true, Bool.not_true, Bool.not_false, List.length_cons, List.length_nil, w_ixR e2 (show atI [D.int a, .int b, .int (c + 1)] 1 = some (.int b) from rfl), w_ixR e2 (show atI [D.int a, .int b, .int (c + 1)] 2 = some (.int (c + 1)) from rfl),
      w_mul (mulOk (small (i := 7919) (by omega) (by omega)) (small (i := c + 1) (by omega) (by omega))), w_mul (mulOk (small (i := b + 7919 * (c + 1) + 1) (by omega) (by omega)) (small (i := 48271) (by omega) (by omega))),
      w_mod (show (0 : Int) < 2147483647 by decide), hu, w_fdiv (show (0 : Int) < 1009 by decide) (by decide), w_mul (mulOk (small (i := u) (by omega) (by omega)) (small (i := u / 1009 + 69621) (by omega) (by omega))), hv,
      w_fdiv (show (0 : Int) < 2003 by decide) (by decide), w_mul (mulOk (small (i := v) (by omega) (by omega)) (small (i := v / 2003 + 40692) (by omega) (by omega))), w_mod (show (0 : Int) < 2147483399 by decide), w_fdiv (show (0 : Int) < 7 by decide) (by decide), w_mod k0]
    exact p _ _ (Int.emod_nonneg _ (by omega)) (Int.emod_lt_of_pos _ k0) ⟨a, b, c + 1, e2, a0, b0, b1, by omega, by omega⟩ Fr.set
/-- a new tape -/
theorem tape_w {x : Int} (p : ∀ h', Tape h' h.length 1000000 → h'.length = h.length + 1 → (∀ i, i < h.length → h'[i]? = h[i]?) → P (.ref h.length) h') : Wp (f_law_tape (.int x) h) P E := by
  have q1 := Int.emod_nonneg x (show (2147483647 : Int) ≠ 0 by decide)
  have q2 := Int.emod_lt_of_pos x (show (0 : Int) < 2147483647 by decide)
  unfold f_law_tape b_law_tape
  simp only [w_bind, w_pure, w_throw, w_tup0, w_lst0, w_lsH0, w_tup1, w_lst1, w_lsH1, w_tup2, w_lst2, w_lsH2, w_tup3, w_lst3, w_lsH3, w_tup4, w_lst4, w_lsH4, w_tup5, w_lst5, w_lsH5, w_tup6, w_lst6, w_lsH6, w_tup7, w_lst7, w_lsH7, w_tup8, w_lst8, w_lsH8, w_ite, w_iteP, w_obind, oK_nx, oK_ret, oK_bk, oK_ct, w_def, dK_nx, dK_ret, w_lift, w_noex, w_add, w_sub, w_neg, w_lt, w_le, w_gt, w_ge, w_max, w_min, w_eqi, w_nei, w_eqs, w_nes, w_asB, w_asI, w_not, w_tru, w_and, w_or, w_new, w_lenT, w_lenL, w_itT, w_itL, w_tupT, w_tupL, w_listT, w_listL, w_slT, w_slL, w_isn, w_isnn, w_inti, w_intb, w_strs, w_schk, w_zipT, w_zipL, w_zipLT, w_enumT, w_enumL, w_app1, w_app2, w_app3, w_app4, w_app5, tK_nx, tK_ct, tK_bk, tK_ret, lK_nx, lK_ct, lK_bk, lK_ret, decide_eq_true_eq, if_true, if_false, reduceIte, Bool.false_eq_true, Bool.not_true, Bool.not_false, List.length_cons, List.length_nil, w_mod (show (0 : Int) < 2147483647 by decide), w_pow (show (0 : Int) ≤ 18 ∧ (18 : Int) ≤ 1000000 ∧ (10 : Int).natAbs < 2 ^ 64 by decide)]
  exact p _ ⟨_, _, _, List.getElem?_append_right (Nat.le_refl _) |>.trans (by simp; exact ⟨rfl, rfl⟩), Int.le_max_left .., q1, by omega, by decide, by decide⟩ (by simp) fun i hi => List.getElem?_append_left hi
/-- where a work begins -/
theorem start_w (w : Tape h n (m + 10)) (p : ∀ r h', -(10 ^ 17) < r → r < 10 ^ 17 → Tape h' n m → Fr n h h' → P (.int r) h') : Wp (f_law_start (.ref n) h) P E := by
  have p9 : (0 : Int) ≤ 9 ∧ (9 : Int) ≤ 1000000 ∧ (10 : Int).natAbs < 2 ^ 64 := by decide
  have e9 : (10 : Int) ^ (9 : Int).toNat = 1000000000 := rfl
  have e2 : (2 : Int) * 1000000000 = 2000000000 := rfl
  unfold f_law_start b_law_start
  simp only [w_bind, w_pure, w_throw, w_tup0, w_lst0, w_lsH0, w_tup1, w_lst1, w_lsH1, w_tup2, w_lst2, w_lsH2, w_tup3, w_lst3, w_lsH3, w_tup4, w_lst4, w_lsH4, w_tup5, w_lst5, w_lsH5, w_tup6, w_lst6, w_lsH6, w_tup7, w_lst7, w_lsH7, w_tup8, w_lst8, w_lsH8, w_ite, w_iteP, w_obind, oK_nx, oK_ret, oK_bk, oK_ct, w_def, dK_nx, dK_ret, w_lift, w_noex, w_add, w_sub, w_neg, w_lt, w_le, w_gt, w_ge, w_max, w_min, w_eqi, w_nei, w_eqs, w_nes, w_asB, w_asI, w_not, w_tru, w_and, w_or, w_new, w_lenT, w_lenL, w_itT, w_itL, w_tupT, w_tupL, w_listT, w_listL, w_slT, w_slL, w_isn, w_isnn, w_inti, w_intb, w_strs, w_schk, w_zipT, w_zipL, w_zipLT, w_enumT, w_enumL, w_app1, w_app2, w_app3, w_app4, w_app5, tK_nx, tK_ct, tK_bk, tK_ret, lK_nx, lK_ct, lK_bk, lK_ret, decide_eq_true_eq, if_true, if_false, reduceIte, Bool.false_eq_true, Bool.not_true, Bool.not_false, List.length_cons, List.length_nil]
  refine take_w (m := m + 9) w (by decide) (by decide) fun r1 h1 a1 b1 w1 f1 => ?_
  try simp only [w_bind, w_pure, w_throw, w_tup0, w_lst0, w_lsH0, w_tup1, w_lst1, w_lsH1, w_tup2, w_lst2, w_lsH2, w_tup3, w_lst3, w_lsH3, w_tup4, w_lst4, w_lsH4, w_tup5, w_lst5, w_lsH5, w_tup6, w_lst6, w_lsH6, w_tup7, w_lst7, w_lsH7, w_tup8, w_lst8, w_lsH8, w_ite, w_iteP, w_obind, oK_nx, oK_ret, oK_bk, oK_ct, w_def, dK_nx, dK_ret, w_lift, w_noex, w_add, w_sub, w_neg, w_lt, w_le, w_gt, w_ge, w_max, w_min, w_eqi, w_nei, w_eqs, w_nes, w_asB, w_asI, w_not, w_tru, w_and, w_or, w_new, w_lenT, w_lenL, w_itT, w_itL, w_tupT, w_tupL, w_listT, w_listL, w_slT, w_slL, w_isn, w_isnn, w_inti, w_intb, w_strs, w_schk, w_zipT, w_zipL, w_zipLT, w_enumT, w_enumL, w_app1, w_app2, w_app3, w_app4, w_app5, tK_nx, tK_ct, tK_bk, tK_ret, lK_nx, lK_ct, lK_bk, lK_ret, decide_eq_true_eq, if_true, if_false, reduceIte, Bool.false_eq_true, Bool.not_true, Bool.not_false, List.length_cons, List.length_nil, w_pow p9, e9, w_mul (mulOk (small (i := 2) (by decide) (by decide)) (small (i := 1000000000) (by decide) (by decide))), e2]
  refine take_w (m := m + 8) w1 (by decide) (by decide) fun r2 h2 a2 b2 w2 f2 => ?_
  try simp only [w_bind, w_pure, w_throw, w_tup0, w_lst0, w_lsH0, w_tup1, w_lst1, w_lsH1, w_tup2, w_lst2, w_lsH2, w_tup3, w_lst3, w_lsH3, w_tup4, w_lst4, w_lsH4, w_tup5, w_lst5, w_lsH5, w_tup6, w_lst6, w_lsH6, w_tup7, w_lst7, w_lsH7, w_tup8, w_lst8, w_lsH8, w_ite, w_iteP, w_obind, oK_nx, oK_ret, oK_bk, oK_ct, w_def, dK_nx, dK_ret, w_lift, w_noex, w_add, w_sub, w_neg, w_lt, w_le, w_gt, w_ge, w_max, w_min, w_eqi, w_nei, w_eqs, w_nes, w_asB, w_asI, w_not, w_tru, w_and, w_or, w_new, w_lenT, w_lenL, w_itT, w_itL, w_tupT, w_tupL, w_listT, w_listL, w_slT, w_slL, w_isn, w_isnn, w_inti, w_intb, w_strs, w_schk, w_zipT, w_zipL, w_zipLT, w_enumT, w_enumL, w_app1, w_app2, w_app3, w_app4, w_app5, tK_nx, tK_ct, tK_bk, tK_ret, lK_nx, lK_ct, lK_bk, lK_ret, decide_eq_true_eq, if_true, if_false, reduceIte, Bool.false_eq_true, Bool.not_true, Bool.not_false, List.length_cons, List.length_nil, w_pow p9, e9, w_mul (mulOk (small (i := r2 - 1000000000) (by omega) (by omega)) (small (i := 99999999) (by decide) (by decide)))]
  refine take_w (m := m + 7) w2 (by decide) (by decide) fun r3 h3 a3 b3 w3 f3 => ?_
  refine w_pick a3 (by simpa using b3) fun x hx => ?_
  have fr := (f1.trans f2).trans f3
  simp only [List.mem_cons, List.not_mem_nil, or_false] at hx
  rcases hx with rfl | rfl | rfl | rfl
  all_goals
    try simp only [w_bind, w_pure, w_throw, w_tup0, w_lst0, w_lsH0, w_tup1, w_lst1, w_lsH1, w_tup2, w_lst2, w_lsH2, w_tup3, w_lst3, w_lsH3, w_tup4, w_lst4, w_lsH4, w_tup5, w_lst5, w_lsH5, w_tup6, w_lst6, w_lsH6, w_tup7, w_lst7, w_lsH7, w_tup8, w_lst8, w_lsH8, w_ite, w_iteP, w_obind, oK_nx, oK_ret, oK_bk, oK_ct, w_def, dK_nx, dK_ret, w_lift, w_noex, w_add, w_sub, w_neg, w_lt, w_le, w_gt, w_ge, w_max, w_min, w_eqi, w_nei, w_eqs, w_nes, w_asB, w_asI, w_not, w_tru, w_and, w_or, w_new, w_lenT, w_lenL, w_itT, w_itL, w_tupT, w_tupL, w_listT, w_listL, w_slT, w_slL, w_isn, w_isnn, w_inti, w_intb, w_strs, w_schk, w_zipT, w_zipL, w_zipLT, w_enumT, w_enumL, w_app1, w_app2, w_app3, w_app4, w_app5, tK_nx, tK_ct, tK_bk, tK_ret, lK_nx, lK_ct, lK_bk, lK_ret, decide_eq_true_eq, if_true, if_false, reduceIte, Bool.false_eq_true, Bool.not_true, Bool.not_false, List.length_cons, List.length_nil]
    exact p _ h3 (by omega) (by omega) (w3.less (by omega)) fr
end
end Lw

/-! SetPl: the places of works. -/
namespace Lw
open PySem L2
/-! ### places -/
def plc (p : P2) : List Int := (List.range (p.2 - p.1).toNat).map fun k => p.1 + ((k : Nat) : Int)
def places (w : List P2) : List Int := (w.map plc).flatten
theorem mem_plc {p : P2} {q : Int} : q ∈ plc p ↔ p.1 ≤ q ∧ q < p.2 := by
  unfold plc
  rw [List.mem_map]
  constructor
  · rintro ⟨k, hk, rfl⟩
    have := List.mem_range.mp hk
    omega
  · rintro ⟨a, b⟩
    exact ⟨(q - p.1).toNat, List.mem_range.mpr (by omega), by omega⟩
theorem mem_places {w : List P2} {q : Int} : q ∈ places w ↔ mem q w := by
  unfold places mem
  rw [List.mem_flatten]
  constructor
  · rintro ⟨l, hl, hq⟩
    obtain ⟨p, hp, rfl⟩ := List.mem_map.mp hl
    exact ⟨p, hp, (mem_plc.mp hq).1, (mem_plc.mp hq).2⟩
  · rintro ⟨p, hp, a, b⟩
    exact ⟨plc p, List.mem_map.mpr ⟨p, hp, rfl⟩, mem_plc.mpr ⟨a, b⟩⟩
theorem plc_sorted (p : P2) : (plc p).Pairwise (· < ·) := by
  unfold plc
  rw [List.pairwise_map]
  exact List.pairwise_lt_range.imp fun h => by omega
theorem places_sorted : ∀ {w : List P2}, Wk w → (places w).Pairwise (· < ·)
  | [], _ => List.Pairwise.nil
  | p :: r, h => by
    show (plc p ++ places r).Pairwise (· < ·)
    obtain ⟨h1, h2⟩ := List.pairwise_cons.mp h.1
    refine List.pairwise_append.mpr ⟨plc_sorted p, places_sorted ⟨h2, fun q hq => h.2 q (List.mem_cons_of_mem _ hq)⟩, fun a ha b hb => ?_⟩
    have x := mem_plc.mp ha
    obtain ⟨q, hq, y, z⟩ := mem_places.mp hb
    have := h1 q hq
    omega
theorem places_length {w : List P2} {wide : Int} (hb : ∀ p, p ∈ w → p.2 - p.1 ≤ wide) (h0 : 0 ≤ wide) : (places w).length ≤ w.length * wide.toNat := by
  induction w with
  | nil => exact Nat.zero_le _
  | cons p r ih =>
    show (plc p ++ places r).length ≤ _
    have a := ih fun q hq => hb q (List.mem_cons_of_mem _ hq)
    have b := hb p (by simp)
    have c : (plc p).length = (p.2 - p.1).toNat := by simp [plc]
    rw [List.length_append, c, List.length_cons, Nat.succ_mul]
    omega
theorem lt_len : ∀ {l : List Int} {m : List Int}, l.Pairwise (· < ·) → (∀ k ∈ l, k ∈ m) → l.length ≤ m.length
  | [], m, _, _ => Nat.zero_le _
  | x :: l, m, h, s => by
    obtain ⟨h1, h2⟩ := List.pairwise_cons.mp h
    have hx : x ∈ m := s x (by simp)
    have := lt_len (m := m.erase x) h2 fun k hk => by
      have e : k ≠ x := by have := h1 k hk; omega
      exact (List.mem_erase_of_ne e).mpr (s k (by simp [hk]))
    rw [List.length_erase_of_mem hx] at this
    have : 0 < m.length := List.length_pos_of_mem hx
    simp only [List.length_cons]
    omega
/-- rising places as stretches -/
def stro (ps : List Int) : List P2 := laid (ps.map fun p => (p, p + 1))
theorem units_lo {ps : List Int} (h : ps.Pairwise (· < ·)) : Lo (ps.map fun p => ((p, p + 1) : P2)) := by
  refine ⟨?_, fun p hp => ?_⟩
  · rw [List.pairwise_map]
    exact h.imp fun z => by
      show (_ : Int) ≤ _
      omega
  · obtain ⟨q, _, rfl⟩ := List.mem_map.mp hp
    show q < q + 1
    omega
theorem stro_can {ps : List Int} (h : ps.Pairwise (· < ·)) : Can (stro ps) := laid_can (units_lo h)
theorem stro_mem {ps : List Int} (h : ps.Pairwise (· < ·)) {q : Int} : mem q (stro ps) ↔ q ∈ ps := by
  unfold stro
  rw [laid_mem (units_lo h)]
  constructor
  · rintro ⟨p, hp, a, b⟩
    obtain ⟨x, hx, rfl⟩ := List.mem_map.mp hp
    have a : x ≤ q := a
    have b : q < x + 1 := b
    have : q = x := by omega
    rw [this]
    exact hx
  · intro hq
    exact ⟨(q, q + 1), List.mem_map.mpr ⟨q, hq, rfl⟩, Int.le_refl _, by show q < q + 1; omega⟩
theorem stro_length (ps : List Int) (h : ps.Pairwise (· < ·)) : (stro ps).length ≤ ps.length := by
  have := laid_length (units_lo h)
  rw [List.length_map] at this
  exact this
theorem stro_snoc (ps : List Int) (p : Int) : stro (ps ++ [p]) = lstep (stro ps) (p, p + 1) := by
  unfold stro laid
  rw [List.map_append, List.foldl_append]
  rfl
end Lw

/-! SetX: works drawn from a tape. -/
namespace Lw
open PySem L2
/-- rising, all up to at -/
def WkTo (w : List P2) (at' : Int) : Prop := Wk w ∧ ∀ p, p ∈ w → p.2 ≤ at'
theorem WkTo.snoc {w : List P2} {a lo hi : Int} (h : WkTo w a) (x : a ≤ lo) (y : lo < hi) : WkTo (w ++ [(lo, hi)]) hi := by
  refine ⟨⟨List.pairwise_append.mpr ⟨h.1.1, List.pairwise_singleton _ _, fun p hp q hq => ?_⟩, fun p hp => ?_⟩, fun p hp => ?_⟩
  · rw [List.mem_singleton.mp hq]
    have := h.2 p hp
    show p.2 ≤ lo
    omega
  · rcases List.mem_append.mp hp with hp | hp
    · exact h.1.2 p hp
    · rw [List.mem_singleton.mp hp]
      exact y
  · rcases List.mem_append.mp hp with hp | hp
    · have := h.2 p hp
      omega
    · rw [List.mem_singleton.mp hp]
      exact Int.le_refl _
/-- of a few stretches, none long, none far off -/
structure Near (w : List P2) (k : Nat) (wide : Int) : Prop where
  wk : Wk w
  len : w.length ≤ k
  bd : ∀ p, p ∈ w → -(200000000000000000) < p.1 ∧ p.2 < 200000000000000000 ∧ p.2 - p.1 ≤ wide
section
variable {h : AH} {n m : Nat} {E : Str → AH → Prop} {P : D → AH → Prop}
theorem work_w {k : Nat} {wide : Int} (w : Tape h n (m + 11 + 10 * k)) (hk : k ≤ 1000) (h0 : 0 < wide) (h1 : wide ≤ 100000) (p : ∀ u h', Near u k wide → Tape h' n m → h.length ≤ h'.length → (∀ i, i ≠ n → i < h.length → h'[i]? = h[i]?) → P (wk u) h') : Wp (f_law_work (.ref n) (.int k) (.int wide) h) P E := by
  have hn := w.lt
  unfold f_law_work b_law_work
  simp only [w_bind, w_pure, w_throw, w_tup0, w_lst0, w_lsH0, w_tup1, w_lst1, w_lsH1, w_tup2, w_lst2, w_lsH2, w_tup3, w_lst3, w_lsH3, w_tup4, w_lst4, w_lsH4, w_tup5, w_lst5, w_lsH5, w_tup6, w_lst6, w_lsH6, w_tup7, w_lst7, w_lsH7, w_tup8, w_lst8, w_lsH8, w_ite, w_iteP, w_obind, oK_nx, oK_ret, oK_bk, oK_ct, w_def, dK_nx, dK_ret, w_lift, w_noex, w_add, w_sub, w_neg, w_lt, w_le, w_gt, w_ge, w_max, w_min, w_eqi, w_nei, w_eqs, w_nes, w_asB, w_asI, w_not, w_tru, w_and, w_or, w_new, w_lenT, w_lenL, w_itT, w_itL, w_tupT, w_tupL, w_listT, w_listL, w_slT, w_slL, w_isn, w_isnn, w_inti, w_intb, w_strs, w_schk, w_zipT, w_zipL, w_zipLT, w_enumT, w_enumL, w_app1, w_app2, w_app3, w_app4, w_app5, tK_nx, tK_ct, tK_bk, tK_ret, lK_nx, lK_ct, lK_bk, lK_ret, decide_eq_true_eq, if_true, if_false, reduceIte, Bool.false_eq_true, Bool.not_true, Bool.not_false, List.length_cons, List.length_nil]
  have t0 : Tape (h ++ [Cell.lst []]) n (m + 11 + 10 * k) := w.at (List.getElem?_append_left hn)
  have q0 : (h ++ [Cell.lst []])[h.length]? = some (.lst (([] : List P2).map pd)) := by simp
  have k0 : ∀ i, i < h.length → (h ++ [Cell.lst []])[i]? = h[i]? := fun i hi => List.getElem?_append_left hi
  have l0 : (h ++ [Cell.lst []]).length = h.length + 1 := by simp
  generalize h ++ [Cell.lst []] = g at t0 q0 k0 l0
  refine start_w (m := m + 1 + 10 * k) (t0.less (by omega)) fun r1 h1 a1 b1 w1 f1 => ?_
  try simp only [w_bind, w_pure, w_throw, w_tup0, w_lst0, w_lsH0, w_tup1, w_lst1, w_lsH1, w_tup2, w_lst2, w_lsH2, w_tup3, w_lst3, w_lsH3, w_tup4, w_lst4, w_lsH4, w_tup5, w_lst5, w_lsH5, w_tup6, w_lst6, w_lsH6, w_tup7, w_lst7, w_lsH7, w_tup8, w_lst8, w_lsH8, w_ite, w_iteP, w_obind, oK_nx, oK_ret, oK_bk, oK_ct, w_def, dK_nx, dK_ret, w_lift, w_noex, w_add, w_sub, w_neg, w_lt, w_le, w_gt, w_ge, w_max, w_min, w_eqi, w_nei, w_eqs, w_nes, w_asB, w_asI, w_not, w_tru, w_and, w_or, w_new, w_lenT, w_lenL, w_itT, w_itL, w_tupT, w_tupL, w_listT, w_listL, w_slT, w_slL, w_isn, w_isnn, w_inti, w_intb, w_strs, w_schk, w_zipT, w_zipL, w_zipLT, w_enumT, w_enumL, w_app1, w_app2, w_app3, w_app4, w_app5, tK_nx, tK_ct, tK_bk, tK_ret, lK_nx, lK_ct, lK_bk, lK_ret, decide_eq_true_eq, if_true, if_false, reduceIte, Bool.false_eq_true, Bool.not_true, Bool.not_false, List.length_cons, List.length_nil]
  refine take_w (m := m + 10 * k) (w1.less (by omega)) (by omega) (by omega) fun r2 h2 a2 b2 w2 f2 => ?_
  rw [w_rng1 (by omega) (by omega)]
  have fr := f1.trans f2
  refine w_for (fun j t hh => ∃ (at1 : Int) (u : List P2), t = .int at1 ∧ -(100000000000000000) ≤ at1 ∧ at1 ≤ 100000000000000000 + j * 200000 ∧ WkTo u at1 ∧ u.length = j ∧ (∀ p, p ∈ u → -(200000000000000000) < p.1 ∧ p.2 < 200000000000000000 ∧ p.2 - p.1 ≤ wide) ∧ Tape hh n (m + 10 * k - 10 * j) ∧ hh[h.length]? = some (.lst (u.map pd)) ∧ hh.length = h.length + 1 ∧ (∀ i, i ≠ n → i < h.length → hh[i]? = h[i]?))
    ⟨r1, [], rfl, by omega, by omega, ⟨Wk.nil, fun _ h => nomatch h⟩, rfl, (fun _ h => nomatch h), w2, (fr.2 _ (by omega)).trans q0, fr.1.trans l0, fun i h1 h2 => (fr.2 i h1).trans (k0 i h2)⟩ (fun j x t hh hx i => ?_) fun t hh i => ?_
  · obtain ⟨at1, u, rfl, g0, g1, gw, gl, gb, gt, gq, gn, gk⟩ := i
    obtain ⟨hj, rfl⟩ := rangeD_get hx
    have hjk : j < k := by omega
    unfold l_law_work_1
    simp only [w_bind, w_pure, w_throw, w_tup0, w_lst0, w_lsH0, w_tup1, w_lst1, w_lsH1, w_tup2, w_lst2, w_lsH2, w_tup3, w_lst3, w_lsH3, w_tup4, w_lst4, w_lsH4, w_tup5, w_lst5, w_lsH5, w_tup6, w_lst6, w_lsH6, w_tup7, w_lst7, w_lsH7, w_tup8, w_lst8, w_lsH8, w_ite, w_iteP, w_obind, oK_nx, oK_ret, oK_bk, oK_ct, w_def, dK_nx, dK_ret, w_lift, w_noex, w_add, w_sub, w_neg, w_lt, w_le, w_gt, w_ge, w_max, w_min, w_eqi, w_nei, w_eqs, w_nes, w_asB, w_asI, w_not, w_tru, w_and, w_or, w_new, w_lenT, w_lenL, w_itT, w_itL, w_tupT, w_tupL, w_listT, w_listL, w_slT, w_slL, w_isn, w_isnn, w_inti, w_intb, w_strs, w_schk, w_zipT, w_zipL, w_zipLT, w_enumT, w_enumL, w_app1, w_app2, w_app3, w_app4, w_app5, tK_nx, tK_ct, tK_bk, tK_ret, lK_nx, lK_ct, lK_bk, lK_ret, decide_eq_true_eq, if_true, if_false, reduceIte, Bool.false_eq_true, Bool.not_true, Bool.not_false, List.length_cons, List.length_nil]
    refine take_w (m := m + 10 * k - 10 * j - 1) (gt.less (by omega)) (by decide) (by decide) fun s1 g1h c1 d1 v1 t1 => ?_
    try simp only [w_bind, w_pure, w_throw, w_tup0, w_lst0, w_lsH0, w_tup1, w_lst1, w_lsH1, w_tup2, w_lst2, w_lsH2, w_tup3, w_lst3, w_lsH3, w_tup4, w_lst4, w_lsH4, w_tup5, w_lst5, w_lsH5, w_tup6, w_lst6, w_lsH6, w_tup7, w_lst7, w_lsH7, w_tup8, w_lst8, w_lsH8, w_ite, w_iteP, w_obind, oK_nx, oK_ret, oK_bk, oK_ct, w_def, dK_nx, dK_ret, w_lift, w_noex, w_add, w_sub, w_neg, w_lt, w_le, w_gt, w_ge, w_max, w_min, w_eqi, w_nei, w_eqs, w_nes, w_asB, w_asI, w_not, w_tru, w_and, w_or, w_new, w_lenT, w_lenL, w_itT, w_itL, w_tupT, w_tupL, w_listT, w_listL, w_slT, w_slL, w_isn, w_isnn, w_inti, w_intb, w_strs, w_schk, w_zipT, w_zipL, w_zipLT, w_enumT, w_enumL, w_app1, w_app2, w_app3, w_app4, w_app5, tK_nx, tK_ct, tK_bk, tK_ret, lK_nx, lK_ct, lK_bk, lK_ret, decide_eq_true_eq, if_true, if_false, reduceIte, Bool.false_eq_true, Bool.not_true, Bool.not_false, List.length_cons, List.length_nil]
    refine take_w (m := m + 10 * k - 10 * j - 2) (v1.less (by omega)) (by decide) (by decide) fun s2 g2h c2 d2 v2 t2 => ?_
    try simp only [w_bind, w_pure, w_throw, w_tup0, w_lst0, w_lsH0, w_tup1, w_lst1, w_lsH1, w_tup2, w_lst2, w_lsH2, w_tup3, w_lst3, w_lsH3, w_tup4, w_lst4, w_lsH4, w_tup5, w_lst5, w_lsH5, w_tup6, w_lst6, w_lsH6, w_tup7, w_lst7, w_lsH7, w_tup8, w_lst8, w_lsH8, w_ite, w_iteP, w_obind, oK_nx, oK_ret, oK_bk, oK_ct, w_def, dK_nx, dK_ret, w_lift, w_noex, w_add, w_sub, w_neg, w_lt, w_le, w_gt, w_ge, w_max, w_min, w_eqi, w_nei, w_eqs, w_nes, w_asB, w_asI, w_not, w_tru, w_and, w_or, w_new, w_lenT, w_lenL, w_itT, w_itL, w_tupT, w_tupL, w_listT, w_listL, w_slT, w_slL, w_isn, w_isnn, w_inti, w_intb, w_strs, w_schk, w_zipT, w_zipL, w_zipLT, w_enumT, w_enumL, w_app1, w_app2, w_app3, w_app4, w_app5, tK_nx, tK_ct, tK_bk, tK_ret, lK_nx, lK_ct, lK_bk, lK_ret, decide_eq_true_eq, if_true, if_false, reduceIte, Bool.false_eq_true, Bool.not_true, Bool.not_false, List.length_cons, List.length_nil]
    refine take_w (m := m + 10 * k - 10 * j - 3) (v2.less (by omega)) (by decide) (by decide) fun s3 g3h c3 d3 v3 t3 => ?_
    have pick1 : ∀ y ∈ [D.int 0, .int 0, .int s1, .int s2], ∃ z : Int, y = .int z ∧ 0 ≤ z ∧ z < 1000 := by
      intro y hy
      simp only [List.mem_cons, List.not_mem_nil, or_false] at hy
      rcases hy with rfl | rfl | rfl | rfl
      · exact ⟨_, rfl, by decide, by decide⟩
      · exact ⟨_, rfl, by decide, by decide⟩
      · exact ⟨_, rfl, by omega, by omega⟩
      · exact ⟨_, rfl, by omega, by omega⟩
    refine w_pick c3 (by simpa using d3) fun y hy => ?_
    obtain ⟨z, rfl, z0, z1⟩ := pick1 y hy
    try simp only [w_bind, w_pure, w_throw, w_tup0, w_lst0, w_lsH0, w_tup1, w_lst1, w_lsH1, w_tup2, w_lst2, w_lsH2, w_tup3, w_lst3, w_lsH3, w_tup4, w_lst4, w_lsH4, w_tup5, w_lst5, w_lsH5, w_tup6, w_lst6, w_lsH6, w_tup7, w_lst7, w_lsH7, w_tup8, w_lst8, w_lsH8, w_ite, w_iteP, w_obind, oK_nx, oK_ret, oK_bk, oK_ct, w_def, dK_nx, dK_ret, w_lift, w_noex, w_add, w_sub, w_neg, w_lt, w_le, w_gt, w_ge, w_max, w_min, w_eqi, w_nei, w_eqs, w_nes, w_asB, w_asI, w_not, w_tru, w_and, w_or, w_new, w_lenT, w_lenL, w_itT, w_itL, w_tupT, w_tupL, w_listT, w_listL, w_slT, w_slL, w_isn, w_isnn, w_inti, w_intb, w_strs, w_schk, w_zipT, w_zipL, w_zipLT, w_enumT, w_enumL, w_app1, w_app2, w_app3, w_app4, w_app5, tK_nx, tK_ct, tK_bk, tK_ret, lK_nx, lK_ct, lK_bk, lK_ret, decide_eq_true_eq, if_true, if_false, reduceIte, Bool.false_eq_true, Bool.not_true, Bool.not_false, List.length_cons, List.length_nil]
    refine take_w (m := m + 10 * k - 10 * j - 4) (v3.less (by omega)) (by omega) (by omega) fun s4 g4h c4 d4 v4 t4 => ?_
    have ff := ((t1.trans t2).trans t3).trans t4
    have q := (ff.2 h.length (by omega)).trans gq
    simp only [w_bind, w_pure, w_throw, w_tup0, w_lst0, w_lsH0, w_tup1, w_lst1, w_lsH1, w_tup2, w_lst2, w_lsH2, w_tup3, w_lst3, w_lsH3, w_tup4, w_lst4, w_lsH4, w_tup5, w_lst5, w_lsH5, w_tup6, w_lst6, w_lsH6, w_tup7, w_lst7, w_lsH7, w_tup8, w_lst8, w_lsH8, w_ite, w_iteP, w_obind, oK_nx, oK_ret, oK_bk, oK_ct, w_def, dK_nx, dK_ret, w_lift, w_noex, w_add, w_sub, w_neg, w_lt, w_le, w_gt, w_ge, w_max, w_min, w_eqi, w_nei, w_eqs, w_nes, w_asB, w_asI, w_not, w_tru, w_and, w_or, w_new, w_lenT, w_lenL, w_itT, w_itL, w_tupT, w_tupL, w_listT, w_listL, w_slT, w_slL, w_isn, w_isnn, w_inti, w_intb, w_strs, w_schk, w_zipT, w_zipL, w_zipLT, w_enumT, w_enumL, w_app1, w_app2, w_app3, w_app4, w_app5, tK_nx, tK_ct, tK_bk, tK_ret, lK_nx, lK_ct, lK_bk, lK_ret, decide_eq_true_eq, if_true, if_false, reduceIte, Bool.false_eq_true, Bool.not_true, Bool.not_false, List.length_cons, List.length_nil, w_lchk q, w_append q (show (u.map pd).length < 1000000 by rw [List.length_map]; omega)]
    refine ⟨at1 + z + 1 + s4, u ++ [(at1 + z, at1 + z + 1 + s4)], rfl, by omega, by omega, gw.snoc (by omega) (by omega), by simp [gl], fun p hp => ?_, (v4.less (by omega)).at (List.getElem?_set_ne (by omega)), ?_, by rw [List.length_set]; exact ff.1.trans gn, fun i h1 h2 => ?_⟩
    · rcases List.mem_append.mp hp with hp | hp
      · exact gb p hp
      · rw [List.mem_singleton.mp hp]
        show -(200000000000000000) < at1 + z ∧ at1 + z + 1 + s4 < 200000000000000000 ∧ at1 + z + 1 + s4 - (at1 + z) ≤ wide
        omega
    · rw [List.getElem?_set_self (getElem?_lt q), List.map_append]
      rfl
    · rw [List.getElem?_set_ne (by omega)]
      exact (ff.2 i h1).trans (gk i h1 h2)
  · obtain ⟨at1, u, rfl, g0, g1, gw, gl, gb, gt, gq, gn, gk⟩ := i
    rw [rangeD_len] at gl gt
    rw [oK_nx]
    simp only [w_bind, w_pure, w_throw, w_tup0, w_lst0, w_lsH0, w_tup1, w_lst1, w_lsH1, w_tup2, w_lst2, w_lsH2, w_tup3, w_lst3, w_lsH3, w_tup4, w_lst4, w_lsH4, w_tup5, w_lst5, w_lsH5, w_tup6, w_lst6, w_lsH6, w_tup7, w_lst7, w_lsH7, w_tup8, w_lst8, w_lsH8, w_ite, w_iteP, w_obind, oK_nx, oK_ret, oK_bk, oK_ct, w_def, dK_nx, dK_ret, w_lift, w_noex, w_add, w_sub, w_neg, w_lt, w_le, w_gt, w_ge, w_max, w_min, w_eqi, w_nei, w_eqs, w_nes, w_asB, w_asI, w_not, w_tru, w_and, w_or, w_new, w_lenT, w_lenL, w_itT, w_itL, w_tupT, w_tupL, w_listT, w_listL, w_slT, w_slL, w_isn, w_isnn, w_inti, w_intb, w_strs, w_schk, w_zipT, w_zipL, w_zipLT, w_enumT, w_enumL, w_app1, w_app2, w_app3, w_app4, w_app5, tK_nx, tK_ct, tK_bk, tK_ret, lK_nx, lK_ct, lK_bk, lK_ret, decide_eq_true_eq, if_true, if_false, reduceIte, Bool.false_eq_true, Bool.not_true, Bool.not_false, List.length_cons, List.length_nil, w_freeze gq]
    refine p u _ ⟨gw.1, by omega, gb⟩ ((gt.less (by omega)).at (List.getElem?_set_ne (by omega))) (by rw [List.length_set]; omega) fun i h1 h2 => ?_
    rw [List.getElem?_set_ne (by omega)]
    exact gk i h1 h2
end
theorem cell_w {ns : List Int} {h : AH} {E : Str → AH → Prop} {P : D → AH → Prop} (k : Nat) (hl : ns.length ≤ 63) (p : ∀ v, P (.int v) h) : Wp (pcallM (app2 f_law_cell_at) [.lst (ns.map D.int), .int (k : Int)] h) P E := by
  rw [w_pcall]
  refine ⟨by rw [noRefs_cons, noRefs_cons, noRefs_nil, noRef_int, noRef_lst, noRefs_map fun _ => noRef_int]; rfl, ?_⟩
  rw [w_app2]
  unfold f_law_cell_at b_law_cell_at
  simp only [w_bind, w_pure, w_throw, w_tup0, w_lst0, w_lsH0, w_tup1, w_lst1, w_lsH1, w_tup2, w_lst2, w_lsH2, w_tup3, w_lst3, w_lsH3, w_tup4, w_lst4, w_lsH4, w_tup5, w_lst5, w_lsH5, w_tup6, w_lst6, w_lsH6, w_tup7, w_lst7, w_lsH7, w_tup8, w_lst8, w_lsH8, w_ite, w_iteP, w_obind, oK_nx, oK_ret, oK_bk, oK_ct, w_def, dK_nx, dK_ret, w_lift, w_noex, w_add, w_sub, w_neg, w_lt, w_le, w_gt, w_ge, w_max, w_min, w_eqi, w_nei, w_eqs, w_nes, w_asB, w_asI, w_not, w_tru, w_and, w_or, w_new, w_lenT, w_lenL, w_itT, w_itL, w_tupT, w_tupL, w_listT, w_listL, w_slT, w_slL, w_isn, w_isnn, w_inti, w_intb, w_strs, w_schk, w_zipT, w_zipL, w_zipLT, w_enumT, w_enumL, w_app1, w_app2, w_app3, w_app4, w_app5, tK_nx, tK_ct, tK_bk, tK_ret, lK_nx, lK_ct, lK_bk, lK_ret, decide_eq_true_eq, if_true, if_false, reduceIte, Bool.false_eq_true, Bool.not_true, Bool.not_false, List.length_cons, List.length_nil, List.length_map]
  by_cases hk : (k : Int) < ns.length
  · have hk2 : k < ns.length := by omega
    simp only [hk, w_bind, w_pure, w_throw, w_tup0, w_lst0, w_lsH0, w_tup1, w_lst1, w_lsH1, w_tup2, w_lst2, w_lsH2, w_tup3, w_lst3, w_lsH3, w_tup4, w_lst4, w_lsH4, w_tup5, w_lst5, w_lsH5, w_tup6, w_lst6, w_lsH6, w_tup7, w_lst7, w_lsH7, w_tup8, w_lst8, w_lsH8, w_ite, w_iteP, w_obind, oK_nx, oK_ret, oK_bk, oK_ct, w_def, dK_nx, dK_ret, w_lift, w_noex, w_add, w_sub, w_neg, w_lt, w_le, w_gt, w_ge, w_max, w_min, w_eqi, w_nei, w_eqs, w_nes, w_asB, w_asI, w_not, w_tru, w_and, w_or, w_new, w_lenT, w_lenL, w_itT, w_itL, w_tupT, w_tupL, w_listT, w_listL, w_slT, w_slL, w_isn, w_isnn, w_inti, w_intb, w_strs, w_schk, w_zipT, w_zipL, w_zipLT, w_enumT, w_enumL, w_app1, w_app2, w_app3, w_app4, w_app5, tK_nx, tK_ct, tK_bk, tK_ret, lK_nx, lK_ct, lK_bk, lK_ret, decide_eq_true_eq, if_true, if_false, reduceIte, Bool.false_eq_true, Bool.not_true, Bool.not_false, List.length_cons, List.length_nil, w_ixL (show atI (ns.map D.int) k = some (.int ns[k]) from atI_nat (by rw [List.getElem?_map, List.getElem?_eq_getElem hk2]; rfl))]
    exact ⟨noRef_int, p _⟩
  · simp only [hk, w_bind, w_pure, w_throw, w_tup0, w_lst0, w_lsH0, w_tup1, w_lst1, w_lsH1, w_tup2, w_lst2, w_lsH2, w_tup3, w_lst3, w_lsH3, w_tup4, w_lst4, w_lsH4, w_tup5, w_lst5, w_lsH5, w_tup6, w_lst6, w_lsH6, w_tup7, w_lst7, w_lsH7, w_tup8, w_lst8, w_lsH8, w_ite, w_iteP, w_obind, oK_nx, oK_ret, oK_bk, oK_ct, w_def, dK_nx, dK_ret, w_lift, w_noex, w_add, w_sub, w_neg, w_lt, w_le, w_gt, w_ge, w_max, w_min, w_eqi, w_nei, w_eqs, w_nes, w_asB, w_asI, w_not, w_tru, w_and, w_or, w_new, w_lenT, w_lenL, w_itT, w_itL, w_tupT, w_tupL, w_listT, w_listL, w_slT, w_slL, w_isn, w_isnn, w_inti, w_intb, w_strs, w_schk, w_zipT, w_zipL, w_zipLT, w_enumT, w_enumL, w_app1, w_app2, w_app3, w_app4, w_app5, tK_nx, tK_ct, tK_bk, tK_ret, lK_nx, lK_ct, lK_bk, lK_ret, decide_eq_true_eq, if_true, if_false, reduceIte, Bool.false_eq_true, Bool.not_true, Bool.not_false, List.length_cons, List.length_nil]
    exact ⟨noRef_int, p _⟩
end Lw

/-! SetY: layings by the places; loops by a measure. -/
namespace Lw
open PySem L2
theorem can_nil {w : List P2} (c : Can w) : w = [] ↔ ∀ q, ¬ mem q w := by
  constructor
  · rintro rfl q hq
    exact mem_nil.mp hq
  · intro hq
    cases w with
    | nil => rfl
    | cons p r => exact absurd ⟨p, by simp, Int.le_refl _, c.2 p (by simp)⟩ (hq p.1)
theorem plc_len (p : Int) (n : Nat) : (plc (p, p + n)).length = n := by
  simp only [plc, List.length_map, List.length_range]
  omega
theorem plc_get {p : Int} {n k : Nat} (hk : k < n) : (plc (p, p + n))[k]? = some (p + (k : Int)) := by
  unfold plc
  rw [List.getElem?_map, List.getElem?_range (by show k < (p + n - p).toNat; omega)]
  rfl
theorem aLay_at {S : Sheet} (o : ShOk S) (p : Int) (ns : List Int) : (aLay S p ns = .bad ∧ ∃ q ∈ plc (p, p + ns.length), ¬ mem q S.work) ∨ (aLay S p ns = .twice ∧ (∀ q ∈ plc (p, p + ns.length), mem q S.work) ∧ ∃ q ∈ plc (p, p + ns.length), resAt S.res q ≠ none) ∨
    ((∀ q ∈ plc (p, p + ns.length), mem q S.work) ∧ (∀ q ∈ plc (p, p + ns.length), resAt S.res q = none) ∧ ∃ S', aLay S p ns = .ok S' ∧ ShOk S' ∧ S'.work = S.work ∧ S'.laid.length ≤ S.laid.length + 1 ∧ S'.res.length = S.res.length + ns.length ∧ ∀ q, resAt S'.res q = if p ≤ q ∧ q < p + ns.length then ns[(q - p).toNat]? else resAt S.res q) := by
  have un : ∀ q, mem q S.laid ↔ resAt S.res q ≠ none := fun q => by
    rw [o.dom q]
    cases resAt S.res q <;> simp
  by_cases hn : ns = []
  · subst hn
    have e : aLay S p [] = .ok S := by
      unfold aLay
      rw [if_pos rfl]
    have m0 : ∀ q, q ∉ plc (p, p + (([] : List Int).length : Int)) := fun q hq => by
      have := mem_plc.mp hq
      simp only [List.length_nil] at this
      omega
    refine .inr (.inr ⟨fun q hq => absurd hq (m0 q), fun q hq => absurd hq (m0 q), S, e, o, rfl, by omega, by simp, fun q => ?_⟩)
    rw [if_neg (by simp only [List.length_nil]; omega)]
  · have hl : 0 < ns.length := List.length_pos_iff.mpr hn
    have k1 : Wk [(p, p + ns.length)] := wk_one (by omega)
    have c1 := can_nil (without_can k1 o.w)
    have c2 := can_nil (both_can k1 o.c.wk)
    by_cases h1 : without [(p, p + ns.length)] S.work = []
    · have w1 : ∀ q ∈ plc (p, p + ns.length), mem q S.work := fun q hq => Classical.byContradiction fun z => (c1.mp h1) q ((without_mem k1 o.w).mpr ⟨mem_one.mpr (mem_plc.mp hq), z⟩)
      by_cases h2 : both [(p, p + ns.length)] S.laid = []
      · have w2 : ∀ q ∈ plc (p, p + ns.length), resAt S.res q = none := fun q hq => Classical.byContradiction fun z => (c2.mp h2) q ((both_mem k1 o.c.wk).mpr ⟨mem_one.mpr (mem_plc.mp hq), (un q).mpr z⟩)
        have e : aLay S p ns = .ok ⟨S.work, either S.laid [(p, p + ns.length)], S.res ++ numAt p ns⟩ := by
          unfold aLay
          rw [if_neg hn, if_neg (fun z => z h1), if_neg (fun z => z h2)]
        obtain ⟨o', _, _, l'⟩ := lay_ok o e hn
        refine .inr (.inr ⟨w1, w2, _, e, o', rfl, l', by rw [List.length_append, numAt_length], fun q => ?_⟩)
        show resAt (S.res ++ numAt p ns) q = _
        rw [resAt_append, resAt_numAt]
        by_cases c : p ≤ q ∧ q < p + ns.length
        · rw [if_pos c, if_pos c.1, w2 q (mem_plc.mpr c)]
          rfl
        · rw [if_neg c]
          by_cases c3 : p ≤ q
          · rw [if_pos c3, List.getElem?_eq_none (by omega)]
            simp
          · rw [if_neg c3]
            simp
      · refine .inr (.inl ⟨?_, w1, ?_⟩)
        · unfold aLay
          rw [if_neg hn, if_neg (fun z => z h1), if_pos h2]
        · refine Classical.byContradiction fun z => h2 (c2.mpr fun q hq => ?_)
          obtain ⟨x, y⟩ := (both_mem k1 o.c.wk).mp hq
          exact z ⟨q, mem_plc.mpr (mem_one.mp x), (un q).mp y⟩
    · refine .inl ⟨?_, ?_⟩
      · unfold aLay
        rw [if_neg hn, if_pos h1]
      · refine Classical.byContradiction fun z => h1 (c1.mpr fun q hq => ?_)
        obtain ⟨x, y⟩ := (without_mem k1 o.w).mp hq
        exact z ⟨q, mem_plc.mpr (mem_one.mp x), y⟩
theorem nbs_res (S : Sheet) : nbs 59 (S.laid.map fun q => D.tup [.int q.1, .tup ((List.range (q.2 - q.1).toNat).map fun k => D.int ((resAt S.res (q.1 + (k : Nat))).getD 0))]) = true := by
  have nbi : ∀ (n : Nat) (f : Nat → Int) (l : List Nat), nbs (n + 1) (l.map fun k => D.int (f k)) = true := fun n f l => by
    induction l with
    | nil => rfl
    | cons x r ih =>
      rw [List.map_cons]
      show (nb (n + 1) (.int (f x)) && nbs (n + 1) (r.map fun k => D.int (f k))) = true
      rw [ih]
      rfl
  induction S.laid with
  | nil => rfl
  | cons q r ih =>
    rw [List.map_cons]
    show (nb 59 (.tup [.int q.1, .tup ((List.range (q.2 - q.1).toNat).map fun k => D.int ((resAt S.res (q.1 + (k : Nat))).getD 0))]) && _) = true
    rw [ih, Bool.and_true]
    show (nb 58 (.int q.1) && (nb 58 (.tup ((List.range (q.2 - q.1).toNat).map fun k => D.int ((resAt S.res (q.1 + (k : Nat))).getD 0))) && true)) = true
    have := nbi 56 (fun k => (resAt S.res (q.1 + (k : Nat))).getD 0) (List.range (q.2 - q.1).toNat)
    rw [Bool.and_true]
    show (true && nbs 57 _) = true
    rw [this]
    rfl
section
variable {τ β : Type} {h : AH} {E : Str → AH → Prop} {O : Out τ β → AH → Prop}
/-- a loop by what stays true at a measure -/
theorem w_while {c : τ → M Bool} {f : τ → M (Out τ τ)} (I : Nat → τ → AH → Prop) (hs : ∀ j t h, I j t h → Wp (c t h) (fun b h' => if b = true then Wp (f t h') (tK (fun t h => ∃ j', j' < j ∧ I j' t h) O) E else O (.nx t) h') E) :
    ∀ (n j : Nat) (t : τ) (h : AH), j < n → I j t h → Wp ((whileM n t c f : M (Out τ β)) h) O E
  | 0, j, t, h, l, i => absurd l (Nat.not_lt_zero _)
  | n + 1, j, t, h, l, i => by
    rw [w_while1]
    refine (hs j t h i).imp fun b h' q => ?_
    cases b with
    | false => exact q
    | true =>
      simp only [if_true] at q ⊢
      refine q.imp fun o h2 q2 => lK_of q2 fun t' h3 ⟨j', lj, i'⟩ => w_while I hs n j' t' h3 (by omega) i'
end
end Lw

namespace Lw
open PySem L2
section
variable {h : AH} {n b m : Nat} {E : Str → AH → Prop} {P : D → AH → Prop} {S : Sheet}
/-! heaps that only grow -/
def Kp (h h' : AH) : Prop := h.length ≤ h'.length ∧ ∀ i, i < h.length → h'[i]? = h[i]?
theorem Kp.refl : Kp h h := ⟨Nat.le_refl _, fun _ _ => rfl⟩
theorem Kp.app {xs : AH} : Kp h (h ++ xs) := ⟨by simp, fun i hi => List.getElem?_append_left hi⟩
theorem Kp.trans {a c : AH} (x : Kp h a) (y : Kp a c) : Kp h c := ⟨Nat.le_trans x.1 y.1, fun i hi => (y.2 i (Nat.lt_of_lt_of_le hi x.1)).trans (x.2 i hi)⟩
theorem ShAt.keep {h' : AH} (s : ShAt h n b S) (k : Kp h h') : ShAt h' n b S := ⟨(k.2 n (getElem?_lt s.obj)).trans s.obj, (k.2 b (getElem?_lt s.dct)).trans s.dct, s.ok⟩
theorem Tape.keep {h' : AH} (t : Tape h n m) (k : Kp h h') : Tape h' n m := t.at (k.2 n t.lt)
/-! things that are no work -/
def Th (d : D) : Prop := pla d = true ∧ (∀ xs, d = .tup xs → xs.length ≤ 1000000) ∧ ¬ isWork d
def allStr : D → Bool
  | .tup xs => xs.all isStr
  | _ => false
theorem th_of {d : D} (p : pla d = true) (l : ∀ xs, d = .tup xs → xs.length ≤ 1000000) (g : allStr d = false) : Th d := ⟨p, l, fun ⟨w, e, hw⟩ => by
  subst e
  have z : allStr (wk w) = true := all_pd hw.2
  rw [z] at g
  cases g⟩
theorem th_tup {xs : List D} (p : plas xs = true) (l : xs.length ≤ 1000000) (g : xs.all isStr = false) : Th (.tup xs) := th_of (by unfold pla; exact p) (fun ys e => by cases e; exact l) g
theorem plas_pds (w : List P2) : plas (w.map pd) = true := plas_of fun d hd => by
  obtain ⟨p, _, rfl⟩ := List.mem_map.mp hd
  exact pla_pd p
theorem plas_app {xs ys : List D} (a : plas xs = true) (c : plas ys = true) : plas (xs ++ ys) = true := plas_of fun d hd => by
  rcases List.mem_append.mp hd with hd | hd
  · exact plas_mem a d hd
  · exact plas_mem c d hd
theorem th_end {w : List P2} {x : D} (l : w.length ≤ 1000) (p : pla x = true) (g : isStr x = false) : Th (.tup (w.map pd ++ [x])) := th_tup (plas_app (plas_pds w) (by unfold plas plas; rw [p]; rfl)) (by rw [List.length_append, List.length_map, List.length_singleton]; omega) (by
  rw [List.all_append, List.all_cons, g]
  simp)
theorem th_wk {u : List P2} (l : u.length ≤ 1000) (g : ¬ Wk u) : Th (wk u) := ⟨pla_wk u, fun xs e => by
  have e2 := D.tup.inj e
  rw [← e2, List.length_map]
  omega, fun ⟨w, e, hw⟩ => g (by rw [wk_inj e]; exact hw)⟩
theorem th_over {w : List P2} {p : P2} (l : w.length ≤ 990) (hp : p ∈ w) (r : List P2) (q : P2) (lr : r.length ≤ 5) (hq : q ∈ r) (c : q.1 < p.2) : Th (.tup (w.map pd ++ r.map pd)) := by
  rw [← List.map_append]
  refine th_wk (by rw [List.length_append]; omega) fun hw => ?_
  have z := (List.pairwise_append.mp hw.1).2.2 p hp q hq
  omega
theorem th_turn {w : List P2} (l : w.length ≤ 990) (a c : P2) (x : c.1 < a.2) : Th (.tup (w.map pd ++ [pd a, pd c])) := by
  rw [show [pd a, pd c] = [a, c].map pd from rfl, ← List.map_append]
  refine th_wk (by rw [List.length_append]; simp only [List.length_cons, List.length_nil]; omega) fun hw => ?_
  have z := (List.pairwise_cons.mp (List.pairwise_append.mp hw.1).2.1).1 c (by simp)
  omega
/-! what the law's words are -/
theorem hand_w (z s : Str) (hz : (z = "BadWork" ∧ s = "work") ∨ (z = "BadPlace" ∧ s = "place") ∨ (z = "Twice" ∧ s = "twice")) (O : Out D Empty → AH → Prop) (E : Str → AH → Prop) (k : O (.nx (.str s)) h) : hK (fun z => isE z "LentError") h_law_word_1 O E z h := by
  have ee : Wp (eqM (D.int 1) (.int 1) h) (fun d hh => d = .bl true ∧ hh = h) NoE := by
    rw [w_eqi]
    exact ⟨rfl, rfl⟩
  rcases hz with ⟨rfl, rfl⟩ | ⟨rfl, rfl⟩ | ⟨rfl, rfl⟩
  · refine (hK_t (c := fun z => isE z "LentError") (x := "BadWork") rfl).mpr ?_
    unfold h_law_word_1
    have e_BadBound : isE "BadWork" "BadBound" = some false := rfl
    have e_BadCut : isE "BadWork" "BadCut" = some false := rfl
    have e_BadJoin : isE "BadWork" "BadJoin" = some false := rfl
    have e_BadLine : isE "BadWork" "BadLine" = some false := rfl
    have e_BadMoment : isE "BadWork" "BadMoment" = some false := rfl
    have e_BadPlan : isE "BadWork" "BadPlan" = some false := rfl
    have e_BadTelling : isE "BadWork" "BadTelling" = some false := rfl
    have e_BadWorker : isE "BadWork" "BadWorker" = some false := rfl
    have e_Down : isE "BadWork" "Down" = some false := rfl
    have e_Fallen : isE "BadWork" "Fallen" = some false := rfl
    have e_Lost : isE "BadWork" "Lost" = some false := rfl
    have e_NoBook : isE "BadWork" "NoBook" = some false := rfl
    have e_NoLending : isE "BadWork" "NoLending" = some false := rfl
    have e_NoLine : isE "BadWork" "NoLine" = some false := rfl
    have e_NoPiece : isE "BadWork" "NoPiece" = some false := rfl
    have e_NoText : isE "BadWork" "NoText" = some false := rfl
    have e_Otherwise : isE "BadWork" "Otherwise" = some false := rfl
    have z_BadWork : isEZ isE "BadWork" "BadWork" = pure (.bl true) := rfl
    have z_BadPlace : isEZ isE "BadPlace" "BadWork" = pure (.bl false) := rfl
    have z_Twice : isEZ isE "Twice" "BadWork" = pure (.bl false) := rfl
    have z_ValueError : isEZ isE "ValueError" "BadWork" = pure (.bl true) := rfl
    have c : countBM (.lst [D.bl true, .bl false, .bl false]) (.bl true) h = .ok (.int 1) h := rfl
    have x : indexBM (.lst [D.bl true, .bl false, .bl false]) (.bl true) h = .ok (.int 0) h := rfl
    have l : lchk (.lst [D.bl true, .bl false, .bl false]) h = .ok () h := rfl
    have o : (orO (some false) (some false)) = some false := rfl
    have p : isEO (some false) = pure (.bl false) := rfl
    simp only [w_bind, w_pure, w_throw, w_tup0, w_lst0, w_lsH0, w_tup1, w_lst1, w_lsH1, w_tup2, w_lst2, w_lsH2, w_tup3, w_lst3, w_lsH3, w_tup4, w_lst4, w_lsH4, w_tup5, w_lst5, w_lsH5, w_tup6, w_lst6, w_lsH6, w_tup7, w_lst7, w_lsH7, w_tup8, w_lst8, w_lsH8, w_ite, w_iteP, w_obind, oK_nx, oK_ret, oK_bk, oK_ct, w_def, dK_nx, dK_ret, w_lift, w_noex, w_add, w_sub, w_neg, w_lt, w_le, w_gt, w_ge, w_max, w_min, w_eqi, w_nei, w_eqs, w_nes, w_asB, w_asI, w_not, w_tru, w_and, w_or, w_new, w_lenT, w_lenL, w_itT, w_itL, w_tupT, w_tupL, w_listT, w_listL, w_slT, w_slL, w_isn, w_isnn, w_inti, w_intb, w_strs, w_schk, w_zipT, w_zipL, w_zipLT, w_enumT, w_enumL, w_app1, w_app2, w_app3, w_app4, w_app5, tK_nx, tK_ct, tK_bk, tK_ret, lK_nx, lK_ct, lK_bk, lK_ret, decide_eq_true_eq, if_true, if_false, reduceIte, Bool.false_eq_true, Bool.not_true, Bool.not_false, List.length_cons, List.length_nil, e_BadBound, e_BadCut, e_BadJoin, e_BadLine, e_BadMoment, e_BadPlan, e_BadTelling, e_BadWorker, e_Down, e_Fallen, e_Lost, e_NoBook, e_NoLending, e_NoLine, e_NoPiece, e_NoText, e_Otherwise, z_BadWork, z_BadPlace, z_Twice, z_ValueError, o, p, Wp.run c, Wp.run x, show ∀ (Q : Unit → AH → Prop) (E : Str → AH → Prop), Wp (lchk (.lst [D.bl true, .bl false, .bl false]) h) Q E ↔ Q () h from fun _ _ => Iff.rfl, decide_true, w_ixL (show atI [D.str "work", .str "place", .str "twice"] 0 = some (.str "work") from rfl)]
    exact k
  · refine (hK_t (c := fun z => isE z "LentError") (x := "BadPlace") rfl).mpr ?_
    unfold h_law_word_1
    have e_BadBound : isE "BadPlace" "BadBound" = some false := rfl
    have e_BadCut : isE "BadPlace" "BadCut" = some false := rfl
    have e_BadJoin : isE "BadPlace" "BadJoin" = some false := rfl
    have e_BadLine : isE "BadPlace" "BadLine" = some false := rfl
    have e_BadMoment : isE "BadPlace" "BadMoment" = some false := rfl
    have e_BadPlan : isE "BadPlace" "BadPlan" = some false := rfl
    have e_BadTelling : isE "BadPlace" "BadTelling" = some false := rfl
    have e_BadWorker : isE "BadPlace" "BadWorker" = some false := rfl
    have e_Down : isE "BadPlace" "Down" = some false := rfl
    have e_Fallen : isE "BadPlace" "Fallen" = some false := rfl
    have e_Lost : isE "BadPlace" "Lost" = some false := rfl
    have e_NoBook : isE "BadPlace" "NoBook" = some false := rfl
    have e_NoLending : isE "BadPlace" "NoLending" = some false := rfl
    have e_NoLine : isE "BadPlace" "NoLine" = some false := rfl
    have e_NoPiece : isE "BadPlace" "NoPiece" = some false := rfl
    have e_NoText : isE "BadPlace" "NoText" = some false := rfl
    have e_Otherwise : isE "BadPlace" "Otherwise" = some false := rfl
    have z_BadWork : isEZ isE "BadWork" "BadPlace" = pure (.bl false) := rfl
    have z_BadPlace : isEZ isE "BadPlace" "BadPlace" = pure (.bl true) := rfl
    have z_Twice : isEZ isE "Twice" "BadPlace" = pure (.bl false) := rfl
    have z_ValueError : isEZ isE "ValueError" "BadPlace" = pure (.bl true) := rfl
    have c : countBM (.lst [D.bl false, .bl true, .bl false]) (.bl true) h = .ok (.int 1) h := rfl
    have x : indexBM (.lst [D.bl false, .bl true, .bl false]) (.bl true) h = .ok (.int 1) h := rfl
    have l : lchk (.lst [D.bl false, .bl true, .bl false]) h = .ok () h := rfl
    have o : (orO (some false) (some false)) = some false := rfl
    have p : isEO (some false) = pure (.bl false) := rfl
    simp only [w_bind, w_pure, w_throw, w_tup0, w_lst0, w_lsH0, w_tup1, w_lst1, w_lsH1, w_tup2, w_lst2, w_lsH2, w_tup3, w_lst3, w_lsH3, w_tup4, w_lst4, w_lsH4, w_tup5, w_lst5, w_lsH5, w_tup6, w_lst6, w_lsH6, w_tup7, w_lst7, w_lsH7, w_tup8, w_lst8, w_lsH8, w_ite, w_iteP, w_obind, oK_nx, oK_ret, oK_bk, oK_ct, w_def, dK_nx, dK_ret, w_lift, w_noex, w_add, w_sub, w_neg, w_lt, w_le, w_gt, w_ge, w_max, w_min, w_eqi, w_nei, w_eqs, w_nes, w_asB, w_asI, w_not, w_tru, w_and, w_or, w_new, w_lenT, w_lenL, w_itT, w_itL, w_tupT, w_tupL, w_listT, w_listL, w_slT, w_slL, w_isn, w_isnn, w_inti, w_intb, w_strs, w_schk, w_zipT, w_zipL, w_zipLT, w_enumT, w_enumL, w_app1, w_app2, w_app3, w_app4, w_app5, tK_nx, tK_ct, tK_bk, tK_ret, lK_nx, lK_ct, lK_bk, lK_ret, decide_eq_true_eq, if_true, if_false, reduceIte, Bool.false_eq_true, Bool.not_true, Bool.not_false, List.length_cons, List.length_nil, e_BadBound, e_BadCut, e_BadJoin, e_BadLine, e_BadMoment, e_BadPlan, e_BadTelling, e_BadWorker, e_Down, e_Fallen, e_Lost, e_NoBook, e_NoLending, e_NoLine, e_NoPiece, e_NoText, e_Otherwise, z_BadWork, z_BadPlace, z_Twice, z_ValueError, o, p, Wp.run c, Wp.run x, show ∀ (Q : Unit → AH → Prop) (E : Str → AH → Prop), Wp (lchk (.lst [D.bl false, .bl true, .bl false]) h) Q E ↔ Q () h from fun _ _ => Iff.rfl, decide_true, w_ixL (show atI [D.str "work", .str "place", .str "twice"] 1 = some (.str "place") from rfl)]
    exact k
  · refine (hK_t (c := fun z => isE z "LentError") (x := "Twice") rfl).mpr ?_
    unfold h_law_word_1
    have e_BadBound : isE "Twice" "BadBound" = some false := rfl
    have e_BadCut : isE "Twice" "BadCut" = some false := rfl
    have e_BadJoin : isE "Twice" "BadJoin" = some false := rfl
    have e_BadLine : isE "Twice" "BadLine" = some false := rfl
    have e_BadMoment : isE "Twice" "BadMoment" = some false := rfl
    have e_BadPlan : isE "Twice" "BadPlan" = some false := rfl
    have e_BadTelling : isE "Twice" "BadTelling" = some false := rfl
    have e_BadWorker : isE "Twice" "BadWorker" = some false := rfl
    have e_Down : isE "Twice" "Down" = some false := rfl
    have e_Fallen : isE "Twice" "Fallen" = some false := rfl
    have e_Lost : isE "Twice" "Lost" = some false := rfl
    have e_NoBook : isE "Twice" "NoBook" = some false := rfl
    have e_NoLending : isE "Twice" "NoLending" = some false := rfl
    have e_NoLine : isE "Twice" "NoLine" = some false := rfl
    have e_NoPiece : isE "Twice" "NoPiece" = some false := rfl
    have e_NoText : isE "Twice" "NoText" = some false := rfl
    have e_Otherwise : isE "Twice" "Otherwise" = some false := rfl
    have z_BadWork : isEZ isE "BadWork" "Twice" = pure (.bl false) := rfl
    have z_BadPlace : isEZ isE "BadPlace" "Twice" = pure (.bl false) := rfl
    have z_Twice : isEZ isE "Twice" "Twice" = pure (.bl true) := rfl
    have z_ValueError : isEZ isE "ValueError" "Twice" = pure (.bl true) := rfl
    have c : countBM (.lst [D.bl false, .bl false, .bl true]) (.bl true) h = .ok (.int 1) h := rfl
    have x : indexBM (.lst [D.bl false, .bl false, .bl true]) (.bl true) h = .ok (.int 2) h := rfl
    have l : lchk (.lst [D.bl false, .bl false, .bl true]) h = .ok () h := rfl
    have o : (orO (some false) (some false)) = some false := rfl
    have p : isEO (some false) = pure (.bl false) := rfl
    simp only [w_bind, w_pure, w_throw, w_tup0, w_lst0, w_lsH0, w_tup1, w_lst1, w_lsH1, w_tup2, w_lst2, w_lsH2, w_tup3, w_lst3, w_lsH3, w_tup4, w_lst4, w_lsH4, w_tup5, w_lst5, w_lsH5, w_tup6, w_lst6, w_lsH6, w_tup7, w_lst7, w_lsH7, w_tup8, w_lst8, w_lsH8, w_ite, w_iteP, w_obind, oK_nx, oK_ret, oK_bk, oK_ct, w_def, dK_nx, dK_ret, w_lift, w_noex, w_add, w_sub, w_neg, w_lt, w_le, w_gt, w_ge, w_max, w_min, w_eqi, w_nei, w_eqs, w_nes, w_asB, w_asI, w_not, w_tru, w_and, w_or, w_new, w_lenT, w_lenL, w_itT, w_itL, w_tupT, w_tupL, w_listT, w_listL, w_slT, w_slL, w_isn, w_isnn, w_inti, w_intb, w_strs, w_schk, w_zipT, w_zipL, w_zipLT, w_enumT, w_enumL, w_app1, w_app2, w_app3, w_app4, w_app5, tK_nx, tK_ct, tK_bk, tK_ret, lK_nx, lK_ct, lK_bk, lK_ret, decide_eq_true_eq, if_true, if_false, reduceIte, Bool.false_eq_true, Bool.not_true, Bool.not_false, List.length_cons, List.length_nil, e_BadBound, e_BadCut, e_BadJoin, e_BadLine, e_BadMoment, e_BadPlan, e_BadTelling, e_BadWorker, e_Down, e_Fallen, e_Lost, e_NoBook, e_NoLending, e_NoLine, e_NoPiece, e_NoText, e_Otherwise, z_BadWork, z_BadPlace, z_Twice, z_ValueError, o, p, Wp.run c, Wp.run x, show ∀ (Q : Unit → AH → Prop) (E : Str → AH → Prop), Wp (lchk (.lst [D.bl false, .bl false, .bl true]) h) Q E ↔ Q () h from fun _ _ => Iff.rfl, decide_true, w_ixL (show atI [D.str "work", .str "place", .str "twice"] 2 = some (.str "twice") from rfl)]
    exact k
theorem w_eqo_i {c : Str} {i j : Int} : Wp (eqOM c (.int i) (.int j) h) P E ↔ P (.bl (decide (i = j))) h := Iff.rfl
theorem w_eqo_r {c : Str} {fs : List (Str × D)} {j : Int} (e : h[n]? = some (.ins c fs)) : Wp (eqOM c (.ref n) (.int j) h) P E ↔ P (.bl false) h := by
  unfold eqOM
  simp only [e, if_true]
  exact Iff.rfl
/-- no work, at the sheet -/
theorem word0_w {d : D} (t : Th d) (k : P (.str "work") (h ++ [.ins "Sheet" []])) : Wp (f_law_word (.int 0) d .non h) P E := by
  unfold f_law_word b_law_word
  simp only [w_bind, w_pure, w_throw, w_tup0, w_lst0, w_lsH0, w_tup1, w_lst1, w_lsH1, w_tup2, w_lst2, w_lsH2, w_tup3, w_lst3, w_lsH3, w_tup4, w_lst4, w_lsH4, w_tup5, w_lst5, w_lsH5, w_tup6, w_lst6, w_lsH6, w_tup7, w_lst7, w_lsH7, w_tup8, w_lst8, w_lsH8, w_ite, w_iteP, w_obind, oK_nx, oK_ret, oK_bk, oK_ct, w_def, dK_nx, dK_ret, w_lift, w_noex, w_add, w_sub, w_neg, w_lt, w_le, w_gt, w_ge, w_max, w_min, w_eqi, w_nei, w_eqs, w_nes, w_asB, w_asI, w_not, w_tru, w_and, w_or, w_new, w_lenT, w_lenL, w_itT, w_itL, w_tupT, w_tupL, w_listT, w_listL, w_slT, w_slL, w_isn, w_isnn, w_inti, w_intb, w_strs, w_schk, w_zipT, w_zipL, w_zipLT, w_enumT, w_enumL, w_app1, w_app2, w_app3, w_app4, w_app5, tK_nx, tK_ct, tK_bk, tK_ret, lK_nx, lK_ct, lK_bk, lK_ret, decide_eq_true_eq, if_true, if_false, reduceIte, Bool.false_eq_true, Bool.not_true, Bool.not_false, List.length_cons, List.length_nil, w_try, w_eqo_i, decide_true]
  refine sheet_w t.1 t.2.1 (fun _ => ?_) fun w e hw => absurd ⟨w, e, hw⟩ t.2.2
  refine hand_w "BadWork" "work" (.inl ⟨rfl, rfl⟩) _ _ ?_
  simp only [w_bind, w_pure, w_throw, w_tup0, w_lst0, w_lsH0, w_tup1, w_lst1, w_lsH1, w_tup2, w_lst2, w_lsH2, w_tup3, w_lst3, w_lsH3, w_tup4, w_lst4, w_lsH4, w_tup5, w_lst5, w_lsH5, w_tup6, w_lst6, w_lsH6, w_tup7, w_lst7, w_lsH7, w_tup8, w_lst8, w_lsH8, w_ite, w_iteP, w_obind, oK_nx, oK_ret, oK_bk, oK_ct, w_def, dK_nx, dK_ret, w_lift, w_noex, w_add, w_sub, w_neg, w_lt, w_le, w_gt, w_ge, w_max, w_min, w_eqi, w_nei, w_eqs, w_nes, w_asB, w_asI, w_not, w_tru, w_and, w_or, w_new, w_lenT, w_lenL, w_itT, w_itL, w_tupT, w_tupL, w_listT, w_listL, w_slT, w_slL, w_isn, w_isnn, w_inti, w_intb, w_strs, w_schk, w_zipT, w_zipL, w_zipLT, w_enumT, w_enumL, w_app1, w_app2, w_app3, w_app4, w_app5, tK_nx, tK_ct, tK_bk, tK_ret, lK_nx, lK_ct, lK_bk, lK_ret, decide_eq_true_eq, if_true, if_false, reduceIte, Bool.false_eq_true, Bool.not_true, Bool.not_false, List.length_cons, List.length_nil]
  exact k
theorem word1_w {d : D} (t : Th d) (k : P (.str "work") h) : Wp (f_law_word (.int 1) d .non h) P E := by
  unfold f_law_word b_law_word
  simp only [w_bind, w_pure, w_throw, w_tup0, w_lst0, w_lsH0, w_tup1, w_lst1, w_lsH1, w_tup2, w_lst2, w_lsH2, w_tup3, w_lst3, w_lsH3, w_tup4, w_lst4, w_lsH4, w_tup5, w_lst5, w_lsH5, w_tup6, w_lst6, w_lsH6, w_tup7, w_lst7, w_lsH7, w_tup8, w_lst8, w_lsH8, w_ite, w_iteP, w_obind, oK_nx, oK_ret, oK_bk, oK_ct, w_def, dK_nx, dK_ret, w_lift, w_noex, w_add, w_sub, w_neg, w_lt, w_le, w_gt, w_ge, w_max, w_min, w_eqi, w_nei, w_eqs, w_nes, w_asB, w_asI, w_not, w_tru, w_and, w_or, w_new, w_lenT, w_lenL, w_itT, w_itL, w_tupT, w_tupL, w_listT, w_listL, w_slT, w_slL, w_isn, w_isnn, w_inti, w_intb, w_strs, w_schk, w_zipT, w_zipL, w_zipLT, w_enumT, w_enumL, w_app1, w_app2, w_app3, w_app4, w_app5, tK_nx, tK_ct, tK_bk, tK_ret, lK_nx, lK_ct, lK_bk, lK_ret, decide_eq_true_eq, if_true, if_false, reduceIte, Bool.false_eq_true, Bool.not_true, Bool.not_false, List.length_cons, List.length_nil, w_try, w_eqo_i, show decide ((1 : Int) = 0) = false from rfl, decide_true]
  rw [check_bad d t.1 t.2.1 t.2.2 h, w_exc]
  refine hand_w "BadWork" "work" (.inl ⟨rfl, rfl⟩) _ _ ?_
  simp only [w_bind, w_pure, w_throw, w_tup0, w_lst0, w_lsH0, w_tup1, w_lst1, w_lsH1, w_tup2, w_lst2, w_lsH2, w_tup3, w_lst3, w_lsH3, w_tup4, w_lst4, w_lsH4, w_tup5, w_lst5, w_lsH5, w_tup6, w_lst6, w_lsH6, w_tup7, w_lst7, w_lsH7, w_tup8, w_lst8, w_lsH8, w_ite, w_iteP, w_obind, oK_nx, oK_ret, oK_bk, oK_ct, w_def, dK_nx, dK_ret, w_lift, w_noex, w_add, w_sub, w_neg, w_lt, w_le, w_gt, w_ge, w_max, w_min, w_eqi, w_nei, w_eqs, w_nes, w_asB, w_asI, w_not, w_tru, w_and, w_or, w_new, w_lenT, w_lenL, w_itT, w_itL, w_tupT, w_tupL, w_listT, w_listL, w_slT, w_slL, w_isn, w_isnn, w_inti, w_intb, w_strs, w_schk, w_zipT, w_zipL, w_zipLT, w_enumT, w_enumL, w_app1, w_app2, w_app3, w_app4, w_app5, tK_nx, tK_ct, tK_bk, tK_ret, lK_nx, lK_ct, lK_bk, lK_ret, decide_eq_true_eq, if_true, if_false, reduceIte, Bool.false_eq_true, Bool.not_true, Bool.not_false, List.length_cons, List.length_nil]
  exact k
theorem flat1 {α β : Type} (f : α → β) : ∀ xs : List α, (xs.map fun x => [f x]).flatten = xs.map f
  | [] => rfl
  | x :: r => by rw [List.map_cons, List.flatten_cons, flat1 f r]; rfl
/-! a laying that is refused by its form -/
def isIntTup : D → Bool
  | .tup xs => xs.all isInt
  | _ => false
theorem lay_bad {d e : D} (pd' : pla d = true) (pe : pla e = true) (l : ∀ xs, e = .tup xs → xs.length ≤ 1000000) (g : (isInt d && isIntTup e) = false) (k : E "BadPlace" h) : Wp (f_Sheet_lay (.ref n) d e h) P E := by
  unfold f_Sheet_lay b_Sheet_lay
  simp only [w_bind, w_pure, w_throw, w_tup0, w_lst0, w_lsH0, w_tup1, w_lst1, w_lsH1, w_tup2, w_lst2, w_lsH2, w_tup3, w_lst3, w_lsH3, w_tup4, w_lst4, w_lsH4, w_tup5, w_lst5, w_lsH5, w_tup6, w_lst6, w_lsH6, w_tup7, w_lst7, w_lsH7, w_tup8, w_lst8, w_lsH8, w_ite, w_iteP, w_obind, oK_nx, oK_ret, oK_bk, oK_ct, w_def, dK_nx, dK_ret, w_lift, w_noex, w_add, w_sub, w_neg, w_lt, w_le, w_gt, w_ge, w_max, w_min, w_eqi, w_nei, w_eqs, w_nes, w_asB, w_asI, w_not, w_tru, w_and, w_or, w_new, w_lenT, w_lenL, w_itT, w_itL, w_tupT, w_tupL, w_listT, w_listL, w_slT, w_slL, w_isn, w_isnn, w_inti, w_intb, w_strs, w_schk, w_zipT, w_zipL, w_zipLT, w_enumT, w_enumL, w_app1, w_app2, w_app3, w_app4, w_app5, tK_nx, tK_ct, tK_bk, tK_ret, lK_nx, lK_ct, lK_bk, lK_ret, decide_eq_true_eq, if_true, if_false, reduceIte, Bool.false_eq_true, Bool.not_true, Bool.not_false, List.length_cons, List.length_nil, w_pwhole d pd']
  cases hd : isInt d with
  | false =>
    simp only [w_bind, w_pure, w_throw, w_tup0, w_lst0, w_lsH0, w_tup1, w_lst1, w_lsH1, w_tup2, w_lst2, w_lsH2, w_tup3, w_lst3, w_lsH3, w_tup4, w_lst4, w_lsH4, w_tup5, w_lst5, w_lsH5, w_tup6, w_lst6, w_lsH6, w_tup7, w_lst7, w_lsH7, w_tup8, w_lst8, w_lsH8, w_ite, w_iteP, w_obind, oK_nx, oK_ret, oK_bk, oK_ct, w_def, dK_nx, dK_ret, w_lift, w_noex, w_add, w_sub, w_neg, w_lt, w_le, w_gt, w_ge, w_max, w_min, w_eqi, w_nei, w_eqs, w_nes, w_asB, w_asI, w_not, w_tru, w_and, w_or, w_new, w_lenT, w_lenL, w_itT, w_itL, w_tupT, w_tupL, w_listT, w_listL, w_slT, w_slL, w_isn, w_isnn, w_inti, w_intb, w_strs, w_schk, w_zipT, w_zipL, w_zipLT, w_enumT, w_enumL, w_app1, w_app2, w_app3, w_app4, w_app5, tK_nx, tK_ct, tK_bk, tK_ret, lK_nx, lK_ct, lK_bk, lK_ret, decide_eq_true_eq, if_true, if_false, reduceIte, Bool.false_eq_true, Bool.not_true, Bool.not_false, List.length_cons, List.length_nil]
    exact k
  | true =>
    simp only [w_bind, w_pure, w_throw, w_tup0, w_lst0, w_lsH0, w_tup1, w_lst1, w_lsH1, w_tup2, w_lst2, w_lsH2, w_tup3, w_lst3, w_lsH3, w_tup4, w_lst4, w_lsH4, w_tup5, w_lst5, w_lsH5, w_tup6, w_lst6, w_lsH6, w_tup7, w_lst7, w_lsH7, w_tup8, w_lst8, w_lsH8, w_ite, w_iteP, w_obind, oK_nx, oK_ret, oK_bk, oK_ct, w_def, dK_nx, dK_ret, w_lift, w_noex, w_add, w_sub, w_neg, w_lt, w_le, w_gt, w_ge, w_max, w_min, w_eqi, w_nei, w_eqs, w_nes, w_asB, w_asI, w_not, w_tru, w_and, w_or, w_new, w_lenT, w_lenL, w_itT, w_itL, w_tupT, w_tupL, w_listT, w_listL, w_slT, w_slL, w_isn, w_isnn, w_inti, w_intb, w_strs, w_schk, w_zipT, w_zipL, w_zipLT, w_enumT, w_enumL, w_app1, w_app2, w_app3, w_app4, w_app5, tK_nx, tK_ct, tK_bk, tK_ret, lK_nx, lK_ct, lK_bk, lK_ret, decide_eq_true_eq, if_true, if_false, reduceIte, Bool.false_eq_true, Bool.not_true, Bool.not_false, List.length_cons, List.length_nil, w_isit e pe]
    rw [hd, Bool.true_and] at g
    cases e with
    | tup xs =>
      have px : plas xs = true := by
        unfold pla at pe
        exact pe
      have c : lcM xs c_Sheet_lay_1 h = .ok (.lst ((xs.map isInt).map D.bl)) h := by
        have z := lcM_run (h := h) (xs := xs) (f := c_Sheet_lay_1) (fun x => [.bl (isInt x)]) (l xs rfl) fun x hx => by
          unfold c_Sheet_lay_1
          simp only [r_bind, r_pure, r_ok, r_lift, if_true, whole_run x (plas_mem px x hx)]
        rw [z]
        rw [flat1, List.map_map]
        rfl
      have ga : ((xs.map isInt).all id) = false := by
        rw [List.all_map]
        exact g
      simp only [isTup, w_bind, w_pure, w_throw, w_tup0, w_lst0, w_lsH0, w_tup1, w_lst1, w_lsH1, w_tup2, w_lst2, w_lsH2, w_tup3, w_lst3, w_lsH3, w_tup4, w_lst4, w_lsH4, w_tup5, w_lst5, w_lsH5, w_tup6, w_lst6, w_lsH6, w_tup7, w_lst7, w_lsH7, w_tup8, w_lst8, w_lsH8, w_ite, w_iteP, w_obind, oK_nx, oK_ret, oK_bk, oK_ct, w_def, dK_nx, dK_ret, w_lift, w_noex, w_add, w_sub, w_neg, w_lt, w_le, w_gt, w_ge, w_max, w_min, w_eqi, w_nei, w_eqs, w_nes, w_asB, w_asI, w_not, w_tru, w_and, w_or, w_new, w_lenT, w_lenL, w_itT, w_itL, w_tupT, w_tupL, w_listT, w_listL, w_slT, w_slL, w_isn, w_isnn, w_inti, w_intb, w_strs, w_schk, w_zipT, w_zipL, w_zipLT, w_enumT, w_enumL, w_app1, w_app2, w_app3, w_app4, w_app5, tK_nx, tK_ct, tK_bk, tK_ret, lK_nx, lK_ct, lK_bk, lK_ret, decide_eq_true_eq, if_true, if_false, reduceIte, Bool.false_eq_true, Bool.not_true, Bool.not_false, List.length_cons, List.length_nil, Wp.run c, w_all, ga]
      exact k
    | _ =>
      simp only [isTup, w_bind, w_pure, w_throw, w_tup0, w_lst0, w_lsH0, w_tup1, w_lst1, w_lsH1, w_tup2, w_lst2, w_lsH2, w_tup3, w_lst3, w_lsH3, w_tup4, w_lst4, w_lsH4, w_tup5, w_lst5, w_lsH5, w_tup6, w_lst6, w_lsH6, w_tup7, w_lst7, w_lsH7, w_tup8, w_lst8, w_lsH8, w_ite, w_iteP, w_obind, oK_nx, oK_ret, oK_bk, oK_ct, w_def, dK_nx, dK_ret, w_lift, w_noex, w_add, w_sub, w_neg, w_lt, w_le, w_gt, w_ge, w_max, w_min, w_eqi, w_nei, w_eqs, w_nes, w_asB, w_asI, w_not, w_tru, w_and, w_or, w_new, w_lenT, w_lenL, w_itT, w_itL, w_tupT, w_tupL, w_listT, w_listL, w_slT, w_slL, w_isn, w_isnn, w_inti, w_intb, w_strs, w_schk, w_zipT, w_zipL, w_zipLT, w_enumT, w_enumL, w_app1, w_app2, w_app3, w_app4, w_app5, tK_nx, tK_ct, tK_bk, tK_ret, lK_nx, lK_ct, lK_bk, lK_ret, decide_eq_true_eq, if_true, if_false, reduceIte, Bool.false_eq_true, Bool.not_true, Bool.not_false, List.length_cons, List.length_nil]
      exact k
/-- at what is no place, there is nothing -/
theorem at_odd {d : D} (p : pla d = true) (g : isInt d = false) (k : P .non h) : Wp (f_Sheet_result_at (.ref n) d h) P E := by
  unfold f_Sheet_result_at b_Sheet_result_at
  simp only [w_bind, w_pure, w_throw, w_tup0, w_lst0, w_lsH0, w_tup1, w_lst1, w_lsH1, w_tup2, w_lst2, w_lsH2, w_tup3, w_lst3, w_lsH3, w_tup4, w_lst4, w_lsH4, w_tup5, w_lst5, w_lsH5, w_tup6, w_lst6, w_lsH6, w_tup7, w_lst7, w_lsH7, w_tup8, w_lst8, w_lsH8, w_ite, w_iteP, w_obind, oK_nx, oK_ret, oK_bk, oK_ct, w_def, dK_nx, dK_ret, w_lift, w_noex, w_add, w_sub, w_neg, w_lt, w_le, w_gt, w_ge, w_max, w_min, w_eqi, w_nei, w_eqs, w_nes, w_asB, w_asI, w_not, w_tru, w_and, w_or, w_new, w_lenT, w_lenL, w_itT, w_itL, w_tupT, w_tupL, w_listT, w_listL, w_slT, w_slL, w_isn, w_isnn, w_inti, w_intb, w_strs, w_schk, w_zipT, w_zipL, w_zipLT, w_enumT, w_enumL, w_app1, w_app2, w_app3, w_app4, w_app5, tK_nx, tK_ct, tK_bk, tK_ret, lK_nx, lK_ct, lK_bk, lK_ret, decide_eq_true_eq, if_true, if_false, reduceIte, Bool.false_eq_true, Bool.not_true, Bool.not_false, List.length_cons, List.length_nil, w_pwhole d p, g]
  exact k
/-- a deed at a sheet -/
theorem word_bad {d e : D} (s : ShAt h n b S) (pd' : pla d = true) (pe : pla e = true) (l : ∀ xs, e = .tup xs → xs.length ≤ 1000000) (g : (isInt d && isIntTup e) = false) (k : P (.str "place") h) : Wp (f_law_word (.ref n) d e h) P E := by
  unfold f_law_word b_law_word
  simp only [w_bind, w_pure, w_throw, w_tup0, w_lst0, w_lsH0, w_tup1, w_lst1, w_lsH1, w_tup2, w_lst2, w_lsH2, w_tup3, w_lst3, w_lsH3, w_tup4, w_lst4, w_lsH4, w_tup5, w_lst5, w_lsH5, w_tup6, w_lst6, w_lsH6, w_tup7, w_lst7, w_lsH7, w_tup8, w_lst8, w_lsH8, w_ite, w_iteP, w_obind, oK_nx, oK_ret, oK_bk, oK_ct, w_def, dK_nx, dK_ret, w_lift, w_noex, w_add, w_sub, w_neg, w_lt, w_le, w_gt, w_ge, w_max, w_min, w_eqi, w_nei, w_eqs, w_nes, w_asB, w_asI, w_not, w_tru, w_and, w_or, w_new, w_lenT, w_lenL, w_itT, w_itL, w_tupT, w_tupL, w_listT, w_listL, w_slT, w_slL, w_isn, w_isnn, w_inti, w_intb, w_strs, w_schk, w_zipT, w_zipL, w_zipLT, w_enumT, w_enumL, w_app1, w_app2, w_app3, w_app4, w_app5, tK_nx, tK_ct, tK_bk, tK_ret, lK_nx, lK_ct, lK_bk, lK_ret, decide_eq_true_eq, if_true, if_false, reduceIte, Bool.false_eq_true, Bool.not_true, Bool.not_false, List.length_cons, List.length_nil, w_try, w_eqo_r s.obj, s.chk (m := "lay")]
  refine lay_bad pd' pe l g (hand_w "BadPlace" "place" (.inr (.inl ⟨rfl, rfl⟩)) _ _ ?_)
  simp only [w_bind, w_pure, w_throw, w_tup0, w_lst0, w_lsH0, w_tup1, w_lst1, w_lsH1, w_tup2, w_lst2, w_lsH2, w_tup3, w_lst3, w_lsH3, w_tup4, w_lst4, w_lsH4, w_tup5, w_lst5, w_lsH5, w_tup6, w_lst6, w_lsH6, w_tup7, w_lst7, w_lsH7, w_tup8, w_lst8, w_lsH8, w_ite, w_iteP, w_obind, oK_nx, oK_ret, oK_bk, oK_ct, w_def, dK_nx, dK_ret, w_lift, w_noex, w_add, w_sub, w_neg, w_lt, w_le, w_gt, w_ge, w_max, w_min, w_eqi, w_nei, w_eqs, w_nes, w_asB, w_asI, w_not, w_tru, w_and, w_or, w_new, w_lenT, w_lenL, w_itT, w_itL, w_tupT, w_tupL, w_listT, w_listL, w_slT, w_slL, w_isn, w_isnn, w_inti, w_intb, w_strs, w_schk, w_zipT, w_zipL, w_zipLT, w_enumT, w_enumL, w_app1, w_app2, w_app3, w_app4, w_app5, tK_nx, tK_ct, tK_bk, tK_ret, lK_nx, lK_ct, lK_bk, lK_ret, decide_eq_true_eq, if_true, if_false, reduceIte, Bool.false_eq_true, Bool.not_true, Bool.not_false, List.length_cons, List.length_nil]
  exact k
theorem word_twice {p : Int} {ns : List Int} (s : ShAt h n b S) (nl : ns.length < 10000) (sz : (S.work.length + 1) * (S.laid.length + 2) < 50000) (rz : S.res.length < 500000) (g : aLay S p ns = .twice) (k : P (.str "twice") h) : Wp (f_law_word (.ref n) (.int p) (.tup (ns.map D.int)) h) P E := by
  unfold f_law_word b_law_word
  simp only [w_bind, w_pure, w_throw, w_tup0, w_lst0, w_lsH0, w_tup1, w_lst1, w_lsH1, w_tup2, w_lst2, w_lsH2, w_tup3, w_lst3, w_lsH3, w_tup4, w_lst4, w_lsH4, w_tup5, w_lst5, w_lsH5, w_tup6, w_lst6, w_lsH6, w_tup7, w_lst7, w_lsH7, w_tup8, w_lst8, w_lsH8, w_ite, w_iteP, w_obind, oK_nx, oK_ret, oK_bk, oK_ct, w_def, dK_nx, dK_ret, w_lift, w_noex, w_add, w_sub, w_neg, w_lt, w_le, w_gt, w_ge, w_max, w_min, w_eqi, w_nei, w_eqs, w_nes, w_asB, w_asI, w_not, w_tru, w_and, w_or, w_new, w_lenT, w_lenL, w_itT, w_itL, w_tupT, w_tupL, w_listT, w_listL, w_slT, w_slL, w_isn, w_isnn, w_inti, w_intb, w_strs, w_schk, w_zipT, w_zipL, w_zipLT, w_enumT, w_enumL, w_app1, w_app2, w_app3, w_app4, w_app5, tK_nx, tK_ct, tK_bk, tK_ret, lK_nx, lK_ct, lK_bk, lK_ret, decide_eq_true_eq, if_true, if_false, reduceIte, Bool.false_eq_true, Bool.not_true, Bool.not_false, List.length_cons, List.length_nil, w_try, w_eqo_r s.obj, s.chk (m := "lay")]
  refine lay_w s nl sz rz ?_
  rw [g]
  refine hand_w "Twice" "twice" (.inr (.inr ⟨rfl, rfl⟩)) _ _ ?_
  simp only [w_bind, w_pure, w_throw, w_tup0, w_lst0, w_lsH0, w_tup1, w_lst1, w_lsH1, w_tup2, w_lst2, w_lsH2, w_tup3, w_lst3, w_lsH3, w_tup4, w_lst4, w_lsH4, w_tup5, w_lst5, w_lsH5, w_tup6, w_lst6, w_lsH6, w_tup7, w_lst7, w_lsH7, w_tup8, w_lst8, w_lsH8, w_ite, w_iteP, w_obind, oK_nx, oK_ret, oK_bk, oK_ct, w_def, dK_nx, dK_ret, w_lift, w_noex, w_add, w_sub, w_neg, w_lt, w_le, w_gt, w_ge, w_max, w_min, w_eqi, w_nei, w_eqs, w_nes, w_asB, w_asI, w_not, w_tru, w_and, w_or, w_new, w_lenT, w_lenL, w_itT, w_itL, w_tupT, w_tupL, w_listT, w_listL, w_slT, w_slL, w_isn, w_isnn, w_inti, w_intb, w_strs, w_schk, w_zipT, w_zipL, w_zipLT, w_enumT, w_enumL, w_app1, w_app2, w_app3, w_app4, w_app5, tK_nx, tK_ct, tK_bk, tK_ret, lK_nx, lK_ct, lK_bk, lK_ret, decide_eq_true_eq, if_true, if_false, reduceIte, Bool.false_eq_true, Bool.not_true, Bool.not_false, List.length_cons, List.length_nil]
  exact k
/-! what a sheet tells, spoilt behind it -/
def spoD (S : Sheet) : D := .tup [.lst (resL S), wk (without S.work S.laid)]
theorem spoilt_w (s : ShAt h n b S) (ll : S.laid.length ≤ 1000) (wl : S.work.length ≤ 5) (bd : ∀ q ∈ S.laid, -(2 ^ 61) < q.1 ∧ q.2 < 2 ^ 61 ∧ q.2 - q.1 ≤ 100000) (k : ∀ h', Kp h h' → P (spoD S) h') : Wp (f_law_spoilt (.ref n) h) P E := by
  unfold f_law_spoilt b_law_spoilt
  simp only [w_bind, w_pure, w_throw, w_tup0, w_lst0, w_lsH0, w_tup1, w_lst1, w_lsH1, w_tup2, w_lst2, w_lsH2, w_tup3, w_lst3, w_lsH3, w_tup4, w_lst4, w_lsH4, w_tup5, w_lst5, w_lsH5, w_tup6, w_lst6, w_lsH6, w_tup7, w_lst7, w_lsH7, w_tup8, w_lst8, w_lsH8, w_ite, w_iteP, w_obind, oK_nx, oK_ret, oK_bk, oK_ct, w_def, dK_nx, dK_ret, w_lift, w_noex, w_add, w_sub, w_neg, w_lt, w_le, w_gt, w_ge, w_max, w_min, w_eqi, w_nei, w_eqs, w_nes, w_asB, w_asI, w_not, w_tru, w_and, w_or, w_new, w_lenT, w_lenL, w_itT, w_itL, w_tupT, w_tupL, w_listT, w_listL, w_slT, w_slL, w_isn, w_isnn, w_inti, w_intb, w_strs, w_schk, w_zipT, w_zipL, w_zipLT, w_enumT, w_enumL, w_app1, w_app2, w_app3, w_app4, w_app5, tK_nx, tK_ct, tK_bk, tK_ret, lK_nx, lK_ct, lK_bk, lK_ret, decide_eq_true_eq, if_true, if_false, reduceIte, Bool.false_eq_true, Bool.not_true, Bool.not_false, List.length_cons, List.length_nil, s.chk (m := "all_results")]
  refine res_w s (by omega) bd ?_
  have hl : (resL S).length < 1000000 := by unfold resL; rw [List.length_map]; omega
  have e1 : (h ++ [Cell.lst (resL S)])[h.length]? = some (.lst (resL S)) := by simp
  have k1 : Kp h (h ++ [Cell.lst (resL S)]) := Kp.app
  have lt1 : h.length < (h ++ [Cell.lst (resL S)]).length := by simp
  generalize h ++ [Cell.lst (resL S)] = h1 at e1 k1 lt1
  simp only [w_bind, w_pure, w_throw, w_tup0, w_lst0, w_lsH0, w_tup1, w_lst1, w_lsH1, w_tup2, w_lst2, w_lsH2, w_tup3, w_lst3, w_lsH3, w_tup4, w_lst4, w_lsH4, w_tup5, w_lst5, w_lsH5, w_tup6, w_lst6, w_lsH6, w_tup7, w_lst7, w_lsH7, w_tup8, w_lst8, w_lsH8, w_ite, w_iteP, w_obind, oK_nx, oK_ret, oK_bk, oK_ct, w_def, dK_nx, dK_ret, w_lift, w_noex, w_add, w_sub, w_neg, w_lt, w_le, w_gt, w_ge, w_max, w_min, w_eqi, w_nei, w_eqs, w_nes, w_asB, w_asI, w_not, w_tru, w_and, w_or, w_new, w_lenT, w_lenL, w_itT, w_itL, w_tupT, w_tupL, w_listT, w_listL, w_slT, w_slL, w_isn, w_isnn, w_inti, w_intb, w_strs, w_schk, w_zipT, w_zipL, w_zipLT, w_enumT, w_enumL, w_app1, w_app2, w_app3, w_app4, w_app5, tK_nx, tK_ct, tK_bk, tK_ret, lK_nx, lK_ct, lK_bk, lK_ret, decide_eq_true_eq, if_true, if_false, reduceIte, Bool.false_eq_true, Bool.not_true, Bool.not_false, List.length_cons, List.length_nil, w_lchk e1, w_append e1 hl]
  have e2 : (h1.set h.length (.lst (resL S ++ [D.tup [.int 0, .tup [.int 1]]])))[h.length]? = some (.lst (resL S ++ [D.tup [.int 0, .tup [.int 1]]])) := List.getElem?_set_self lt1
  have k2 : Kp h (h1.set h.length (.lst (resL S ++ [D.tup [.int 0, .tup [.int 1]]]))) := ⟨by rw [List.length_set]; exact k1.1, fun i hi => by rw [List.getElem?_set_ne (by omega)]; exact k1.2 i hi⟩
  have lt2 : h.length < (h1.set h.length (.lst (resL S ++ [D.tup [.int 0, .tup [.int 1]]]))).length := by rw [List.length_set]; exact lt1
  generalize h1.set h.length (.lst (resL S ++ [D.tup [.int 0, .tup [.int 1]]])) = h2 at e2 k2 lt2
  have rv : reverseM (.ref h.length) h2 = .ok .non (h2.set h.length (.lst (resL S ++ [D.tup [.int 0, .tup [.int 1]]]).reverse)) := by
    unfold reverseM onLst
    simp only [e2]
  simp only [w_bind, w_pure, w_throw, w_tup0, w_lst0, w_lsH0, w_tup1, w_lst1, w_lsH1, w_tup2, w_lst2, w_lsH2, w_tup3, w_lst3, w_lsH3, w_tup4, w_lst4, w_lsH4, w_tup5, w_lst5, w_lsH5, w_tup6, w_lst6, w_lsH6, w_tup7, w_lst7, w_lsH7, w_tup8, w_lst8, w_lsH8, w_ite, w_iteP, w_obind, oK_nx, oK_ret, oK_bk, oK_ct, w_def, dK_nx, dK_ret, w_lift, w_noex, w_add, w_sub, w_neg, w_lt, w_le, w_gt, w_ge, w_max, w_min, w_eqi, w_nei, w_eqs, w_nes, w_asB, w_asI, w_not, w_tru, w_and, w_or, w_new, w_lenT, w_lenL, w_itT, w_itL, w_tupT, w_tupL, w_listT, w_listL, w_slT, w_slL, w_isn, w_isnn, w_inti, w_intb, w_strs, w_schk, w_zipT, w_zipL, w_zipLT, w_enumT, w_enumL, w_app1, w_app2, w_app3, w_app4, w_app5, tK_nx, tK_ct, tK_bk, tK_ret, lK_nx, lK_ct, lK_bk, lK_ret, decide_eq_true_eq, if_true, if_false, reduceIte, Bool.false_eq_true, Bool.not_true, Bool.not_false, List.length_cons, List.length_nil, w_lchk e2, Wp.run rv]
  have k3 : Kp h (h2.set h.length (.lst (resL S ++ [D.tup [.int 0, .tup [.int 1]]]).reverse)) := ⟨by rw [List.length_set]; exact k2.1, fun i hi => by rw [List.getElem?_set_ne (by omega)]; exact k2.2 i hi⟩
  generalize h2.set h.length (.lst (resL S ++ [D.tup [.int 0, .tup [.int 1]]]).reverse) = h3 at k3
  have s3 := s.keep k3
  refine (s3.chk (m := "all_results")).mpr ?_
  refine res_w s3 (by omega) bd ?_
  have e4 : (h3 ++ [Cell.lst (resL S)])[h3.length]? = some (.lst (resL S)) := by simp
  have k4 : Kp h (h3 ++ [Cell.lst (resL S)]) := k3.trans Kp.app
  have hle := k3.1
  generalize hh4 : h3 ++ [Cell.lst (resL S)] = h4 at e4 k4
  refine (w_freeze e4).mpr ?_
  have k5 : Kp h (h4.set h3.length .dead) := ⟨by rw [List.length_set]; exact k4.1, fun i hi => by rw [List.getElem?_set_ne (by omega)]; exact k4.2 i hi⟩
  generalize h4.set h3.length .dead = h5 at k5
  have s5 := s.keep k5
  refine (s5.chk (m := "left_work")).mpr ?_
  refine left_w s5 ?_ ?_
  · have := Nat.mul_le_mul (show S.work.length + 1 ≤ 6 by omega) (show S.laid.length + 1 ≤ 1001 by omega)
    omega
  exact k h5 k5
theorem nbs_all {k : Nat} : ∀ {xs : List D}, (∀ d ∈ xs, nb k d = true) → nbs k xs = true
  | [], _ => by unfold nbs; rfl
  | d :: xs, g => by
    unfold nbs
    rw [g d List.mem_cons_self, nbs_all fun e he => g e (List.mem_cons_of_mem _ he)]
    rfl
theorem nb_sp (S : Sheet) : nb 60 (spoD S) = true := by
  have i : ∀ k (x : Int), nb k (.int x) = true := fun k x => by cases k <;> (unfold nb; rfl)
  have r : nb 59 (.lst (resL S)) = true := by
    unfold nb
    refine nbs_all fun d hd => ?_
    unfold resL at hd
    obtain ⟨q, _, rfl⟩ := List.mem_map.mp hd
    unfold nb
    refine nbs_all fun e he => ?_
    simp only [List.mem_cons, List.not_mem_nil, or_false] at he
    rcases he with rfl | rfl
    · exact i _ _
    · unfold nb
      refine nbs_all fun f hf => ?_
      obtain ⟨k, _, rfl⟩ := List.mem_map.mp hf
      exact i _ _
  unfold spoD nb
  refine nbs_all fun d hd => ?_
  simp only [List.mem_cons, List.not_mem_nil, or_false] at hd
  rcases hd with rfl | rfl
  · exact r
  · unfold wk nb
    exact nbs_pd _ _
theorem ne_sp (S : Sheet) : Wp (neM (spoD S) (spoD S) h) P E ↔ P (.bl false) h := by
  rw [neM_eq (show nb 60 (lookD h (spoD S)) = true from nb_sp S) (show nb 60 (lookD h (spoD S)) = true from nb_sp S) rfl]
  exact Iff.rfl
/-! what is drawn -/
theorem pick_w {xs : List D} {y : D} (t : Tape h n (m + 1)) (lx : xs.length = 29) (g : ∀ d ∈ xs ++ [y], Th d) (k : ∀ d h', Th d → Tape h' n m → h.length ≤ h'.length → (∀ i, i ≠ n → i < h.length → h'[i]? = h[i]?) → P d h') :
    Wp (lchk (.ref h.length) (h ++ [.lst xs])) (fun _ h' => Wp (appendM (.ref h.length) y h') (fun _ h' => Wp (freezeM (.ref h.length) h') (fun a h' => Wp (f_law_take (.ref n) (.int 30) h') (fun b h' => Wp (ixM a b h') (fun a h' => P a h') E) E) E) E) E := by
  have e1 : (h ++ [Cell.lst xs])[h.length]? = some (.lst xs) := by simp
  have k1 : Kp h (h ++ [Cell.lst xs]) := Kp.app
  have lt1 : h.length < (h ++ [Cell.lst xs]).length := by simp
  generalize h ++ [Cell.lst xs] = h1 at e1 k1 lt1
  rw [w_lchk e1, w_append e1 (by omega)]
  have e2 : (h1.set h.length (.lst (xs ++ [y])))[h.length]? = some (.lst (xs ++ [y])) := List.getElem?_set_self lt1
  have k2 : Kp h (h1.set h.length (.lst (xs ++ [y]))) := ⟨by rw [List.length_set]; exact k1.1, fun i hi => by rw [List.getElem?_set_ne (by omega)]; exact k1.2 i hi⟩
  generalize h1.set h.length (.lst (xs ++ [y])) = h2 at e2 k2
  rw [w_freeze e2]
  have k3 : Kp h (h2.set h.length .dead) := ⟨by rw [List.length_set]; exact k2.1, fun i hi => by rw [List.getElem?_set_ne (by omega)]; exact k2.2 i hi⟩
  generalize h2.set h.length .dead = h3 at k3
  refine take_w (m := m) (t.keep k3) (by decide) (by decide) fun r h4 r0 r1 t4 f4 => ?_
  have ln : (xs ++ [y]).length = 30 := by rw [List.length_append, lx]; rfl
  have hn := t.lt
  refine w_pick r0 (by rw [ln]; omega) fun d hd => k d h4 (g d hd) t4 (by have := k3.1; have := f4.1; omega) fun i ne hi => (f4.2 i ne).trans (k3.2 i hi)
theorem no_work_w {w : List P2} {p : P2} (t : Tape h n (m + 1)) (hw : Wk (w ++ [p])) (l : w.length ≤ 900) (k : ∀ d h', Th d → Tape h' n m → h.length ≤ h'.length → (∀ i, i ≠ n → i < h.length → h'[i]? = h[i]?) → P d h') : Wp (f_law_no_work (.ref n) (wk (w ++ [p])) h) P E := by
  have lt : p.1 < p.2 := hw.2 p (by simp)
  have ad : ∀ (x : D) (h : AH) (P : D → AH → Prop) (E : Str → AH → Prop), Wp (addM (wk (w ++ [p])) (.tup [x]) h) P E ↔ P (.tup ((w ++ [p]).map pd ++ [x])) h := fun x h P E => w_addT (by rw [List.length_map, List.length_append, List.length_singleton]; simp only [List.length_cons, List.length_nil]; omega)
  have ad2 : ∀ (x y : D) (h : AH) (P : D → AH → Prop) (E : Str → AH → Prop), Wp (addM (wk (w ++ [p])) (.tup [x, y]) h) P E ↔ P (.tup ((w ++ [p]).map pd ++ [x, y])) h := fun x y h P E => w_addT (by rw [List.length_map, List.length_append, List.length_singleton]; simp only [List.length_cons, List.length_nil]; omega)
  have ad0 : ∀ (x : D) (h : AH) (P : D → AH → Prop) (E : Str → AH → Prop), Wp (addM (.tup [x]) (wk (w ++ [p])) h) P E ↔ P (.tup ([x] ++ (w ++ [p]).map pd)) h := fun x h P E => w_addT (by rw [List.length_map, List.length_append, List.length_singleton]; simp only [List.length_cons, List.length_nil]; omega)
  have li : ∀ (h : AH) (P : D → AH → Prop) (E : Str → AH → Prop), Wp (listM (wk (w ++ [p])) h) P E ↔ P (.lst ((w ++ [p]).map pd)) h := fun h P E => Iff.rfl
  have em : ∀ (h : AH) (P : D → AH → Prop) (E : Str → AH → Prop), Wp (empM h) P E ↔ P .emp h := fun h P E => Iff.rfl
  have ah : ∀ (x y : List D) (l : x.length + y.length ≤ 1000000) (h : AH) (P : D → AH → Prop) (E : Str → AH → Prop), Wp (addHM (.lst x) (.lst y) h) P E ↔ P (.ref h.length) (h ++ [.lst (x ++ y)]) := fun x y l h P E => by
    unfold addHM
    have a : lstOf h (.lst x) = some x := rfl
    have c : lstOf h (.lst y) = some y := rfl
    simp only [a, c]
    rw [if_pos (show lenOk (x.length + y.length) = true from decide_eq_true (Nat.le_trans l (by decide)))]
    exact Iff.rfl
  have ix : ixM (wk (w ++ [p])) (.int (-1)) h = .ok (pd p) h := ixM_tup (by rw [List.map_append]; exact atI_last)
  unfold f_law_no_work b_law_no_work
  simp only [w_bind, w_pure, w_throw, w_tup0, w_lst0, w_lsH0, w_tup1, w_lst1, w_lsH1, w_tup2, w_lst2, w_lsH2, w_tup3, w_lst3, w_lsH3, w_tup4, w_lst4, w_lsH4, w_tup5, w_lst5, w_lsH5, w_tup6, w_lst6, w_lsH6, w_tup7, w_lst7, w_lsH7, w_tup8, w_lst8, w_lsH8, w_ite, w_iteP, w_obind, oK_nx, oK_ret, oK_bk, oK_ct, w_def, dK_nx, dK_ret, w_lift, w_noex, w_add, w_sub, w_neg, w_lt, w_le, w_gt, w_ge, w_max, w_min, w_eqi, w_nei, w_eqs, w_nes, w_asB, w_asI, w_not, w_tru, w_and, w_or, w_new, w_lenT, w_lenL, w_itT, w_itL, w_tupT, w_tupL, w_listT, w_listL, w_slT, w_slL, w_isn, w_isnn, w_inti, w_intb, w_strs, w_schk, w_zipT, w_zipL, w_zipLT, w_enumT, w_enumL, w_app1, w_app2, w_app3, w_app4, w_app5, tK_nx, tK_ct, tK_bk, tK_ret, lK_nx, lK_ct, lK_bk, lK_ret, decide_eq_true_eq, if_true, if_false, reduceIte, Bool.false_eq_true, Bool.not_true, Bool.not_false, List.length_cons, List.length_nil, Wp.run ix, unp_pd, ad, ad2, ad0, li, em, ah, w_lst, w_addL, w_tup, List.length_append, Nat.reduceAdd, Nat.reduceLeDiff, List.cons_append, List.nil_append]
  obtain ⟨W, hW⟩ : ∃ W, W = w ++ [p] := ⟨_, rfl⟩
  have lW : W.length ≤ 990 := by rw [hW, List.length_append, List.length_singleton]; omega
  have pW : p ∈ W := by rw [hW]; simp
  rw [← hW] at hw ⊢
  have nn : ¬ p.2 < p.2 := by omega
  have nm : ¬ p.2 < p.2 - 1 := by omega
  have ne_ : ∀ {d : D}, (∀ xs, d ≠ .tup xs) → ∀ xs, d = .tup xs → xs.length ≤ 1000000 := fun z xs e => absurd e (z xs)
  refine pick_w t rfl (fun d hd => ?_) k
  simp only [List.cons_append, List.nil_append, List.mem_cons, List.not_mem_nil, or_false] at hd
  rcases hd with rfl | rfl | rfl | rfl | rfl | rfl | rfl | rfl | rfl | rfl | rfl | rfl | rfl | rfl | rfl | rfl | rfl | rfl | rfl | rfl | rfl | rfl | rfl | rfl | rfl | rfl | rfl | rfl | rfl | rfl
  · exact th_of rfl (ne_ nofun) rfl
  · exact th_of rfl (ne_ nofun) rfl
  · exact th_of rfl (ne_ nofun) rfl
  · exact th_of (by unfold pla; exact plas_pds _) (ne_ nofun) rfl
  · exact th_of rfl (ne_ nofun) rfl
  · exact th_of rfl (ne_ nofun) rfl
  · exact th_tup rfl (Nat.le_of_ble_eq_true rfl) rfl
  · exact th_end (by omega) rfl (decide_eq_false nn)
  · exact th_end (by omega) rfl (decide_eq_false nm)
  · exact th_over lW pW [(p.1, p.2)] (p.1, p.2) (Nat.le_of_ble_eq_true rfl) (by simp) lt
  · exact th_over lW pW [(p.2 - 1, p.2 + 2)] (p.2 - 1, p.2 + 2) (Nat.le_of_ble_eq_true rfl) (by simp) (by show p.2 - 1 < p.2; omega)
  · exact th_end (by omega) rfl rfl
  · exact th_end (by omega) rfl rfl
  · exact th_end (by omega) rfl rfl
  · exact th_end (by omega) rfl rfl
  · exact th_end (by omega) rfl rfl
  · exact th_end (by omega) rfl rfl
  · exact th_tup rfl (Nat.le_of_ble_eq_true rfl) rfl
  · exact th_tup rfl (Nat.le_of_ble_eq_true rfl) rfl
  · exact th_tup rfl (Nat.le_of_ble_eq_true rfl) rfl
  · exact th_tup rfl (Nat.le_of_ble_eq_true rfl) rfl
  · exact th_tup rfl (Nat.le_of_ble_eq_true rfl) rfl
  · exact th_tup rfl (Nat.le_of_ble_eq_true rfl) rfl
  · exact th_tup rfl (Nat.le_of_ble_eq_true rfl) rfl
  · exact th_of rfl (ne_ nofun) rfl
  · exact th_of rfl (ne_ nofun) rfl
  · exact th_tup rfl (Nat.le_of_ble_eq_true rfl) rfl
  · exact th_wk (u := (p.2, p.2 + 1) :: W) (by rw [List.length_cons]; omega) fun z => by
      have z1 := (List.pairwise_cons.mp z.1).1 p pW
      have z2 : p.2 + 1 ≤ p.1 := z1
      omega
  · exact th_end (by omega) rfl rfl
  · exact th_turn lW (p.2 + 1, p.2 + 2) (p.2, p.2 + 1) (by show p.2 < p.2 + 2; omega)
/-! bad places, bad numbers -/
def BadL (d e : D) : Prop := pla d = true ∧ pla e = true ∧ (∀ xs, e = .tup xs → xs.length ≤ 1000000) ∧ (isInt d && isIntTup e) = false
theorem bad_w {q : Int} (t : Tape h n (m + 3)) (k : ∀ d e h', BadL d e → Tape h' n m → Fr n h h' → P (.tup [d, e]) h') : Wp (f_law_bad (.ref n) (.int q) h) P E := by
  have em : ∀ (h : AH) (P : D → AH → Prop) (E : Str → AH → Prop), Wp (empM h) P E ↔ P .emp h := fun h P E => Iff.rfl
  unfold f_law_bad b_law_bad
  simp only [w_bind, w_pure, w_throw, w_tup0, w_lst0, w_lsH0, w_tup1, w_lst1, w_lsH1, w_tup2, w_lst2, w_lsH2, w_tup3, w_lst3, w_lsH3, w_tup4, w_lst4, w_lsH4, w_tup5, w_lst5, w_lsH5, w_tup6, w_lst6, w_lsH6, w_tup7, w_lst7, w_lsH7, w_tup8, w_lst8, w_lsH8, w_ite, w_iteP, w_obind, oK_nx, oK_ret, oK_bk, oK_ct, w_def, dK_nx, dK_ret, w_lift, w_noex, w_add, w_sub, w_neg, w_lt, w_le, w_gt, w_ge, w_max, w_min, w_eqi, w_nei, w_eqs, w_nes, w_asB, w_asI, w_not, w_tru, w_and, w_or, w_new, w_lenT, w_lenL, w_itT, w_itL, w_tupT, w_tupL, w_listT, w_listL, w_slT, w_slL, w_isn, w_isnn, w_inti, w_intb, w_strs, w_schk, w_zipT, w_zipL, w_zipLT, w_enumT, w_enumL, w_app1, w_app2, w_app3, w_app4, w_app5, tK_nx, tK_ct, tK_bk, tK_ret, lK_nx, lK_ct, lK_bk, lK_ret, decide_eq_true_eq, if_true, if_false, reduceIte, Bool.false_eq_true, Bool.not_true, Bool.not_false, List.length_cons, List.length_nil, em, w_lst]
  refine take_w (m := m + 2) t (by decide) (by decide) fun r h1 r0 r1 t1 f1 => ?_
  refine w_pick r0 (by simpa using r1) fun d hd => ?_
  have gd : pla d = true ∧ isInt d = false := by
    simp only [List.mem_cons, List.not_mem_nil, or_false] at hd
    rcases hd with rfl | rfl | rfl | rfl | rfl | rfl | rfl <;> exact ⟨rfl, rfl⟩
  simp only [w_bind, w_pure, w_throw, w_tup0, w_lst0, w_lsH0, w_tup1, w_lst1, w_lsH1, w_tup2, w_lst2, w_lsH2, w_tup3, w_lst3, w_lsH3, w_tup4, w_lst4, w_lsH4, w_tup5, w_lst5, w_lsH5, w_tup6, w_lst6, w_lsH6, w_tup7, w_lst7, w_lsH7, w_tup8, w_lst8, w_lsH8, w_ite, w_iteP, w_obind, oK_nx, oK_ret, oK_bk, oK_ct, w_def, dK_nx, dK_ret, w_lift, w_noex, w_add, w_sub, w_neg, w_lt, w_le, w_gt, w_ge, w_max, w_min, w_eqi, w_nei, w_eqs, w_nes, w_asB, w_asI, w_not, w_tru, w_and, w_or, w_new, w_lenT, w_lenL, w_itT, w_itL, w_tupT, w_tupL, w_listT, w_listL, w_slT, w_slL, w_isn, w_isnn, w_inti, w_intb, w_strs, w_schk, w_zipT, w_zipL, w_zipLT, w_enumT, w_enumL, w_app1, w_app2, w_app3, w_app4, w_app5, tK_nx, tK_ct, tK_bk, tK_ret, lK_nx, lK_ct, lK_bk, lK_ret, decide_eq_true_eq, if_true, if_false, reduceIte, Bool.false_eq_true, Bool.not_true, Bool.not_false, List.length_cons, List.length_nil, em, w_lst, Nat.reduceAdd, Nat.reduceLeDiff]
  refine take_w (m := m + 1) t1 (by decide) (by decide) fun r2 h2 r20 r21 t2 f2 => ?_
  refine w_pick r20 (by simpa using r21) fun e he => ?_
  have ge : pla e = true ∧ isIntTup e = false ∧ ∀ xs, e = .tup xs → xs.length ≤ 1000000 := by
    simp only [List.mem_cons, List.not_mem_nil, or_false] at he
    rcases he with rfl | rfl | rfl | rfl | rfl | rfl | rfl | rfl | rfl | rfl | rfl | rfl
    all_goals refine ⟨rfl, rfl, fun xs e => ?_⟩
    all_goals cases e
    all_goals exact Nat.le_of_ble_eq_true rfl
  try simp only [w_bind, w_pure, w_throw, w_tup0, w_lst0, w_lsH0, w_tup1, w_lst1, w_lsH1, w_tup2, w_lst2, w_lsH2, w_tup3, w_lst3, w_lsH3, w_tup4, w_lst4, w_lsH4, w_tup5, w_lst5, w_lsH5, w_tup6, w_lst6, w_lsH6, w_tup7, w_lst7, w_lsH7, w_tup8, w_lst8, w_lsH8, w_ite, w_iteP, w_obind, oK_nx, oK_ret, oK_bk, oK_ct, w_def, dK_nx, dK_ret, w_lift, w_noex, w_add, w_sub, w_neg, w_lt, w_le, w_gt, w_ge, w_max, w_min, w_eqi, w_nei, w_eqs, w_nes, w_asB, w_asI, w_not, w_tru, w_and, w_or, w_new, w_lenT, w_lenL, w_itT, w_itL, w_tupT, w_tupL, w_listT, w_listL, w_slT, w_slL, w_isn, w_isnn, w_inti, w_intb, w_strs, w_schk, w_zipT, w_zipL, w_zipLT, w_enumT, w_enumL, w_app1, w_app2, w_app3, w_app4, w_app5, tK_nx, tK_ct, tK_bk, tK_ret, lK_nx, lK_ct, lK_bk, lK_ret, decide_eq_true_eq, if_true, if_false, reduceIte, Bool.false_eq_true, Bool.not_true, Bool.not_false, List.length_cons, List.length_nil]
  refine take_w (m := m) t2 (by decide) (by decide) fun r3 h3 r30 r31 t3 f3 => ?_
  refine w_pick r30 (by simpa using r31) fun x hx => ?_
  have fr : Fr n h h3 := (f1.trans f2).trans f3
  have lt : ∀ ys : List D, ys.length ≤ 2 → ∀ xs, D.tup ys = .tup xs → xs.length ≤ 1000000 := fun ys l xs e => by
    cases e
    omega
  simp only [List.mem_cons, List.not_mem_nil, or_false] at hx
  rcases hx with rfl | rfl | rfl | rfl
  · exact k _ _ h3 ⟨gd.1, rfl, lt _ (by decide), by rw [gd.2]; rfl⟩ t3 fr
  · exact k _ _ h3 ⟨rfl, ge.1, ge.2.2, by rw [ge.2.1]; simp⟩ t3 fr
  · exact k _ _ h3 ⟨gd.1, ge.1, ge.2.2, by rw [gd.2]; rfl⟩ t3 fr
  · exact k _ _ h3 ⟨gd.1, rfl, lt _ (by decide), by rw [gd.2]; rfl⟩ t3 fr
/-! the places of a work -/
theorem places_cons (p : P2) (w : List P2) : places (p :: w) = plc p ++ places w := by
  unfold places
  rw [List.map_cons, List.flatten_cons]
theorem plc_length (p : P2) : (plc p).length = (p.2 - p.1).toNat := by
  unfold plc
  rw [List.length_map, List.length_range]
theorem lrg_plc {p : P2} {h : AH} (b : -(2 ^ 61) ≤ p.1 ∧ p.2 ≤ 2 ^ 61) (l : (plc p).length ≤ 1000) (lt : p.1 < p.2) : lrgM .lst (.int p.1) (.int p.2) h = .ok (.lst ((plc p).map D.int)) h := by
  rw [plc_length] at l
  unfold lrgM
  dsimp only
  rw [if_pos ⟨⟨by omega, by omega⟩, ⟨by omega, by omega⟩, Nat.le_trans l (by decide)⟩]
  unfold rangeD plc
  rw [List.map_map]
  rfl
theorem places_loop {β : Type} : ∀ (w : List P2) (acc : List Int), (∀ p ∈ w, (-(2 ^ 61) ≤ p.1 ∧ p.2 ≤ 2 ^ 61) ∧ p.1 < p.2) → acc.length + (places w).length ≤ 1000 →
    (forM (w.map pd) () (l_law_places_1 (.ref 0)) : M (Out Unit β)) [.lst (acc.map D.int)] = .ok (.nx ()) [.lst ((acc ++ places w).map D.int)]
  | [], acc, _, _ => by
    rw [show places [] = [] from rfl, List.append_nil]
    rfl
  | p :: w, acc, hp, l => by
    rw [places_cons, List.length_append] at l
    have st : l_law_places_1 (.ref 0) (pd p) () [.lst (acc.map D.int)] = .ok (.nx ()) [.lst ((acc ++ plc p).map D.int)] := by
      have r := lrg_plc (h := [.lst (acc.map D.int)]) (hp p List.mem_cons_self).1 (by omega) (hp p List.mem_cons_self).2
      have c : lchk (.ref 0) [.lst (acc.map D.int)] = .ok () [.lst (acc.map D.int)] := lchk_ref rfl
      have a : extendM (.ref 0) (.lst ((plc p).map D.int)) [.lst (acc.map D.int)] = .ok .non [.lst ((acc ++ plc p).map D.int)] := by
        rw [List.map_append]
        unfold extendM
        have e : lstOf [Cell.lst (acc.map D.int)] (.lst ((plc p).map D.int)) = some ((plc p).map D.int) := rfl
        simp only [e]
        unfold onLst
        simp only [List.getElem?_cons_zero, List.length_map]
        rw [if_pos (show lenOk (acc.length + (plc p).length) = true from decide_eq_true (Nat.le_trans (show _ ≤ 1000 by omega) (by decide)))]
        rfl
      unfold l_law_places_1
      rw [unp_pd]
      simp only [r_bind, r_pure, r_ok, r_exc, r_stuck, r_ite, r_iteP, r_obind, r_nx, r_ret, r_bk, r_ct, r_oexc, r_lbind, r_lnx, r_lct, r_lbk, r_lret, r_lexc, r_def, r_dnx, r_dret, r_dexc, r_lift, r_throw, addM_int, subM_int, negM_int, ltM_int, leM_int, gtM_int, geM_int, maxM_int, minM_int, eqM_int, neM_int, asB_bl, asI_int, notV_bl, truM_bl, andV_bl, orV_bl, lenM_tup, lenM_lst, itemsM_tup, itemsM_lst, tupleM_tup, tupleM_lst, listM_tup, listM_lst, sliceM_tup, sliceM_lst, lstH_nil, decide_eq_true_eq, ite_true, ite_false, if_true, if_false, reduceIte, Bool.false_eq_true, List.length_cons, List.length_nil, List.getElem?_cons_zero, List.getElem?_cons_succ, List.nil_append, Bool.not_true, Bool.not_false, c, r, a]
    rw [List.map_cons, r_for, st, r_lnx, places_loop w _ (fun q hq => hp q (List.mem_cons_of_mem _ hq)) (by rw [List.length_append]; omega), places_cons, List.append_assoc]
theorem places_run {w : List P2} (hp : ∀ p ∈ w, (-(2 ^ 61) ≤ p.1 ∧ p.2 ≤ 2 ^ 61) ∧ p.1 < p.2) (l : (places w).length ≤ 1000) (x : AH) : pcallM (app1 f_law_places) [wk w] x = .ok (.lst ((places w).map D.int)) x := by
  refine pcallM_run (k := [.dead]) (noRefs_one (noRef_wk w)) ?_ (by rw [noRef_lst]; exact noRefs_map fun _ => noRef_int)
  show f_law_places (wk w) [] = _
  have z := places_loop (β := Empty) w [] hp (by simpa using l)
  rw [List.map_nil, List.nil_append] at z
  unfold f_law_places b_law_places
  simp only [r_bind, r_pure, r_ok, r_exc, r_stuck, r_ite, r_iteP, r_obind, r_nx, r_ret, r_bk, r_ct, r_oexc, r_lbind, r_lnx, r_lct, r_lbk, r_lret, r_lexc, r_def, r_dnx, r_dret, r_dexc, r_lift, r_throw, addM_int, subM_int, negM_int, ltM_int, leM_int, gtM_int, geM_int, maxM_int, minM_int, eqM_int, neM_int, asB_bl, asI_int, notV_bl, truM_bl, andV_bl, orV_bl, lenM_tup, lenM_lst, itemsM_tup, itemsM_lst, tupleM_tup, tupleM_lst, listM_tup, listM_lst, sliceM_tup, sliceM_lst, lstH_nil, decide_eq_true_eq, ite_true, ite_false, if_true, if_false, reduceIte, Bool.false_eq_true, List.length_cons, List.length_nil, List.getElem?_cons_zero, List.getElem?_cons_succ, List.nil_append, Bool.not_true, Bool.not_false, items_wk, z, frz]
theorem w_emp : Wp (empM h) P E ↔ P .emp h := Iff.rfl
theorem isC_nn : isC D.non D.non = true := rfl
theorem nt_str {x : Str} : (!decide (x = x)) = false := by simp
/-- a place, bad ways and nothing laid -/
theorem turn2_w {tn : Nat} {q : Int} {P : Out Unit Unit → AH → Prop} (s : ShAt h n b S) (t : Tape h tn (m + 3)) (n1 : tn ≠ n) (n2 : tn ≠ b) (ll : S.laid.length ≤ 1000) (wl : S.work.length ≤ 5) (rz : S.res.length < 500000) (bd : ∀ q ∈ S.laid, -(2 ^ 61) < q.1 ∧ q.2 < 2 ^ 61 ∧ q.2 - q.1 ≤ 100000)
    (k : ∀ h', ShAt h' n b S → Tape h' tn m → h.length ≤ h'.length → P (.nx ()) h') : Wp (l_law_2 (.ref tn) (.ref n) (spoD S) (.int q) () h) P E := by
  have sz : (S.work.length + 1) * (S.laid.length + 2) < 50000 := by
    have := Nat.mul_le_mul (show S.work.length + 1 ≤ 6 by omega) (show S.laid.length + 2 ≤ 1002 by omega)
    omega
  have p9 : (0 : Int) ≤ 9 ∧ (9 : Int) ≤ 1000000 ∧ (10 : Int).natAbs < 2 ^ 64 := by decide
  have al : ∀ q, aLay S q [] = .ok S := fun q => by
    unfold aLay
    rw [if_pos rfl]
  have un : ∀ (d e : D) (h : AH) (P : D × D × Unit → AH → Prop) (E : Str → AH → Prop), Wp (liftO (unpT (uCons some (uCons some uNil)) (.tup [d, e])) h) P E ↔ P (d, e, ()) h := fun d e h P E => Iff.rfl
  unfold l_law_2
  simp only [w_bind, w_pure, w_throw, w_tup0, w_lst0, w_lsH0, w_tup1, w_lst1, w_lsH1, w_tup2, w_lst2, w_lsH2, w_tup3, w_lst3, w_lsH3, w_tup4, w_lst4, w_lsH4, w_tup5, w_lst5, w_lsH5, w_tup6, w_lst6, w_lsH6, w_tup7, w_lst7, w_lsH7, w_tup8, w_lst8, w_lsH8, w_ite, w_iteP, w_obind, oK_nx, oK_ret, oK_bk, oK_ct, w_def, dK_nx, dK_ret, w_lift, w_noex, w_add, w_sub, w_neg, w_lt, w_le, w_gt, w_ge, w_max, w_min, w_eqi, w_nei, w_eqs, w_nes, w_asB, w_asI, w_not, w_tru, w_and, w_or, w_new, w_lenT, w_lenL, w_itT, w_itL, w_tupT, w_tupL, w_listT, w_listL, w_slT, w_slL, w_isn, w_isnn, w_inti, w_intb, w_strs, w_schk, w_zipT, w_zipL, w_zipLT, w_enumT, w_enumL, w_app1, w_app2, w_app3, w_app4, w_app5, tK_nx, tK_ct, tK_bk, tK_ret, lK_nx, lK_ct, lK_bk, lK_ret, decide_eq_true_eq, if_true, if_false, reduceIte, Bool.false_eq_true, Bool.not_true, Bool.not_false, List.length_cons, List.length_nil]
  refine bad_w (m := m) t fun d e h1 bl t1 f1 => ?_
  have s1 : ShAt h1 n b S := ⟨(f1.2 n (Ne.symm n1)).trans s.obj, (f1.2 b (Ne.symm n2)).trans s.dct, s.ok⟩
  simp only [un, w_bind, w_pure, w_throw, w_tup0, w_lst0, w_lsH0, w_tup1, w_lst1, w_lsH1, w_tup2, w_lst2, w_lsH2, w_tup3, w_lst3, w_lsH3, w_tup4, w_lst4, w_lsH4, w_tup5, w_lst5, w_lsH5, w_tup6, w_lst6, w_lsH6, w_tup7, w_lst7, w_lsH7, w_tup8, w_lst8, w_lsH8, w_ite, w_iteP, w_obind, oK_nx, oK_ret, oK_bk, oK_ct, w_def, dK_nx, dK_ret, w_lift, w_noex, w_add, w_sub, w_neg, w_lt, w_le, w_gt, w_ge, w_max, w_min, w_eqi, w_nei, w_eqs, w_nes, w_asB, w_asI, w_not, w_tru, w_and, w_or, w_new, w_lenT, w_lenL, w_itT, w_itL, w_tupT, w_tupL, w_listT, w_listL, w_slT, w_slL, w_isn, w_isnn, w_inti, w_intb, w_strs, w_schk, w_zipT, w_zipL, w_zipLT, w_enumT, w_enumL, w_app1, w_app2, w_app3, w_app4, w_app5, tK_nx, tK_ct, tK_bk, tK_ret, lK_nx, lK_ct, lK_bk, lK_ret, decide_eq_true_eq, if_true, if_false, reduceIte, Bool.false_eq_true, Bool.not_true, Bool.not_false, List.length_cons, List.length_nil]
  refine word_bad s1 bl.1 bl.2.1 bl.2.2.1 bl.2.2.2 ?_
  simp only [w_bind, w_pure, w_throw, w_tup0, w_lst0, w_lsH0, w_tup1, w_lst1, w_lsH1, w_tup2, w_lst2, w_lsH2, w_tup3, w_lst3, w_lsH3, w_tup4, w_lst4, w_lsH4, w_tup5, w_lst5, w_lsH5, w_tup6, w_lst6, w_lsH6, w_tup7, w_lst7, w_lsH7, w_tup8, w_lst8, w_lsH8, w_ite, w_iteP, w_obind, oK_nx, oK_ret, oK_bk, oK_ct, w_def, dK_nx, dK_ret, w_lift, w_noex, w_add, w_sub, w_neg, w_lt, w_le, w_gt, w_ge, w_max, w_min, w_eqi, w_nei, w_eqs, w_nes, w_asB, w_asI, w_not, w_tru, w_and, w_or, w_new, w_lenT, w_lenL, w_itT, w_itL, w_tupT, w_tupL, w_listT, w_listL, w_slT, w_slL, w_isn, w_isnn, w_inti, w_intb, w_strs, w_schk, w_zipT, w_zipL, w_zipLT, w_enumT, w_enumL, w_app1, w_app2, w_app3, w_app4, w_app5, tK_nx, tK_ct, tK_bk, tK_ret, lK_nx, lK_ct, lK_bk, lK_ret, decide_eq_true_eq, if_true, if_false, reduceIte, Bool.false_eq_true, Bool.not_true, Bool.not_false, List.length_cons, List.length_nil, nt_str]
  refine spoilt_w s1 ll wl bd fun h2 k2 => ?_
  have s2 := s1.keep k2
  have t2 := t1.keep k2
  simp only [w_bind, w_pure, w_throw, w_tup0, w_lst0, w_lsH0, w_tup1, w_lst1, w_lsH1, w_tup2, w_lst2, w_lsH2, w_tup3, w_lst3, w_lsH3, w_tup4, w_lst4, w_lsH4, w_tup5, w_lst5, w_lsH5, w_tup6, w_lst6, w_lsH6, w_tup7, w_lst7, w_lsH7, w_tup8, w_lst8, w_lsH8, w_ite, w_iteP, w_obind, oK_nx, oK_ret, oK_bk, oK_ct, w_def, dK_nx, dK_ret, w_lift, w_noex, w_add, w_sub, w_neg, w_lt, w_le, w_gt, w_ge, w_max, w_min, w_eqi, w_nei, w_eqs, w_nes, w_asB, w_asI, w_not, w_tru, w_and, w_or, w_new, w_lenT, w_lenL, w_itT, w_itL, w_tupT, w_tupL, w_listT, w_listL, w_slT, w_slL, w_isn, w_isnn, w_inti, w_intb, w_strs, w_schk, w_zipT, w_zipL, w_zipLT, w_enumT, w_enumL, w_app1, w_app2, w_app3, w_app4, w_app5, tK_nx, tK_ct, tK_bk, tK_ret, lK_nx, lK_ct, lK_bk, lK_ret, decide_eq_true_eq, if_true, if_false, reduceIte, Bool.false_eq_true, Bool.not_true, Bool.not_false, List.length_cons, List.length_nil, ne_sp, s2.chk (m := "lay")]
  refine lay_w (ns := []) s2 (by decide) sz rz ?_
  rw [al]
  intro h3 s3 f3
  have t3 := t2.at (f3.2 _ n1 n2)
  simp only [w_bind, w_pure, w_throw, w_tup0, w_lst0, w_lsH0, w_tup1, w_lst1, w_lsH1, w_tup2, w_lst2, w_lsH2, w_tup3, w_lst3, w_lsH3, w_tup4, w_lst4, w_lsH4, w_tup5, w_lst5, w_lsH5, w_tup6, w_lst6, w_lsH6, w_tup7, w_lst7, w_lsH7, w_tup8, w_lst8, w_lsH8, w_ite, w_iteP, w_obind, oK_nx, oK_ret, oK_bk, oK_ct, w_def, dK_nx, dK_ret, w_lift, w_noex, w_add, w_sub, w_neg, w_lt, w_le, w_gt, w_ge, w_max, w_min, w_eqi, w_nei, w_eqs, w_nes, w_asB, w_asI, w_not, w_tru, w_and, w_or, w_new, w_lenT, w_lenL, w_itT, w_itL, w_tupT, w_tupL, w_listT, w_listL, w_slT, w_slL, w_isn, w_isnn, w_inti, w_intb, w_strs, w_schk, w_zipT, w_zipL, w_zipLT, w_enumT, w_enumL, w_app1, w_app2, w_app3, w_app4, w_app5, tK_nx, tK_ct, tK_bk, tK_ret, lK_nx, lK_ct, lK_bk, lK_ret, decide_eq_true_eq, if_true, if_false, reduceIte, Bool.false_eq_true, Bool.not_true, Bool.not_false, List.length_cons, List.length_nil, isC_nn, s3.chk (m := "lay"), w_pow p9]
  refine lay_w (ns := []) s3 (by decide) sz rz ?_
  rw [al]
  intro h4 s4 f4
  have t4 := t3.at (f4.2 _ n1 n2)
  simp only [w_bind, w_pure, w_throw, w_tup0, w_lst0, w_lsH0, w_tup1, w_lst1, w_lsH1, w_tup2, w_lst2, w_lsH2, w_tup3, w_lst3, w_lsH3, w_tup4, w_lst4, w_lsH4, w_tup5, w_lst5, w_lsH5, w_tup6, w_lst6, w_lsH6, w_tup7, w_lst7, w_lsH7, w_tup8, w_lst8, w_lsH8, w_ite, w_iteP, w_obind, oK_nx, oK_ret, oK_bk, oK_ct, w_def, dK_nx, dK_ret, w_lift, w_noex, w_add, w_sub, w_neg, w_lt, w_le, w_gt, w_ge, w_max, w_min, w_eqi, w_nei, w_eqs, w_nes, w_asB, w_asI, w_not, w_tru, w_and, w_or, w_new, w_lenT, w_lenL, w_itT, w_itL, w_tupT, w_tupL, w_listT, w_listL, w_slT, w_slL, w_isn, w_isnn, w_inti, w_intb, w_strs, w_schk, w_zipT, w_zipL, w_zipLT, w_enumT, w_enumL, w_app1, w_app2, w_app3, w_app4, w_app5, tK_nx, tK_ct, tK_bk, tK_ret, lK_nx, lK_ct, lK_bk, lK_ret, decide_eq_true_eq, if_true, if_false, reduceIte, Bool.false_eq_true, Bool.not_true, Bool.not_false, List.length_cons, List.length_nil, isC_nn]
  have := f1.1
  have := k2.1
  have := f3.1
  have := f4.1
  exact k _ s4 t4 (by omega)
theorem turn1_w {β : Type} {d : D} {O : Out Unit β → AH → Prop} (s : ShAt h n b S) (p : pla d = true) (g : isInt d = false) : Wp (l_law_1 (.ref n) d () h) (tK (fun _ h' => h' = h) O) E := by
  unfold l_law_1
  simp only [w_bind, w_pure, w_throw, w_tup0, w_lst0, w_lsH0, w_tup1, w_lst1, w_lsH1, w_tup2, w_lst2, w_lsH2, w_tup3, w_lst3, w_lsH3, w_tup4, w_lst4, w_lsH4, w_tup5, w_lst5, w_lsH5, w_tup6, w_lst6, w_lsH6, w_tup7, w_lst7, w_lsH7, w_tup8, w_lst8, w_lsH8, w_ite, w_iteP, w_obind, oK_nx, oK_ret, oK_bk, oK_ct, w_def, dK_nx, dK_ret, w_lift, w_noex, w_add, w_sub, w_neg, w_lt, w_le, w_gt, w_ge, w_max, w_min, w_eqi, w_nei, w_eqs, w_nes, w_asB, w_asI, w_not, w_tru, w_and, w_or, w_new, w_lenT, w_lenL, w_itT, w_itL, w_tupT, w_tupL, w_listT, w_listL, w_slT, w_slL, w_isn, w_isnn, w_inti, w_intb, w_strs, w_schk, w_zipT, w_zipL, w_zipLT, w_enumT, w_enumL, w_app1, w_app2, w_app3, w_app4, w_app5, tK_nx, tK_ct, tK_bk, tK_ret, lK_nx, lK_ct, lK_bk, lK_ret, decide_eq_true_eq, if_true, if_false, reduceIte, Bool.false_eq_true, Bool.not_true, Bool.not_false, List.length_cons, List.length_nil, s.chk (m := "result_at")]
  refine at_odd p g ?_
  simp only [w_bind, w_pure, w_throw, w_tup0, w_lst0, w_lsH0, w_tup1, w_lst1, w_lsH1, w_tup2, w_lst2, w_lsH2, w_tup3, w_lst3, w_lsH3, w_tup4, w_lst4, w_lsH4, w_tup5, w_lst5, w_lsH5, w_tup6, w_lst6, w_lsH6, w_tup7, w_lst7, w_lsH7, w_tup8, w_lst8, w_lsH8, w_ite, w_iteP, w_obind, oK_nx, oK_ret, oK_bk, oK_ct, w_def, dK_nx, dK_ret, w_lift, w_noex, w_add, w_sub, w_neg, w_lt, w_le, w_gt, w_ge, w_max, w_min, w_eqi, w_nei, w_eqs, w_nes, w_asB, w_asI, w_not, w_tru, w_and, w_or, w_new, w_lenT, w_lenL, w_itT, w_itL, w_tupT, w_tupL, w_listT, w_listL, w_slT, w_slL, w_isn, w_isnn, w_inti, w_intb, w_strs, w_schk, w_zipT, w_zipL, w_zipLT, w_enumT, w_enumL, w_app1, w_app2, w_app3, w_app4, w_app5, tK_nx, tK_ct, tK_bk, tK_ret, lK_nx, lK_ct, lK_bk, lK_ret, decide_eq_true_eq, if_true, if_false, reduceIte, Bool.false_eq_true, Bool.not_true, Bool.not_false, List.length_cons, List.length_nil, isC_nn]
/-- a new sheet's first place -/
theorem first_lay {W : List P2} {q : Int} (o : ShOk ⟨W, [], []⟩) (hq : mem q W) : ∃ S', aLay ⟨W, [], []⟩ q [4] = .ok S' ∧ S'.work = W ∧ S'.laid.length ≤ 1 ∧ S'.res.length = 1 ∧ resAt S'.res q = some 4 ∧ aLay S' q [4] = .twice ∧ ∀ r ∈ S'.laid, r.1 = q ∧ r.2 = q + 1 := by
  have one : ∀ x, x ∈ plc (q, q + (([4] : List Int).length : Int)) ↔ x = q := fun x => by
    rw [mem_plc]
    show (q ≤ x ∧ x < q + 1) ↔ x = q
    omega
  rcases aLay_at o q [4] with ⟨_, x, hx, g⟩ | ⟨_, _, x, hx, g⟩ | ⟨_, _, S', e, o', ew, el, er, ra⟩
  · rw [(one x).mp hx] at g
    exact absurd hq g
  · exact absurd rfl g
  · have r1 : resAt S'.res q = some 4 := by
      rw [ra, if_pos ⟨Int.le_refl _, by show q < q + 1; omega⟩]
      simp
    have rn : ∀ x, (resAt S'.res x).isSome = true → x = q := fun x hx => by
      rw [ra] at hx
      split at hx
      · rename_i c
        have c2 : x < q + 1 := c.2
        omega
      · cases hx
    refine ⟨S', e, ew, el, er, r1, ?_, fun r hr => ?_⟩
    · rcases aLay_at o' q [4] with ⟨_, x, hx, g⟩ | ⟨g, _⟩ | ⟨_, g, _⟩
      · rw [(one x).mp hx, ew] at g
        exact absurd hq g
      · exact g
      · have z := g q ((one q).mpr rfl)
        rw [r1] at z
        cases z
    · have lt := o'.c.2 r hr
      have a := rn r.1 ((o'.dom _).mp ⟨r, hr, Int.le_refl _, lt⟩)
      have c := rn (r.2 - 1) ((o'.dom _).mp ⟨r, hr, by omega, by omega⟩)
      omega
/-- one number's turn -/
theorem step_w (c : Int) (t : Option D × Option D) : Wp (l_law_3 (.int c) t h) (tK (fun t' h' => ∃ n b S p ps, t' = (some (.ref n), some (.lst ((p :: ps).map D.int))) ∧ ShAt h' n b S ∧ resAt S.res p = some 4) (fun (o : Out (Option D × Option D) Empty) _ => False)) NoE := by
  unfold l_law_3
  simp only [w_bind, w_pure, w_throw, w_tup0, w_lst0, w_lsH0, w_tup1, w_lst1, w_lsH1, w_tup2, w_lst2, w_lsH2, w_tup3, w_lst3, w_lsH3, w_tup4, w_lst4, w_lsH4, w_tup5, w_lst5, w_lsH5, w_tup6, w_lst6, w_lsH6, w_tup7, w_lst7, w_lsH7, w_tup8, w_lst8, w_lsH8, w_ite, w_iteP, w_obind, oK_nx, oK_ret, oK_bk, oK_ct, w_def, dK_nx, dK_ret, w_lift, w_noex, w_add, w_sub, w_neg, w_lt, w_le, w_gt, w_ge, w_max, w_min, w_eqi, w_nei, w_eqs, w_nes, w_asB, w_asI, w_not, w_tru, w_and, w_or, w_new, w_lenT, w_lenL, w_itT, w_itL, w_tupT, w_tupL, w_listT, w_listL, w_slT, w_slL, w_isn, w_isnn, w_inti, w_intb, w_strs, w_schk, w_zipT, w_zipL, w_zipLT, w_enumT, w_enumL, w_app1, w_app2, w_app3, w_app4, w_app5, tK_nx, tK_ct, tK_bk, tK_ret, lK_nx, lK_ct, lK_bk, lK_ret, decide_eq_true_eq, if_true, if_false, reduceIte, Bool.false_eq_true, Bool.not_true, Bool.not_false, List.length_cons, List.length_nil]
  refine tape_w fun h1 t1 l1 k1 => ?_
  try simp only [w_bind, w_pure, w_throw, w_tup0, w_lst0, w_lsH0, w_tup1, w_lst1, w_lsH1, w_tup2, w_lst2, w_lsH2, w_tup3, w_lst3, w_lsH3, w_tup4, w_lst4, w_lsH4, w_tup5, w_lst5, w_lsH5, w_tup6, w_lst6, w_lsH6, w_tup7, w_lst7, w_lsH7, w_tup8, w_lst8, w_lsH8, w_ite, w_iteP, w_obind, oK_nx, oK_ret, oK_bk, oK_ct, w_def, dK_nx, dK_ret, w_lift, w_noex, w_add, w_sub, w_neg, w_lt, w_le, w_gt, w_ge, w_max, w_min, w_eqi, w_nei, w_eqs, w_nes, w_asB, w_asI, w_not, w_tru, w_and, w_or, w_new, w_lenT, w_lenL, w_itT, w_itL, w_tupT, w_tupL, w_listT, w_listL, w_slT, w_slL, w_isn, w_isnn, w_inti, w_intb, w_strs, w_schk, w_zipT, w_zipL, w_zipLT, w_enumT, w_enumL, w_app1, w_app2, w_app3, w_app4, w_app5, tK_nx, tK_ct, tK_bk, tK_ret, lK_nx, lK_ct, lK_bk, lK_ret, decide_eq_true_eq, if_true, if_false, reduceIte, Bool.false_eq_true, Bool.not_true, Bool.not_false, List.length_cons, List.length_nil]
  refine work_w (k := 4) (wide := 6) (m := 10000) (t1.less (by decide)) (by decide) (by decide) (by decide) fun u h2 near t2 l2 k2 => ?_
  simp only [w_bind, w_pure, w_tup0, show D.tup [] = wk [] from rfl, w_eqwk, w_asB, w_obind, w_ite, w_tup1, w_tup2, decide_eq_true_eq]
  have nr : ∃ w p, (u = [] → wk (w ++ [p]) = .tup [.tup [.int 3, .int 9]]) ∧ (u ≠ [] → w ++ [p] = u) ∧ Wk (w ++ [p]) ∧ (∀ q ∈ w ++ [p], (-(200000000000000000) < q.1 ∧ q.2 < 200000000000000000) ∧ q.2 - q.1 ≤ 6) ∧ (w ++ [p]).length ≤ 4 := by
    rcases snoc_cases u with rfl | ⟨init, q, rfl⟩
    · exact ⟨[], (3, 9), fun _ => rfl, fun z => absurd rfl z, ⟨List.pairwise_singleton _ _, fun q hq => by rw [List.mem_singleton.mp hq]; decide⟩, fun q hq => by rw [List.mem_singleton.mp hq]; decide, by decide⟩
    · refine ⟨init, q, fun z => absurd z (by simp), fun _ => rfl, near.wk, fun r hr => ?_, near.len⟩
      have := near.bd r hr
      omega
  obtain ⟨w, p, c1, c2, hw, bw, lW⟩ := nr
  by_cases e : u = []
  rw [if_pos e, ← c1 e]
  rotate_left
  rw [if_neg e, show wk u = wk (w ++ [p]) by rw [c2 e]]
  all_goals
    try simp only [w_bind, w_pure, w_throw, w_tup0, w_lst0, w_lsH0, w_tup1, w_lst1, w_lsH1, w_tup2, w_lst2, w_lsH2, w_tup3, w_lst3, w_lsH3, w_tup4, w_lst4, w_lsH4, w_tup5, w_lst5, w_lsH5, w_tup6, w_lst6, w_lsH6, w_tup7, w_lst7, w_lsH7, w_tup8, w_lst8, w_lsH8, w_ite, w_iteP, w_obind, oK_nx, oK_ret, oK_bk, oK_ct, w_def, dK_nx, dK_ret, w_lift, w_noex, w_add, w_sub, w_neg, w_lt, w_le, w_gt, w_ge, w_max, w_min, w_eqi, w_nei, w_eqs, w_nes, w_asB, w_asI, w_not, w_tru, w_and, w_or, w_new, w_lenT, w_lenL, w_itT, w_itL, w_tupT, w_tupL, w_listT, w_listL, w_slT, w_slL, w_isn, w_isnn, w_inti, w_intb, w_strs, w_schk, w_zipT, w_zipL, w_zipLT, w_enumT, w_enumL, w_app1, w_app2, w_app3, w_app4, w_app5, tK_nx, tK_ct, tK_bk, tK_ret, lK_nx, lK_ct, lK_bk, lK_ret, decide_eq_true_eq, if_true, if_false, reduceIte, Bool.false_eq_true, Bool.not_true, Bool.not_false, List.length_cons, List.length_nil]
    refine no_work_w (m := 9999) t2 hw (by rw [List.length_append, List.length_singleton] at lW; omega) fun d h3 td t3 l3 k3 => ?_
    try simp only [w_bind, w_pure, w_throw, w_tup0, w_lst0, w_lsH0, w_tup1, w_lst1, w_lsH1, w_tup2, w_lst2, w_lsH2, w_tup3, w_lst3, w_lsH3, w_tup4, w_lst4, w_lsH4, w_tup5, w_lst5, w_lsH5, w_tup6, w_lst6, w_lsH6, w_tup7, w_lst7, w_lsH7, w_tup8, w_lst8, w_lsH8, w_ite, w_iteP, w_obind, oK_nx, oK_ret, oK_bk, oK_ct, w_def, dK_nx, dK_ret, w_lift, w_noex, w_add, w_sub, w_neg, w_lt, w_le, w_gt, w_ge, w_max, w_min, w_eqi, w_nei, w_eqs, w_nes, w_asB, w_asI, w_not, w_tru, w_and, w_or, w_new, w_lenT, w_lenL, w_itT, w_itL, w_tupT, w_tupL, w_listT, w_listL, w_slT, w_slL, w_isn, w_isnn, w_inti, w_intb, w_strs, w_schk, w_zipT, w_zipL, w_zipLT, w_enumT, w_enumL, w_app1, w_app2, w_app3, w_app4, w_app5, tK_nx, tK_ct, tK_bk, tK_ret, lK_nx, lK_ct, lK_bk, lK_ret, decide_eq_true_eq, if_true, if_false, reduceIte, Bool.false_eq_true, Bool.not_true, Bool.not_false, List.length_cons, List.length_nil]
    refine word0_w td ?_
    have k4 : Kp h3 (h3 ++ [.ins "Sheet" []]) := Kp.app
    generalize h3 ++ [.ins "Sheet" []] = h4 at k4
    try simp only [w_bind, w_pure, w_throw, w_tup0, w_lst0, w_lsH0, w_tup1, w_lst1, w_lsH1, w_tup2, w_lst2, w_lsH2, w_tup3, w_lst3, w_lsH3, w_tup4, w_lst4, w_lsH4, w_tup5, w_lst5, w_lsH5, w_tup6, w_lst6, w_lsH6, w_tup7, w_lst7, w_lsH7, w_tup8, w_lst8, w_lsH8, w_ite, w_iteP, w_obind, oK_nx, oK_ret, oK_bk, oK_ct, w_def, dK_nx, dK_ret, w_lift, w_noex, w_add, w_sub, w_neg, w_lt, w_le, w_gt, w_ge, w_max, w_min, w_eqi, w_nei, w_eqs, w_nes, w_asB, w_asI, w_not, w_tru, w_and, w_or, w_new, w_lenT, w_lenL, w_itT, w_itL, w_tupT, w_tupL, w_listT, w_listL, w_slT, w_slL, w_isn, w_isnn, w_inti, w_intb, w_strs, w_schk, w_zipT, w_zipL, w_zipLT, w_enumT, w_enumL, w_app1, w_app2, w_app3, w_app4, w_app5, tK_nx, tK_ct, tK_bk, tK_ret, lK_nx, lK_ct, lK_bk, lK_ret, decide_eq_true_eq, if_true, if_false, reduceIte, Bool.false_eq_true, Bool.not_true, Bool.not_false, List.length_cons, List.length_nil, nt_str]
    refine word1_w td ?_
    try simp only [w_bind, w_pure, w_throw, w_tup0, w_lst0, w_lsH0, w_tup1, w_lst1, w_lsH1, w_tup2, w_lst2, w_lsH2, w_tup3, w_lst3, w_lsH3, w_tup4, w_lst4, w_lsH4, w_tup5, w_lst5, w_lsH5, w_tup6, w_lst6, w_lsH6, w_tup7, w_lst7, w_lsH7, w_tup8, w_lst8, w_lsH8, w_ite, w_iteP, w_obind, oK_nx, oK_ret, oK_bk, oK_ct, w_def, dK_nx, dK_ret, w_lift, w_noex, w_add, w_sub, w_neg, w_lt, w_le, w_gt, w_ge, w_max, w_min, w_eqi, w_nei, w_eqs, w_nes, w_asB, w_asI, w_not, w_tru, w_and, w_or, w_new, w_lenT, w_lenL, w_itT, w_itL, w_tupT, w_tupL, w_listT, w_listL, w_slT, w_slL, w_isn, w_isnn, w_inti, w_intb, w_strs, w_schk, w_zipT, w_zipL, w_zipLT, w_enumT, w_enumL, w_app1, w_app2, w_app3, w_app4, w_app5, tK_nx, tK_ct, tK_bk, tK_ret, lK_nx, lK_ct, lK_bk, lK_ret, decide_eq_true_eq, if_true, if_false, reduceIte, Bool.false_eq_true, Bool.not_true, Bool.not_false, List.length_cons, List.length_nil, nt_str]
    have t4 := t3.keep k4
    obtain ⟨W, hW⟩ : ∃ W, W = w ++ [p] := ⟨_, rfl⟩
    have pW : p ∈ W := by rw [hW]; simp
    rw [← hW] at hw bw lW ⊢
    have lk : ∀ xs, wk W = .tup xs → xs.length ≤ 1000000 := fun xs e => by
      rw [← D.tup.inj e, List.length_map]
      omega
    simp only [Wp.run (check_ok (wk W) (pla_wk W) lk ⟨W, rfl, hw⟩ h4), w_bind, w_pure, w_throw, w_tup0, w_lst0, w_lsH0, w_tup1, w_lst1, w_lsH1, w_tup2, w_lst2, w_lsH2, w_tup3, w_lst3, w_lsH3, w_tup4, w_lst4, w_lsH4, w_tup5, w_lst5, w_lsH5, w_tup6, w_lst6, w_lsH6, w_tup7, w_lst7, w_lsH7, w_tup8, w_lst8, w_lsH8, w_ite, w_iteP, w_obind, oK_nx, oK_ret, oK_bk, oK_ct, w_def, dK_nx, dK_ret, w_lift, w_noex, w_add, w_sub, w_neg, w_lt, w_le, w_gt, w_ge, w_max, w_min, w_eqi, w_nei, w_eqs, w_nes, w_asB, w_asI, w_not, w_tru, w_and, w_or, w_new, w_lenT, w_lenL, w_itT, w_itL, w_tupT, w_tupL, w_listT, w_listL, w_slT, w_slL, w_isn, w_isnn, w_inti, w_intb, w_strs, w_schk, w_zipT, w_zipL, w_zipLT, w_enumT, w_enumL, w_app1, w_app2, w_app3, w_app4, w_app5, tK_nx, tK_ct, tK_bk, tK_ret, lK_nx, lK_ct, lK_bk, lK_ret, decide_eq_true_eq, if_true, if_false, reduceIte, Bool.false_eq_true, Bool.not_true, Bool.not_false, List.length_cons, List.length_nil, isC_nn]
    refine sheet_w (pla_wk W) lk (fun z => absurd ⟨W, rfl, hw⟩ z) fun W' e hw' h5 s5 l5 k5 => ?_
    obtain rfl := wk_inj e
    have t5 := t4.at (k5 _ t4.lt)
    have lp : (places W).length ≤ 1000 := by
      have z := places_length (w := W) (wide := 6) (fun p hp => (bw p hp).2) (by decide)
      have := Nat.mul_le_mul lW (show (6 : Int).toNat ≤ 6 by decide)
      omega
    have hp1 : mem p.1 W := ⟨p, pW, Int.le_refl _, hw.2 p pW⟩
    obtain ⟨q0, rest, eq⟩ : ∃ q0 rest, places W = q0 :: rest := by
      have z := mem_places.mpr hp1
      cases hq : places W with
      | nil => rw [hq] at z; cases z
      | cons a r => exact ⟨a, r, rfl⟩
    have mq : mem q0 W := mem_places.mp (by rw [eq]; simp)
    have bq : -(200000000000000000) < q0 ∧ q0 < 200000000000000000 := by
      obtain ⟨r, hr, a, c⟩ := mq
      have := bw r hr
      omega
    have pr := places_run (w := W) (fun p hp => ⟨by have := bw p hp; omega, hw.2 p hp⟩) lp h5
    obtain ⟨S', a1, ew, el, er, r1, a2, hl⟩ := first_lay s5.ok mq
    have bl : ∀ q ∈ S'.laid, -(2 ^ 61) < q.1 ∧ q.2 < 2 ^ 61 ∧ q.2 - q.1 ≤ 100000 := fun r hr => by
      have := hl r hr
      omega
    have ix0 : ∀ (h : AH) (P : D → AH → Prop) (E : Str → AH → Prop), Wp (ixM (.lst ((places W).map D.int)) (.int 0) h) P E ↔ P (.int q0) h := fun h P E => w_ixL (by rw [eq]; exact atI_pos (by decide) rfl)
    try simp only [w_bind, w_pure, w_throw, w_tup0, w_lst0, w_lsH0, w_tup1, w_lst1, w_lsH1, w_tup2, w_lst2, w_lsH2, w_tup3, w_lst3, w_lsH3, w_tup4, w_lst4, w_lsH4, w_tup5, w_lst5, w_lsH5, w_tup6, w_lst6, w_lsH6, w_tup7, w_lst7, w_lsH7, w_tup8, w_lst8, w_lsH8, w_ite, w_iteP, w_obind, oK_nx, oK_ret, oK_bk, oK_ct, w_def, dK_nx, dK_ret, w_lift, w_noex, w_add, w_sub, w_neg, w_lt, w_le, w_gt, w_ge, w_max, w_min, w_eqi, w_nei, w_eqs, w_nes, w_asB, w_asI, w_not, w_tru, w_and, w_or, w_new, w_lenT, w_lenL, w_itT, w_itL, w_tupT, w_tupL, w_listT, w_listL, w_slT, w_slL, w_isn, w_isnn, w_inti, w_intb, w_strs, w_schk, w_zipT, w_zipL, w_zipLT, w_enumT, w_enumL, w_app1, w_app2, w_app3, w_app4, w_app5, tK_nx, tK_ct, tK_bk, tK_ret, lK_nx, lK_ct, lK_bk, lK_ret, decide_eq_true_eq, if_true, if_false, reduceIte, Bool.false_eq_true, Bool.not_true, Bool.not_false, List.length_cons, List.length_nil, Wp.run pr, s5.chk (m := "lay"), ix0]
    refine lay_w (ns := [4]) s5 (by decide) (by show (W.length + 1) * (0 + 2) < 50000; omega) (Nat.lt_of_lt_of_le (show 0 < 1 by decide) (by decide)) ?_
    rw [a1]
    intro h6 s6 f6
    have tl := t4.lt
    have t6 := t5.at (f6.2 h.length (by omega) (by omega))
    try simp only [w_bind, w_pure, w_throw, w_tup0, w_lst0, w_lsH0, w_tup1, w_lst1, w_lsH1, w_tup2, w_lst2, w_lsH2, w_tup3, w_lst3, w_lsH3, w_tup4, w_lst4, w_lsH4, w_tup5, w_lst5, w_lsH5, w_tup6, w_lst6, w_lsH6, w_tup7, w_lst7, w_lsH7, w_tup8, w_lst8, w_lsH8, w_ite, w_iteP, w_obind, oK_nx, oK_ret, oK_bk, oK_ct, w_def, dK_nx, dK_ret, w_lift, w_noex, w_add, w_sub, w_neg, w_lt, w_le, w_gt, w_ge, w_max, w_min, w_eqi, w_nei, w_eqs, w_nes, w_asB, w_asI, w_not, w_tru, w_and, w_or, w_new, w_lenT, w_lenL, w_itT, w_itL, w_tupT, w_tupL, w_listT, w_listL, w_slT, w_slL, w_isn, w_isnn, w_inti, w_intb, w_strs, w_schk, w_zipT, w_zipL, w_zipLT, w_enumT, w_enumL, w_app1, w_app2, w_app3, w_app4, w_app5, tK_nx, tK_ct, tK_bk, tK_ret, lK_nx, lK_ct, lK_bk, lK_ret, decide_eq_true_eq, if_true, if_false, reduceIte, Bool.false_eq_true, Bool.not_true, Bool.not_false, List.length_cons, List.length_nil]
    refine spoilt_w s6 (by omega) (by rw [ew]; omega) bl fun h7 k7 => ?_
    have s7 := s6.keep k7
    have t7 := t6.keep k7
    obtain ⟨z, ixl⟩ : ∃ z : Int, ∀ (h : AH) (P : D → AH → Prop) (E : Str → AH → Prop), Wp (ixM (.lst ((places W).map D.int)) (.int (-1)) h) P E ↔ P (.int z) h := by
      have ne : places W ≠ [] := by rw [eq]; simp
      obtain ⟨init, z, hz⟩ : ∃ init z, places W = init ++ [z] := ⟨_, _, (List.dropLast_concat_getLast ne).symm⟩
      exact ⟨z, fun h P E => w_ixL (by rw [hz, List.map_append]; exact atI_last)⟩
    try simp only [w_bind, w_pure, w_throw, w_tup0, w_lst0, w_lsH0, w_tup1, w_lst1, w_lsH1, w_tup2, w_lst2, w_lsH2, w_tup3, w_lst3, w_lsH3, w_tup4, w_lst4, w_lsH4, w_tup5, w_lst5, w_lsH5, w_tup6, w_lst6, w_lsH6, w_tup7, w_lst7, w_lsH7, w_tup8, w_lst8, w_lsH8, w_ite, w_iteP, w_obind, oK_nx, oK_ret, oK_bk, oK_ct, w_def, dK_nx, dK_ret, w_lift, w_noex, w_add, w_sub, w_neg, w_lt, w_le, w_gt, w_ge, w_max, w_min, w_eqi, w_nei, w_eqs, w_nes, w_asB, w_asI, w_not, w_tru, w_and, w_or, w_new, w_lenT, w_lenL, w_itT, w_itL, w_tupT, w_tupL, w_listT, w_listL, w_slT, w_slL, w_isn, w_isnn, w_inti, w_intb, w_strs, w_schk, w_zipT, w_zipL, w_zipLT, w_enumT, w_enumL, w_app1, w_app2, w_app3, w_app4, w_app5, tK_nx, tK_ct, tK_bk, tK_ret, lK_nx, lK_ct, lK_bk, lK_ret, decide_eq_true_eq, if_true, if_false, reduceIte, Bool.false_eq_true, Bool.not_true, Bool.not_false, List.length_cons, List.length_nil, ix0, ixl]
    refine w_for (fun k _ hh => ShAt hh h4.length (h4.length + 1) S' ∧ Tape hh h.length (3 * (3 - k)) ∧ h7.length ≤ hh.length) ⟨s7, t7.less (by decide), Nat.le_refl _⟩ (fun k x _ hh hx i => ?_) fun _ h8 i => ?_
    · have hk : k < 3 := getElem?_lt hx
      obtain ⟨q, rfl⟩ : ∃ q, x = .int q := by
        have m := List.mem_of_getElem? hx
        simp only [List.mem_cons, List.not_mem_nil, or_false] at m
        rcases m with rfl | rfl | rfl <;> exact ⟨_, rfl⟩
      obtain ⟨i1, i2, i3⟩ := i
      exact turn2_w (m := 3 * (3 - (k + 1))) i1 (i2.less (by omega)) (by omega) (by omega) (by omega) (by rw [ew]; omega) (by rw [er]; decide) bl fun h' a b c => ⟨a, b, Nat.le_trans i3 c⟩
    · obtain ⟨s8, t8, _⟩ := i
      rw [oK_nx]
      try simp only [w_bind, w_pure, w_throw, w_tup0, w_lst0, w_lsH0, w_tup1, w_lst1, w_lsH1, w_tup2, w_lst2, w_lsH2, w_tup3, w_lst3, w_lsH3, w_tup4, w_lst4, w_lsH4, w_tup5, w_lst5, w_lsH5, w_tup6, w_lst6, w_lsH6, w_tup7, w_lst7, w_lsH7, w_tup8, w_lst8, w_lsH8, w_ite, w_iteP, w_obind, oK_nx, oK_ret, oK_bk, oK_ct, w_def, dK_nx, dK_ret, w_lift, w_noex, w_add, w_sub, w_neg, w_lt, w_le, w_gt, w_ge, w_max, w_min, w_eqi, w_nei, w_eqs, w_nes, w_asB, w_asI, w_not, w_tru, w_and, w_or, w_new, w_lenT, w_lenL, w_itT, w_itL, w_tupT, w_tupL, w_listT, w_listL, w_slT, w_slL, w_isn, w_isnn, w_inti, w_intb, w_strs, w_schk, w_zipT, w_zipL, w_zipLT, w_enumT, w_enumL, w_app1, w_app2, w_app3, w_app4, w_app5, tK_nx, tK_ct, tK_bk, tK_ret, lK_nx, lK_ct, lK_bk, lK_ret, decide_eq_true_eq, if_true, if_false, reduceIte, Bool.false_eq_true, Bool.not_true, Bool.not_false, List.length_cons, List.length_nil, ix0]
      refine word_twice (ns := [4]) s8 (by decide) (by
        rw [ew]
        have := Nat.mul_le_mul (show W.length + 1 ≤ 5 by omega) (show S'.laid.length + 2 ≤ 3 by omega)
        omega) (by rw [er]; decide) a2 ?_
      try simp only [w_bind, w_pure, w_throw, w_tup0, w_lst0, w_lsH0, w_tup1, w_lst1, w_lsH1, w_tup2, w_lst2, w_lsH2, w_tup3, w_lst3, w_lsH3, w_tup4, w_lst4, w_lsH4, w_tup5, w_lst5, w_lsH5, w_tup6, w_lst6, w_lsH6, w_tup7, w_lst7, w_lsH7, w_tup8, w_lst8, w_lsH8, w_ite, w_iteP, w_obind, oK_nx, oK_ret, oK_bk, oK_ct, w_def, dK_nx, dK_ret, w_lift, w_noex, w_add, w_sub, w_neg, w_lt, w_le, w_gt, w_ge, w_max, w_min, w_eqi, w_nei, w_eqs, w_nes, w_asB, w_asI, w_not, w_tru, w_and, w_or, w_new, w_lenT, w_lenL, w_itT, w_itL, w_tupT, w_tupL, w_listT, w_listL, w_slT, w_slL, w_isn, w_isnn, w_inti, w_intb, w_strs, w_schk, w_zipT, w_zipL, w_zipLT, w_enumT, w_enumL, w_app1, w_app2, w_app3, w_app4, w_app5, tK_nx, tK_ct, tK_bk, tK_ret, lK_nx, lK_ct, lK_bk, lK_ret, decide_eq_true_eq, if_true, if_false, reduceIte, Bool.false_eq_true, Bool.not_true, Bool.not_false, List.length_cons, List.length_nil, nt_str]
      refine spoilt_w s8 (by omega) (by rw [ew]; omega) bl fun h9 k9 => ?_
      have s9 := s8.keep k9
      try simp only [w_bind, w_pure, w_throw, w_tup0, w_lst0, w_lsH0, w_tup1, w_lst1, w_lsH1, w_tup2, w_lst2, w_lsH2, w_tup3, w_lst3, w_lsH3, w_tup4, w_lst4, w_lsH4, w_tup5, w_lst5, w_lsH5, w_tup6, w_lst6, w_lsH6, w_tup7, w_lst7, w_lsH7, w_tup8, w_lst8, w_lsH8, w_ite, w_iteP, w_obind, oK_nx, oK_ret, oK_bk, oK_ct, w_def, dK_nx, dK_ret, w_lift, w_noex, w_add, w_sub, w_neg, w_lt, w_le, w_gt, w_ge, w_max, w_min, w_eqi, w_nei, w_eqs, w_nes, w_asB, w_asI, w_not, w_tru, w_and, w_or, w_new, w_lenT, w_lenL, w_itT, w_itL, w_tupT, w_tupL, w_listT, w_listL, w_slT, w_slL, w_isn, w_isnn, w_inti, w_intb, w_strs, w_schk, w_zipT, w_zipL, w_zipLT, w_enumT, w_enumL, w_app1, w_app2, w_app3, w_app4, w_app5, tK_nx, tK_ct, tK_bk, tK_ret, lK_nx, lK_ct, lK_bk, lK_ret, decide_eq_true_eq, if_true, if_false, reduceIte, Bool.false_eq_true, Bool.not_true, Bool.not_false, List.length_cons, List.length_nil, ne_sp, ix0, w_emp, w_stri (i := q0) (Nat.lt_of_lt_of_le (log_small (k := 1000) (small (by omega) (by omega)) (by decide)) (by decide))]
      refine w_for (fun _ _ hh => hh = h9) rfl (fun k x _ hh hx i => ?_) fun _ hh i => ?_
      · subst i
        have m := List.mem_of_getElem? hx
        simp only [List.mem_cons, List.not_mem_nil, or_false] at m
        refine turn1_w s9 ?_ ?_ <;> (rcases m with rfl | rfl | rfl | rfl | rfl | rfl <;> rfl)
      · subst i
        rw [oK_nx]
        try simp only [w_bind, w_pure, w_throw, w_tup0, w_lst0, w_lsH0, w_tup1, w_lst1, w_lsH1, w_tup2, w_lst2, w_lsH2, w_tup3, w_lst3, w_lsH3, w_tup4, w_lst4, w_lsH4, w_tup5, w_lst5, w_lsH5, w_tup6, w_lst6, w_lsH6, w_tup7, w_lst7, w_lsH7, w_tup8, w_lst8, w_lsH8, w_ite, w_iteP, w_obind, oK_nx, oK_ret, oK_bk, oK_ct, w_def, dK_nx, dK_ret, w_lift, w_noex, w_add, w_sub, w_neg, w_lt, w_le, w_gt, w_ge, w_max, w_min, w_eqi, w_nei, w_eqs, w_nes, w_asB, w_asI, w_not, w_tru, w_and, w_or, w_new, w_lenT, w_lenL, w_itT, w_itL, w_tupT, w_tupL, w_listT, w_listL, w_slT, w_slL, w_isn, w_isnn, w_inti, w_intb, w_strs, w_schk, w_zipT, w_zipL, w_zipLT, w_enumT, w_enumL, w_app1, w_app2, w_app3, w_app4, w_app5, tK_nx, tK_ct, tK_bk, tK_ret, lK_nx, lK_ct, lK_bk, lK_ret, decide_eq_true_eq, if_true, if_false, reduceIte, Bool.false_eq_true, Bool.not_true, Bool.not_false, List.length_cons, List.length_nil]
        exact ⟨h4.length, h4.length + 1, S', q0, rest, by rw [eq], s9, r1⟩
theorem w_opt {d : D} : Wp (optM (some d) h) P E ↔ P d h := Iff.rfl
theorem plain (ns : List Int) (hl : ns.length ≤ 63) (hb : ∀ z ∈ ns, Builtin.Int.intBits z ≤ 1048576) : ∃ ah, f_law (.lst (ns.map D.int)) [] = .ok (.bl true) ah := by
  have goal : Wp (f_law (.lst (ns.map D.int)) []) (fun d _ => d = .bl true) NoE := by
    unfold f_law b_law
    simp only [w_bind, w_pure, w_throw, w_tup0, w_lst0, w_lsH0, w_tup1, w_lst1, w_lsH1, w_tup2, w_lst2, w_lsH2, w_tup3, w_lst3, w_lsH3, w_tup4, w_lst4, w_lsH4, w_tup5, w_lst5, w_lsH5, w_tup6, w_lst6, w_lsH6, w_tup7, w_lst7, w_lsH7, w_tup8, w_lst8, w_lsH8, w_ite, w_iteP, w_obind, oK_nx, oK_ret, oK_bk, oK_ct, w_def, dK_nx, dK_ret, w_lift, w_noex, w_add, w_sub, w_neg, w_lt, w_le, w_gt, w_ge, w_max, w_min, w_eqi, w_nei, w_eqs, w_nes, w_asB, w_asI, w_not, w_tru, w_and, w_or, w_new, w_lenT, w_lenL, w_itT, w_itL, w_tupT, w_tupL, w_listT, w_listL, w_slT, w_slL, w_isn, w_isnn, w_inti, w_intb, w_strs, w_schk, w_zipT, w_zipL, w_zipLT, w_enumT, w_enumL, w_app1, w_app2, w_app3, w_app4, w_app5, tK_nx, tK_ct, tK_bk, tK_ret, lK_nx, lK_ct, lK_bk, lK_ret, decide_eq_true_eq, if_true, if_false, reduceIte, Bool.false_eq_true, Bool.not_true, Bool.not_false, List.length_cons, List.length_nil]
    refine cell_w 0 hl fun v => ?_
    have e6 : cutD (ns.map D.int) (some 1) (some 10) = ((ns.drop 1).take 9).map D.int := by
      rw [show (some 1 : Option Int) = some ((1 : Nat) : Int) from rfl, show (some 10 : Option Int) = some ((10 : Nat) : Int) from rfl, cutD_mid 1 10, List.map_take, List.map_drop]
    simp only [w_bind, w_pure, w_throw, w_tup0, w_lst0, w_lsH0, w_tup1, w_lst1, w_lsH1, w_tup2, w_lst2, w_lsH2, w_tup3, w_lst3, w_lsH3, w_tup4, w_lst4, w_lsH4, w_tup5, w_lst5, w_lsH5, w_tup6, w_lst6, w_lsH6, w_tup7, w_lst7, w_lsH7, w_tup8, w_lst8, w_lsH8, w_ite, w_iteP, w_obind, oK_nx, oK_ret, oK_bk, oK_ct, w_def, dK_nx, dK_ret, w_lift, w_noex, w_add, w_sub, w_neg, w_lt, w_le, w_gt, w_ge, w_max, w_min, w_eqi, w_nei, w_eqs, w_nes, w_asB, w_asI, w_not, w_tru, w_and, w_or, w_new, w_lenT, w_lenL, w_itT, w_itL, w_tupT, w_tupL, w_listT, w_listL, w_slT, w_slL, w_isn, w_isnn, w_inti, w_intb, w_strs, w_schk, w_zipT, w_zipL, w_zipLT, w_enumT, w_enumL, w_app1, w_app2, w_app3, w_app4, w_app5, tK_nx, tK_ct, tK_bk, tK_ret, lK_nx, lK_ct, lK_bk, lK_ret, decide_eq_true_eq, if_true, if_false, reduceIte, Bool.false_eq_true, Bool.not_true, Bool.not_false, List.length_cons, List.length_nil, e6]
    rw [w_addL (by simp only [List.length_cons, List.length_nil, List.length_map, List.length_take, List.length_drop]; omega)]
    simp only [w_bind, w_pure, w_throw, w_tup0, w_lst0, w_lsH0, w_tup1, w_lst1, w_lsH1, w_tup2, w_lst2, w_lsH2, w_tup3, w_lst3, w_lsH3, w_tup4, w_lst4, w_lsH4, w_tup5, w_lst5, w_lsH5, w_tup6, w_lst6, w_lsH6, w_tup7, w_lst7, w_lsH7, w_tup8, w_lst8, w_lsH8, w_ite, w_iteP, w_obind, oK_nx, oK_ret, oK_bk, oK_ct, w_def, dK_nx, dK_ret, w_lift, w_noex, w_add, w_sub, w_neg, w_lt, w_le, w_gt, w_ge, w_max, w_min, w_eqi, w_nei, w_eqs, w_nes, w_asB, w_asI, w_not, w_tru, w_and, w_or, w_new, w_lenT, w_lenL, w_itT, w_itL, w_tupT, w_tupL, w_listT, w_listL, w_slT, w_slL, w_isn, w_isnn, w_inti, w_intb, w_strs, w_schk, w_zipT, w_zipL, w_zipLT, w_enumT, w_enumL, w_app1, w_app2, w_app3, w_app4, w_app5, tK_nx, tK_ct, tK_bk, tK_ret, lK_nx, lK_ct, lK_bk, lK_ret, decide_eq_true_eq, if_true, if_false, reduceIte, Bool.false_eq_true, Bool.not_true, Bool.not_false, List.length_cons, List.length_nil]
    refine w_for (fun k t h => k = 0 ∨ ∃ n b S p ps, t = (some (.ref n), some (.lst ((p :: ps).map D.int))) ∧ ShAt h n b S ∧ resAt S.res p = some 4) (.inl rfl) (fun k x t h hx _ => ?_) fun t h i => ?_
    · have : ∃ y : Int, x = .int y := by
        have m := List.mem_of_getElem? hx
        rcases List.mem_append.mp m with m | m
        · exact ⟨v, List.mem_singleton.mp m⟩
        · obtain ⟨y, _, e⟩ := List.mem_map.mp m
          exact ⟨y, e.symm⟩
      obtain ⟨y, rfl⟩ := this
      refine (step_w y t).imp fun o h' z => ?_
      cases o with
      | nx t' => exact .inr z
      | ct t' => exact .inr z
      | bk t' => exact z.elim
      | ret d => exact z.elim
    · rcases i with i | ⟨n, b, S, p, ps, rfl, s, r⟩
      · rw [List.length_append] at i
        simp only [List.length_cons, List.length_nil] at i
        omega
      · have ix0 : ∀ (h : AH) (P : D → AH → Prop) (E : Str → AH → Prop), Wp (ixM (.lst ((p :: ps).map D.int)) (.int 0) h) P E ↔ P (.int p) h := fun h P E => w_ixL (atI_pos (by decide) rfl)
        rw [oK_nx]
        simp only [w_bind, w_pure, w_throw, w_tup0, w_lst0, w_lsH0, w_tup1, w_lst1, w_lsH1, w_tup2, w_lst2, w_lsH2, w_tup3, w_lst3, w_lsH3, w_tup4, w_lst4, w_lsH4, w_tup5, w_lst5, w_lsH5, w_tup6, w_lst6, w_lsH6, w_tup7, w_lst7, w_lsH7, w_tup8, w_lst8, w_lsH8, w_ite, w_iteP, w_obind, oK_nx, oK_ret, oK_bk, oK_ct, w_def, dK_nx, dK_ret, w_lift, w_noex, w_add, w_sub, w_neg, w_lt, w_le, w_gt, w_ge, w_max, w_min, w_eqi, w_nei, w_eqs, w_nes, w_asB, w_asI, w_not, w_tru, w_and, w_or, w_new, w_lenT, w_lenL, w_itT, w_itL, w_tupT, w_tupL, w_listT, w_listL, w_slT, w_slL, w_isn, w_isnn, w_inti, w_intb, w_strs, w_schk, w_zipT, w_zipL, w_zipLT, w_enumT, w_enumL, w_app1, w_app2, w_app3, w_app4, w_app5, tK_nx, tK_ct, tK_bk, tK_ret, lK_nx, lK_ct, lK_bk, lK_ret, decide_eq_true_eq, if_true, if_false, reduceIte, Bool.false_eq_true, Bool.not_true, Bool.not_false, List.length_cons, List.length_nil, w_opt, s.chk (m := "result_at"), ix0]
        refine at_w s ?_
        rw [r]
        show Wp (eqM (.int 4) (.int 4) h) _ _
        rw [w_eqi]
        try simp only [w_bind, w_pure, w_throw, w_tup0, w_lst0, w_lsH0, w_tup1, w_lst1, w_lsH1, w_tup2, w_lst2, w_lsH2, w_tup3, w_lst3, w_lsH3, w_tup4, w_lst4, w_lsH4, w_tup5, w_lst5, w_lsH5, w_tup6, w_lst6, w_lsH6, w_tup7, w_lst7, w_lsH7, w_tup8, w_lst8, w_lsH8, w_ite, w_iteP, w_obind, oK_nx, oK_ret, oK_bk, oK_ct, w_def, dK_nx, dK_ret, w_lift, w_noex, w_add, w_sub, w_neg, w_lt, w_le, w_gt, w_ge, w_max, w_min, w_eqi, w_nei, w_eqs, w_nes, w_asB, w_asI, w_not, w_tru, w_and, w_or, w_new, w_lenT, w_lenL, w_itT, w_itL, w_tupT, w_tupL, w_listT, w_listL, w_slT, w_slL, w_isn, w_isnn, w_inti, w_intb, w_strs, w_schk, w_zipT, w_zipL, w_zipLT, w_enumT, w_enumL, w_app1, w_app2, w_app3, w_app4, w_app5, tK_nx, tK_ct, tK_bk, tK_ret, lK_nx, lK_ct, lK_bk, lK_ret, decide_eq_true_eq, if_true, if_false, reduceIte, Bool.false_eq_true, Bool.not_true, Bool.not_false, List.length_cons, List.length_nil]
        rfl
  obtain ⟨a, h', e, rfl⟩ := goal.get
  exact ⟨h', e⟩
end
end Lw

/-! each def does what the plain reading says (printed by gen.py) -/
namespace Lw
open PySem L2
def top (i : Nat) : Stmt := PySem.Challenge.pw_lentwork_k12_sheets_refused.main.body.getD i (.Pass ⟨0, 0, 0, 0⟩)
abbrev s_law_tape : Stmt := top 34
theorem sc_law_tape : FnScope ["_law_cell"] ["_law_cell"] (defScope s_law_tape) := ⟨rfl, rfl, rfl, by decide +kernel, rfl, by decide +kernel, by decide +kernel⟩
abbrev s_law_take : Stmt := top 35
theorem sc_law_take : FnScope ["_law_tape_here", "_law_many", "_law_found", "_law_number"] ["_law_tape_here", "_law_many"] (defScope s_law_take) := ⟨rfl, rfl, rfl, by decide +kernel, rfl, by decide +kernel, by decide +kernel⟩
abbrev s_law_start : Stmt := top 36
theorem sc_law_start : FnScope ["_law_tape_here", "_law_near", "_law_far"] ["_law_tape_here"] (defScope s_law_start) := ⟨rfl, rfl, rfl, by decide +kernel, rfl, by decide +kernel, by decide +kernel⟩
abbrev s_law_work : Stmt := top 37
theorem sc_law_work : FnScope ["_law_tape_here", "_law_most", "_law_wide", "_law_found", "_law_at", "_law_k", "_law_low"] ["_law_tape_here", "_law_most", "_law_wide"] (defScope s_law_work) := ⟨rfl, rfl, rfl, by decide +kernel, rfl, by decide +kernel, by decide +kernel⟩
abbrev s_law_no_work : Stmt := top 40
theorem sc_law_no_work : FnScope ["_law_tape_here", "_law_work_here", "_law_low", "_law_high", "_law_some"] ["_law_tape_here", "_law_work_here"] (defScope s_law_no_work) := ⟨rfl, rfl, rfl, by decide +kernel, rfl, by decide +kernel, by decide +kernel⟩
abbrev s_is_whole : Stmt := top 23
theorem sc_is_whole : FnScope ["thing"] ["thing"] (defScope s_is_whole) := ⟨rfl, rfl, rfl, by decide +kernel, rfl, by decide +kernel, by decide +kernel⟩
abbrev s_is_stretch : Stmt := top 24
theorem sc_is_stretch : FnScope ["thing"] ["thing"] (defScope s_is_stretch) := ⟨rfl, rfl, rfl, by decide +kernel, rfl, by decide +kernel, by decide +kernel⟩
abbrev s_check_work : Stmt := top 25
theorem sc_check_work : FnScope ["work", "one", "other"] ["work"] (defScope s_check_work) := ⟨rfl, rfl, rfl, by decide +kernel, rfl, by decide +kernel, by decide +kernel⟩
abbrev s_Sheet___init__ : Stmt := inClass (top 31) 0
theorem sc_Sheet___init__ : FnScope ["self", "work"] ["self", "work"] (defScope s_Sheet___init__) := ⟨rfl, rfl, rfl, by decide +kernel, rfl, by decide +kernel, by decide +kernel⟩
abbrev s_law_places : Stmt := top 38
theorem sc_law_places : FnScope ["_law_work_here", "_law_found", "_law_low", "_law_high"] ["_law_work_here"] (defScope s_law_places) := ⟨rfl, rfl, rfl, by decide +kernel, rfl, by decide +kernel, by decide +kernel⟩
abbrev s_laid_together : Stmt := top 26
theorem sc_laid_together : FnScope ["stretches", "found", "low", "high"] ["stretches"] (defScope s_laid_together) := ⟨rfl, rfl, rfl, by decide +kernel, rfl, by decide +kernel, by decide +kernel⟩
abbrev s_either : Stmt := top 27
theorem sc_either : FnScope ["one", "other"] ["one", "other"] (defScope s_either) := ⟨rfl, rfl, rfl, by decide +kernel, rfl, by decide +kernel, by decide +kernel⟩
abbrev s_without : Stmt := top 29
theorem sc_without : FnScope ["one", "other", "found", "low", "high", "at", "start", "stop"] ["one", "other"] (defScope s_without) := ⟨rfl, rfl, rfl, by decide +kernel, rfl, by decide +kernel, by decide +kernel⟩
abbrev s_both : Stmt := top 28
theorem sc_both : FnScope ["one", "other", "found", "low", "high", "start", "stop"] ["one", "other"] (defScope s_both) := ⟨rfl, rfl, rfl, by decide +kernel, rfl, by decide +kernel, by decide +kernel⟩
abbrev s_Sheet_lay : Stmt := inClass (top 31) 1
theorem sc_Sheet_lay : FnScope ["self", "place", "numbers", "here", "k", "number"] ["self", "place", "numbers"] (defScope s_Sheet_lay) := ⟨rfl, rfl, rfl, by decide +kernel, rfl, by decide +kernel, by decide +kernel⟩
abbrev s_Sheet_all_results : Stmt := inClass (top 31) 3
theorem sc_Sheet_all_results : FnScope ["self", "low", "high", "place"] ["self"] (defScope s_Sheet_all_results) := ⟨rfl, rfl, rfl, by decide +kernel, rfl, by decide +kernel, by decide +kernel⟩
abbrev s_Sheet_left_work : Stmt := inClass (top 31) 4
theorem sc_Sheet_left_work : FnScope ["self"] ["self"] (defScope s_Sheet_left_work) := ⟨rfl, rfl, rfl, by decide +kernel, rfl, by decide +kernel, by decide +kernel⟩
abbrev s_law_spoilt : Stmt := top 42
theorem sc_law_spoilt : FnScope ["_law_sheet", "_law_some"] ["_law_sheet"] (defScope s_law_spoilt) := ⟨rfl, rfl, rfl, by decide +kernel, rfl, by decide +kernel, by decide +kernel⟩
abbrev s_Sheet_result_at : Stmt := inClass (top 31) 2
theorem sc_Sheet_result_at : FnScope ["self", "place"] ["self", "place"] (defScope s_Sheet_result_at) := ⟨rfl, rfl, rfl, by decide +kernel, rfl, by decide +kernel, by decide +kernel⟩
abbrev s_law_cell_at : Stmt := top 33
theorem sc_law_cell_at : FnScope ["_law_script", "_law_at"] ["_law_script", "_law_at"] (defScope s_law_cell_at) := ⟨rfl, rfl, rfl, by decide +kernel, rfl, by decide +kernel, by decide +kernel⟩
abbrev s_law_bad : Stmt := top 41
theorem sc_law_bad : FnScope ["_law_tape_here", "_law_place", "_law_odd", "_law_bad_here"] ["_law_tape_here", "_law_place"] (defScope s_law_bad) := ⟨rfl, rfl, rfl, by decide +kernel, rfl, by decide +kernel, by decide +kernel⟩
abbrev s_law_word : Stmt := top 39
theorem sc_law_word : FnScope ["_law_way", "_law_first", "_law_second", "_law_word_here", "e", "_law_some", "_law_others"] ["_law_way", "_law_first", "_law_second"] (defScope s_law_word) := ⟨rfl, rfl, rfl, by decide +kernel, rfl, by decide +kernel, by decide +kernel⟩
abbrev s_law : Stmt := top 43
theorem sc_law : FnScope ["_law_script", "_law_cell", "_law_tape_here", "_law_work_here", "_law_thing", "_law_sheet", "_law_some", "_law_seen", "_law_place", "_law_first", "_law_second"] ["_law_script"] (defScope s_law) := ⟨rfl, rfl, rfl, by decide +kernel, rfl, by decide +kernel, by decide +kernel⟩
structure Tx (K : Fg) (mg : Str → Option Value) : Prop where
  no_max : mg "max" = none
  no_range : mg "range" = none
  no_tuple : mg "tuple" = none
  no_list : mg "list" = none
  no_isinstance : mg "isinstance" = none
  no_int : mg "int" = none
  no_len : mg "len" = none
  no_all : mg "all" = none
  no_zip : mg "zip" = none
  no_sorted : mg "sorted" = none
  no_min : mg "min" = none
  no_enumerate : mg "enumerate" = none
  no_ValueError : mg "ValueError" = none
  no_str : mg "str" = none
  ex : ExF K mg isE
  at_ : AtF K mg tabC
  eq_Sheet : EqF K mg "Sheet"
  x_BadWork : ∃ C, ClF K mg "BadWork" C
  x_BadPlace : ∃ C, ClF K mg "BadPlace" C
  x_Twice : ∃ C, ClF K mg "Twice" C
  x_LentError : ∃ C, ClF K mg "LentError" C
  d_law_tape : Dfn K mg "_law_tape" "_law_tape" s_law_tape ["_law_cell"]
  d_law_take : Dfn K mg "_law_take" "_law_take" s_law_take ["_law_tape_here", "_law_many"]
  d_law_start : Dfn K mg "_law_start" "_law_start" s_law_start ["_law_tape_here"]
  d_law_work : Dfn K mg "_law_work" "_law_work" s_law_work ["_law_tape_here", "_law_most", "_law_wide"]
  d_law_no_work : Dfn K mg "_law_no_work" "_law_no_work" s_law_no_work ["_law_tape_here", "_law_work_here"]
  d_is_whole : Dfn K mg "is_whole" "is_whole" s_is_whole ["thing"]
  d_is_stretch : Dfn K mg "is_stretch" "is_stretch" s_is_stretch ["thing"]
  d_check_work : Dfn K mg "check_work" "check_work" s_check_work ["work"]
  d_Sheet___init__ : DfnI K mg "Sheet" "Sheet.__init__" s_Sheet___init__ ["self", "work"]
  d_law_places : Dfn K mg "_law_places" "_law_places" s_law_places ["_law_work_here"]
  d_laid_together : Dfn K mg "laid_together" "laid_together" s_laid_together ["stretches"]
  d_either : Dfn K mg "either" "either" s_either ["one", "other"]
  d_without : Dfn K mg "without" "without" s_without ["one", "other"]
  d_both : Dfn K mg "both" "both" s_both ["one", "other"]
  d_Sheet_lay : DfnM K mg "Sheet" "lay" "Sheet.lay" s_Sheet_lay ["self", "place", "numbers"]
  d_Sheet_all_results : DfnM K mg "Sheet" "all_results" "Sheet.all_results" s_Sheet_all_results ["self"]
  d_Sheet_left_work : DfnM K mg "Sheet" "left_work" "Sheet.left_work" s_Sheet_left_work ["self"]
  d_law_spoilt : Dfn K mg "_law_spoilt" "_law_spoilt" s_law_spoilt ["_law_sheet"]
  d_Sheet_result_at : DfnM K mg "Sheet" "result_at" "Sheet.result_at" s_Sheet_result_at ["self", "place"]
  d_law_cell_at : Dfn K mg "_law_cell_at" "_law_cell_at" s_law_cell_at ["_law_script", "_law_at"]
  d_law_bad : Dfn K mg "_law_bad" "_law_bad" s_law_bad ["_law_tape_here", "_law_place"]
  d_law_word : Dfn K mg "_law_word" "_law_word" s_law_word ["_law_way", "_law_first", "_law_second"]
  d_law : Dfn K mg "law" "law" s_law ["_law_script"]
theorem fo_law_tape {P : Program} {w : World} {K : Fg} {mg : Str → Option Value} {base : Heap} (T : Tx K mg) {f : Addr} {fd : FuncData} (F : Fun K "_law_tape" "_law_tape" s_law_tape f fd) : FnOk P w K mg base (L2N.CX P w) 1 f fd ["_law_cell"] (spD K mg 1 (app1 f_law_tape)) := by
  refine fn1 (N := ["_law_cell"]) (mk := fun _ : Unit => [none]) (lp := fun e : Empty => e.elim) (mc := b_law_tape) F sc_law_tape rfl fun cdv A outer s H E hr cell1 => ?_
  unfold b_law_tape
  exact (show DS _ _ _ [some cell1] _ _ _ _ from (ds_ret (de_lstH (da_cons (de_max2 rfl T.no_max de_int (de_sub (de_var 0) (de_pow de_int de_int))) (da_two (de_mod (de_var 0) de_int) de_int))) (EnvLe.noth rfl)))
theorem ok_law_tape {P : Program} {w : World} {K : Fg} {mg : Str → Option Value} {base : Heap} (T : Tx K mg) : Cal P w K mg base "_law_tape" 1 1 (app1 f_law_tape) := Dfn.cal T.d_law_tape fun _ _ F => fo_law_tape T F
theorem fo_law_take {P : Program} {w : World} {K : Fg} {mg : Str → Option Value} {base : Heap} (T : Tx K mg) {f : Addr} {fd : FuncData} (F : Fun K "_law_take" "_law_take" s_law_take f fd) : FnOk P w K mg base (L2N.CX P w) 1 f fd ["_law_tape_here", "_law_many"] (spD K mg 2 (app2 f_law_take)) := by
  refine fn2 (N := ["_law_tape_here", "_law_many", "_law_found", "_law_number"]) (mk := fun _ : Unit => [none, none, none, none]) (lp := fun e : Empty => e.elim) (mc := b_law_take) F sc_law_take rfl fun cdv A outer s H E hr tape_here16 many17 => ?_
  unfold b_law_take
  exact (show DS _ _ _ [some tape_here16, some many17, none, none] _ _ _ _ from (ds_ifr (fun e : Empty => e.elim) (dt_cmp op_gt gt_ok (de_ix (de_var 0) de_int) de_int (nomark _)) (ds_set 2 sc_law_take.nd (fun found24 => [some tape_here16, some many17, some found24, none]) (de_mod (de_ix (de_var 0) de_int) (de_var 1)) (EnvLe.noth rfl) (fun found24 => (ds_setix (de_fdiv (de_ix (de_var 0) de_int) (de_var 1)) (de_var 0) de_int (EnvLe.noth rfl) (ds_ret (de_var 2) (EnvLe.noth rfl))))) (EnvLe.noth rfl) (ds_setix (de_add (de_ix (de_var 0) de_int) de_int) (de_var 0) de_int (EnvLe.noth rfl) (ds_set 3 sc_law_take.nd (fun number44 => [some tape_here16, some many17, none, some number44]) (de_mod (de_mul (de_add (de_add (de_ix (de_var 0) de_int) (de_mul de_int (de_ix (de_var 0) de_int))) de_int) de_int) de_int) (EnvLe.noth rfl) (fun number44 => (ds_set 3 sc_law_take.nd (fun number59 => [some tape_here16, some many17, none, some number59]) (de_mod (de_mul (de_var 3) (de_add (de_fdiv (de_var 3) de_int) de_int)) de_int) (EnvLe.noth rfl) (fun number59 => (ds_set 3 sc_law_take.nd (fun number68 => [some tape_here16, some many17, none, some number68]) (de_mod (de_mul (de_var 3) (de_add (de_fdiv (de_var 3) de_int) de_int)) de_int) (EnvLe.noth rfl) (fun number68 => (ds_ret (de_mod (de_fdiv (de_var 3) de_int) (de_var 1)) (EnvLe.noth rfl))))))))) rfl))
theorem ok_law_take {P : Program} {w : World} {K : Fg} {mg : Str → Option Value} {base : Heap} (T : Tx K mg) : Cal P w K mg base "_law_take" 1 2 (app2 f_law_take) := Dfn.cal T.d_law_take fun _ _ F => fo_law_take T F
theorem fo_law_start {P : Program} {w : World} {K : Fg} {mg : Str → Option Value} {base : Heap} (T : Tx K mg) (c_law_take : Cal P w K mg base "_law_take" 1 2 (app2 f_law_take)) {f : Addr} {fd : FuncData} (F : Fun K "_law_start" "_law_start" s_law_start f fd) : FnOk P w K mg base (L2N.CX P w) 2 f fd ["_law_tape_here"] (spD K mg 1 (app1 f_law_start)) := by
  refine fn1 (N := ["_law_tape_here", "_law_near", "_law_far"]) (mk := fun _ : Unit => [none, none, none]) (lp := fun e : Empty => e.elim) (mc := b_law_start) F sc_law_start rfl fun cdv A outer s H E hr tape_here82 => ?_
  unfold b_law_start
  exact (show DS _ _ _ [some tape_here82, none, none] _ _ _ _ from (ds_set 1 sc_law_start.nd (fun near83 => [some tape_here82, some near83, none]) (de_sub (de_c2 c_law_take (hr.mono (by decide)) (L2N.takes_of rfl rfl rfl rfl) (de_var 0) de_int) de_int) (EnvLe.noth rfl) (fun near83 => (ds_set 2 sc_law_start.nd (fun far88 => [some tape_here82, some near83, some far88]) (de_mul (de_sub (de_c2 c_law_take (hr.mono (by decide)) (L2N.takes_of rfl rfl rfl rfl) (de_var 0) (de_mul de_int (de_pow de_int de_int))) (de_pow de_int de_int)) de_int) (EnvLe.noth rfl) (fun far88 => (ds_ret (de_ix (de_lst (da_cons de_int (da_cons (de_var 1) (da_two (de_var 1) (de_var 2))))) (de_c2 c_law_take (hr.mono (by decide)) (L2N.takes_of rfl rfl rfl rfl) (de_var 0) de_int)) (EnvLe.noth rfl)))))))
theorem ok_law_start {P : Program} {w : World} {K : Fg} {mg : Str → Option Value} {base : Heap} (T : Tx K mg) (c_law_take : Cal P w K mg base "_law_take" 1 2 (app2 f_law_take)) : Cal P w K mg base "_law_start" 2 1 (app1 f_law_start) := Dfn.cal T.d_law_start fun _ _ F => fo_law_start T c_law_take F
theorem fo_law_work {P : Program} {w : World} {K : Fg} {mg : Str → Option Value} {base : Heap} (T : Tx K mg) (c_law_take : Cal P w K mg base "_law_take" 1 2 (app2 f_law_take)) (c_law_start : Cal P w K mg base "_law_start" 2 1 (app1 f_law_start)) {f : Addr} {fd : FuncData} (F : Fun K "_law_work" "_law_work" s_law_work f fd) : FnOk P w K mg base (L2N.CX P w) 3 f fd ["_law_tape_here", "_law_most", "_law_wide"] (spD K mg 3 (app3 f_law_work)) := by
  refine fn3 (N := ["_law_tape_here", "_law_most", "_law_wide", "_law_found", "_law_at", "_law_k", "_law_low"]) (mk := fun _ : Unit => [none, none, none, none, none, none, none]) (lp := fun e : Empty => e.elim) (mc := b_law_work) F sc_law_work rfl fun cdv A outer s H E hr tape_here113 most114 wide115 => ?_
  unfold b_law_work l_law_work_1
  exact (show DS _ _ _ [some tape_here113, some most114, some wide115, none, none, none, none] _ _ _ _ from (ds_set 3 sc_law_work.nd (fun found116 => [some tape_here113, some most114, some wide115, some found116, none, none, none]) (de_lstH da_nil) (EnvLe.noth rfl) (fun found116 => (ds_set 4 sc_law_work.nd (fun at118 => [some tape_here113, some most114, some wide115, some found116, some at118, none, none]) (de_c1 c_law_start (hr.mono (by decide)) (L2N.takes_of rfl rfl rfl rfl) (de_var 0)) (EnvLe.noth rfl) (fun at118 => (ds_for (mkL := fun t : D => [some tape_here113, some most114, some wide115, some found116, some t, none, none]) (t0 := at118) (passes_of rfl) rfl (di_range1 T.no_range (de_c2 c_law_take (hr.mono (by decide)) (L2N.takes_of rfl rfl rfl rfl) (de_var 0) (de_add (de_var 1) de_int))) (dg_name 5 sc_law_work.nd) (EnvLe.refl _) (EnvLe.noth rfl) (fun p129 t120 => (show DS _ _ _ [some tape_here113, some most114, some wide115, some found116, some t120, some p129, none] _ _ _ _ from (ds_set 6 sc_law_work.nd (fun low130 => [some tape_here113, some most114, some wide115, some found116, some t120, some p129, some low130]) (de_add (de_var 4) (de_ix (de_lst (da_cons de_int (da_cons de_int (da_two (de_c2 c_law_take (hr.mono (by decide)) (L2N.takes_of rfl rfl rfl rfl) (de_var 0) de_int) (de_c2 c_law_take (hr.mono (by decide)) (L2N.takes_of rfl rfl rfl rfl) (de_var 0) de_int))))) (de_c2 c_law_take (hr.mono (by decide)) (L2N.takes_of rfl rfl rfl rfl) (de_var 0) de_int))) (EnvLe.noth rfl) (fun low130 => (ds_set 4 sc_law_work.nd (fun at148 => [some tape_here113, some most114, some wide115, some found116, some at148, some p129, some low130]) (de_add (de_add (de_var 6) de_int) (de_c2 c_law_take (hr.mono (by decide)) (L2N.takes_of rfl rfl rfl rfl) (de_var 0) (de_var 2))) (EnvLe.noth rfl) (fun at148 => (ds_expr (de_append (de_var 3) (de_tup (da_two (de_var 6) (de_var 4)))) (EnvLe.noth rfl) (ds_nil (t := at148) (show EnvLe _ _ from (.keep (.keep (.keep (.keep (.keep (.drop (.drop .nil)))))))))))))))) (fun s121 => (show DS _ _ _ [some tape_here113, some most114, some wide115, some found116, some s121, none, none] _ _ _ _ from (ds_freeze 3 (fun found160 => [some tape_here113, some most114, some wide115, some found160, some s121, none, none]) (fun found160 => (ds_ret (de_tuple T.no_tuple (de_var 3)) (EnvLe.noth rfl))))))))))))
theorem ok_law_work {P : Program} {w : World} {K : Fg} {mg : Str → Option Value} {base : Heap} (T : Tx K mg) (c_law_take : Cal P w K mg base "_law_take" 1 2 (app2 f_law_take)) (c_law_start : Cal P w K mg base "_law_start" 2 1 (app1 f_law_start)) : Cal P w K mg base "_law_work" 3 3 (app3 f_law_work) := Dfn.cal T.d_law_work fun _ _ F => fo_law_work T c_law_take c_law_start F
theorem fo_law_no_work {P : Program} {w : World} {K : Fg} {mg : Str → Option Value} {base : Heap} (T : Tx K mg) (c_law_take : Cal P w K mg base "_law_take" 1 2 (app2 f_law_take)) {f : Addr} {fd : FuncData} (F : Fun K "_law_no_work" "_law_no_work" s_law_no_work f fd) : FnOk P w K mg base (L2N.CX P w) 2 f fd ["_law_tape_here", "_law_work_here"] (spD K mg 2 (app2 f_law_no_work)) := by
  refine fn2 (N := ["_law_tape_here", "_law_work_here", "_law_low", "_law_high", "_law_some"]) (mk := fun _ : Unit => [none, none, none, none, none]) (lp := fun e : Empty => e.elim) (mc := b_law_no_work) F sc_law_no_work rfl fun cdv A outer s H E hr tape_here163 work_here164 => ?_
  unfold b_law_no_work
  exact (show DS _ _ _ [some tape_here163, some work_here164, none, none, none] _ _ _ _ from (ds_unpack (de_ix (de_var 1) (de_neg de_int)) (dg_tup rfl (dgs_cons (dg_name 2 sc_law_no_work.nd) (dgs_cons (dg_name 3 sc_law_no_work.nd) dgs_nil)) (uCons_l (uCons_l uNil_l))) (EnvLe.noth rfl) (fun p169 => (show DS _ _ _ [some tape_here163, some work_here164, some p169.1, some p169.2.1, none] _ _ _ _ from (ds_set 4 sc_law_no_work.nd (fun some170 => [some tape_here163, some work_here164, some p169.1, some p169.2.1, some some170]) (de_lst (da_cons de_non (da_cons de_int (da_cons de_str (da_cons (de_list T.no_list (de_var 1)) (da_cons de_emp (da_cons de_bl (da_cons (de_tup (da_two (de_var 2) (de_var 3))) (da_two (de_add (de_var 1) (de_tup (da_one (de_tup (da_two (de_var 3) (de_var 3)))))) (de_add (de_var 1) (de_tup (da_one (de_tup (da_two (de_var 3) (de_sub (de_var 3) de_int))))))))))))))) (EnvLe.noth rfl) (fun some170 => (ds_set 4 sc_law_no_work.nd (fun some208 => [some tape_here163, some work_here164, some p169.1, some p169.2.1, some some208]) (de_add (de_var 4) (de_lst (da_cons (de_add (de_var 1) (de_tup (da_one (de_tup (da_two (de_var 2) (de_var 3)))))) (da_two (de_add (de_var 1) (de_tup (da_one (de_tup (da_two (de_sub (de_var 3) de_int) (de_add (de_var 3) de_int)))))) (de_add (de_var 1) (de_tup (da_one (de_lst (da_two (de_var 3) (de_add (de_var 3) de_int)))))))))) (EnvLe.noth rfl) (fun some208 => (ds_set 4 sc_law_no_work.nd (fun some243 => [some tape_here163, some work_here164, some p169.1, some p169.2.1, some some243]) (de_add (de_var 4) (de_lst (da_cons (de_add (de_var 1) (de_tup (da_one (de_tup (da_one (de_var 3)))))) (da_two (de_add (de_var 1) (de_tup (da_one (de_tup (da_cons (de_var 3) (da_two (de_add (de_var 3) de_int) (de_add (de_var 3) de_int))))))) (de_add (de_var 1) (de_tup (da_one de_non))))))) (EnvLe.noth rfl) (fun some243 => (ds_set 4 sc_law_no_work.nd (fun some274 => [some tape_here163, some work_here164, some p169.1, some p169.2.1, some some274]) (de_add (de_var 4) (de_lst (da_two (de_add (de_var 1) (de_tup (da_one (de_tup (da_two (de_var 3) de_non))))) (de_add (de_var 1) (de_tup (da_one (de_tup (da_two de_str de_str)))))))) (EnvLe.noth rfl) (fun some274 => (ds_set 4 sc_law_no_work.nd (fun some294 => [some tape_here163, some work_here164, some p169.1, some p169.2.1, some some294]) (de_add (de_var 4) (de_lst (da_cons (de_tup (da_one (de_tup (da_two de_bl de_int)))) (da_cons (de_tup (da_one (de_tup (da_two de_int de_bl)))) (da_cons (de_tup (da_one (de_tup (da_two de_non de_non)))) (da_cons (de_tup (da_one (de_tup (da_two de_int de_str)))) (da_cons (de_tup (da_two (de_tup (da_two de_int de_int)) de_int)) (da_cons (de_tup (da_one de_str)) (da_cons (de_tup (da_one (de_tup da_nil))) (da_two (de_lst (da_one (de_lst da_nil))) de_str)))))))))) (EnvLe.noth rfl) (fun some294 => (ds_set 4 sc_law_no_work.nd (fun some348 => [some tape_here163, some work_here164, some p169.1, some p169.2.1, some some348]) (de_addH (de_var 4) (de_lst (da_cons (de_tup (da_one (de_tup (da_one de_int)))) (da_two (de_add (de_tup (da_one (de_tup (da_two (de_var 3) (de_add (de_var 3) de_int))))) (de_var 1)) (de_add (de_var 1) (de_tup (da_one (de_tup (da_two (de_var 3) (de_lst (da_one de_int))))))))))) (EnvLe.noth rfl) (fun some348 => (ds_expr (de_append (de_var 4) (de_add (de_var 1) (de_tup (da_two (de_tup (da_two (de_add (de_var 3) de_int) (de_add (de_var 3) de_int))) (de_tup (da_two (de_var 3) (de_add (de_var 3) de_int))))))) (EnvLe.noth rfl) (ds_freeze 4 (fun some397 => [some tape_here163, some work_here164, some p169.1, some p169.2.1, some some397]) (fun some397 => (ds_ret (de_ix (de_var 4) (de_c2 c_law_take (hr.mono (by decide)) (L2N.takes_of rfl rfl rfl rfl) (de_var 0) de_int)) (EnvLe.noth rfl)))))))))))))))))))))
theorem ok_law_no_work {P : Program} {w : World} {K : Fg} {mg : Str → Option Value} {base : Heap} (T : Tx K mg) (c_law_take : Cal P w K mg base "_law_take" 1 2 (app2 f_law_take)) : Cal P w K mg base "_law_no_work" 2 2 (app2 f_law_no_work) := Dfn.cal T.d_law_no_work fun _ _ F => fo_law_no_work T c_law_take F
theorem fo_is_whole {P : Program} {w : World} {K : Fg} {mg : Str → Option Value} {base : Heap} (T : Tx K mg) {f : Addr} {fd : FuncData} (F : Fun K "is_whole" "is_whole" s_is_whole f fd) : FnOk P w K mg base (L2N.CX P w) 1 f fd ["thing"] (spD K mg 1 (app1 f_is_whole)) := by
  refine fn1 (N := ["thing"]) (mk := fun _ : Unit => [none]) (lp := fun e : Empty => e.elim) (mc := b_is_whole) F sc_is_whole rfl fun cdv A outer s H E hr thing403 => ?_
  unfold b_is_whole
  exact (show DS _ _ _ [some thing403] _ _ _ _ from (ds_ret (de_and (de_isi "int" T.no_isinstance T.no_int (by decide +kernel) (by decide +kernel) (de_var 0)) (de_and (de_isnot (de_var 0) de_bl) (de_one (de_isnot (de_var 0) de_bl)))) (EnvLe.noth rfl)))
theorem ok_is_whole {P : Program} {w : World} {K : Fg} {mg : Str → Option Value} {base : Heap} (T : Tx K mg) : Cal P w K mg base "is_whole" 1 1 (app1 f_is_whole) := Dfn.cal T.d_is_whole fun _ _ F => fo_is_whole T F
theorem fo_is_stretch {P : Program} {w : World} {K : Fg} {mg : Str → Option Value} {base : Heap} (T : Tx K mg) (c_is_whole : Cal P w K mg base "is_whole" 1 1 (app1 f_is_whole)) {f : Addr} {fd : FuncData} (F : Fun K "is_stretch" "is_stretch" s_is_stretch f fd) : FnOk P w K mg base (L2N.CX P w) 2 f fd ["thing"] (spD K mg 1 (app1 f_is_stretch)) := by
  refine fn1 (N := ["thing"]) (mk := fun _ : Unit => [none]) (lp := fun e : Empty => e.elim) (mc := b_is_stretch) F sc_is_stretch rfl fun cdv A outer s H E hr thing412 => ?_
  unfold b_is_stretch
  exact (show DS _ _ _ [some thing412] _ _ _ _ from (ds_ifr (fun e : Empty => e.elim) (dt_w (dw_or (dt_not (dt_tru (de_isi "tuple" T.no_isinstance T.no_tuple (by decide +kernel) (by decide +kernel) (de_var 0)))) (dw_or1 (dt_cmp (op_neX (hu64 hr)) ne_ok (de_len T.no_len (de_var 0)) de_int (nomark _))))) (ds_ret de_bl (EnvLe.noth rfl)) (EnvLe.noth rfl) (ds_ret (de_and (de_p1 c_is_whole (hr.mono (by decide)) (L2N.takes_of rfl rfl rfl rfl) (de_ix (de_var 0) de_int)) (de_and (de_p1 c_is_whole (hr.mono (by decide)) (L2N.takes_of rfl rfl rfl rfl) (de_ix (de_var 0) de_int)) (de_one (de_lt (de_ix (de_var 0) de_int) (de_ix (de_var 0) de_int))))) (EnvLe.noth rfl)) rfl))
theorem ok_is_stretch {P : Program} {w : World} {K : Fg} {mg : Str → Option Value} {base : Heap} (T : Tx K mg) (c_is_whole : Cal P w K mg base "is_whole" 1 1 (app1 f_is_whole)) : Cal P w K mg base "is_stretch" 2 1 (app1 f_is_stretch) := Dfn.cal T.d_is_stretch fun _ _ F => fo_is_stretch T c_is_whole F
theorem fo_check_work {P : Program} {w : World} {K : Fg} {mg : Str → Option Value} {base : Heap} (T : Tx K mg) (c_is_stretch : Cal P w K mg base "is_stretch" 2 1 (app1 f_is_stretch)) {f : Addr} {fd : FuncData} (F : Fun K "check_work" "check_work" s_check_work f fd) : FnOk P w K mg base (L2N.CX P w) 3 f fd ["work"] (spD K mg 1 (app1 f_check_work)) := by
  refine fn1 (N := ["work", "one", "other"]) (mk := fun _ : Unit => [none, none, none]) (lp := fun e : Empty => e.elim) (mc := b_check_work) F sc_check_work rfl fun cdv A outer s H E hr work438 => ?_
  unfold b_check_work l_check_work_2 c_check_work_1
  exact (show DS _ _ _ [some work438, none, none] _ _ _ _ from (ds_ifr (fun e : Empty => e.elim) (dt_w (dw_or (dt_not (dt_tru (de_isi "tuple" T.no_isinstance T.no_tuple (by decide +kernel) (by decide +kernel) (de_var 0)))) (dw_or1 (dt_not (dt_tru (de_all rfl T.no_all (de_lc (own := [("one", 1)]) rfl sc_check_work.nd (di_seq (de_var 0)) (blkOk_by (by show blkC [("work" : Str), ("one" : Str), ("other" : Str)] (defScope s_check_work) _ _ = true; decide +kernel)) (by decide) (fun _ _ _ _ _ => (dg_name 1 sc_check_work.nd)) (fun _ _ _ _ _ p445 => (show PTs _ _ (TC _ _ W0 RB [some work438, some p445, none] _) from dts_nil)) (fun _ _ _ _ _ p445 => (show DE _ W0 [some work438, some p445, none] _ _ from (de_p1 c_is_stretch (hr.mono (by decide)) takes0N (de_var 1))))))))))) (ds_raiseE T.x_BadWork rfl (L2N.takes_of rfl rfl rfl rfl) (EnvLe.noth rfl)) (EnvLe.noth rfl) (ds_for (mkL := fun t : Unit => [some work438, none, none]) (t0 := ()) (passes_of rfl) rfl (di_zip T.no_zip (de_var 0) (de_slice (de_var 0) (do_some de_int) do_none)) (dg_tup rfl (dgs_cons (dg_name 1 sc_check_work.nd) (dgs_cons (dg_name 2 sc_check_work.nd) dgs_nil)) (uCons_l (uCons_l uNil_l))) (EnvLe.refl _) (EnvLe.noth rfl) (fun p464 t454 => (show DS _ _ _ [some work438, some p464.1, some p464.2.1] _ _ _ _ from (ds_ifr (fun e : Empty => e.elim) (dt_cmp op_lt (int2_ok fun _ _ _ _ _ => Rep.bl) (de_ix (de_var 2) de_int) (de_ix (de_var 1) de_int) (nomark _)) (ds_raiseE T.x_BadWork rfl (L2N.takes_of rfl rfl rfl rfl) (EnvLe.noth rfl)) (EnvLe.noth rfl) (ds_nil (t := ()) (show EnvLe _ _ from (.keep (.drop (.drop .nil))))) rfl))) (fun s455 => (show DS _ _ _ [some work438, none, none] _ _ _ _ from (ds_nil (t := ()) (show EnvLe _ _ from (.drop (.keep (.keep .nil)))))))) rfl))
theorem ok_check_work {P : Program} {w : World} {K : Fg} {mg : Str → Option Value} {base : Heap} (T : Tx K mg) (c_is_stretch : Cal P w K mg base "is_stretch" 2 1 (app1 f_is_stretch)) : Cal P w K mg base "check_work" 3 1 (app1 f_check_work) := Dfn.cal T.d_check_work fun _ _ F => fo_check_work T c_is_stretch F
theorem fo_Sheet___init__ {P : Program} {w : World} {K : Fg} {mg : Str → Option Value} {base : Heap} (T : Tx K mg) (c_check_work : Cal P w K mg base "check_work" 3 1 (app1 f_check_work)) {f : Addr} {fd : FuncData} (F : Fun K "__init__" "Sheet.__init__" s_Sheet___init__ f fd) : FnOk P w K mg base (L2N.CX P w) 4 f fd ["self", "work"] (spD K mg 2 (app2 f_Sheet___init__)) := by
  refine fn2 (N := ["self", "work"]) (mk := fun _ : Unit => [none, none]) (lp := fun e : Empty => e.elim) (mc := b_Sheet___init__) F sc_Sheet___init__ rfl fun cdv A outer s H E hr self473 work474 => ?_
  unfold b_Sheet___init__
  exact (show DS _ _ _ [some self473, some work474] _ _ _ _ from (ds_expr (de_p1 c_check_work (hr.mono (by decide)) (L2N.takes_of rfl rfl rfl rfl) (de_var 1)) (EnvLe.noth rfl) (ds_fld T.at_ (de_var 1) (de_var 0) (EnvLe.noth rfl) (ds_fld T.at_ de_dict0 (de_var 0) (EnvLe.noth rfl) (ds_fld T.at_ (de_tup da_nil) (de_var 0) (EnvLe.noth rfl) (ds_nil (t := ()) (show EnvLe _ _ from (.drop (.drop .nil)))))))))
theorem ok_Sheet___init__ {P : Program} {w : World} {K : Fg} {mg : Str → Option Value} {base : Heap} (T : Tx K mg) (c_check_work : Cal P w K mg base "check_work" 3 1 (app1 f_check_work)) : MkF P w K mg base "Sheet" 4 2 (app2 f_Sheet___init__) := DfnI.mkf T.d_Sheet___init__ fun _ _ F => fo_Sheet___init__ T c_check_work F
theorem fo_law_places {P : Program} {w : World} {K : Fg} {mg : Str → Option Value} {base : Heap} (T : Tx K mg) {f : Addr} {fd : FuncData} (F : Fun K "_law_places" "_law_places" s_law_places f fd) : FnOk P w K mg base (L2N.CX P w) 1 f fd ["_law_work_here"] (spD K mg 1 (app1 f_law_places)) := by
  refine fn1 (N := ["_law_work_here", "_law_found", "_law_low", "_law_high"]) (mk := fun _ : Unit => [none, none, none, none]) (lp := fun e : Empty => e.elim) (mc := b_law_places) F sc_law_places rfl fun cdv A outer s H E hr work_here483 => ?_
  unfold b_law_places l_law_places_1
  exact (show DS _ _ _ [some work_here483, none, none, none] _ _ _ _ from (ds_set 1 sc_law_places.nd (fun found484 => [some work_here483, some found484, none, none]) (de_lstH da_nil) (EnvLe.noth rfl) (fun found484 => (ds_for (mkL := fun t : Unit => [some work_here483, some found484, none, none]) (t0 := ()) (passes_of rfl) rfl (di_seq (de_var 0)) (dg_tup rfl (dgs_cons (dg_name 2 sc_law_places.nd) (dgs_cons (dg_name 3 sc_law_places.nd) dgs_nil)) (uCons_l (uCons_l uNil_l))) (EnvLe.refl _) (EnvLe.noth rfl) (fun p491 t486 => (show DS _ _ _ [some work_here483, some found484, some p491.1, some p491.2.1] _ _ _ _ from (ds_expr (de_extend (de_var 1) (de_listrg rfl T.no_list T.no_range (de_var 2) (de_var 3))) (EnvLe.noth rfl) (ds_nil (t := ()) (show EnvLe _ _ from (.keep (.keep (.drop (.drop .nil))))))))) (fun s487 => (show DS _ _ _ [some work_here483, some found484, none, none] _ _ _ _ from (ds_freeze 1 (fun found496 => [some work_here483, some found496, none, none]) (fun found496 => (ds_ret (de_var 1) (EnvLe.noth rfl))))))))))
theorem ok_law_places {P : Program} {w : World} {K : Fg} {mg : Str → Option Value} {base : Heap} (T : Tx K mg) : Cal P w K mg base "_law_places" 1 1 (app1 f_law_places) := Dfn.cal T.d_law_places fun _ _ F => fo_law_places T F
theorem fo_laid_together {P : Program} {w : World} {K : Fg} {mg : Str → Option Value} {base : Heap} (T : Tx K mg) {f : Addr} {fd : FuncData} (F : Fun K "laid_together" "laid_together" s_laid_together f fd) : FnOk P w K mg base (L2N.CX P w) 1 f fd ["stretches"] (spD K mg 1 (app1 f_laid_together)) := by
  refine fn1 (N := ["stretches", "found", "low", "high"]) (mk := fun _ : Unit => [none, none, none, none]) (lp := fun e : Empty => e.elim) (mc := b_laid_together) F sc_laid_together rfl fun cdv A outer s H E hr stretches498 => ?_
  unfold b_laid_together l_laid_together_1
  exact (show DS _ _ _ [some stretches498, none, none, none] _ _ _ _ from (ds_set 1 sc_laid_together.nd (fun found499 => [some stretches498, some found499, none, none]) (de_lstH da_nil) (EnvLe.noth rfl) (fun found499 => (ds_for (mkL := fun t : Unit => [some stretches498, some found499, none, none]) (t0 := ()) (passes_of rfl) rfl (di_seq (de_var 0)) (dg_tup rfl (dgs_cons (dg_name 2 sc_laid_together.nd) (dgs_cons (dg_name 3 sc_laid_together.nd) dgs_nil)) (uCons_l (uCons_l uNil_l))) (EnvLe.refl _) (EnvLe.noth rfl) (fun p506 t501 => (show DS _ _ _ [some stretches498, some found499, some p506.1, some p506.2.1] _ _ _ _ from (ds_if (mk' := fun t : Unit => [some stretches498, some found499, some p506.1, some p506.2.1]) (dt_w (dw_and (dt_cmp (op_neX (hu64 hr)) ne_ok (de_var 1) (de_lst da_nil) (nomark _)) (dw_and1 (dt_cmp op_le (int2_ok fun _ _ _ _ _ => Rep.bl) (de_var 2) (de_ix (de_ix (de_var 1) (de_neg de_int)) de_int) (nomark _))))) (ds_setix (de_tup (da_two (de_ix (de_ix (de_var 1) (de_neg de_int)) de_int) (de_max2 rfl T.no_max (de_ix (de_ix (de_var 1) (de_neg de_int)) de_int) (de_var 3)))) (de_var 1) (de_neg de_int) (EnvLe.noth rfl) (ds_nil (t := ()) (EnvLe.refl _))) (ds_expr (de_append (de_var 1) (de_tup (da_two (de_var 2) (de_var 3)))) (EnvLe.noth rfl) (ds_nil (t := ()) (EnvLe.refl _))) (EnvLe.noth rfl) (fun s545 => (show DS _ _ _ [some stretches498, some found499, some p506.1, some p506.2.1] _ _ _ _ from (ds_nil (t := ()) (show EnvLe _ _ from (.keep (.keep (.drop (.drop .nil))))))))))) (fun s502 => (show DS _ _ _ [some stretches498, some found499, none, none] _ _ _ _ from (ds_freeze 1 (fun found546 => [some stretches498, some found546, none, none]) (fun found546 => (ds_ret (de_tuple T.no_tuple (de_var 1)) (EnvLe.noth rfl))))))))))
theorem ok_laid_together {P : Program} {w : World} {K : Fg} {mg : Str → Option Value} {base : Heap} (T : Tx K mg) : Cal P w K mg base "laid_together" 1 1 (app1 f_laid_together) := Dfn.cal T.d_laid_together fun _ _ F => fo_laid_together T F
theorem fo_either {P : Program} {w : World} {K : Fg} {mg : Str → Option Value} {base : Heap} (T : Tx K mg) (c_laid_together : Cal P w K mg base "laid_together" 1 1 (app1 f_laid_together)) {f : Addr} {fd : FuncData} (F : Fun K "either" "either" s_either f fd) : FnOk P w K mg base (L2N.CX P w) 2 f fd ["one", "other"] (spD K mg 2 (app2 f_either)) := by
  refine fn2 (N := ["one", "other"]) (mk := fun _ : Unit => [none, none]) (lp := fun e : Empty => e.elim) (mc := b_either) F sc_either rfl fun cdv A outer s H E hr one549 other550 => ?_
  unfold b_either
  exact (show DS _ _ _ [some one549, some other550] _ _ _ _ from (ds_ret (de_p1 c_laid_together (hr.mono (by decide)) (L2N.takes_of rfl rfl rfl rfl) (de_sorted (hu66 hr) T.no_sorted (de_add (de_var 0) (de_var 1)))) (EnvLe.noth rfl)))
theorem ok_either {P : Program} {w : World} {K : Fg} {mg : Str → Option Value} {base : Heap} (T : Tx K mg) (c_laid_together : Cal P w K mg base "laid_together" 1 1 (app1 f_laid_together)) : Cal P w K mg base "either" 2 2 (app2 f_either) := Dfn.cal T.d_either fun _ _ F => fo_either T c_laid_together F
theorem fo_without {P : Program} {w : World} {K : Fg} {mg : Str → Option Value} {base : Heap} (T : Tx K mg) (c_laid_together : Cal P w K mg base "laid_together" 1 1 (app1 f_laid_together)) {f : Addr} {fd : FuncData} (F : Fun K "without" "without" s_without f fd) : FnOk P w K mg base (L2N.CX P w) 2 f fd ["one", "other"] (spD K mg 2 (app2 f_without)) := by
  refine fn2 (N := ["one", "other", "found", "low", "high", "at", "start", "stop"]) (mk := fun _ : Unit => [none, none, none, none, none, none, none, none]) (lp := fun e : Empty => e.elim) (mc := b_without) F sc_without rfl fun cdv A outer s H E hr one556 other557 => ?_
  unfold b_without l_without_2 l_without_1
  exact (show DS _ _ _ [some one556, some other557, none, none, none, none, none, none] _ _ _ _ from (ds_set 2 sc_without.nd (fun found558 => [some one556, some other557, some found558, none, none, none, none, none]) (de_lstH da_nil) (EnvLe.noth rfl) (fun found558 => (ds_for (mkL := fun t : Unit => [some one556, some other557, some found558, none, none, none, none, none]) (t0 := ()) (passes_of rfl) rfl (di_seq (de_var 0)) (dg_tup rfl (dgs_cons (dg_name 3 sc_without.nd) (dgs_cons (dg_name 4 sc_without.nd) dgs_nil)) (uCons_l (uCons_l uNil_l))) (EnvLe.refl _) (EnvLe.noth rfl) (fun p565 t560 => (show DS _ _ _ [some one556, some other557, some found558, some p565.1, some p565.2.1, none, none, none] _ _ _ _ from (ds_set 5 sc_without.nd (fun at566 => [some one556, some other557, some found558, some p565.1, some p565.2.1, some at566, none, none]) (de_var 3) (EnvLe.noth rfl) (fun at566 => (ds_for (mkL := fun t : D => [some one556, some other557, some found558, some p565.1, some p565.2.1, some t, none, none]) (t0 := at566) (passes_of rfl) rfl (di_seq (de_var 1)) (dg_tup rfl (dgs_cons (dg_name 6 sc_without.nd) (dgs_cons (dg_name 7 sc_without.nd) dgs_nil)) (uCons_l (uCons_l uNil_l))) (EnvLe.refl _) (EnvLe.noth rfl) (fun p572 t567 => (show DS _ _ _ [some one556, some other557, some found558, some p565.1, some p565.2.1, some t567, some p572.1, some p572.2.1] _ _ _ _ from (ds_if (mk' := fun t : D => [some one556, some other557, some found558, some p565.1, some p565.2.1, some t, some p572.1, some p572.2.1]) (dt_w (dw_and (dt_cmp op_lt (int2_ok fun _ _ _ _ _ => Rep.bl) (de_var 6) (de_var 4) (nomark _)) (dw_and1 (dt_cmp op_lt (int2_ok fun _ _ _ _ _ => Rep.bl) (de_var 5) (de_var 7) (nomark _))))) (ds_if (mk' := fun t : Unit => [some one556, some other557, some found558, some p565.1, some p565.2.1, some t567, some p572.1, some p572.2.1]) (dt_cmp op_lt (int2_ok fun _ _ _ _ _ => Rep.bl) (de_var 5) (de_var 6) (nomark _)) (ds_expr (de_append (de_var 2) (de_tup (da_two (de_var 5) (de_var 6)))) (EnvLe.noth rfl) (ds_nil (t := ()) (EnvLe.refl _))) (ds_nil (t := ()) (EnvLe.refl _)) (EnvLe.noth rfl) (fun s590 => (show DS _ _ _ [some one556, some other557, some found558, some p565.1, some p565.2.1, some t567, some p572.1, some p572.2.1] _ _ _ _ from (ds_set 5 sc_without.nd (fun at591 => [some one556, some other557, some found558, some p565.1, some p565.2.1, some at591, some p572.1, some p572.2.1]) (de_var 7) (EnvLe.noth rfl) (fun at591 => (ds_nil (t := at591) (EnvLe.refl _))))))) (ds_nil (t := t567) (EnvLe.refl _)) (EnvLe.noth rfl) (fun s592 => (show DS _ _ _ [some one556, some other557, some found558, some p565.1, some p565.2.1, some s592, some p572.1, some p572.2.1] _ _ _ _ from (ds_nil (t := s592) (show EnvLe _ _ from (.keep (.keep (.keep (.keep (.keep (.keep (.drop (.drop .nil))))))))))))))) (fun s568 => (show DS _ _ _ [some one556, some other557, some found558, some p565.1, some p565.2.1, some s568, none, none] _ _ _ _ from (ds_if (mk' := fun t : Unit => [some one556, some other557, some found558, some p565.1, some p565.2.1, some s568, none, none]) (dt_cmp op_lt (int2_ok fun _ _ _ _ _ => Rep.bl) (de_var 5) (de_var 4) (nomark _)) (ds_expr (de_append (de_var 2) (de_tup (da_two (de_var 5) (de_var 4)))) (EnvLe.noth rfl) (ds_nil (t := ()) (EnvLe.refl _))) (ds_nil (t := ()) (EnvLe.refl _)) (EnvLe.noth rfl) (fun s602 => (show DS _ _ _ [some one556, some other557, some found558, some p565.1, some p565.2.1, some s568, none, none] _ _ _ _ from (ds_nil (t := ()) (show EnvLe _ _ from (.keep (.keep (.keep (.drop (.drop (.drop (.keep (.keep .nil)))))))))))))))))))) (fun s561 => (show DS _ _ _ [some one556, some other557, some found558, none, none, none, none, none] _ _ _ _ from (ds_freeze 2 (fun found603 => [some one556, some other557, some found603, none, none, none, none, none]) (fun found603 => (ds_ret (de_p1 c_laid_together (hr.mono (by decide)) (L2N.takes_of rfl rfl rfl rfl) (de_var 2)) (EnvLe.noth rfl))))))))))
theorem ok_without {P : Program} {w : World} {K : Fg} {mg : Str → Option Value} {base : Heap} (T : Tx K mg) (c_laid_together : Cal P w K mg base "laid_together" 1 1 (app1 f_laid_together)) : Cal P w K mg base "without" 2 2 (app2 f_without) := Dfn.cal T.d_without fun _ _ F => fo_without T c_laid_together F
theorem fo_both {P : Program} {w : World} {K : Fg} {mg : Str → Option Value} {base : Heap} (T : Tx K mg) (c_laid_together : Cal P w K mg base "laid_together" 1 1 (app1 f_laid_together)) {f : Addr} {fd : FuncData} (F : Fun K "both" "both" s_both f fd) : FnOk P w K mg base (L2N.CX P w) 2 f fd ["one", "other"] (spD K mg 2 (app2 f_both)) := by
  refine fn2 (N := ["one", "other", "found", "low", "high", "start", "stop"]) (mk := fun _ : Unit => [none, none, none, none, none, none, none]) (lp := fun e : Empty => e.elim) (mc := b_both) F sc_both rfl fun cdv A outer s H E hr one606 other607 => ?_
  unfold b_both l_both_2 l_both_1
  exact (show DS _ _ _ [some one606, some other607, none, none, none, none, none] _ _ _ _ from (ds_set 2 sc_both.nd (fun found608 => [some one606, some other607, some found608, none, none, none, none]) (de_lstH da_nil) (EnvLe.noth rfl) (fun found608 => (ds_for (mkL := fun t : Unit => [some one606, some other607, some found608, none, none, none, none]) (t0 := ()) (passes_of rfl) rfl (di_seq (de_var 0)) (dg_tup rfl (dgs_cons (dg_name 3 sc_both.nd) (dgs_cons (dg_name 4 sc_both.nd) dgs_nil)) (uCons_l (uCons_l uNil_l))) (EnvLe.refl _) (EnvLe.noth rfl) (fun p615 t610 => (show DS _ _ _ [some one606, some other607, some found608, some p615.1, some p615.2.1, none, none] _ _ _ _ from (ds_for (mkL := fun t : Unit => [some one606, some other607, some found608, some p615.1, some p615.2.1, none, none]) (t0 := ()) (passes_of rfl) rfl (di_seq (de_var 1)) (dg_tup rfl (dgs_cons (dg_name 5 sc_both.nd) (dgs_cons (dg_name 6 sc_both.nd) dgs_nil)) (uCons_l (uCons_l uNil_l))) (EnvLe.refl _) (EnvLe.noth rfl) (fun p621 t616 => (show DS _ _ _ [some one606, some other607, some found608, some p615.1, some p615.2.1, some p621.1, some p621.2.1] _ _ _ _ from (ds_if (mk' := fun t : Unit => [some one606, some other607, some found608, some p615.1, some p615.2.1, some p621.1, some p621.2.1]) (dt_w (dw_and (dt_cmp op_lt (int2_ok fun _ _ _ _ _ => Rep.bl) (de_var 5) (de_var 4) (nomark _)) (dw_and1 (dt_cmp op_lt (int2_ok fun _ _ _ _ _ => Rep.bl) (de_var 3) (de_var 6) (nomark _))))) (ds_expr (de_append (de_var 2) (de_tup (da_two (de_max2 rfl T.no_max (de_var 3) (de_var 5)) (de_min2 rfl T.no_min (de_var 4) (de_var 6))))) (EnvLe.noth rfl) (ds_nil (t := ()) (EnvLe.refl _))) (ds_nil (t := ()) (EnvLe.refl _)) (EnvLe.noth rfl) (fun s639 => (show DS _ _ _ [some one606, some other607, some found608, some p615.1, some p615.2.1, some p621.1, some p621.2.1] _ _ _ _ from (ds_nil (t := ()) (show EnvLe _ _ from (.keep (.keep (.keep (.keep (.keep (.drop (.drop .nil)))))))))))))) (fun s617 => (show DS _ _ _ [some one606, some other607, some found608, some p615.1, some p615.2.1, none, none] _ _ _ _ from (ds_nil (t := ()) (show EnvLe _ _ from (.keep (.keep (.keep (.drop (.drop (.keep (.keep .nil)))))))))))))) (fun s611 => (show DS _ _ _ [some one606, some other607, some found608, none, none, none, none] _ _ _ _ from (ds_freeze 2 (fun found640 => [some one606, some other607, some found640, none, none, none, none]) (fun found640 => (ds_ret (de_p1 c_laid_together (hr.mono (by decide)) (L2N.takes_of rfl rfl rfl rfl) (de_var 2)) (EnvLe.noth rfl))))))))))
theorem ok_both {P : Program} {w : World} {K : Fg} {mg : Str → Option Value} {base : Heap} (T : Tx K mg) (c_laid_together : Cal P w K mg base "laid_together" 1 1 (app1 f_laid_together)) : Cal P w K mg base "both" 2 2 (app2 f_both) := Dfn.cal T.d_both fun _ _ F => fo_both T c_laid_together F
theorem fo_Sheet_lay {P : Program} {w : World} {K : Fg} {mg : Str → Option Value} {base : Heap} (T : Tx K mg) (c_is_whole : Cal P w K mg base "is_whole" 1 1 (app1 f_is_whole)) (c_either : Cal P w K mg base "either" 2 2 (app2 f_either)) (c_without : Cal P w K mg base "without" 2 2 (app2 f_without)) (c_both : Cal P w K mg base "both" 2 2 (app2 f_both)) {f : Addr} {fd : FuncData} (F : Fun K "lay" "Sheet.lay" s_Sheet_lay f fd) : FnOk P w K mg base (L2N.CX P w) 3 f fd ["self", "place", "numbers"] (spD K mg 3 (app3 f_Sheet_lay)) := by
  refine fn3 (N := ["self", "place", "numbers", "here", "k", "number"]) (mk := fun _ : Unit => [none, none, none, none, none, none]) (lp := fun e : Empty => e.elim) (mc := b_Sheet_lay) F sc_Sheet_lay rfl fun cdv A outer s H E hr self643 place644 numbers645 => ?_
  unfold b_Sheet_lay l_Sheet_lay_2 c_Sheet_lay_1
  exact (show DS _ _ _ [some self643, some place644, some numbers645, none, none, none] _ _ _ _ from (ds_ifr (fun e : Empty => e.elim) (dt_w (dw_or (dt_not (dt_tru (de_p1 c_is_whole (hr.mono (by decide)) (L2N.takes_of rfl rfl rfl rfl) (de_var 1)))) (dw_or (dt_not (dt_tru (de_isi "tuple" T.no_isinstance T.no_tuple (by decide +kernel) (by decide +kernel) (de_var 2)))) (dw_or1 (dt_not (dt_tru (de_all rfl T.no_all (de_lc (own := [("number", 5)]) rfl sc_Sheet_lay.nd (di_seq (de_var 2)) (blkOk_by (by show blkC [("self" : Str), ("place" : Str), ("numbers" : Str), ("here" : Str), ("k" : Str), ("number" : Str)] (defScope s_Sheet_lay) _ _ = true; decide +kernel)) (by decide) (fun _ _ _ _ _ => (dg_name 5 sc_Sheet_lay.nd)) (fun _ _ _ _ _ p655 => (show PTs _ _ (TC _ _ W0 RB [some self643, some place644, some numbers645, none, none, some p655] _) from dts_nil)) (fun _ _ _ _ _ p655 => (show DE _ W0 [some self643, some place644, some numbers645, none, none, some p655] _ _ from (de_p1 c_is_whole (hr.mono (by decide)) takes0N (de_var 5)))))))))))) (ds_raiseE T.x_BadPlace rfl (L2N.takes_of rfl rfl rfl rfl) (EnvLe.noth rfl)) (EnvLe.noth rfl) (ds_ifr (fun e : Empty => e.elim) (dt_cmp (op_eqX (hu64 hr)) eq_ok (de_var 2) (de_tup da_nil) (nomark _)) ds_retN (EnvLe.noth rfl) (ds_set 3 sc_Sheet_lay.nd (fun here670 => [some self643, some place644, some numbers645, some here670, none, none]) (de_tup (da_one (de_tup (da_two (de_var 1) (de_add (de_var 1) (de_len T.no_len (de_var 2))))))) (EnvLe.noth rfl) (fun here670 => (ds_ifr (fun e : Empty => e.elim) (dt_cmp (op_neX (hu64 hr)) ne_ok (de_p2 c_without (hr.mono (by decide)) (L2N.takes_of rfl rfl rfl rfl) (de_var 3) (de_fld T.at_ (de_var 0))) (de_tup da_nil) (nomark _)) (ds_raiseE T.x_BadPlace rfl (L2N.takes_of rfl rfl rfl rfl) (EnvLe.noth rfl)) (EnvLe.noth rfl) (ds_ifr (fun e : Empty => e.elim) (dt_cmp (op_neX (hu64 hr)) ne_ok (de_p2 c_both (hr.mono (by decide)) (L2N.takes_of rfl rfl rfl rfl) (de_var 3) (de_fld T.at_ (de_var 0))) (de_tup da_nil) (nomark _)) (ds_raiseE T.x_Twice rfl (L2N.takes_of rfl rfl rfl rfl) (EnvLe.noth rfl)) (EnvLe.noth rfl) (ds_for (mkL := fun t : Unit => [some self643, some place644, some numbers645, some here670, none, none]) (t0 := ()) (passes_of rfl) rfl (di_enum T.no_enumerate (de_var 2)) (dg_tup rfl (dgs_cons (dg_name 4 sc_Sheet_lay.nd) (dgs_cons (dg_name 5 sc_Sheet_lay.nd) dgs_nil)) (uCons_l (uCons_l uNil_l))) (EnvLe.refl _) (EnvLe.noth rfl) (fun p700 t695 => (show DS _ _ _ [some self643, some place644, some numbers645, some here670, some p700.1, some p700.2.1] _ _ _ _ from (ds_dput (hu64 hr) (de_var 5) (de_fld T.at_ (de_var 0)) (de_add (de_var 1) (de_var 4)) (EnvLe.noth rfl) (ds_nil (t := ()) (show EnvLe _ _ from (.keep (.keep (.keep (.keep (.drop (.drop .nil))))))))))) (fun s696 => (show DS _ _ _ [some self643, some place644, some numbers645, some here670, none, none] _ _ _ _ from (ds_fld T.at_ (de_p2 c_either (hr.mono (by decide)) (L2N.takes_of rfl rfl rfl rfl) (de_fld T.at_ (de_var 0)) (de_var 3)) (de_var 0) (EnvLe.noth rfl) (ds_nil (t := ()) (show EnvLe _ _ from (.drop (.drop (.drop (.drop (.keep (.keep .nil)))))))))))) rfl) rfl))) rfl) rfl))
theorem ok_Sheet_lay {P : Program} {w : World} {K : Fg} {mg : Str → Option Value} {base : Heap} (T : Tx K mg) (c_is_whole : Cal P w K mg base "is_whole" 1 1 (app1 f_is_whole)) (c_either : Cal P w K mg base "either" 2 2 (app2 f_either)) (c_without : Cal P w K mg base "without" 2 2 (app2 f_without)) (c_both : Cal P w K mg base "both" 2 2 (app2 f_both)) : MthF P w K mg base "Sheet" "lay" 3 3 (app3 f_Sheet_lay) := DfnM.mth T.d_Sheet_lay fun _ _ F => fo_Sheet_lay T c_is_whole c_either c_without c_both F
theorem fo_Sheet_all_results {P : Program} {w : World} {K : Fg} {mg : Str → Option Value} {base : Heap} (T : Tx K mg) {f : Addr} {fd : FuncData} (F : Fun K "all_results" "Sheet.all_results" s_Sheet_all_results f fd) : FnOk P w K mg base (L2N.CX P w) 1 f fd ["self"] (spD K mg 1 (app1 f_Sheet_all_results)) := by
  refine fn1 (N := ["self", "low", "high", "place"]) (mk := fun _ : Unit => [none, none, none, none]) (lp := fun e : Empty => e.elim) (mc := b_Sheet_all_results) F sc_Sheet_all_results rfl fun cdv A outer s H E hr self712 => ?_
  unfold b_Sheet_all_results c_Sheet_all_results_2 c_Sheet_all_results_1
  exact (show DS _ _ _ [some self712, none, none, none] _ _ _ _ from (ds_ret (de_lcH (own := [("low", 1), ("high", 2)]) rfl sc_Sheet_all_results.nd (di_seq (de_fld T.at_ (de_var 0))) (blkOk_by (by show blkC [("self" : Str), ("low" : Str), ("high" : Str), ("place" : Str)] (defScope s_Sheet_all_results) _ _ = true; decide +kernel)) (by decide) (fun _ _ _ _ _ => (dg_tup rfl (dgs_cons (dg_name 1 sc_Sheet_all_results.nd) (dgs_cons (dg_name 2 sc_Sheet_all_results.nd) dgs_nil)) (uCons_l (uCons_l uNil_l)))) (fun _ _ _ _ _ p717 => (show PTs _ _ (TC _ _ W0 RB [some self712, some p717.1, some p717.2.1, none] _) from dts_nil)) (fun _ _ _ _ _ p717 => (show DE _ W0 [some self712, some p717.1, some p717.2.1, none] _ _ from (de_tup (da_two (de_var 1) (de_tuple T.no_tuple (de_lc (own := [("place", 3)]) rfl sc_Sheet_all_results.nd (di_range2 T.no_range (de_var 1) (de_var 2)) (blkOk_by (by rfl)) (by decide) (fun _ _ _ _ _ => (dg_name 3 sc_Sheet_all_results.nd)) (fun _ _ _ _ _ p724 => (show PTs _ _ (TC _ _ W0 RB [some self712, some p717.1, some p717.2.1, some p724] _) from dts_nil)) (fun _ _ _ _ _ p724 => (show DE _ W0 [some self712, some p717.1, some p717.2.1, some p724] _ _ from (de_dget (hu64 hr) (de_fld T.at_ (de_var 0)) (de_var 3))))))))))) (EnvLe.noth rfl)))
theorem ok_Sheet_all_results {P : Program} {w : World} {K : Fg} {mg : Str → Option Value} {base : Heap} (T : Tx K mg) : MthF P w K mg base "Sheet" "all_results" 1 1 (app1 f_Sheet_all_results) := DfnM.mth T.d_Sheet_all_results fun _ _ F => fo_Sheet_all_results T F
theorem fo_Sheet_left_work {P : Program} {w : World} {K : Fg} {mg : Str → Option Value} {base : Heap} (T : Tx K mg) (c_without : Cal P w K mg base "without" 2 2 (app2 f_without)) {f : Addr} {fd : FuncData} (F : Fun K "left_work" "Sheet.left_work" s_Sheet_left_work f fd) : FnOk P w K mg base (L2N.CX P w) 3 f fd ["self"] (spD K mg 1 (app1 f_Sheet_left_work)) := by
  refine fn1 (N := ["self"]) (mk := fun _ : Unit => [none]) (lp := fun e : Empty => e.elim) (mc := b_Sheet_left_work) F sc_Sheet_left_work rfl fun cdv A outer s H E hr self735 => ?_
  unfold b_Sheet_left_work
  exact (show DS _ _ _ [some self735] _ _ _ _ from (ds_ret (de_p2 c_without (hr.mono (by decide)) (L2N.takes_of rfl rfl rfl rfl) (de_fld T.at_ (de_var 0)) (de_fld T.at_ (de_var 0))) (EnvLe.noth rfl)))
theorem ok_Sheet_left_work {P : Program} {w : World} {K : Fg} {mg : Str → Option Value} {base : Heap} (T : Tx K mg) (c_without : Cal P w K mg base "without" 2 2 (app2 f_without)) : MthF P w K mg base "Sheet" "left_work" 3 1 (app1 f_Sheet_left_work) := DfnM.mth T.d_Sheet_left_work fun _ _ F => fo_Sheet_left_work T c_without F
theorem fo_law_spoilt {P : Program} {w : World} {K : Fg} {mg : Str → Option Value} {base : Heap} (T : Tx K mg) (c_Sheet_all_results : MthF P w K mg base "Sheet" "all_results" 1 1 (app1 f_Sheet_all_results)) (c_Sheet_left_work : MthF P w K mg base "Sheet" "left_work" 3 1 (app1 f_Sheet_left_work)) {f : Addr} {fd : FuncData} (F : Fun K "_law_spoilt" "_law_spoilt" s_law_spoilt f fd) : FnOk P w K mg base (L2N.CX P w) 4 f fd ["_law_sheet"] (spD K mg 1 (app1 f_law_spoilt)) := by
  refine fn1 (N := ["_law_sheet", "_law_some"]) (mk := fun _ : Unit => [none, none]) (lp := fun e : Empty => e.elim) (mc := b_law_spoilt) F sc_law_spoilt rfl fun cdv A outer s H E hr sheet741 => ?_
  unfold b_law_spoilt
  exact (show DS _ _ _ [some sheet741, none] _ _ _ _ from (ds_set 1 sc_law_spoilt.nd (fun some742 => [some sheet741, some some742]) (de_mth0 c_Sheet_all_results (hr.mono (by decide)) (L2N.takes_of rfl rfl rfl rfl) (de_var 0)) (EnvLe.noth rfl) (fun some742 => (ds_expr (de_append (de_var 1) (de_tup (da_two de_int (de_tup (da_one de_int))))) (EnvLe.noth rfl) (ds_expr (de_reverse (de_var 1)) (EnvLe.noth rfl) (ds_ret (de_tup (da_two (de_freeze (de_mth0 c_Sheet_all_results (hr.mono (by decide)) (L2N.takes_of rfl rfl rfl rfl) (de_var 0))) (de_mth0 c_Sheet_left_work (hr.mono (by decide)) (L2N.takes_of rfl rfl rfl rfl) (de_var 0)))) (EnvLe.noth rfl)))))))
theorem ok_law_spoilt {P : Program} {w : World} {K : Fg} {mg : Str → Option Value} {base : Heap} (T : Tx K mg) (c_Sheet_all_results : MthF P w K mg base "Sheet" "all_results" 1 1 (app1 f_Sheet_all_results)) (c_Sheet_left_work : MthF P w K mg base "Sheet" "left_work" 3 1 (app1 f_Sheet_left_work)) : Cal P w K mg base "_law_spoilt" 4 1 (app1 f_law_spoilt) := Dfn.cal T.d_law_spoilt fun _ _ F => fo_law_spoilt T c_Sheet_all_results c_Sheet_left_work F
theorem fo_Sheet_result_at {P : Program} {w : World} {K : Fg} {mg : Str → Option Value} {base : Heap} (T : Tx K mg) (c_is_whole : Cal P w K mg base "is_whole" 1 1 (app1 f_is_whole)) {f : Addr} {fd : FuncData} (F : Fun K "result_at" "Sheet.result_at" s_Sheet_result_at f fd) : FnOk P w K mg base (L2N.CX P w) 2 f fd ["self", "place"] (spD K mg 2 (app2 f_Sheet_result_at)) := by
  refine fn2 (N := ["self", "place"]) (mk := fun _ : Unit => [none, none]) (lp := fun e : Empty => e.elim) (mc := b_Sheet_result_at) F sc_Sheet_result_at rfl fun cdv A outer s H E hr self759 place760 => ?_
  unfold b_Sheet_result_at
  exact (show DS _ _ _ [some self759, some place760] _ _ _ _ from (ds_ifr (fun e : Empty => e.elim) (dt_not (dt_tru (de_p1 c_is_whole (hr.mono (by decide)) (L2N.takes_of rfl rfl rfl rfl) (de_var 1)))) (ds_ret de_non (EnvLe.noth rfl)) (EnvLe.noth rfl) (ds_ret (de_dget1 (hu64 hr) (de_fld T.at_ (de_var 0)) (de_var 1)) (EnvLe.noth rfl)) rfl))
theorem ok_Sheet_result_at {P : Program} {w : World} {K : Fg} {mg : Str → Option Value} {base : Heap} (T : Tx K mg) (c_is_whole : Cal P w K mg base "is_whole" 1 1 (app1 f_is_whole)) : MthF P w K mg base "Sheet" "result_at" 2 2 (app2 f_Sheet_result_at) := DfnM.mth T.d_Sheet_result_at fun _ _ F => fo_Sheet_result_at T c_is_whole F
theorem fo_law_cell_at {P : Program} {w : World} {K : Fg} {mg : Str → Option Value} {base : Heap} (T : Tx K mg) {f : Addr} {fd : FuncData} (F : Fun K "_law_cell_at" "_law_cell_at" s_law_cell_at f fd) : FnOk P w K mg base (L2N.CX P w) 1 f fd ["_law_script", "_law_at"] (spD K mg 2 (app2 f_law_cell_at)) := by
  refine fn2 (N := ["_law_script", "_law_at"]) (mk := fun _ : Unit => [none, none]) (lp := fun e : Empty => e.elim) (mc := b_law_cell_at) F sc_law_cell_at rfl fun cdv A outer s H E hr script770 at771 => ?_
  unfold b_law_cell_at
  exact (show DS _ _ _ [some script770, some at771] _ _ _ _ from (ds_ifr (fun e : Empty => e.elim) (dt_cmp op_lt (int2_ok fun _ _ _ _ _ => Rep.bl) (de_var 1) (de_len T.no_len (de_var 0)) (nomark _)) (ds_ret (de_ix (de_var 0) (de_var 1)) (EnvLe.noth rfl)) (EnvLe.noth rfl) (ds_ret de_int (EnvLe.noth rfl)) rfl))
theorem ok_law_cell_at {P : Program} {w : World} {K : Fg} {mg : Str → Option Value} {base : Heap} (T : Tx K mg) : Cal P w K mg base "_law_cell_at" 1 2 (app2 f_law_cell_at) := Dfn.cal T.d_law_cell_at fun _ _ F => fo_law_cell_at T F
theorem fo_law_bad {P : Program} {w : World} {K : Fg} {mg : Str → Option Value} {base : Heap} (T : Tx K mg) (c_law_take : Cal P w K mg base "_law_take" 1 2 (app2 f_law_take)) {f : Addr} {fd : FuncData} (F : Fun K "_law_bad" "_law_bad" s_law_bad f fd) : FnOk P w K mg base (L2N.CX P w) 2 f fd ["_law_tape_here", "_law_place"] (spD K mg 2 (app2 f_law_bad)) := by
  refine fn2 (N := ["_law_tape_here", "_law_place", "_law_odd", "_law_bad_here"]) (mk := fun _ : Unit => [none, none, none, none]) (lp := fun e : Empty => e.elim) (mc := b_law_bad) F sc_law_bad rfl fun cdv A outer s H E hr tape_here781 place782 => ?_
  unfold b_law_bad
  exact (show DS _ _ _ [some tape_here781, some place782, none, none] _ _ _ _ from (ds_set 2 sc_law_bad.nd (fun odd783 => [some tape_here781, some place782, some odd783, none]) (de_ix (de_lst (da_cons de_non (da_cons de_bl (da_cons de_str (da_cons (de_lst (da_one (de_var 1))) (da_cons (de_tup (da_one (de_var 1))) (da_two de_bl de_emp))))))) (de_c2 c_law_take (hr.mono (by decide)) (L2N.takes_of rfl rfl rfl rfl) (de_var 0) de_int)) (EnvLe.noth rfl) (fun odd783 => (ds_set 3 sc_law_bad.nd (fun bad_here805 => [some tape_here781, some place782, some odd783, some bad_here805]) (de_ix (de_lst (da_cons (de_lst (da_one de_int)) (da_cons de_non (da_cons (de_tup (da_one de_bl)) (da_cons (de_tup (da_two de_int de_non)) (da_cons de_str (da_cons (de_tup (da_one de_str)) (da_cons (de_tup (da_one (de_tup (da_one de_int)))) (da_cons de_emp (da_cons de_int (da_cons (de_lst da_nil) (da_two (de_tup (da_two de_int de_bl)) de_str)))))))))))) (de_c2 c_law_take (hr.mono (by decide)) (L2N.takes_of rfl rfl rfl rfl) (de_var 0) de_int)) (EnvLe.noth rfl) (fun bad_here805 => (ds_ret (de_ix (de_lst (da_cons (de_tup (da_two (de_var 2) (de_tup (da_one de_int)))) (da_cons (de_tup (da_two (de_var 1) (de_var 3))) (da_two (de_tup (da_two (de_var 2) (de_var 3))) (de_tup (da_two (de_var 2) (de_tup da_nil))))))) (de_c2 c_law_take (hr.mono (by decide)) (L2N.takes_of rfl rfl rfl rfl) (de_var 0) de_int)) (EnvLe.noth rfl)))))))
theorem ok_law_bad {P : Program} {w : World} {K : Fg} {mg : Str → Option Value} {base : Heap} (T : Tx K mg) (c_law_take : Cal P w K mg base "_law_take" 1 2 (app2 f_law_take)) : Cal P w K mg base "_law_bad" 2 2 (app2 f_law_bad) := Dfn.cal T.d_law_bad fun _ _ F => fo_law_bad T c_law_take F
theorem fo_law_word {P : Program} {w : World} {K : Fg} {mg : Str → Option Value} {base : Heap} (T : Tx K mg) (c_check_work : Cal P w K mg base "check_work" 3 1 (app1 f_check_work)) (c_Sheet___init__ : MkF P w K mg base "Sheet" 4 2 (app2 f_Sheet___init__)) (c_Sheet_lay : MthF P w K mg base "Sheet" "lay" 3 3 (app3 f_Sheet_lay)) {f : Addr} {fd : FuncData} (F : Fun K "_law_word" "_law_word" s_law_word f fd) : FnOk P w K mg base (L2N.CX P w) 6 f fd ["_law_way", "_law_first", "_law_second"] (spD K mg 3 (app3 f_law_word)) := by
  refine fn3 (N := ["_law_way", "_law_first", "_law_second", "_law_word_here", "e", "_law_some", "_law_others"]) (mk := fun _ : Unit => [none, none, none, none, none, none, none]) (lp := fun e : Empty => e.elim) (mc := b_law_word) F sc_law_word rfl fun cdv A outer s H E hr way877 first878 second879 => ?_
  obtain ⟨a_LentError, c_LentError⟩ := T.x_LentError
  unfold b_law_word h_law_word_1
  exact (show DS _ _ _ [some way877, some first878, some second879, none, none, none, none] _ _ _ _ from (ds_set 3 sc_law_word.nd (fun word_here880 => [some way877, some first878, some second879, some word_here880, none, none, none]) de_str (EnvLe.noth rfl) (fun word_here880 => (ds_tryas 4 (mk' := fun t : D => [some way877, some first878, some second879, some t, none, none, none]) (exB := [some way877, some first878, some second879, some word_here880, none, none, none]) sc_law_word.nd rfl rfl (names_of c_LentError rfl (by decide)) (L2N.takes_of rfl rfl rfl rfl) (cf_of T.ex c_LentError) (EnvLe.noth rfl) (fun z881 a => [some way877, some first878, some second879, some word_here880, some (.exn z881 a), none, none]) (fun Wb pn xe tkB hpB => (show DS _ _ _ [some way877, some first878, some second879, some word_here880, none, none, none] _ _ _ _ from (ds_if (mk' := fun t : Unit => [some way877, some first878, some second879, some word_here880, none, none, none]) (dt_cmp (op_eqO (hu64 hr)) (eqO_ok T.eq_Sheet) (de_var 0) de_int (nomark _)) (ds_expr (de_make c_Sheet___init__ (hr.mono (by decide)) tkB (da_one (de_var 1)) (alen1)) (EnvLe.refl _) (ds_nil (t := ()) (EnvLe.refl _))) (ds_if (mk' := fun t : Unit => [some way877, some first878, some second879, some word_here880, none, none, none]) (dt_cmp (op_eqO (hu64 hr)) (eqO_ok T.eq_Sheet) (de_var 0) de_int (nomark _)) (ds_expr (de_p1 c_check_work (hr.mono (by decide)) tkB (de_var 1)) (EnvLe.refl _) (ds_nil (t := ()) (EnvLe.refl _))) (ds_expr (de_mth c_Sheet_lay (hr.mono (by decide)) tkB (de_var 0) (da_two (de_var 1) (de_var 2)) (alen2)) (EnvLe.refl _) (ds_nil (t := ()) (EnvLe.refl _))) (EnvLe.refl _) (fun s897 => (show DS _ _ _ [some way877, some first878, some second879, some word_here880, none, none, none] _ _ _ _ from (ds_nil (t := ()) (EnvLe.refl _))))) (EnvLe.refl _) (fun s898 => (show DS _ _ _ [some way877, some first878, some second879, some word_here880, none, none, none] _ _ _ _ from (ds_nil (t := word_here880) (EnvLe.refl _))))))) (fun a C oe pn z881 hz hvs hzz => (show DS _ _ _ [some way877, some first878, some second879, some word_here880, some (.exn z881 a), none, none] _ _ _ _ from (ds_set 5 sc_law_word.nd (fun some899 => [some way877, some first878, some second879, some word_here880, some (.exn z881 a), some some899, none]) (de_lst (da_cons (de_isE 4 (T.ex) hz hvs hzz T.no_isinstance) (da_two (de_isE 4 (T.ex) hz hvs hzz T.no_isinstance) (de_isE 4 (T.ex) hz hvs hzz T.no_isinstance)))) (EnvLe.noth rfl) (fun some899 => (ds_set 6 sc_law_word.nd (fun others905 => [some way877, some first878, some second879, some word_here880, some (.exn z881 a), some some899, some others905]) (de_isET 4 T.ex hz hvs hzz T.no_isinstance (nms_cons T.ex hzz (nms_cons T.ex hzz (nms_cons T.ex hzz (nms_cons T.ex hzz (nms_cons T.ex hzz (nms_cons T.ex hzz (nms_cons T.ex hzz (nms_cons T.ex hzz (nms_cons T.ex hzz nms_nil))))))))) (by decide) (by nofun)) (EnvLe.noth rfl) (fun others905 => (ds_set 6 sc_law_word.nd (fun others906 => [some way877, some first878, some second879, some word_here880, some (.exn z881 a), some some899, some others906]) (de_or (de_var 6) (de_one (de_isET 4 T.ex hz hvs hzz T.no_isinstance (nms_cons T.ex hzz (nms_cons T.ex hzz (nms_cons T.ex hzz (nms_cons T.ex hzz (nms_cons T.ex hzz (nms_cons T.ex hzz (nms_cons T.ex hzz (nms_cons T.ex hzz nms_nil)))))))) (by decide) (by nofun)))) (EnvLe.noth rfl) (fun others906 => (ds_set 3 sc_law_word.nd (fun word_here908 => [some way877, some first878, some second879, some word_here908, some (.exn z881 a), some some899, some others906]) de_str (EnvLe.noth rfl) (fun word_here908 => (ds_if (mk' := fun t : D => [some way877, some first878, some second879, some t, some (.exn z881 a), some some899, some others906]) (dt_w (dw_and (dt_cmp (op_eqX (hu64S hr)) eq_ok (de_countB (de_var 5) de_bl) de_int (nomark _)) (dw_and (dt_tru (de_isE 4 (T.ex) hz hvs hzz T.no_isinstance)) (dw_and1 (dt_not (dt_tru (de_var 6))))))) (ds_set 3 sc_law_word.nd (fun word_here920 => [some way877, some first878, some second879, some word_here920, some (.exn z881 a), some some899, some others906]) (de_ix (de_lst (da_cons de_str (da_two de_str de_str))) (de_indexB (de_var 5) de_bl)) (EnvLe.noth rfl) (fun word_here920 => (ds_nil (t := word_here920) (EnvLe.refl _)))) (ds_nil (t := word_here908) (EnvLe.refl _)) (EnvLe.noth rfl) (fun s930 => (show DS _ _ _ [some way877, some first878, some second879, some s930, some (.exn z881 a), some some899, some others906] _ _ _ _ from (ds_nil (t := s930) (show EnvLe _ _ from (.keep (.keep (.keep (.keep (.drop (.drop (.drop .nil)))))))))))))))))))))) (fun s931 => (show DS _ _ _ [some way877, some first878, some second879, some s931, none, none, none] _ _ _ _ from (ds_ret (de_var 3) (EnvLe.noth rfl))))))))
theorem ok_law_word {P : Program} {w : World} {K : Fg} {mg : Str → Option Value} {base : Heap} (T : Tx K mg) (c_check_work : Cal P w K mg base "check_work" 3 1 (app1 f_check_work)) (c_Sheet___init__ : MkF P w K mg base "Sheet" 4 2 (app2 f_Sheet___init__)) (c_Sheet_lay : MthF P w K mg base "Sheet" "lay" 3 3 (app3 f_Sheet_lay)) : Cal P w K mg base "_law_word" 6 3 (app3 f_law_word) := Dfn.cal T.d_law_word fun _ _ F => fo_law_word T c_check_work c_Sheet___init__ c_Sheet_lay F
theorem fo_law {P : Program} {w : World} {K : Fg} {mg : Str → Option Value} {base : Heap} (T : Tx K mg) (c_law_tape : Cal P w K mg base "_law_tape" 1 1 (app1 f_law_tape)) (c_law_work : Cal P w K mg base "_law_work" 3 3 (app3 f_law_work)) (c_law_no_work : Cal P w K mg base "_law_no_work" 2 2 (app2 f_law_no_work)) (c_check_work : Cal P w K mg base "check_work" 3 1 (app1 f_check_work)) (c_Sheet___init__ : MkF P w K mg base "Sheet" 4 2 (app2 f_Sheet___init__)) (c_law_places : Cal P w K mg base "_law_places" 1 1 (app1 f_law_places)) (c_Sheet_lay : MthF P w K mg base "Sheet" "lay" 3 3 (app3 f_Sheet_lay)) (c_law_spoilt : Cal P w K mg base "_law_spoilt" 4 1 (app1 f_law_spoilt)) (c_Sheet_result_at : MthF P w K mg base "Sheet" "result_at" 2 2 (app2 f_Sheet_result_at)) (c_law_cell_at : Cal P w K mg base "_law_cell_at" 1 2 (app2 f_law_cell_at)) (c_law_bad : Cal P w K mg base "_law_bad" 2 2 (app2 f_law_bad)) (c_law_word : Cal P w K mg base "_law_word" 6 3 (app3 f_law_word)) {f : Addr} {fd : FuncData} (F : Fun K "law" "law" s_law f fd) : FnOk P w K mg base (L2N.CX P w) 7 f fd ["_law_script"] (spD K mg 1 (app1 f_law)) := by
  refine fn1 (N := ["_law_script", "_law_cell", "_law_tape_here", "_law_work_here", "_law_thing", "_law_sheet", "_law_some", "_law_seen", "_law_place", "_law_first", "_law_second"]) (mk := fun _ : Unit => [none, none, none, none, none, none, none, none, none, none, none]) (lp := fun e : Empty => e.elim) (mc := b_law) F sc_law rfl fun cdv A outer s H E hr script933 => ?_
  unfold b_law l_law_3 l_law_2 l_law_1
  exact (show DS _ _ _ [some script933, none, none, none, none, none, none, none, none, none, none] _ _ _ _ from (ds_for (mkL := fun t : Option D × Option D => [some script933, none, none, none, none, t.1, t.2, none, none, none, none]) (t0 := (none, none)) (passes_of rfl) rfl (di_seq (de_add (de_lst (da_one (de_p2 c_law_cell_at (hr.mono (by decide)) (L2N.takes_of rfl rfl rfl rfl) (de_var 0) de_int))) (de_slice (de_var 0) (do_some de_int) (do_some de_int)))) (dg_name 1 sc_law.nd) (EnvLe.refl _) (EnvLe.noth rfl) (fun p950 t934 => (show DS _ _ _ [some script933, some p950, none, none, none, t934.1, t934.2, none, none, none, none] _ _ _ _ from (ds_set 2 sc_law.nd (fun tape_here951 => [some script933, some p950, some tape_here951, none, none, t934.1, t934.2, none, none, none, none]) (de_c1 c_law_tape (hr.mono (by decide)) (L2N.takes_of rfl rfl rfl rfl) (de_var 1)) (EnvLe.noth rfl) (fun tape_here951 => (ds_set 3 sc_law.nd (fun work_here953 => [some script933, some p950, some tape_here951, some work_here953, none, t934.1, t934.2, none, none, none, none]) (de_c3 c_law_work (hr.mono (by decide)) (L2N.takes_of rfl rfl rfl rfl) (de_var 2) de_int de_int) (EnvLe.noth rfl) (fun work_here953 => (ds_if (mk' := fun t : D => [some script933, some p950, some tape_here951, some t, none, t934.1, t934.2, none, none, none, none]) (dt_cmp (op_eqX (hu64 hr)) eq_ok (de_var 3) (de_tup da_nil) (nomark _)) (ds_set 3 sc_law.nd (fun work_here962 => [some script933, some p950, some tape_here951, some work_here962, none, t934.1, t934.2, none, none, none, none]) (de_tup (da_one (de_tup (da_two de_int de_int)))) (EnvLe.noth rfl) (fun work_here962 => (ds_nil (t := work_here962) (EnvLe.refl _)))) (ds_nil (t := work_here953) (EnvLe.refl _)) (EnvLe.noth rfl) (fun s968 => (show DS _ _ _ [some script933, some p950, some tape_here951, some s968, none, t934.1, t934.2, none, none, none, none] _ _ _ _ from (ds_set 4 sc_law.nd (fun thing969 => [some script933, some p950, some tape_here951, some s968, some thing969, t934.1, t934.2, none, none, none, none]) (de_c2 c_law_no_work (hr.mono (by decide)) (L2N.takes_of rfl rfl rfl rfl) (de_var 2) (de_var 3)) (EnvLe.noth rfl) (fun thing969 => (ds_ifr (fun e : Empty => e.elim) (dt_w (dw_or (dt_cmp (op_neX (hu64 hr)) ne_ok (de_c3 c_law_word (hr.mono (by decide)) (L2N.takes_of rfl rfl rfl rfl) de_int (de_var 4) de_non) de_str (nomark _)) (dw_or1 (dt_cmp (op_neX (hu64 hr)) ne_ok (de_c3 c_law_word (hr.mono (by decide)) (L2N.takes_of rfl rfl rfl rfl) de_int (de_var 4) de_non) de_str (nomark _))))) (ds_ret de_bl (EnvLe.noth rfl)) (EnvLe.noth rfl) (ds_ifr (fun e : Empty => e.elim) (dt_cmp op_isnotC isM_ok (de_p1 c_check_work (hr.mono (by decide)) (L2N.takes_of rfl rfl rfl rfl) (de_var 3)) de_non (nomark _)) (ds_ret de_bl (EnvLe.noth rfl)) (EnvLe.noth rfl) (ds_set 5 sc_law.nd (fun sheet993 => [some script933, some p950, some tape_here951, some s968, some thing969, some sheet993, t934.2, none, none, none, none]) (de_make c_Sheet___init__ (hr.mono (by decide)) (L2N.takes_of rfl rfl rfl rfl) (da_one (de_var 3)) (alen1)) (EnvLe.noth rfl) (fun sheet993 => (ds_set 6 sc_law.nd (fun some996 => [some script933, some p950, some tape_here951, some s968, some thing969, some sheet993, some some996, none, none, none, none]) (de_p1 c_law_places (hr.mono (by decide)) (L2N.takes_of rfl rfl rfl rfl) (de_var 3)) (EnvLe.noth rfl) (fun some996 => (ds_expr (de_mth c_Sheet_lay (hr.mono (by decide)) (L2N.takes_of rfl rfl rfl rfl) (de_var 5) (da_two (de_ix (de_var 6) de_int) (de_tup (da_one de_int))) (alen2)) (EnvLe.noth rfl) (ds_set 7 sc_law.nd (fun seen1006 => [some script933, some p950, some tape_here951, some s968, some thing969, some sheet993, some some996, some seen1006, none, none, none]) (de_c1 c_law_spoilt (hr.mono (by decide)) (L2N.takes_of rfl rfl rfl rfl) (de_var 5)) (EnvLe.noth rfl) (fun seen1006 => (ds_for (mkL := fun t : Unit => [some script933, some p950, some tape_here951, some s968, some thing969, some sheet993, some some996, some seen1006, none, none, none]) (t0 := ()) (passes_of rfl) rfl (di_seq (de_lst (da_cons (de_ix (de_var 6) de_int) (da_two (de_ix (de_var 6) (de_neg de_int)) (de_sub (de_ix (de_var 6) de_int) de_int))))) (dg_name 8 sc_law.nd) (EnvLe.refl _) (EnvLe.noth rfl) (fun p1027 t1008 => (show DS _ _ _ [some script933, some p950, some tape_here951, some s968, some thing969, some sheet993, some some996, some seen1006, some p1027, none, none] _ _ _ _ from (ds_unpack (de_c2 c_law_bad (hr.mono (by decide)) (L2N.takes_of rfl rfl rfl rfl) (de_var 2) (de_var 8)) (dg_tup rfl (dgs_cons (dg_name 9 sc_law.nd) (dgs_cons (dg_name 10 sc_law.nd) dgs_nil)) (uCons_l (uCons_l uNil_l))) (EnvLe.noth rfl) (fun p1031 => (show DS _ _ _ [some script933, some p950, some tape_here951, some s968, some thing969, some sheet993, some some996, some seen1006, some p1027, some p1031.1, some p1031.2.1] _ _ _ _ from (ds_ifr (fun e : Empty => e.elim) (dt_w (dw_or (dt_cmp (op_neX (hu64 hr)) ne_ok (de_c3 c_law_word (hr.mono (by decide)) (L2N.takes_of rfl rfl rfl rfl) (de_var 5) (de_var 9) (de_var 10)) de_str (nomark _)) (dw_or1 (dt_cmp (op_neX (hu64 hr)) ne_ok (de_c1 c_law_spoilt (hr.mono (by decide)) (L2N.takes_of rfl rfl rfl rfl) (de_var 5)) (de_var 7) (nomark _))))) (ds_ret de_bl (EnvLe.noth rfl)) (EnvLe.noth rfl) (ds_ifr (fun e : Empty => e.elim) (dt_w (dw_or (dt_cmp op_isnotC isM_ok (de_mth c_Sheet_lay (hr.mono (by decide)) (L2N.takes_of rfl rfl rfl rfl) (de_var 5) (da_two (de_var 8) (de_tup da_nil)) (alen2)) de_non (nomark _)) (dw_or1 (dt_cmp op_isnotC isM_ok (de_mth c_Sheet_lay (hr.mono (by decide)) (L2N.takes_of rfl rfl rfl rfl) (de_var 5) (da_two (de_sub (de_var 8) (de_pow de_int de_int)) (de_tup da_nil)) (alen2)) de_non (nomark _))))) (ds_ret de_bl (EnvLe.noth rfl)) (EnvLe.noth rfl) (ds_nil (t := ()) (show EnvLe _ _ from (.keep (.keep (.keep (.keep (.keep (.keep (.keep (.keep (.drop (.drop (.drop .nil))))))))))))) rfl) rfl)))))) (fun s1009 => (show DS _ _ _ [some script933, some p950, some tape_here951, some s968, some thing969, some sheet993, some some996, some seen1006, none, none, none] _ _ _ _ from (ds_ifr (fun e : Empty => e.elim) (dt_w (dw_or (dt_cmp (op_neX (hu64 hr)) ne_ok (de_c3 c_law_word (hr.mono (by decide)) (L2N.takes_of rfl rfl rfl rfl) (de_var 5) (de_ix (de_var 6) de_int) (de_tup (da_one de_int))) de_str (nomark _)) (dw_or1 (dt_cmp (op_neX (hu64 hr)) ne_ok (de_c1 c_law_spoilt (hr.mono (by decide)) (L2N.takes_of rfl rfl rfl rfl) (de_var 5)) (de_var 7) (nomark _))))) (ds_ret de_bl (EnvLe.noth rfl)) (EnvLe.noth rfl) (ds_for (mkL := fun t : Unit => [some script933, some p950, some tape_here951, some s968, none, some sheet993, some some996, some seen1006, none, none, none]) (t0 := ()) (passes_of rfl) rfl (di_seq (de_lst (da_cons de_non (da_cons de_bl (da_cons (de_strf T.no_str (de_ix (de_var 6) de_int)) (da_cons (de_lst (da_one (de_ix (de_var 6) de_int))) (da_two (de_tup (da_one (de_ix (de_var 6) de_int))) de_emp))))))) (dg_name 4 sc_law.nd) (show EnvLe _ _ from (.keep (.keep (.keep (.keep (.drop (.keep (.keep (.keep (.keep (.keep (.keep .nil)))))))))))) (EnvLe.noth rfl) (fun p1112 t1085 => (show DS _ _ _ [some script933, some p950, some tape_here951, some s968, some p1112, some sheet993, some some996, some seen1006, none, none, none] _ _ _ _ from (ds_ifr (fun e : Empty => e.elim) (dt_cmp op_isnotC isM_ok (de_mth c_Sheet_result_at (hr.mono (by decide)) (L2N.takes_of rfl rfl rfl rfl) (de_var 5) (da_one (de_var 4)) (alen1)) de_non (nomark _)) (ds_ret de_bl (EnvLe.noth rfl)) (EnvLe.noth rfl) (ds_nil (t := ()) (show EnvLe _ _ from (.keep (.keep (.keep (.keep (.drop (.keep (.keep (.keep (.keep (.keep (.keep .nil))))))))))))) rfl))) (fun s1086 => (show DS _ _ _ [some script933, some p950, some tape_here951, some s968, none, some sheet993, some some996, some seen1006, none, none, none] _ _ _ _ from (ds_nil (t := ((some sheet993), (some some996))) (show EnvLe _ _ from (.keep (.drop (.drop (.drop (.keep (.keep (.keep (.drop (.keep (.keep (.keep .nil)))))))))))))))) rfl))))))))))) rfl) rfl)))))))))))) (fun s935 => (show DS _ _ _ [some script933, none, none, none, none, s935.1, s935.2, none, none, none, none] _ _ _ _ from (ds_ret (de_eq (hu64 hr) (de_mth c_Sheet_result_at (hr.mono (by decide)) (L2N.takes_of rfl rfl rfl rfl) (de_varO 5) (da_one (de_ix (de_varO 6) de_int)) (alen1)) de_int) (EnvLe.noth rfl))))))
theorem ok_all {P : Program} {w : World} {K : Fg} {mg : Str → Option Value} {base : Heap} (T : Tx K mg) (f : Addr) (fd : FuncData) (F : Fun K "law" "law" s_law f fd) : FnOk P w K mg base (L2N.CX P w) 7 f fd ["_law_script"] (spD K mg 1 (app1 f_law)) := by
  have c_law_tape := ok_law_tape (P := P) (w := w) (base := base) T
  have c_law_take := ok_law_take (P := P) (w := w) (base := base) T
  have c_law_start := ok_law_start (P := P) (w := w) (base := base) T c_law_take
  have c_law_work := ok_law_work (P := P) (w := w) (base := base) T c_law_take c_law_start
  have c_law_no_work := ok_law_no_work (P := P) (w := w) (base := base) T c_law_take
  have c_is_whole := ok_is_whole (P := P) (w := w) (base := base) T
  have c_is_stretch := ok_is_stretch (P := P) (w := w) (base := base) T c_is_whole
  have c_check_work := ok_check_work (P := P) (w := w) (base := base) T c_is_stretch
  have c_Sheet___init__ := ok_Sheet___init__ (P := P) (w := w) (base := base) T c_check_work
  have c_law_places := ok_law_places (P := P) (w := w) (base := base) T
  have c_laid_together := ok_laid_together (P := P) (w := w) (base := base) T
  have c_either := ok_either (P := P) (w := w) (base := base) T c_laid_together
  have c_without := ok_without (P := P) (w := w) (base := base) T c_laid_together
  have c_both := ok_both (P := P) (w := w) (base := base) T c_laid_together
  have c_Sheet_lay := ok_Sheet_lay (P := P) (w := w) (base := base) T c_is_whole c_either c_without c_both
  have c_Sheet_all_results := ok_Sheet_all_results (P := P) (w := w) (base := base) T
  have c_Sheet_left_work := ok_Sheet_left_work (P := P) (w := w) (base := base) T c_without
  have c_law_spoilt := ok_law_spoilt (P := P) (w := w) (base := base) T c_Sheet_all_results c_Sheet_left_work
  have c_Sheet_result_at := ok_Sheet_result_at (P := P) (w := w) (base := base) T c_is_whole
  have c_law_cell_at := ok_law_cell_at (P := P) (w := w) (base := base) T
  have c_law_bad := ok_law_bad (P := P) (w := w) (base := base) T c_law_take
  have c_law_word := ok_law_word (P := P) (w := w) (base := base) T c_check_work c_Sheet___init__ c_Sheet_lay
  exact fo_law T c_law_tape c_law_work c_law_no_work c_check_work c_Sheet___init__ c_law_places c_Sheet_lay c_law_spoilt c_Sheet_result_at c_law_cell_at c_law_bad c_law_word F
end Lw

open PySem PySem.W PyProof.Rows in
set_option maxRecDepth 100000 in
set_option maxHeartbeats 0 in
theorem PySem.Challenge.cw_lentwork_k12_sheets_refused_holds : PySem.Challenge.rw_lentwork_k12_sheets_refused.Holds := by
  w_on; o_law; k_head; (case hw => w_witness2)
  k_fill
  refine Lw.walkD (l := PySem.Challenge.rw_lentwork_k12_sheets_refused) (g := Lw.f_law) (k := 7) (x := "_law_script") (st := Lw.s_law) rfl rfl ⟨rfl, by decide, by decide⟩ rfl (fun w h Y => PySem.W.kIn_of Y) (fun _ _ _ _ _ _ _ _ => .of_eq rfl) ?F (Lw.plain)
  case F =>
    intro w mg h KX G
    have c_BadWork := Lw.cl_mk (z := "BadWork") KX G (by k_is) (by k_is) (by k_is) (by k_exc) (by k_is) (by k_is) (by k_is) (by k_is) (by k_is) (by k_is) (by k_is) (by k_is)
    have c_BadPlace := Lw.cl_mk (z := "BadPlace") KX G (by k_is) (by k_is) (by k_is) (by k_exc) (by k_is) (by k_is) (by k_is) (by k_is) (by k_is) (by k_is) (by k_is) (by k_is)
    have c_Twice := Lw.cl_mk (z := "Twice") KX G (by k_is) (by k_is) (by k_is) (by k_exc) (by k_is) (by k_is) (by k_is) (by k_is) (by k_is) (by k_is) (by k_is) (by k_is)
    have c_LentError := Lw.cl_mk (z := "LentError") KX G (by k_is) (by k_is) (by k_is) (by k_exc) (by k_is) (by k_is) (by k_is) (by k_is) (by k_is) (by k_is) (by k_is) (by k_is)
    have c_BadBound := Lw.cl_mk (z := "BadBound") KX G (by k_is) (by k_is) (by k_is) (by k_exc) (by k_is) (by k_is) (by k_is) (by k_is) (by k_is) (by k_is) (by k_is) (by k_is)
    have c_BadCut := Lw.cl_mk (z := "BadCut") KX G (by k_is) (by k_is) (by k_is) (by k_exc) (by k_is) (by k_is) (by k_is) (by k_is) (by k_is) (by k_is) (by k_is) (by k_is)
    have c_BadJoin := Lw.cl_mk (z := "BadJoin") KX G (by k_is) (by k_is) (by k_is) (by k_exc) (by k_is) (by k_is) (by k_is) (by k_is) (by k_is) (by k_is) (by k_is) (by k_is)
    have c_BadLine := Lw.cl_mk (z := "BadLine") KX G (by k_is) (by k_is) (by k_is) (by k_exc) (by k_is) (by k_is) (by k_is) (by k_is) (by k_is) (by k_is) (by k_is) (by k_is)
    have c_BadMoment := Lw.cl_mk (z := "BadMoment") KX G (by k_is) (by k_is) (by k_is) (by k_exc) (by k_is) (by k_is) (by k_is) (by k_is) (by k_is) (by k_is) (by k_is) (by k_is)
    have c_BadPlan := Lw.cl_mk (z := "BadPlan") KX G (by k_is) (by k_is) (by k_is) (by k_exc) (by k_is) (by k_is) (by k_is) (by k_is) (by k_is) (by k_is) (by k_is) (by k_is)
    have c_BadTelling := Lw.cl_mk (z := "BadTelling") KX G (by k_is) (by k_is) (by k_is) (by k_exc) (by k_is) (by k_is) (by k_is) (by k_is) (by k_is) (by k_is) (by k_is) (by k_is)
    have c_BadWorker := Lw.cl_mk (z := "BadWorker") KX G (by k_is) (by k_is) (by k_is) (by k_exc) (by k_is) (by k_is) (by k_is) (by k_is) (by k_is) (by k_is) (by k_is) (by k_is)
    have c_Down := Lw.cl_mk (z := "Down") KX G (by k_is) (by k_is) (by k_is) (by k_exc) (by k_is) (by k_is) (by k_is) (by k_is) (by k_is) (by k_is) (by k_is) (by k_is)
    have c_Fallen := Lw.cl_mk (z := "Fallen") KX G (by k_is) (by k_is) (by k_is) (by k_exc) (by k_is) (by k_is) (by k_is) (by k_is) (by k_is) (by k_is) (by k_is) (by k_is)
    have c_Lost := Lw.cl_mk (z := "Lost") KX G (by k_is) (by k_is) (by k_is) (by k_exc) (by k_is) (by k_is) (by k_is) (by k_is) (by k_is) (by k_is) (by k_is) (by k_is)
    have c_NoBook := Lw.cl_mk (z := "NoBook") KX G (by k_is) (by k_is) (by k_is) (by k_exc) (by k_is) (by k_is) (by k_is) (by k_is) (by k_is) (by k_is) (by k_is) (by k_is)
    have c_NoLending := Lw.cl_mk (z := "NoLending") KX G (by k_is) (by k_is) (by k_is) (by k_exc) (by k_is) (by k_is) (by k_is) (by k_is) (by k_is) (by k_is) (by k_is) (by k_is)
    have c_NoLine := Lw.cl_mk (z := "NoLine") KX G (by k_is) (by k_is) (by k_is) (by k_exc) (by k_is) (by k_is) (by k_is) (by k_is) (by k_is) (by k_is) (by k_is) (by k_is)
    have c_NoPiece := Lw.cl_mk (z := "NoPiece") KX G (by k_is) (by k_is) (by k_is) (by k_exc) (by k_is) (by k_is) (by k_is) (by k_is) (by k_is) (by k_is) (by k_is) (by k_is)
    have c_NoText := Lw.cl_mk (z := "NoText") KX G (by k_is) (by k_is) (by k_is) (by k_exc) (by k_is) (by k_is) (by k_is) (by k_is) (by k_is) (by k_is) (by k_is) (by k_is)
    have c_Otherwise := Lw.cl_mk (z := "Otherwise") KX G (by k_is) (by k_is) (by k_is) (by k_exc) (by k_is) (by k_is) (by k_is) (by k_is) (by k_is) (by k_is) (by k_is) (by k_is)
    have i_Sheet := Lw.inf_mk (c := "Sheet") KX G (by k_is) (by k_is) (by k_is) (by k_is) (by k_is)
    refine (show Lw.Tx _ mg → _ from fun T => ⟨T.d_law, fun base f fd Fn => Lw.ok_all T f fd Fn⟩) ?_
    have no_ValueError := PySem.W.mg_none_of (n := "ValueError") KX G (by k_is)
    refine' ⟨?_, ?_, ?_, ?_, ?_, ?_, ?_, ?_, ?_, ?_, ?_, ?_, ?_, ?_, ?_, ?_, ?_, ?_, ?_, ?_, ?_, ?_, ?_, ?_, ?_, ?_, ?_, ?_, ?_, ?_, ?_, ?_, ?_, ?_, ?_, ?_, ?_, ?_, ?_, ?_, ?_, ?_, ?_, ?_⟩
    · refine' PySem.W.mg_none_of KX G ?a
      (case a => k_is)
    · refine' PySem.W.mg_none_of KX G ?a
      (case a => k_is)
    · refine' PySem.W.mg_none_of KX G ?a
      (case a => k_is)
    · refine' PySem.W.mg_none_of KX G ?a
      (case a => k_is)
    · refine' PySem.W.mg_none_of KX G ?a
      (case a => k_is)
    · refine' PySem.W.mg_none_of KX G ?a
      (case a => k_is)
    · refine' PySem.W.mg_none_of KX G ?a
      (case a => k_is)
    · refine' PySem.W.mg_none_of KX G ?a
      (case a => k_is)
    · refine' PySem.W.mg_none_of KX G ?a
      (case a => k_is)
    · refine' PySem.W.mg_none_of KX G ?a
      (case a => k_is)
    · refine' PySem.W.mg_none_of KX G ?a
      (case a => k_is)
    · refine' PySem.W.mg_none_of KX G ?a
      (case a => k_is)
    · refine' PySem.W.mg_none_of KX G ?a
      (case a => k_is)
    · refine' PySem.W.mg_none_of KX G ?a
      (case a => k_is)
    · exact Lw.exf_of (Lw.tb_cons (Lw.row_mk c_BadPlace (Lw.rc_cons (Lw.cell_ref c_BadBound (by k_is) (.inr (by decide))) (Lw.rc_cons (Lw.cell_ref c_BadCut (by k_is) (.inr (by decide))) (Lw.rc_cons (Lw.cell_ref c_BadJoin (by k_is) (.inr (by decide))) (Lw.rc_cons (Lw.cell_ref c_BadLine (by k_is) (.inr (by decide))) (Lw.rc_cons (Lw.cell_ref c_BadMoment (by k_is) (.inr (by decide))) (Lw.rc_cons (Lw.cell_ref c_BadPlace (by k_is) (.inl rfl)) (Lw.rc_cons (Lw.cell_ref c_BadPlan (by k_is) (.inr (by decide))) (Lw.rc_cons (Lw.cell_ref c_BadTelling (by k_is) (.inr (by decide))) (Lw.rc_cons (Lw.cell_ref c_BadWork (by k_is) (.inr (by decide))) (Lw.rc_cons (Lw.cell_ref c_BadWorker (by k_is) (.inr (by decide))) (Lw.rc_cons (Lw.cell_ref c_Down (by k_is) (.inr (by decide))) (Lw.rc_cons (Lw.cell_ref c_Fallen (by k_is) (.inr (by decide))) (Lw.rc_cons (Lw.cell_ref c_LentError (by k_is) (.inl rfl)) (Lw.rc_cons (Lw.cell_ref c_Lost (by k_is) (.inr (by decide))) (Lw.rc_cons (Lw.cell_ref c_NoBook (by k_is) (.inr (by decide))) (Lw.rc_cons (Lw.cell_ref c_NoLending (by k_is) (.inr (by decide))) (Lw.rc_cons (Lw.cell_ref c_NoLine (by k_is) (.inr (by decide))) (Lw.rc_cons (Lw.cell_ref c_NoPiece (by k_is) (.inr (by decide))) (Lw.rc_cons (Lw.cell_ref c_NoText (by k_is) (.inr (by decide))) (Lw.rc_cons (Lw.cell_ref c_Otherwise (by k_is) (.inr (by decide))) (Lw.rc_cons (Lw.cell_ref c_Twice (by k_is) (.inr (by decide))) (Lw.rc_cons (Lw.cell_ty (T' := "ValueError") no_ValueError (by decide +kernel) (by decide) (by k_is) (by decide +kernel) (by k_is)) Lw.rc_nil))))))))))))))))))))))) (Lw.tb_cons (Lw.row_mk c_BadWork (Lw.rc_cons (Lw.cell_ref c_BadBound (by k_is) (.inr (by decide))) (Lw.rc_cons (Lw.cell_ref c_BadCut (by k_is) (.inr (by decide))) (Lw.rc_cons (Lw.cell_ref c_BadJoin (by k_is) (.inr (by decide))) (Lw.rc_cons (Lw.cell_ref c_BadLine (by k_is) (.inr (by decide))) (Lw.rc_cons (Lw.cell_ref c_BadMoment (by k_is) (.inr (by decide))) (Lw.rc_cons (Lw.cell_ref c_BadPlace (by k_is) (.inr (by decide))) (Lw.rc_cons (Lw.cell_ref c_BadPlan (by k_is) (.inr (by decide))) (Lw.rc_cons (Lw.cell_ref c_BadTelling (by k_is) (.inr (by decide))) (Lw.rc_cons (Lw.cell_ref c_BadWork (by k_is) (.inl rfl)) (Lw.rc_cons (Lw.cell_ref c_BadWorker (by k_is) (.inr (by decide))) (Lw.rc_cons (Lw.cell_ref c_Down (by k_is) (.inr (by decide))) (Lw.rc_cons (Lw.cell_ref c_Fallen (by k_is) (.inr (by decide))) (Lw.rc_cons (Lw.cell_ref c_LentError (by k_is) (.inl rfl)) (Lw.rc_cons (Lw.cell_ref c_Lost (by k_is) (.inr (by decide))) (Lw.rc_cons (Lw.cell_ref c_NoBook (by k_is) (.inr (by decide))) (Lw.rc_cons (Lw.cell_ref c_NoLending (by k_is) (.inr (by decide))) (Lw.rc_cons (Lw.cell_ref c_NoLine (by k_is) (.inr (by decide))) (Lw.rc_cons (Lw.cell_ref c_NoPiece (by k_is) (.inr (by decide))) (Lw.rc_cons (Lw.cell_ref c_NoText (by k_is) (.inr (by decide))) (Lw.rc_cons (Lw.cell_ref c_Otherwise (by k_is) (.inr (by decide))) (Lw.rc_cons (Lw.cell_ref c_Twice (by k_is) (.inr (by decide))) (Lw.rc_cons (Lw.cell_ty (T' := "ValueError") no_ValueError (by decide +kernel) (by decide) (by k_is) (by decide +kernel) (by k_is)) Lw.rc_nil))))))))))))))))))))))) (Lw.tb_cons (Lw.row_mk c_Twice (Lw.rc_cons (Lw.cell_ref c_BadBound (by k_is) (.inr (by decide))) (Lw.rc_cons (Lw.cell_ref c_BadCut (by k_is) (.inr (by decide))) (Lw.rc_cons (Lw.cell_ref c_BadJoin (by k_is) (.inr (by decide))) (Lw.rc_cons (Lw.cell_ref c_BadLine (by k_is) (.inr (by decide))) (Lw.rc_cons (Lw.cell_ref c_BadMoment (by k_is) (.inr (by decide))) (Lw.rc_cons (Lw.cell_ref c_BadPlace (by k_is) (.inr (by decide))) (Lw.rc_cons (Lw.cell_ref c_BadPlan (by k_is) (.inr (by decide))) (Lw.rc_cons (Lw.cell_ref c_BadTelling (by k_is) (.inr (by decide))) (Lw.rc_cons (Lw.cell_ref c_BadWork (by k_is) (.inr (by decide))) (Lw.rc_cons (Lw.cell_ref c_BadWorker (by k_is) (.inr (by decide))) (Lw.rc_cons (Lw.cell_ref c_Down (by k_is) (.inr (by decide))) (Lw.rc_cons (Lw.cell_ref c_Fallen (by k_is) (.inr (by decide))) (Lw.rc_cons (Lw.cell_ref c_LentError (by k_is) (.inl rfl)) (Lw.rc_cons (Lw.cell_ref c_Lost (by k_is) (.inr (by decide))) (Lw.rc_cons (Lw.cell_ref c_NoBook (by k_is) (.inr (by decide))) (Lw.rc_cons (Lw.cell_ref c_NoLending (by k_is) (.inr (by decide))) (Lw.rc_cons (Lw.cell_ref c_NoLine (by k_is) (.inr (by decide))) (Lw.rc_cons (Lw.cell_ref c_NoPiece (by k_is) (.inr (by decide))) (Lw.rc_cons (Lw.cell_ref c_NoText (by k_is) (.inr (by decide))) (Lw.rc_cons (Lw.cell_ref c_Otherwise (by k_is) (.inr (by decide))) (Lw.rc_cons (Lw.cell_ref c_Twice (by k_is) (.inl rfl)) (Lw.rc_cons (Lw.cell_ty (T' := "ValueError") no_ValueError (by decide +kernel) (by decide) (by k_is) (by decide +kernel) (by k_is)) Lw.rc_nil))))))))))))))))))))))) Lw.tb_nil)))
    · exact Lw.atf_of (Lw.tf_cons (Lw.rf_mk i_Sheet (Lw.nf_cons (by k_is) (Lw.nf_cons (by k_is) (Lw.nf_cons (by k_is) Lw.nf_nil)))) Lw.tf_nil)
    · exact Lw.eqf_mk i_Sheet (by k_is) (by k_is)
    · exact ⟨_, c_BadWork⟩
    · exact ⟨_, c_BadPlace⟩
    · exact ⟨_, c_Twice⟩
    · exact ⟨_, c_LentError⟩
    · refine' Lw.dfn_mk (fun _ _ _ _ _ _ us hl => match us, hl with | [_], _ => rfl) KX G ?a ?l ?c ?k
      (case a => k_is)
      (case l => k_is)
      (case c => k_is)
      (case k => k_is)
    · refine' Lw.dfn_mk (fun _ _ _ _ _ _ us hl => match us, hl with | [_, _], _ => rfl) KX G ?a ?l ?c ?k
      (case a => k_is)
      (case l => k_is)
      (case c => k_is)
      (case k => k_is)
    · refine' Lw.dfn_mk (fun _ _ _ _ _ _ us hl => match us, hl with | [_], _ => rfl) KX G ?a ?l ?c ?k
      (case a => k_is)
      (case l => k_is)
      (case c => k_is)
      (case k => k_is)
    · refine' Lw.dfn_mk (fun _ _ _ _ _ _ us hl => match us, hl with | [_, _, _], _ => rfl) KX G ?a ?l ?c ?k
      (case a => k_is)
      (case l => k_is)
      (case c => k_is)
      (case k => k_is)
    · refine' Lw.dfn_mk (fun _ _ _ _ _ _ us hl => match us, hl with | [_, _], _ => rfl) KX G ?a ?l ?c ?k
      (case a => k_is)
      (case l => k_is)
      (case c => k_is)
      (case k => k_is)
    · refine' Lw.dfn_mk (fun _ _ _ _ _ _ us hl => match us, hl with | [_], _ => rfl) KX G ?a ?l ?c ?k
      (case a => k_is)
      (case l => k_is)
      (case c => k_is)
      (case k => k_is)
    · refine' Lw.dfn_mk (fun _ _ _ _ _ _ us hl => match us, hl with | [_], _ => rfl) KX G ?a ?l ?c ?k
      (case a => k_is)
      (case l => k_is)
      (case c => k_is)
      (case k => k_is)
    · refine' Lw.dfn_mk (fun _ _ _ _ _ _ us hl => match us, hl with | [_], _ => rfl) KX G ?a ?l ?c ?k
      (case a => k_is)
      (case l => k_is)
      (case c => k_is)
      (case k => k_is)
    · refine' Lw.dfni_mk (fun _ _ _ _ _ _ us hl => match us, hl with | [_, _], _ => rfl) i_Sheet ?m ?kc ?a ?fn ?l ?c ?k
      (case m => k_is)
      (case kc => k_is)
      (case a => k_is)
      (case fn => k_is)
      (case l => k_is)
      (case c => k_is)
      (case k => k_is)
    · refine' Lw.dfn_mk (fun _ _ _ _ _ _ us hl => match us, hl with | [_], _ => rfl) KX G ?a ?l ?c ?k
      (case a => k_is)
      (case l => k_is)
      (case c => k_is)
      (case k => k_is)
    · refine' Lw.dfn_mk (fun _ _ _ _ _ _ us hl => match us, hl with | [_], _ => rfl) KX G ?a ?l ?c ?k
      (case a => k_is)
      (case l => k_is)
      (case c => k_is)
      (case k => k_is)
    · refine' Lw.dfn_mk (fun _ _ _ _ _ _ us hl => match us, hl with | [_, _], _ => rfl) KX G ?a ?l ?c ?k
      (case a => k_is)
      (case l => k_is)
      (case c => k_is)
      (case k => k_is)
    · refine' Lw.dfn_mk (fun _ _ _ _ _ _ us hl => match us, hl with | [_, _], _ => rfl) KX G ?a ?l ?c ?k
      (case a => k_is)
      (case l => k_is)
      (case c => k_is)
      (case k => k_is)
    · refine' Lw.dfn_mk (fun _ _ _ _ _ _ us hl => match us, hl with | [_, _], _ => rfl) KX G ?a ?l ?c ?k
      (case a => k_is)
      (case l => k_is)
      (case c => k_is)
      (case k => k_is)
    · refine' Lw.dfnm_mk (fun _ _ _ _ _ _ us hl => match us, hl with | [_, _, _], _ => rfl) i_Sheet ?a ?fn ?l ?c ?k
      (case a => k_is)
      (case fn => k_is)
      (case l => k_is)
      (case c => k_is)
      (case k => k_is)
    · refine' Lw.dfnm_mk (fun _ _ _ _ _ _ us hl => match us, hl with | [_], _ => rfl) i_Sheet ?a ?fn ?l ?c ?k
      (case a => k_is)
      (case fn => k_is)
      (case l => k_is)
      (case c => k_is)
      (case k => k_is)
    · refine' Lw.dfnm_mk (fun _ _ _ _ _ _ us hl => match us, hl with | [_], _ => rfl) i_Sheet ?a ?fn ?l ?c ?k
      (case a => k_is)
      (case fn => k_is)
      (case l => k_is)
      (case c => k_is)
      (case k => k_is)
    · refine' Lw.dfn_mk (fun _ _ _ _ _ _ us hl => match us, hl with | [_], _ => rfl) KX G ?a ?l ?c ?k
      (case a => k_is)
      (case l => k_is)
      (case c => k_is)
      (case k => k_is)
    · refine' Lw.dfnm_mk (fun _ _ _ _ _ _ us hl => match us, hl with | [_, _], _ => rfl) i_Sheet ?a ?fn ?l ?c ?k
      (case a => k_is)
      (case fn => k_is)
      (case l => k_is)
      (case c => k_is)
      (case k => k_is)
    · refine' Lw.dfn_mk (fun _ _ _ _ _ _ us hl => match us, hl with | [_, _], _ => rfl) KX G ?a ?l ?c ?k
      (case a => k_is)
      (case l => k_is)
      (case c => k_is)
      (case k => k_is)
    · refine' Lw.dfn_mk (fun _ _ _ _ _ _ us hl => match us, hl with | [_, _], _ => rfl) KX G ?a ?l ?c ?k
      (case a => k_is)
      (case l => k_is)
      (case c => k_is)
      (case k => k_is)
    · refine' Lw.dfn_mk (fun _ _ _ _ _ _ us hl => match us, hl with | [_, _, _], _ => rfl) KX G ?a ?l ?c ?k
      (case a => k_is)
      (case l => k_is)
      (case c => k_is)
      (case k => k_is)
    · refine' Lw.dfn_mk (fun _ _ _ _ _ _ us hl => match us, hl with | [_], _ => rfl) KX G ?a ?l ?c ?k
      (case a => k_is)
      (case l => k_is)
      (case c => k_is)
      (case k => k_is)
#print axioms PySem.Challenge.cw_lentwork_k12_sheets_refused_holds

