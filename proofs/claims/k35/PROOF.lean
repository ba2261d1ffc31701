import PyProof.Rows.All
import Wide.All
import OpenK.AllK
import Wide.FinOn
import HandS.ForMost
import HandS.ForExc
import HandS.Wide
import HandS.CallSlots
import HandS.Comp
import HandS.TryOnly
import HandS.IsInst
import HandS.TupAny
import HandS.Zip
import HandS.TupLe
import PyProof.NeKinds
import HandS.ExcOwn
import HandS.ExcCtx
import KE.SortData
import HandS.EndBits
import HandS.RaiseMore
import HandS.Text
import HandS.Conv
import HandS.ExcIs
import HandS.TryMany
import KE.GoesMore
import PyProof.Draws
import KE.GoesZip
import KE.GoesEnum
import HandS.SortInts
import HandS.SetFor
import HandS.Deep
import HandS.HotCalls
import HandS.StrMore
import HandS.Iter
import HandS.Style
import PyProof.Rows.StrJoinMade
import PyProof.StrLawsJoin
import KE.KIntText
import PyProof.Rows.StrIntSpec
import PySem.Challenge.RW_lentwork_k35_books_read
set_option Elab.async false
set_option linter.all false
set_option maxRecDepth 100000
set_option maxHeartbeats 4000000
set_option maxHeartbeats 1000000
/-! SimA: plain data D, plain heaps, plain computations M, and what it means that an expression or a statement of the text
    computes one of them (DE, DT, DA, DS). Over the hand layer's judgements. -/
namespace Lw
open PySem L2
abbrev Fg := PySem.W.Frag
/-- plain data: tuples and lists that are never written are values -/
inductive D where
  | non | bl (b : Bool) | int (i : Int) | str (x : Str)
  | ref (n : Nat) | exn (c : Str) (a : Addr) | emp | tup (xs : List D) | lst (xs : List D)
mutual
def Rep (K : Fg) (F : Hp) (m : List Addr) : D → V → Prop
  | .non, v => v = .non
  | .bl b, v => v = .bl b
  | .int i, v => v = .int i
  | .str x, v => v = .str x
  | .ref n, v => ∃ a, m[n]? = some a ∧ v = .ref a
  | .exn _ a, v => v = .ref a
  | .emp, v => ∃ a, F a = some (.dK []) ∧ v = .ref a
  | .tup xs, v => ∃ a vs, v = .ref a ∧ SqT K F a vs ∧ RepL K F m xs vs
  | .lst xs, v => ∃ a vs, v = .ref a ∧ SqL K F a vs ∧ RepL K F m xs vs
def RepL (K : Fg) (F : Hp) (m : List Addr) : List D → List V → Prop
  | [], vs => vs = []
  | d :: ds, vs => ∃ v r, vs = v :: r ∧ Rep K F m d v ∧ RepL K F m ds r
end
structure Ext (F : Hp) (m : List Addr) (F' : Hp) (m' : List Addr) : Prop where
  sub : ∀ a o, F a = some o → F' a = some o
  pre : ∀ (i : Nat) a, m[i]? = some a → m'[i]? = some a
section
variable {K : Fg} {F F' F2 H : Hp} {m m' m2 : List Addr}
theorem Ext.refl : Ext F m F m := ⟨fun _ _ h => h, fun _ _ h => h⟩
theorem Ext.trans (a : Ext F m F' m') (b : Ext F' m' F2 m2) : Ext F m F2 m2 := ⟨fun x o h => b.sub x o (a.sub x o h), fun i x h => b.pre i x (a.pre i x h)⟩
theorem Rd.up {a : Addr} {u : HO} (s : ∀ a o, F a = some o → H a = some o) (h : Rd F a u) : Rd H a u := by
  rcases h with h | ⟨o, h⟩
  · exact .inl (s _ _ h)
  · exact .inr ⟨o, s _ _ h⟩
theorem SqT.up {a : Addr} {xs : List V} (s : ∀ a o, F a = some o → H a = some o) (h : SqT K F a xs) : SqT K H a xs := by
  rcases h with h | h
  · exact .inl (Rd.up s h)
  · exact .inr h
theorem SqL.up {a : Addr} {xs : List V} (s : ∀ a o, F a = some o → H a = some o) (h : SqL K F a xs) : SqL K H a xs := by
  rcases h with h | h
  · exact .inl (Rd.up s h)
  · exact .inr h
mutual
theorem Rep.ext (e : Ext F m F' m') : ∀ (d : D) (v : V), Rep K F m d v → Rep K F' m' d v
  | .non, _, h => h
  | .bl _, _, h => h
  | .int _, _, h => h
  | .str _, _, h => h
  | .ref n, v, h => by
    unfold Rep at h ⊢
    obtain ⟨a, q, h⟩ := h
    exact ⟨a, e.pre _ _ q, h⟩
  | .exn _ _, _, h => h
  | .emp, v, h => by
    unfold Rep at h ⊢
    obtain ⟨a, q, h⟩ := h
    exact ⟨a, e.sub _ _ q, h⟩
  | .tup xs, v, h => by
    unfold Rep at h ⊢
    obtain ⟨a, vs, h1, h2, h3⟩ := h
    exact ⟨a, vs, h1, SqT.up e.sub h2, RepL.ext e xs vs h3⟩
  | .lst xs, v, h => by
    unfold Rep at h ⊢
    obtain ⟨a, vs, h1, h2, h3⟩ := h
    exact ⟨a, vs, h1, SqL.up e.sub h2, RepL.ext e xs vs h3⟩
theorem RepL.ext (e : Ext F m F' m') : ∀ (ds : List D) (vs : List V), RepL K F m ds vs → RepL K F' m' ds vs
  | [], _, h => h
  | d :: ds, vs, h => by
    unfold RepL at h ⊢
    obtain ⟨v, r, h1, h2, h3⟩ := h
    exact ⟨v, r, h1, Rep.ext e d v h2, RepL.ext e ds r h3⟩
end
theorem RepL.length : ∀ {ds : List D} {vs : List V}, RepL K F m ds vs → vs.length = ds.length
  | [], vs, h => by
    unfold RepL at h
    rw [h]
    rfl
  | d :: ds, vs, h => by
    unfold RepL at h
    obtain ⟨v, r, h1, h2, h3⟩ := h
    rw [h1, List.length_cons, List.length_cons, RepL.length h3]
theorem RepL.get : ∀ {ds : List D} {vs : List V} {i : Nat} {d : D}, RepL K F m ds vs → ds[i]? = some d → ∃ v, vs[i]? = some v ∧ Rep K F m d v
  | [], _, _, _, _, e => by simp at e
  | d :: ds, vs, 0, x, h, e => by
    unfold RepL at h
    obtain ⟨v, r, h1, h2, h3⟩ := h
    simp at e
    subst e
    exact ⟨v, by rw [h1]; rfl, h2⟩
  | d :: ds, vs, i + 1, x, h, e => by
    unfold RepL at h
    obtain ⟨v, r, h1, h2, h3⟩ := h
    obtain ⟨u, q1, q2⟩ := RepL.get (i := i) (d := x) h3 (by simpa using e)
    exact ⟨u, by rw [h1]; simpa using q1, q2⟩
theorem RepL.nil : RepL K F m [] [] := by
  unfold RepL
  rfl
theorem RepL.cons {d : D} {v : V} {ds : List D} {vs : List V} (h : Rep K F m d v) (t : RepL K F m ds vs) : RepL K F m (d :: ds) (v :: vs) := by
  unfold RepL
  exact ⟨v, vs, rfl, h, t⟩
theorem RepL.append : ∀ {ds es : List D} {vs us : List V}, RepL K F m ds vs → RepL K F m es us → RepL K F m (ds ++ es) (vs ++ us)
  | [], es, vs, us, h, t => by
    unfold RepL at h
    rw [h]
    exact t
  | d :: ds, es, vs, us, h, t => by
    unfold RepL at h
    obtain ⟨v, r, h1, h2, h3⟩ := h
    rw [h1]
    exact RepL.cons h2 (RepL.append h3 t)
end
/-! ### plain heaps -/
inductive Cell where
  | lst (xs : List D) | dk (kvs : List (Key × D)) | ins (c : Str) (fs : List (Str × D)) | dead | dkL (kvs : List (Key × D))
/-- it may be written -/
def trk : Cell → Bool
  | .dead => false
  | .dkL _ => false
  | _ => true
abbrev AH := List Cell
/-- what a def was called with: the objects that stand outside of the plain heap, and the plain heap's places -/
structure Fm where
  H0 : Hp
  F0 : Hp
  m0 : List Addr
def RepK (K : Fg) (F : Hp) (m : List Addr) {κ : Type} : List (κ × D) → List (κ × V) → Prop := Paired fun p q => p.1 = q.1 ∧ Rep K F m p.2 q.2
def CellOk (K : Fg) (mg : Str → Option Value) (F : Hp) (m : List Addr) (H : Hp) (a : Addr) : Cell → Prop
  | .dead => True
  | .dkL kvs => ∃ o vs, F a = some (.frz o (.dK vs)) ∧ RepK K F m kvs vs
  | .lst xs => F a = none ∧ ∃ vs, H a = some (.lst vs) ∧ RepL K F m xs vs
  | .dk kvs => F a = none ∧ ∃ vs, H a = some (.dK vs) ∧ RepK K F m kvs vs
  | .ins c fs => F a = none ∧ ∃ C dx vs, mg c = some (.ref C) ∧ H a = some (.ins C dx vs) ∧ RepK K F m fs vs
structure Sim (K : Fg) (mg : Str → Option Value) (fr : Fm) (F : Hp) (m : List Addr) (ah : AH) (H : Hp) : Prop where
  sub : ∀ a o, F a = some o → H a = some o
  len : m.length = ah.length
  nod : m.Nodup
  cells : ∀ (i : Nat) c, ah[i]? = some c → ∃ a, m[i]? = some a ∧ CellOk K mg F m H a c
  frame : ∀ a o, fr.H0 a = some o → a ∉ fr.m0 → H a = some o
  young : ∀ a, a ∈ m → a ∉ fr.m0 → fr.H0 a = none
  pre : ∀ (i : Nat) a, fr.m0[i]? = some a → m[i]? = some a
  there : ∀ a, a ∈ m → ∃ o, H a = some o
  old : ∀ a o, F a = some o → fr.F0 a = some o ∨ fr.H0 a = none ∨ a ∈ fr.m0
section
variable {K : Fg} {mg : Str → Option Value} {fr : Fm} {F F' H H' : Hp} {m m' : List Addr} {ah : AH}
theorem Paired.imp {α β : Type} {R S : α → β → Prop} (h : ∀ a b, R a b → S a b) : ∀ {xs : List α} {ys : List β}, Paired R xs ys → Paired S xs ys
  | _, _, .nil => .nil
  | _, _, .cons r t => .cons (h _ _ r) (Paired.imp h t)
theorem RepK.ext {κ : Type} {xs : List (κ × D)} {ys : List (κ × V)} (e : Ext F m F' m') (h : RepK K F m xs ys) : RepK K F' m' xs ys :=
  Paired.imp (fun _ _ r => ⟨r.1, Rep.ext e _ _ r.2⟩) h
theorem CellOk.ext {a : Addr} : ∀ {c : Cell}, CellOk K mg F m H a c → Ext F m F' m' → (trk c = true → F' a = none) → (trk c = true → H' a = H a) → CellOk K mg F' m' H' a c
  | .dead, h, _, _, _ => trivial
  | .dkL kvs, ⟨o, vs, h1, h2⟩, e, _, _ => ⟨o, vs, e.sub _ _ h1, RepK.ext e h2⟩
  | .lst xs, ⟨f, vs, h1, h2⟩, e, n, q => ⟨n rfl, vs, by rw [q rfl]; exact h1, RepL.ext e _ _ h2⟩
  | .dk kvs, ⟨f, vs, h1, h2⟩, e, n, q => ⟨n rfl, vs, by rw [q rfl]; exact h1, RepK.ext e h2⟩
  | .ins c fs, ⟨f, C, dx, vs, h0, h1, h2⟩, e, n, q => ⟨n rfl, C, dx, vs, h0, by rw [q rfl]; exact h1, RepK.ext e h2⟩
theorem CellOk.free {a : Addr} : ∀ {c : Cell}, CellOk K mg F m H a c → trk c = true → F a = none
  | .dead, _, n => nomatch n
  | .dkL _, _, n => nomatch n
  | .lst _, h, _ => h.1
  | .dk _, h, _ => h.1
  | .ins _ _, h, _ => h.1
theorem Sim.mem0 (S : Sim K mg fr F m ah H) {a : Addr} (h : a ∈ fr.m0) : a ∈ m := by
  obtain ⟨i, hi⟩ := List.mem_iff_getElem?.mp h
  exact List.mem_of_getElem? (S.pre i a hi)
theorem Sim.fresh0 (S : Sim K mg fr F m ah H) {p : Addr} (hp : H p = none) : fr.H0 p = none := by
  cases q : fr.H0 p with
  | none => rfl
  | some o =>
    by_cases z : p ∈ fr.m0
    · obtain ⟨u, hu⟩ := S.there p (S.mem0 z)
      rw [hp] at hu
      cases hu
    · rw [S.frame p o q z] at hp
      cases hp
/-- a new thing that is never written is laid at p -/
theorem Sim.frozen {p : Addr} {o : HO} (S : Sim K mg fr F m ah H) (hp : H p = none) : Sim K mg fr (upd F p o) m ah (upd H p o) ∧ Ext F m (upd F p o) m := by
  have Fp : F p = none := by
    cases q : F p with
    | none => rfl
    | some u =>
      rw [S.sub _ _ q] at hp
      cases hp
  have e : Ext F m (upd F p o) m := ⟨fun a u h => by rw [upd_ne (ne_of_none h Fp)]; exact h, fun _ _ h => h⟩
  have nm : ∀ a, a ∈ m → a ≠ p := fun a ha z => by
    obtain ⟨u, hu⟩ := S.there a ha
    rw [z, hp] at hu
    cases hu
  refine ⟨⟨fun a u h => ?_, S.len, S.nod, fun i c h => ?_, fun a u h n => ?_, S.young, S.pre, fun a ha => ?_, fun a u h => ?_⟩, e⟩
  · by_cases z : a = p
    · subst z
      rw [upd_same] at h
      cases h
      exact upd_same
    · rw [upd_ne z] at h ⊢
      exact S.sub _ _ h
  · obtain ⟨a, q, ok⟩ := S.cells i c h
    have ne := nm a (List.mem_of_getElem? q)
    exact ⟨a, q, ok.ext e (fun z => by rw [upd_ne ne]; exact ok.free z) fun _ => by rw [upd_ne ne]⟩
  · have q := S.frame a u h n
    rw [upd_ne (ne_of_none q hp)]
    exact q
  · rw [upd_ne (nm a ha)]
    exact S.there a ha
  · by_cases z : a = p
    · exact .inr (.inl (by rw [z]; exact S.fresh0 hp))
    · rw [upd_ne z] at h
      exact S.old a u h
end
/-! ### plain computations -/
inductive Res (α : Type) where
  | ok (a : α) (h : AH) | exc (x : Str) (h : AH) | stuck
def M (α : Type) := AH → Res α
def M.pure {α : Type} (a : α) : M α := fun h => .ok a h
def M.bind {α β : Type} (x : M α) (f : α → M β) : M β := fun h => match x h with
  | .ok a h' => f a h'
  | .exc e h' => .exc e h'
  | .stuck => .stuck
instance : Monad M where
  pure := M.pure
  bind := M.bind
def stuck {α : Type} : M α := fun _ => .stuck
def throwM {α : Type} (x : Str) : M α := fun h => .exc x h
theorem bind_def {α β : Type} (x : M α) (f : α → M β) (h : AH) : (x >>= f) h = (match x h with
  | .ok a h' => f a h'
  | .exc e h' => .exc e h'
  | .stuck => .stuck) := rfl
theorem M.bind_assoc {α β γ : Type} (x : M α) (f : α → M β) (g : β → M γ) : (x >>= f >>= g : M γ) = x >>= fun a => f a >>= g := by
  funext h
  show (match (match x h with | .ok a h' => f a h' | .exc e h' => .exc e h' | .stuck => .stuck : Res β) with | .ok a h' => g a h' | .exc e h' => .exc e h' | .stuck => .stuck) = _
  rw [bind_def]
  cases x h <;> rfl
instance : LawfulMonad M := LawfulMonad.mk' M
  (id_map := fun x => by
    funext h
    show (match x h with | .ok a h' => Res.ok (id a) h' | .exc e h' => .exc e h' | .stuck => .stuck) = x h
    cases x h <;> rfl)
  (pure_bind := fun _ _ => rfl)
  (bind_assoc := fun x f g => M.bind_assoc x f g)
/-! ### the slots -/
abbrev Env := List (Option D)
def EnvRep (K : Fg) (F : Hp) (m : List Addr) (env : Env) (σ : St) : Prop := env.length = σ.length ∧ ∀ (i : Nat) d, env[i]? = some (some d) → ∃ v, σ[i]? = some (some v) ∧ Rep K F m d v
/-- less is known -/
def EnvLe (a b : Env) : Prop := a.length = b.length ∧ ∀ (i : Nat) d, a[i]? = some (some d) → b[i]? = some (some d)
section
variable {K : Fg} {F F' : Hp} {m m' : List Addr} {env env' : Env} {σ : St}
theorem EnvRep.ext (e : Ext F m F' m') (h : EnvRep K F m env σ) : EnvRep K F' m' env σ := ⟨h.1, fun i d q => by
  obtain ⟨v, h1, h2⟩ := h.2 i d q
  exact ⟨v, h1, Rep.ext e _ _ h2⟩⟩
theorem EnvRep.le (h : EnvRep K F m env σ) (l : EnvLe env' env) : EnvRep K F m env' σ := ⟨l.1.trans h.1, fun i d q => h.2 i d (l.2 i d q)⟩
theorem EnvRep.set {i : Nat} {d : D} {v : V} (h : EnvRep K F m env σ) (r : Rep K F m d v) : EnvRep K F m (env.set i (some d)) (σ.set i (some v)) := by
  refine ⟨by simpa using h.1, fun j x q => ?_⟩
  by_cases hj : i = j
  · subst hj
    by_cases hl : i < env.length
    · rw [List.getElem?_set_self hl] at q
      cases q
      exact ⟨v, by rw [List.getElem?_set_self (by rw [← h.1]; exact hl)], r⟩
    · rw [List.getElem?_eq_none (by simpa using hl)] at q
      cases q
  · rw [List.getElem?_set_ne hj] at q
    obtain ⟨u, h1, h2⟩ := h.2 j x q
    exact ⟨u, by rw [List.getElem?_set_ne hj]; exact h1, h2⟩
theorem EnvLe.refl (e : Env) : EnvLe e e := ⟨rfl, fun _ _ h => h⟩
theorem EnvLe.nil : EnvLe [] [] := EnvLe.refl []
theorem EnvLe.keep {x : Option D} {a b : Env} (h : EnvLe a b) : EnvLe (x :: a) (x :: b) := ⟨by simp [h.1], fun i d q => by
  cases i with
  | zero => exact q
  | succ i => exact h.2 i d (by simpa using q)⟩
theorem EnvLe.drop {x : Option D} {a b : Env} (h : EnvLe a b) : EnvLe (none :: a) (x :: b) := ⟨by simp [h.1], fun i d q => by
  cases i with
  | zero => simp at q
  | succ i => exact h.2 i d (by simpa using q)⟩
theorem EnvLe.trans {a b c : Env} (h : EnvLe a b) (k : EnvLe b c) : EnvLe a c := ⟨h.1.trans k.1, fun i d q => k.2 i d (h.2 i d q)⟩
end
/-! ### what is wanted of a state: a reading made of a plain computation -/
/-- behind a computation's result -/
def TK {α β : Type} (K : Fg) (mg : Str → Option Value) (fr : Fm) (W : WX) (R : Hp → List Addr → α → β → Prop) (σ : St) (F : Hp) (m : List Addr) (r : Res α) (Q : β → Hp → Prop) : Prop :=
  match r with
  | .ok d ah => ∀ F' m' v H', Ext F m F' m' → Sim K mg fr F' m' ah H' → R F' m' d v → Q v H'
  | .exc x ah => ∀ F' m' C H', Ext F m F' m' → Sim K mg fr F' m' ah H' → mg x = some (.ref C) → W (.ref C) none σ H'
  | .stuck => False
/-- the reading -/
def TC {α β : Type} (K : Fg) (mg : Str → Option Value) (W : WX) (R : Hp → List Addr → α → β → Prop) (env : Env) (mc : M α) : St → Hp → (β → Hp → Prop) → Prop := fun σ H Q =>
  ∃ fr F m ah, Sim K mg fr F m ah H ∧ EnvRep K F m env σ ∧ TK K mg fr W R σ F m (mc ah) Q
abbrev RB : Hp → List Addr → Bool → Bool → Prop := fun _ _ a b => a = b
section
variable {K : Fg} {mg : Str → Option Value} {fr : Fm} {W : WX} {env : Env} {σ : St} {F F' H : Hp} {m m' : List Addr} {ah : AH} {α β γ δ : Type} {R : Hp → List Addr → α → β → Prop} {S : Hp → List Addr → γ → δ → Prop}
theorem TK.ext {r : Res α} {Q : β → Hp → Prop} (e : Ext F m F' m') (h : TK K mg fr W R σ F m r Q) : TK K mg fr W R σ F' m' r Q := by
  cases r with
  | ok d a => exact fun F2 m2 v H' e2 s r => h F2 m2 v H' (e.trans e2) s r
  | exc x a => exact fun F2 m2 C H' e2 s r => h F2 m2 C H' (e.trans e2) s r
  | stuck => exact h
/-- the first part runs, the rest is wanted behind it -/
theorem TK.step {ma : M α} {k : α → M γ} {Q : δ → Hp → Prop} (s : Sim K mg fr F m ah H) (er : EnvRep K F m env σ) (h : TK K mg fr W S σ F m ((ma >>= k) ah) Q) {P : β → Hp → Prop}
    (hP : ∀ F1 m1 ah1 d v H1, Ext F m F1 m1 → Sim K mg fr F1 m1 ah1 H1 → EnvRep K F1 m1 env σ → R F1 m1 d v → TK K mg fr W S σ F1 m1 (k d ah1) Q → P v H1) : TC K mg W R env ma σ H P := by
  refine ⟨fr, F, m, ah, s, er, ?_⟩
  rw [bind_def] at h
  cases hr : ma ah with
  | ok d a =>
    rw [hr] at h
    exact fun F' m' v H' e s' r => hP F' m' a d v H' e s' (er.ext e) r (TK.ext e h)
  | exc x a =>
    rw [hr] at h
    exact h
  | stuck =>
    rw [hr] at h
    exact h
end
/-! ### the judgements -/
section
variable (X : Cx) (W : WX) (env : Env)
abbrev DE (e : Expr) (mc : M D) : Prop := PE X e (TC X.K X.mg W (Rep X.K) env mc)
abbrev DT (e : Expr) (mc : M Bool) : Prop := PT X e (TC X.K X.mg W RB env mc)
abbrev DA (es : List Expr) (mc : M (List D)) : Prop := PA X es (TC X.K X.mg W (RepL X.K) env mc)
end
theorem PE.from {X : Cx} {e : Expr} {t t' : TE} (h : PE X e t) (i : ∀ σ H Q, t' σ H Q → t σ H Q) : PE X e t' := ⟨fun pins s σ H Q I q => h.run pins s σ H Q I (i σ H Q q)⟩
theorem PT.from {X : Cx} {e : Expr} {t t' : TT} (h : PT X e t) (i : ∀ σ H Q, t' σ H Q → t σ H Q) : PT X e t' := ⟨fun pins s σ H Q I q => h.run pins s σ H Q I (i σ H Q q)⟩
theorem PA.from {X : Cx} {e : List Expr} {t t' : TA} (h : PA X e t) (i : ∀ σ H Q, t' σ H Q → t σ H Q) : PA X e t' := ⟨fun pos pins s σ H Q I q => h.run pos pins s σ H Q I (i σ H Q q)⟩
theorem PSs.from {X : Cx} {e : List Stmt} {t t' : TS} (h : PSs X e t) (i : ∀ D σ H, t' D σ H → t D σ H) : PSs X e t' := ⟨fun pins s σ H D I q => h.run pins s σ H D I (i D σ H q)⟩
section
variable {X : Cx} {fr : Fm} {W : WX} {env : Env} {pos : Pos}
/-! ### names and constants -/
theorem de_int {i : Int} {j} : DE X W env (.Constant (.int i) j pos) (pure (.int i)) := PE.from pe_int fun σ H Q ⟨fr, F, m, ah, s, er, k⟩ => k F m _ H Ext.refl s (by unfold Rep; rfl)
theorem de_bl {b : Bool} {j} : DE X W env (.Constant (.bool b) j pos) (pure (.bl b)) := PE.from pe_bl fun σ H Q ⟨fr, F, m, ah, s, er, k⟩ => k F m _ H Ext.refl s (by unfold Rep; rfl)
theorem de_str {x : Str} {j} : DE X W env (.Constant (.str x) j pos) (pure (.str x)) := PE.from pe_str fun σ H Q ⟨fr, F, m, ah, s, er, k⟩ => k F m _ H Ext.refl s (by unfold Rep; rfl)
/-- the name in slot i -/
theorem de_var (i : Nat) {x : Str} {d : D} (he : env[i]? = some (some d) := by rfl) (hN : X.N[i]? = some x := by rfl) (hv : Vis X.env.scope x := by first | exact Or.inl rfl | exact Or.inr (Or.inl rfl) | exact Or.inr (Or.inr rfl)) (hd : (x == ("__debug__" : Str)) = false := by decide)
    (hcd : (x == ("__classdict__" : Str)) = false := by decide) : DE X W env (.Name x pos) (pure d) := PE.from (pv i hN hv hd hcd) fun σ H Q ⟨fr, F, m, ah, s, er, k⟩ => by
  obtain ⟨v, h1, h2⟩ := er.2 i d he
  exact ⟨v, h1, k F m _ H Ext.refl s h2⟩
/-! ### two-place operations -/
/-- a rule of values, read of data -/
def OpD (X : Cx) (r : R2) (op : D → D → M D) : Prop := ∀ (fr : Fm) (W : WX) (σ : St) (F : Hp) (m : List Addr) (ah : AH) (H : Hp) (d e : D) (x y : V) (Q : VK), Sim X.K X.mg fr F m ah H → Rep X.K F m d x → Rep X.K F m e y →
  TK X.K X.mg fr W (Rep X.K) σ F m (op d e ah) Q → r x y H Q
theorem tOp_from {r : R2} {op : D → D → M D} {ma mb : M D} (hr : OpD X r op) : ∀ σ H Q, TC X.K X.mg W (Rep X.K) env (do let x ← ma; let y ← mb; op x y) σ H Q →
    tOp r (TC X.K X.mg W (Rep X.K) env ma) (TC X.K X.mg W (Rep X.K) env mb) σ H Q := fun σ H Q ⟨fr, F, m, ah, s, er, k⟩ =>
  TK.step s er k fun F1 m1 ah1 d v H1 e1 s1 er1 r1 k1 => TK.step s1 er1 k1 fun F2 m2 ah2 d2 v2 H2 e2 s2 er2 r2 k2 =>
    hr fr W σ F2 m2 ah2 H2 d d2 v v2 Q s2 (Rep.ext e2 _ _ r1) r2 k2
theorem de_op {a b : Expr} {ma mb : M D} {op : Operator} {r : R2} {f : D → D → M D} (ho : OpR X (binaryOp op) r) (hr : OpD X r f) (ha : DE X W env a ma) (hb : DE X W env b mb) : DE X W env (.BinOp a op b pos) (do let x ← ma; let y ← mb; f x y) :=
  PE.from (pe_op ho ha hb) (tOp_from hr)
theorem de_cmp {a b : Expr} {ma mb : M D} {op : CmpOp} {r : R2} {f : D → D → M D} (ho : OpR X (compareOp op) r) (hr : OpD X r f) (ha : DE X W env a ma) (hb : DE X W env b mb) (hm : behindInMarks op b = false) :
    DE X W env (.Compare a [op] [b] pos) (do let x ← ma; let y ← mb; f x y) := PE.from (pe_cmpR ho ha hb hm) (tOp_from hr)
/-! ints -/
def int2 (f : Int → Int → D) : D → D → M D := fun x y => match x, y with
  | .int i, .int j => pure (f i j)
  | _, _ => stuck
theorem TK.stuck_of {α β : Type} {K : Fg} {mg : Str → Option Value} {R : Hp → List Addr → α → β → Prop} {σ : St} {F : Hp} {m : List Addr} {Q : β → Hp → Prop} (h : TK K mg fr W R σ F m (Res.stuck : Res α) Q) : False := h
theorem int2_ok {g : Int → Int → V} {f : Int → Int → D} (h : ∀ i j K F m, Rep K F m (f i j) (g i j)) : OpD X (rI0 g) (int2 f) := by
  intro fr W σ F m ah H d e x y Q s rx ry k
  cases d <;> try exact (TK.stuck_of k).elim
  cases e <;> try exact (TK.stuck_of k).elim
  rename_i i j
  unfold Rep at rx ry
  exact ⟨i, j, rx, ry, k F m _ H Ext.refl s (h i j _ _ _)⟩
end
end Lw
/-! SimB: statements. -/
namespace Lw
open PySem L2
/-- a block's end: on with the names' values t, a result, out of the loop, to the loop's next turn -/
inductive Out (τ β : Type) where
  | nx (t : τ) | ret (d : D) | bk (b : β) | ct (b : β)
def ores {τ' τ β : Type} (k : τ' → M (Out τ β)) : Res (Out τ' β) → Res (Out τ β)
  | .ok (.nx t) h' => k t h'
  | .ok (.ret d) h' => .ok (.ret d) h'
  | .ok (.bk b) h' => .ok (.bk b) h'
  | .ok (.ct b) h' => .ok (.ct b) h'
  | .exc e h' => .exc e h'
  | .stuck => .stuck
def obind {τ' τ β : Type} (x : M (Out τ' β)) (k : τ' → M (Out τ β)) : M (Out τ β) := fun h => ores k (x h)
section
end
/-- behind a loop's turn -/
def lres {τ β : Type} (k : τ → M (Out τ β)) : Res (Out τ τ) → Res (Out τ β)
  | .ok (.nx t) h' => k t h'
  | .ok (.ct t) h' => k t h'
  | .ok (.bk t) h' => .ok (.nx t) h'
  | .ok (.ret d) h' => .ok (.ret d) h'
  | .exc e h' => .exc e h'
  | .stuck => .stuck
def lbind {τ β : Type} (x : M (Out τ τ)) (k : τ → M (Out τ β)) : M (Out τ β) := fun h => lres k (x h)
/-- over items -/
def forM {τ β : Type} : List D → τ → (D → τ → M (Out τ τ)) → M (Out τ β)
  | [], t, _ => pure (.nx t)
  | x :: r, t, f => lbind (f x t) fun t' => forM r t' f
/-- a def's value -/
def dres {τ β : Type} : Res (Out τ β) → Res D
  | .ok (.nx _) h' => .ok .non h'
  | .ok (.ret d) h' => .ok d h'
  | .ok _ _ => .stuck
  | .exc e h' => .exc e h'
  | .stuck => .stuck
def defM {τ β : Type} (x : M (Out τ β)) : M D := fun h => dres (x h)
/-- behind a block's result -/
def TO {τ β : Type} (K : Fg) (mg : Str → Option Value) (fr : Fm) (W : WX) (ex : Env) (mk : τ → Env) (lp : β → Env) (F : Hp) (m : List Addr) (r : Res (Out τ β)) (Dn : Ends) : Prop :=
  match r with
  | .ok (.nx t) ah => ∀ F' m' σ' H', Ext F m F' m' → Sim K mg fr F' m' ah H' → EnvRep K F' m' (mk t) σ' → Dn.nx σ' H'
  | .ok (.ret d) ah => ∀ F' m' v H', Ext F m F' m' → Sim K mg fr F' m' ah H' → Rep K F' m' d v → Dn.rt v H'
  | .ok (.bk b) ah => ∀ F' m' σ' H', Ext F m F' m' → Sim K mg fr F' m' ah H' → EnvRep K F' m' (lp b) σ' → Dn.bk σ' H'
  | .ok (.ct b) ah => ∀ F' m' σ' H', Ext F m F' m' → Sim K mg fr F' m' ah H' → EnvRep K F' m' (lp b) σ' → Dn.ct σ' H'
  | .exc x ah => ∀ F' m' C σ' H', Ext F m F' m' → Sim K mg fr F' m' ah H' → EnvRep K F' m' ex σ' → mg x = some (.ref C) → W (.ref C) none σ' H'
  | .stuck => False
def TB {τ β : Type} (K : Fg) (mg : Str → Option Value) (W : WX) (ex env : Env) (mk : τ → Env) (lp : β → Env) (mc : M (Out τ β)) : TS := fun Dn σ H =>
  ∃ fr F m ah, Sim K mg fr F m ah H ∧ EnvRep K F m env σ ∧ TO K mg fr W ex mk lp F m (mc ah) Dn
abbrev DS {τ β : Type} (X : Cx) (W : WX) (ex env : Env) (mk : τ → Env) (lp : β → Env) (sts : List Stmt) (mc : M (Out τ β)) : Prop := PSs X sts (TB X.K X.mg W ex env mk lp mc)
theorem PT.ex {X : Cx} {α : Type} {e : Expr} {t : α → TT} (h : ∀ a, PT X e (t a)) : PT X e (fun σ H Q => ∃ a, t a σ H Q) :=
  ⟨fun pins s σ H Q I ⟨a, q⟩ => (h a).run pins s σ H Q I q⟩
theorem PSs.ex {X : Cx} {α : Type} {sts : List Stmt} {t : α → TS} (h : ∀ a, PSs X sts (t a)) : PSs X sts (fun D σ H => ∃ a, t a D σ H) :=
  ⟨fun pins s σ H D I ⟨a, q⟩ => (h a).run pins s σ H D I q⟩
section
variable {K : Fg} {mg : Str → Option Value} {fr : Fm} {W : WX} {ex env : Env} {σ : St} {F F' H : Hp} {m m' : List Addr} {ah : AH} {α α' τ τ' β γ : Type} {R : Hp → List Addr → α → γ → Prop} {mk : τ → Env} {mk' : τ' → Env} {lp : β → Env} {Dn : Ends}
theorem TO.ext {r : Res (Out τ β)} (e : Ext F m F' m') (h : TO K mg fr W ex mk lp F m r Dn) : TO K mg fr W ex mk lp F' m' r Dn := by
  cases r with
  | ok o a =>
    cases o with
    | nx t => exact fun F2 m2 v H' e2 s r => h F2 m2 v H' (e.trans e2) s r
    | ret t => exact fun F2 m2 v H' e2 s r => h F2 m2 v H' (e.trans e2) s r
    | bk t => exact fun F2 m2 v H' e2 s r => h F2 m2 v H' (e.trans e2) s r
    | ct t => exact fun F2 m2 v H' e2 s r => h F2 m2 v H' (e.trans e2) s r
  | exc x a => exact fun F2 m2 C σ' H' e2 s r => h F2 m2 C σ' H' (e.trans e2) s r
  | stuck => exact h
theorem TO.step {ma : M α} {k : α → M (Out τ β)} (s : Sim K mg fr F m ah H) (er : EnvRep K F m env σ) (hx : EnvLe ex env) (h : TO K mg fr W ex mk lp F m ((ma >>= k) ah) Dn) {P : γ → Hp → Prop}
    (hP : ∀ F1 m1 ah1 d v H1, Ext F m F1 m1 → Sim K mg fr F1 m1 ah1 H1 → EnvRep K F1 m1 env σ → R F1 m1 d v → TO K mg fr W ex mk lp F1 m1 (k d ah1) Dn → P v H1) : TC K mg W R env ma σ H P := by
  refine ⟨fr, F, m, ah, s, er, ?_⟩
  rw [bind_def] at h
  cases hr : ma ah with
  | ok d a =>
    rw [hr] at h
    exact fun F' m' v H' e s' r => hP F' m' a d v H' e s' (er.ext e) r (TO.ext e h)
  | exc x a =>
    rw [hr] at h
    exact fun F' m' C H' e s' q => h F' m' C σ H' e s' ((er.le hx).ext e) q
  | stuck =>
    rw [hr] at h
    exact h
/-- a block, then another -/
theorem TO.obind {ma : M (Out τ' β)} {k : τ' → M (Out τ β)} (h : TO K mg fr W ex mk lp F m (obind ma k ah) Dn) :
    TO K mg fr W ex mk' lp F m (ma ah) { Dn with nx := fun σ' H' => ∃ t, TB K mg W ex (mk' t) mk lp (k t) Dn σ' H' } := by
  have h : TO K mg fr W ex mk lp F m (ores k (ma ah)) Dn := h
  cases hr : ma ah with
  | ok o a =>
    rw [hr] at h
    cases o with
    | nx t => exact fun F' m' σ' H' e s r => ⟨t, fr, F', m', a, s, r, TO.ext e h⟩
    | ret t => exact h
    | bk t => exact h
    | ct t => exact h
  | exc x a =>
    rw [hr] at h
    exact h
  | stuck =>
    rw [hr] at h
    exact h
end
section
variable {X : Cx} {fr : Fm} {W : WX} {ex env : Env} {pos : Pos} {τ τ' β : Type} {mk : τ → Env} {mk' : τ' → Env} {lp : β → Env} {rest : List Stmt}
theorem ds_nil {t : τ} (h : EnvLe (mk t) env) : DS X W ex env mk lp [] (pure (.nx t)) := PSs.from pss_nil fun Dn σ H ⟨fr, F, m, ah, s, er, k⟩ => k F m σ H Ext.refl s (er.le h)
theorem ds_ret {e : Expr} {me : M D} (he : DE X W env e me) (hx : EnvLe ex env) : DS X W ex env mk lp (.Return (some e) pos :: rest) (do let d ← me; pure (.ret d)) :=
  PSs.from (pss_cons (ps_ret he) pss_never) fun Dn σ H ⟨fr, F, m, ah, s, er, k⟩ => TO.step s er hx k fun F1 m1 ah1 d v H1 e1 s1 er1 r1 k1 => k1 F1 m1 v H1 Ext.refl s1 r1
theorem ds_expr {e : Expr} {me : M D} {mc : M (Out τ β)} (he : DE X W env e me) (hx : EnvLe ex env) (hr : DS X W ex env mk lp rest mc) (hs : swapsWith e none pos.line X.env = pure false := by rfl) :
    DS X W ex env mk lp (.Expr e pos :: rest) (do let _ ← me; mc) :=
  PSs.from (pss_cons (ps_expr he hs) hr) fun Dn σ H ⟨fr, F, m, ah, s, er, k⟩ => TO.step s er hx k fun F1 m1 ah1 d v H1 e1 s1 er1 r1 k1 => ⟨fr, F1, m1, ah1, s1, er1, k1⟩
theorem ds_set (i : Nat) {x : Str} {pos' : Pos} {e : Expr} {me : M D} {k : D → M (Out τ β)} (hN : X.N.Nodup) (env' : D → Env) (he : DE X W env e me) (hx : EnvLe ex env) (hr : ∀ d, DS X W ex (env' d) mk lp rest (k d)) (hv : ∀ d, env.set i (some d) = env' d := by intro _; rfl)
    (hi : X.N[i]? = some x := by rfl) (hl : Loc X.env.scope x := by first | exact Or.inl rfl | exact Or.inr rfl) (hs : swapsWith e (some (.Name x pos')) pos.line X.env = pure false := by rfl) (hf : X.fn x = true ∨ X.env.scope.names.lookup x = some .local := by first | exact .inl rfl | exact .inr rfl) :
    DS X W ex env mk lp (.Assign [.Name x pos'] e pos :: rest) (me >>= k) :=
  PSs.from (pss_cons (ps_set hN hi hl he hs hf) (PSs.ex hr)) fun Dn σ H ⟨fr, F, m, ah, s, er, q⟩ => TO.step s er hx q fun F1 m1 ah1 d v H1 e1 s1 er1 r1 k1 => ⟨d, fr, F1, m1, ah1, s1, by rw [← hv d]; exact er1.set r1, k1⟩
theorem ds_if {c : Expr} {a b : List Stmt} {mc : M Bool} {ma mb : M (Out τ' β)} {k : τ' → M (Out τ β)} (hc : DT X W env c mc) (ha : DS X W ex env mk' lp a ma) (hb : DS X W ex env mk' lp b mb)
    (hx : EnvLe ex env) (hr : ∀ t, DS X W ex (mk' t) mk lp rest (k t)) : DS X W ex env mk lp (.If c a b pos :: rest) (do let t ← mc; obind (if t = true then ma else mb) k) :=
  PSs.from (pss_cons (ps_if hc ha hb) (PSs.ex hr)) fun Dn σ H ⟨fr, F, m, ah, s, er, q⟩ => TO.step s er hx q fun F1 m1 ah1 d v H1 e1 s1 er1 r1 k1 => by
    have r1 : d = v := r1
    subst r1
    cases d with
    | true => exact ⟨fr, F1, m1, ah1, s1, er1, TO.obind k1⟩
    | false => exact ⟨fr, F1, m1, ah1, s1, er1, TO.obind k1⟩
/-- a branch that does not fall through, and no other one -/
theorem ds_ifr {c : Expr} {a : List Stmt} {mc : M Bool} {ma : M (Out τ β)} {mr : M (Out τ β)} (mk0 : Empty → Env) {maE : M (Out Empty β)} (hc : DT X W env c mc) (ha : DS X W ex env mk0 lp a maE)
    (hx : EnvLe ex env) (hr : DS X W ex env mk lp rest mr) (hE : obind maE (fun e => e.elim) = ma) : DS X W ex env mk lp (.If c a [] pos :: rest) (do let t ← mc; if t = true then ma else mr) :=
  PSs.from (pss_cons (ps_if hc ha (ds_nil (X := X) (W := W) (ex := ex) (lp := lp) (mk := fun _ : Unit => env) (t := ()) (EnvLe.refl env))) hr) fun Dn σ H ⟨fr, F, m, ah, s, er, q⟩ => TO.step s er hx q fun F1 m1 ah1 d v H1 e1 s1 er1 r1 k1 => by
    have r1 : d = v := r1
    subst r1
    cases d with
    | true =>
      subst hE
      refine ⟨fr, F1, m1, ah1, s1, er1, ?_⟩
      have z := TO.obind (mk' := mk0) k1
      have z2 : TO X.K X.mg fr W ex mk0 lp F1 m1 (maE ah1) { Dn with nx := fun σ' H' => ∃ t : Empty, TB X.K X.mg W ex (mk0 t) mk lp t.elim Dn σ' H' } := z
      cases hr : maE ah1 with
      | ok o a =>
        rw [hr] at z2
        cases o with
        | nx t => exact t.elim
        | ret t => exact z2
        | bk t => exact z2
        | ct t => exact z2
      | exc x a =>
        rw [hr] at z2
        exact z2
      | stuck =>
        rw [hr] at z2
        exact z2
    | false => exact ⟨fr, F1, m1, ah1, s1, er1, fun F' m' σ' H' e' s' r' => ⟨fr, F', m', ah1, s', r', TO.ext e' k1⟩⟩
end
/-! ### targets -/
/-- what a target takes out of an item, and how the slots stand then -/
def gD {π : Type} (K : Fg) (mg : Str → Option Value) (sl : List Nat) (unp : D → Option π) (sets : π → Env → Env) : L2.TG := fun v σ H Q => ∃ fr F m ah env d p, Sim K mg fr F m ah H ∧ EnvRep K F m env σ ∧ Rep K F m d v ∧ unp d = some p ∧
    ∀ σ', EnvRep K F m (sets p env) σ' → (∀ vs : List Nat, (∀ i ∈ sl, i ∈ vs) → wipe σ' vs = wipe σ vs) → Q σ' H
abbrev DG {π : Type} (X : Cx) (tg : Expr) (sl : List Nat) (unp : D → Option π) (sets : π → Env → Env) : Prop := PG X tg (gD X.K X.mg sl unp sets)
theorem wipe_set {i : Nat} {x : Option V} : ∀ {σ : St} {vs : List Nat}, i ∈ vs → wipe (σ.set i x) vs = wipe σ vs
  | σ, [], h => by cases h
  | σ, v :: vs, h => by
    show (wipe (σ.set i x) vs).set v none = (wipe σ vs).set v none
    by_cases e : i ∈ vs
    · rw [wipe_set e]
    · have ev : i = v := by
        rcases List.mem_cons.mp h with z | z
        · exact z
        · exact absurd z e
      subst ev
      have comm : ∀ {σ : St} {vs : List Nat}, i ∉ vs → wipe (σ.set i x) vs = (wipe σ vs).set i x := by
        intro σ vs
        induction vs with
        | nil => intro _; rfl
        | cons w ws ih =>
          intro hn
          have h1 : i ≠ w := fun z => hn (by rw [z]; exact List.mem_cons_self)
          have h2 : i ∉ ws := fun z => hn (List.mem_cons_of_mem _ z)
          show (wipe (σ.set i x) ws).set w none = ((wipe σ ws).set w none).set i x
          rw [ih h2, List.set_comm _ _ h1]
      rw [comm e, List.set_set]
theorem PG.from {X : Cx} {e : Expr} {t t' : L2.TG} (h : PG X e t) (i : ∀ v σ H Q, t' v σ H Q → t v σ H Q) : PG X e t' := ⟨fun pins s σ H v u Q I r q => h.run pins s σ H v u Q I r (i v σ H Q q)⟩
section
variable {X : Cx} {fr : Fm} {pos : Pos}
theorem dg_name (i : Nat) {x : Str} (hN : X.N.Nodup) (hi : X.N[i]? = some x := by rfl) (hl : Loc X.env.scope x := by first | exact Or.inl rfl | exact Or.inr rfl) (hf : X.fn x = true ∨ X.env.scope.names.lookup x = some .local := by first | exact .inl rfl | exact .inr rfl) :
    DG X (.Name x pos) [i] (fun d => some d) (fun d env => env.set i (some d)) := PG.from (pg_name hN hi hl hf) fun v σ H Q ⟨fr, F, m, ah, env, d, p, s, er, r, e, q⟩ => by
  cases e
  exact q _ (er.set r) fun vs hv => wipe_set (hv i (by simp))
def items? : D → Option (List D)
  | .tup xs => some xs
  | .lst xs => some xs
  | _ => none
/-- several targets, one after another -/
def gDs {π : Type} (K : Fg) (mg : Str → Option Value) (sl : List Nat) (unp : List D → Option π) (sets : π → Env → Env) : L2.TGs := fun vs σ H Q => ∃ fr F m ah env ds p, Sim K mg fr F m ah H ∧ EnvRep K F m env σ ∧ RepL K F m ds vs ∧ unp ds = some p ∧
    ∀ σ', EnvRep K F m (sets p env) σ' → (∀ vs : List Nat, (∀ i ∈ sl, i ∈ vs) → wipe σ' vs = wipe σ vs) → Q σ' H
abbrev DGs {π : Type} (X : Cx) (tgs : List Expr) (sl : List Nat) (unp : List D → Option π) (sets : π → Env → Env) : Prop := PGs X tgs (gDs X.K X.mg sl unp sets)
theorem PGs.from {X : Cx} {e : List Expr} {t t' : L2.TGs} (h : PGs X e t) (i : ∀ v σ H Q, t' v σ H Q → t v σ H Q) : PGs X e t' := ⟨fun pins s σ H v u Q I r q => h.run pins s σ H v u Q I r (i v σ H Q q)⟩
theorem PG.or {X : Cx} {e : Expr} {t t' : L2.TG} (h : PG X e t) (h' : PG X e t') : PG X e (fun v σ H Q => t v σ H Q ∨ t' v σ H Q) := ⟨fun pins s σ H v u Q I r q => by
  rcases q with q | q
  · exact h.run pins s σ H v u Q I r q
  · exact h'.run pins s σ H v u Q I r q⟩
def uNil : List D → Option Unit
  | [] => some ()
  | _ => none
def uCons {π π' : Type} (u : D → Option π) (us : List D → Option π') : List D → Option (π × π')
  | [] => none
  | d :: ds => match u d with
    | some p => (match us ds with
      | some q => some (p, q)
      | none => none)
    | none => none
def unpT {π : Type} (us : List D → Option π) (d : D) : Option π := match items? d with
  | some xs => us xs
  | none => none
theorem uNil_len {ds : List D} {p : Unit} (h : uNil ds = some p) : ds = [] := by
  cases ds with
  | nil => rfl
  | cons _ _ => cases h
theorem uCons_eq {π π' : Type} {u : D → Option π} {us : List D → Option π'} {ds : List D} {p : π × π'} (h : uCons u us ds = some p) : ∃ d r, ds = d :: r ∧ u d = some p.1 ∧ us r = some p.2 := by
  cases ds with
  | nil => cases h
  | cons d r =>
    unfold uCons at h
    cases hu : u d with
    | none =>
      simp only [hu] at h
      cases h
    | some p1 =>
      simp only [hu] at h
      cases hs : us r with
      | none =>
        simp only [hs] at h
        cases h
      | some q =>
        simp only [hs] at h
        cases h
        exact ⟨d, r, rfl, hu, hs⟩
theorem dgs_nil : DGs X [] [] uNil (fun _ env => env) := PGs.from pgs_nil fun v σ H Q ⟨fr, F, m, ah, env, ds, p, s, er, r, e, q⟩ => by
  rw [uNil_len e] at r
  unfold RepL at r
  exact ⟨r, q σ er fun vs _ => rfl⟩
theorem dgs_cons {π π' : Type} {t : Expr} {ts : List Expr} {sl sl' : List Nat} {u : D → Option π} {us : List D → Option π'} {sets : π → Env → Env} {sets' : π' → Env → Env} (h : DG X t sl u sets) (hs : DGs X ts sl' us sets')
    (ha : (assignEach (t :: ts) X.env).map (·.2) = assign t X.env :: (assignEach ts X.env).map (·.2) := by rfl) : DGs X (t :: ts) (sl ++ sl') (uCons u us) (fun p env => sets' p.2 (sets p.1 env)) :=
  PGs.from (pgs_cons h hs ha) fun v σ H Q ⟨fr, F, m, ah, env, ds, p, s, er, r, e, q⟩ => by
    obtain ⟨d, rest, rfl, h1, h2⟩ := uCons_eq e
    unfold RepL at r
    obtain ⟨v1, vr, rfl, r1, r2⟩ := r
    refine ⟨v1, vr, rfl, fr, F, m, ah, env, d, p.1, s, er, r1, h1, fun σ1 er1 w1 => ⟨fr, F, m, ah, _, rest, p.2, s, er1, r2, h2, fun σ2 er2 w2 => q σ2 er2 fun vs hv => ?_⟩⟩
    rw [w2 vs fun i hi => hv i (List.mem_append_right _ hi), w1 vs fun i hi => hv i (List.mem_append_left _ hi)]
theorem uNil_l : ∀ ds p, uNil ds = some p → ds.length = 0 := fun ds p h => by rw [uNil_len h]; rfl
theorem uCons_l {π π' : Type} {u : D → Option π} {us : List D → Option π'} {n : Nat} (h : ∀ ds p, us ds = some p → ds.length = n) : ∀ ds p, uCons u us ds = some p → ds.length = n + 1 := fun ds p e => by
  obtain ⟨d, r, rfl, _, h2⟩ := uCons_eq e
  rw [List.length_cons, h r p.2 h2]
theorem dg_tup {π : Type} {es : List Expr} {k : Nat} {sl : List Nat} {us : List D → Option π} {sets : π → Env → Env} {n : Nat} (hc : X.calm = true) (h : DGs X es sl us sets) (hl : ∀ ds p, us ds = some p → ds.length = n)
    (hn : (assignEach es X.env).length = n := by rfl) (hst : (assignEach es X.env).findIdx? (·.1) = none := by rfl) : DG X (.Tuple es k pos) sl (unpT us) sets :=
  PG.from (PG.or (pg_tup hc h hn hst) (pg_lst hc h hn hst)) fun v σ H Q ⟨fr, F, m, ah, env, d, p, s, er, r, e, q⟩ => by
    unfold unpT at e
    cases d <;> try (cases e; done)
    · rename_i xs
      unfold Rep at r
      obtain ⟨a, vs, h1, h2, h3⟩ := r
      exact .inl ⟨a, vs, h1, SqT.up s.sub h2, by rw [RepL.length h3]; exact hl xs p e, fr, F, m, ah, env, xs, p, s, er, h3, e, q⟩
    · rename_i xs
      unfold Rep at r
      obtain ⟨a, vs, h1, h2, h3⟩ := r
      exact .inr ⟨a, vs, h1, SqL.up s.sub h2, by rw [RepL.length h3]; exact hl xs p e, fr, F, m, ah, env, xs, p, s, er, h3, e, q⟩
end
def liftO {α : Type} : Option α → M α
  | some a => pure a
  | none => stuck
section
variable {X : Cx} {fr : Fm} {W : WX} {ex env : Env} {pos : Pos} {τ τ' β : Type} {mk : τ → Env} {mk' : τ' → Env} {lp : β → Env} {rest : List Stmt}
/-- a, b = e -/
theorem ds_unpack {π : Type} {sl : List Nat} {tg e : Expr} {me : M D} {unp : D → Option π} {sets : π → Env → Env} {k : π → M (Out τ β)} (he : DE X W env e me) (hg : DG X tg sl unp sets) (hx : EnvLe ex env) (hr : ∀ p, DS X W ex (sets p env) mk lp rest (k p))
    (hs : swapsWithSole [tg] e pos.line X.env = pure false := by rfl) (hw : swappedStores [tg] e X.env = pure none := by rfl) (h1 : (assignEach [tg] X.env).map (·.2) = [assign tg X.env] := by rfl) :
    DS X W ex env mk lp (.Assign [tg] e pos :: rest) (do let d ← me; let p ← liftO (unp d); k p) :=
  PSs.from (pss_cons (ps_asg he hg hs hw h1) (PSs.ex hr)) fun Dn σ H ⟨fr, F, m, ah, s, er, q⟩ => TO.step s er hx q fun F1 m1 ah1 d v H1 e1 s1 er1 r1 k1 => by
    cases hp : unp d with
    | none =>
      rw [hp] at k1
      exact False.elim k1
    | some p =>
      rw [hp] at k1
      exact ⟨fr, F1, m1, ah1, env, d, p, s1, er1, r1, hp, fun σ' h' _ => ⟨p, fr, F1, m1, ah1, s1, h', k1⟩⟩
end
/-! ### what is walked -/
/-- the iterator J yields the items xs -/
structure Yl (K : Fg) (mg : Str → Option Value) (F : Hp) (m : List Addr) (xs : List D) (J : It) : Prop where
  go : ∀ (i : Nat) (fr : Fm) F1 m1 ah1 H1, Ext F m F1 m1 → Sim K mg fr F1 m1 ah1 H1 → i < xs.length → J.go i H1
  stop : ∀ (fr : Fm) F1 m1 ah1 H1, Ext F m F1 m1 → Sim K mg fr F1 m1 ah1 H1 → J.stop xs.length H1
  yld : ∀ (i : Nat) (fr : Fm) F1 m1 ah1 H1 x H2, Ext F m F1 m1 → Sim K mg fr F1 m1 ah1 H1 → i < xs.length → J.yld i H1 x H2 → ∃ F2 d, xs[i]? = some d ∧ Ext F1 m1 F2 m1 ∧ Sim K mg fr F2 m1 ah1 H2 ∧ Rep K F2 m1 d x
def TIM (K : Fg) (mg : Str → Option Value) (W : WX) (env : Env) (mi : M (List D)) : TI := fun σ H R =>
  ∃ fr F m ah, Sim K mg fr F m ah H ∧ EnvRep K F m env σ ∧ TK K mg fr W (Yl K mg) σ F m (mi ah) (fun J H' => R J H')
abbrev DI (X : Cx) (W : WX) (env : Env) (tg it : Expr) (mi : M (List D)) : Prop := PI X tg it (TIM X.K X.mg W env mi)
theorem PI.from {X : Cx} {tg e : Expr} {t t' : TI} (h : PI X tg e t) (i : ∀ σ H Q, t' σ H Q → t σ H Q) : PI X tg e t' := ⟨fun pins s σ H R I q => h.run pins s σ H R I (i σ H R q)⟩
section
variable {X : Cx} {fr : Fm} {W : WX} {ex env : Env} {pos : Pos} {τ β : Type} {mk : τ → Env} {lp : β → Env} {rest : List Stmt}
/-- for tg in it: body; rest -/
theorem ds_for {ℓ π : Type} {sl : List Nat} {tg it : Expr} {body : List Stmt} {mi : M (List D)} {unp : D → Option π} {sets : π → Env → Env} {mkL : ℓ → Env} {t0 : ℓ} {mb : π → ℓ → M (Out ℓ ℓ)} {k : ℓ → M (Out τ β)}
    (hp : PassesOwn (model X.prog X.w) X.A X.env X.xe) (hc : X.calm = true) (hi : DI X W env tg it mi) (hg : DG X tg sl unp sets) (h0 : EnvLe (mkL t0) env) (hx : EnvLe ex env)
    (hb : ∀ p t, DS X W ex (sets p (mkL t)) mkL mkL body (mb p t)) (hr : ∀ t, DS X W ex (mkL t) mk lp rest (k t)) (hs : ∀ x, foldedSetIterable it X.env x = pure x := by intro _; rfl) :
    DS X W ex env mk lp (.For tg it body [] pos :: rest) (do let xs ← mi; obind (forM xs t0 (fun x t => do let p ← liftO (unp x); mb p t)) k) := by
  refine PSs.from (pss_cons (ps_for hp hc hi hg (PSs.ex fun p => PSs.ex (hb p)) hs) (PSs.ex hr)) fun Dn σ H ⟨fr, F, m, ah, s, er, q⟩ => ?_
  refine ⟨fr, F, m, ah, s, er, ?_⟩
  rw [bind_def] at q
  cases hi' : mi ah with
  | stuck =>
    rw [hi'] at q
    exact q
  | exc x a =>
    rw [hi'] at q
    exact fun F' m' C H' e s' z => q F' m' C σ H' e s' ((er.le hx).ext e) z
  | ok xs a =>
    rw [hi'] at q
    intro F1 m1 J H1 e1 s1 y
    have q1 := TO.ext e1 q
    refine ⟨fun i n σ H => n = xs.length - i ∧ i ≤ xs.length ∧ ∃ F2 m2 ah2 t, Ext F1 m1 F2 m2 ∧ Sim X.K X.mg fr F2 m2 ah2 H ∧ EnvRep X.K F2 m2 (mkL t) σ ∧
      TO X.K X.mg fr W ex mk lp F2 m2 ((obind (forM (xs.drop i) t (fun x t => do let p ← liftO (unp x); mb p t)) k) ah2) Dn, ⟨_, rfl, Nat.zero_le _, F1, m1, a, t0, Ext.refl, s1, (er.le h0).ext e1, by rw [List.drop_zero]; exact q1⟩, ?_⟩
    rintro i n σ2 H2 ⟨rfl, hi2, F2, m2, ah2, t, e2, s2, er2, k2⟩
    by_cases hlt : i < xs.length
    · refine .inr ⟨y.go i fr F2 m2 ah2 H2 e2 s2 hlt, fun σ' H' => ∃ F3 m3 ah3 t, Ext F1 m1 F3 m3 ∧ Sim X.K X.mg fr F3 m3 ah3 H' ∧ EnvRep X.K F3 m3 (mkL t) σ' ∧
        TO X.K X.mg fr W ex mk lp F3 m3 ((obind (forM (xs.drop (i + 1)) t (fun x t => do let p ← liftO (unp x); mb p t)) k) ah3) Dn, fun σ' H' z => ⟨xs.length - (i + 1), by omega, rfl, hlt, z⟩, fun v H3 yy => ?_⟩
      obtain ⟨F3, d, hd, e3, s3, r3⟩ := y.yld i fr F2 m2 ah2 H2 v H3 e2 s2 hlt yy
      have er3 := er2.ext e3
      have k3 := TO.ext e3 k2
      have hdrop : xs.drop i = d :: xs.drop (i + 1) := by
        rw [List.drop_eq_getElem_cons hlt]
        rw [List.getElem?_eq_getElem hlt] at hd
        cases hd
        rfl
      rw [hdrop] at k3
      cases hu : unp d with
      | none =>
        have k4 : TO X.K X.mg fr W ex mk lp F3 m2 (ores k (lres (fun t' => forM (xs.drop (i + 1)) t' (fun x t => do let p ← liftO (unp x); mb p t)) ((liftO (unp d) >>= fun p => mb p t) ah2))) Dn := k3
        rw [hu] at k4
        exact False.elim k4
      | some p =>
        have k4 : TO X.K X.mg fr W ex mk lp F3 m2 (ores k (lres (fun t' => forM (xs.drop (i + 1)) t' (fun x t => do let p ← liftO (unp x); mb p t)) ((liftO (unp d) >>= fun p => mb p t) ah2))) Dn := k3
        rw [hu] at k4
        have k4 : TO X.K X.mg fr W ex mk lp F3 m2 (ores k (lres (fun t' => forM (xs.drop (i + 1)) t' (fun x t => do let p ← liftO (unp x); mb p t)) (mb p t ah2))) Dn := k4
        refine ⟨fr, F3, m2, ah2, mkL t, d, p, s3, er3, r3, hu, fun σ' er' _ => ⟨p, t, fr, F3, m2, ah2, s3, er', ?_⟩⟩
        cases hm : mb p t ah2 with
        | stuck =>
          rw [hm] at k4
          exact k4
        | exc x a =>
          rw [hm] at k4
          exact k4
        | ok o a =>
          rw [hm] at k4
          cases o with
          | nx t' => exact fun F4 m4 σ4 H4 e4 s4 r4 => ⟨F4, m4, a, t', (e2.trans e3).trans e4, s4, r4, TO.ext e4 k4⟩
          | ct t' => exact fun F4 m4 σ4 H4 e4 s4 r4 => ⟨F4, m4, a, t', (e2.trans e3).trans e4, s4, r4, TO.ext e4 k4⟩
          | bk t' => exact fun F4 m4 σ4 H4 e4 s4 r4 => ⟨t', fr, F4, m4, a, s4, r4, TO.ext e4 k4⟩
          | ret d => exact k4
    · have ei : i = xs.length := by omega
      subst ei
      refine .inl ⟨y.stop fr F2 m2 ah2 H2 e2 s2, t, fr, F2, m2, ah2, s2, er2, ?_⟩
      rw [List.drop_length] at k2
      exact k2
end
end Lw
/-! SimC: operations on plain data, with their rules. -/
namespace Lw
open PySem L2
def tupOf : D → Option (List D)
  | .tup xs => some xs
  | _ => none
def lstOf (h : AH) : D → Option (List D)
  | .lst xs => some xs
  | .ref n => match h[n]? with
    | some (.lst xs) => some xs
    | _ => none
  | _ => none
def seqOf (h : AH) (d : D) : Option (List D) := match d with
  | .tup xs => some xs
  | d => lstOf h d
section
variable {K : Fg} {mg : Str → Option Value} {fr : Fm} {W : WX} {σ : St} {F F' H H' : Hp} {m m' : List Addr} {ah : AH}
theorem tup_of {d : D} {v : V} {xs : List D} (r : Rep K F m d v) (h : tupOf d = some xs) : ∃ a vs, v = .ref a ∧ SqT K F a vs ∧ RepL K F m xs vs := by
  cases d <;> try (cases h; done)
  cases h
  unfold Rep at r
  exact r
theorem lst_of {d : D} {v : V} {xs : List D} (S : Sim K mg fr F m ah H) (r : Rep K F m d v) (h : lstOf ah d = some xs) : ∃ a vs, v = .ref a ∧ SqL K H a vs ∧ RepL K F m xs vs := by
  cases d <;> try (cases h; done)
  · rename_i n
    unfold Rep at r
    obtain ⟨a, h1, h2⟩ := r
    unfold lstOf at h
    cases hc : ah[n]? with
    | none =>
      simp only [hc] at h
      cases h
    | some c =>
      cases c <;> simp only [hc] at h <;> try (cases h; done)
      cases h
      obtain ⟨a', q, ok⟩ := S.cells n _ hc
      rw [h1] at q
      cases q
      obtain ⟨_, vs, h3, h4⟩ := ok
      exact ⟨a, vs, h2, SqL.of h3, h4⟩
  · cases h
    unfold Rep at r
    obtain ⟨a, vs, h1, h2, h3⟩ := r
    exact ⟨a, vs, h1, SqL.up S.sub h2, h3⟩
/-- the result is a value as it stands -/
theorem TK.val {d : D} {v : V} {Q : VK} (k : TK K mg fr W (Rep K) σ F m (.ok d ah) Q) (S : Sim K mg fr F m ah H) (r : Rep K F m d v) : Q v H := k F m v H Ext.refl S r
theorem TK.newT {ds : List D} {vs : List V} {p : Addr} {Q : VK} (k : TK K mg fr W (Rep K) σ F m (.ok (.tup ds) ah) Q) (S : Sim K mg fr F m ah H) (r : RepL K F m ds vs) (hp : H p = none) : Q (.ref p) (upd H p (.tup vs)) := by
  obtain ⟨S', e⟩ := S.frozen (o := .tup vs) hp
  refine k _ _ _ _ e S' ?_
  unfold Rep
  exact ⟨p, vs, rfl, .inl (.inl upd_same), RepL.ext e _ _ r⟩
theorem TK.newL {ds : List D} {vs : List V} {p : Addr} {Q : VK} (k : TK K mg fr W (Rep K) σ F m (.ok (.lst ds) ah) Q) (S : Sim K mg fr F m ah H) (r : RepL K F m ds vs) (hp : H p = none) : Q (.ref p) (upd H p (.lst vs)) := by
  obtain ⟨S', e⟩ := S.frozen (o := .lst vs) hp
  refine k _ _ _ _ e S' ?_
  unfold Rep
  exact ⟨p, vs, rfl, .inl (.inl upd_same), RepL.ext e _ _ r⟩
theorem Rep.int {i : Int} : Rep K F m (.int i) (.int i) := by
  unfold Rep
  rfl
theorem Rep.bl {i : Bool} : Rep K F m (.bl i) (.bl i) := by
  unfold Rep
  rfl
theorem Rep.str {i : Str} : Rep K F m (.str i) (.str i) := by
  unfold Rep
  rfl
theorem Rep.non : Rep K F m .non .non := by
  unfold Rep
  rfl
theorem Rep.tup {ds : List D} {vs : List V} {a : Addr} (h : SqT K F a vs) (r : RepL K F m ds vs) : Rep K F m (.tup ds) (.ref a) := by
  unfold Rep
  exact ⟨a, vs, rfl, h, r⟩
theorem RepL.drop : ∀ {ds : List D} {vs : List V} (n : Nat), RepL K F m ds vs → RepL K F m (ds.drop n) (vs.drop n)
  | _, _, 0, h => h
  | [], vs, n + 1, h => by
    unfold RepL at h
    rw [h]
    exact RepL.nil
  | d :: ds, vs, n + 1, h => by
    unfold RepL at h
    obtain ⟨v, r, h1, h2, h3⟩ := h
    rw [h1]
    exact RepL.drop n h3
theorem RepL.take : ∀ {ds : List D} {vs : List V} (n : Nat), RepL K F m ds vs → RepL K F m (ds.take n) (vs.take n)
  | _, _, 0, h => by
    rw [List.take_zero, List.take_zero]
    exact RepL.nil
  | [], vs, n + 1, h => by
    unfold RepL at h
    rw [h]
    exact RepL.nil
  | d :: ds, vs, n + 1, h => by
    unfold RepL at h
    obtain ⟨v, r, h1, h2, h3⟩ := h
    rw [h1]
    exact RepL.cons h2 (RepL.take n h3)
end
/-! ### computations part by part -/
section
variable {X : Cx} {fr : Fm} {W : WX} {env : Env} {pos : Pos}
/-- one-place: a rule of a value, read of data -/
def UnD (X : Cx) (r : V → Hp → VK → Prop) (op : D → M D) : Prop := ∀ (fr : Fm) (W : WX) (σ : St) (F : Hp) (m : List Addr) (ah : AH) (H : Hp) (d : D) (x : V) (Q : VK), Sim X.K X.mg fr F m ah H → Rep X.K F m d x →
  TK X.K X.mg fr W (Rep X.K) σ F m (op d ah) Q → r x H Q
theorem de_un {a : Expr} {ma : M D} {op : UnaryOp} {r : V → Hp → VK → Prop} {f : D → M D} (ho : UnR X (unaryOp op) r) (hr : UnD X r f) (ha : DE X W env a ma) : DE X W env (.UnaryOp op a pos) (do let x ← ma; f x) :=
  PE.from (pe_un ho ha) fun σ H Q ⟨fr, F, m, ah, s, er, k⟩ => TK.step s er k fun F1 m1 ah1 d v H1 e1 s1 er1 r1 k1 => hr fr W σ F1 m1 ah1 H1 d v Q s1 r1 k1
/-! arguments -/
theorem da_nil : DA X W env [] (pure []) := PA.from pa_nil fun σ H Q ⟨fr, F, m, ah, s, er, k⟩ => k F m _ H Ext.refl s RepL.nil
theorem da_cons {e : Expr} {es : List Expr} {me : M D} {ms : M (List D)} (he : DE X W env e me) (hs : DA X W env es ms) (hst : starEach (e :: es) X.env = (false, eval e X.env) :: starEach es X.env := by rfl) :
    DA X W env (e :: es) (do let x ← me; let xs ← ms; pure (x :: xs)) :=
  PA.from (pa_cons he hs hst) fun σ H Q ⟨fr, F, m, ah, s, er, k⟩ => TK.step s er k fun F1 m1 ah1 d v H1 e1 s1 er1 r1 k1 => TK.step s1 er1 k1 fun F2 m2 ah2 d2 v2 H2 e2 s2 er2 r2 k2 =>
    k2 F2 m2 _ H2 Ext.refl s2 (RepL.cons (Rep.ext e2 _ _ r1) r2)
theorem da_one {e : Expr} {me : M D} (he : DE X W env e me) (hst : starEach [e] X.env = (false, eval e X.env) :: starEach [] X.env := by rfl) : DA X W env [e] (do let x ← me; pure [x]) :=
  PA.from (pa_cons he pa_nil hst) fun σ H Q ⟨fr, F, m, ah, s, er, k⟩ => TK.step s er k fun F1 m1 ah1 d v H1 e1 s1 er1 r1 k1 => k1 F1 m1 _ H1 Ext.refl s1 (RepL.cons r1 RepL.nil)
theorem da_two {a b : Expr} {ma mb : M D} (ha : DE X W env a ma) (hb : DE X W env b mb) (hst : starEach [a, b] X.env = (false, eval a X.env) :: starEach [b] X.env := by rfl) (hst2 : starEach [b] X.env = (false, eval b X.env) :: starEach [] X.env := by rfl) :
    DA X W env [a, b] (do let x ← ma; let y ← mb; pure [x, y]) :=
  PA.from (pa_cons ha (pa_cons hb pa_nil hst2) hst) fun σ H Q ⟨fr, F, m, ah, s, er, k⟩ => TK.step s er k fun F1 m1 ah1 d v H1 e1 s1 er1 r1 k1 => TK.step s1 er1 k1 fun F2 m2 ah2 d2 v2 H2 e2 s2 er2 r2 k2 =>
    k2 F2 m2 _ H2 Ext.refl s2 (RepL.cons (Rep.ext e2 _ _ r1) (RepL.cons r2 RepL.nil))
/-! displays -/
def lenOk (n : Nat) : Bool := decide (n ≤ sizeLine)
def tupM (xs : List D) : M D := if lenOk xs.length = true then pure (.tup xs) else stuck
def lstM (xs : List D) : M D := if lenOk xs.length = true then pure (.lst xs) else stuck
theorem de_tup {es : List Expr} {ms : M (List D)} {x1} (h : DA X W env es ms) : DE X W env (.Tuple es x1 pos) (do let xs ← ms; tupM xs) :=
  PE.from (pe_tup h) fun σ H Q ⟨fr, F, m, ah, s, er, k⟩ => TK.step s er k fun F1 m1 ah1 d v H1 e1 s1 er1 r1 k1 => by
    unfold tupM at k1
    by_cases hl : lenOk d.length = true
    · rw [if_pos hl] at k1
      exact ⟨by rw [RepL.length r1]; exact of_decide_eq_true hl, fun p hp => TK.newT k1 s1 r1 hp⟩
    · rw [if_neg hl] at k1
      exact False.elim k1
theorem de_lst {es : List Expr} {ms : M (List D)} (h : DA X W env es ms) : DE X W env (.List es pos) (do let xs ← ms; lstM xs) :=
  PE.from (pe_lst h) fun σ H Q ⟨fr, F, m, ah, s, er, k⟩ => TK.step s er k fun F1 m1 ah1 d v H1 e1 s1 er1 r1 k1 => by
    unfold lstM at k1
    by_cases hl : lenOk d.length = true
    · rw [if_pos hl] at k1
      exact ⟨by rw [RepL.length r1]; exact of_decide_eq_true hl, fun p hp => TK.newL k1 s1 r1 hp⟩
    · rw [if_neg hl] at k1
      exact False.elim k1
/-! ### a new cell of the plain heap -/
theorem getElem?_snoc_cases {α : Type} {l : List α} {x y : α} {i : Nat} (h : (l ++ [x])[i]? = some y) : l[i]? = some y ∨ (i = l.length ∧ x = y) := by
  by_cases hi : i < l.length
  · rw [List.getElem?_append_left hi] at h
    exact .inl h
  · rw [List.getElem?_append_right (by omega)] at h
    have z : i - l.length = 0 := by
      cases q : i - l.length with
      | zero => rfl
      | succ n =>
        rw [q] at h
        simp at h
    rw [z] at h
    simp at h
    exact .inr ⟨by omega, h⟩
theorem Sim.laid {K : Fg} {mg : Str → Option Value} {F H : Hp} {m : List Addr} {ah : AH} {p : Addr} {o : HO} {c : Cell} (S : Sim K mg fr F m ah H) (hp : H p = none) (ok : CellOk K mg F m (upd H p o) p c) :
    Sim K mg fr F (m ++ [p]) (ah ++ [c]) (upd H p o) ∧ Ext F m F (m ++ [p]) := by
  have nm : ∀ a, a ∈ m → a ≠ p := fun a ha z => by
    obtain ⟨u, hu⟩ := S.there a ha
    rw [z, hp] at hu
    cases hu
  have e : Ext F m F (m ++ [p]) := ⟨fun _ _ h => h, fun i a h => by
    rw [List.getElem?_append_left (List.getElem?_eq_some_iff.mp h).1]
    exact h⟩
  refine ⟨⟨fun a u h => ?_, by simp [S.len], ?_, fun i x h => ?_, fun a u h n => ?_, fun a ha n => ?_, fun i a h => e.pre i a (S.pre i a h), fun a ha => ?_, S.old⟩, e⟩
  · have q := S.sub a u h
    rw [upd_ne (ne_of_none q hp)]
    exact q
  · rw [List.nodup_append]
    exact ⟨S.nod, by simp, fun a ha b hb => by
      rw [List.mem_singleton.mp hb]
      exact nm a ha⟩
  · rcases getElem?_snoc_cases h with h | ⟨hi, hx⟩
    · obtain ⟨a, q, okx⟩ := S.cells i x h
      have ne := nm a (List.mem_of_getElem? q)
      exact ⟨a, e.pre i a q, okx.ext e (fun z => okx.free z) fun _ => upd_ne ne⟩
    · refine ⟨p, ?_, ?_⟩
      · rw [hi, ← S.len, List.getElem?_append_right (Nat.le_refl _)]
        simp
      · rw [← hx]
        exact ok.ext e (fun z => ok.free z) fun _ => rfl
  · have q := S.frame a u h n
    rw [upd_ne (ne_of_none q hp)]
    exact q
  · rcases List.mem_append.mp ha with ha | ha
    · exact S.young a ha n
    · rw [List.mem_singleton.mp ha]
      exact S.fresh0 hp
  · rcases List.mem_append.mp ha with ha | ha
    · rw [upd_ne (nm a ha)]
      exact S.there a ha
    · rw [List.mem_singleton.mp ha, upd_same]
      exact ⟨_, rfl⟩
def newM (c : Cell) : M D := fun h => .ok (.ref h.length) (h ++ [c])
/-- a list that will be written -/
def lstH (xs : List D) : M D := if lenOk xs.length = true then newM (.lst xs) else stuck
theorem Sim.freeF {K : Fg} {mg : Str → Option Value} {F H : Hp} {m : List Addr} {ah : AH} {p : Addr} (S : Sim K mg fr F m ah H) (hp : H p = none) : F p = none := by
  cases q : F p with
  | none => rfl
  | some u =>
    rw [S.sub _ _ q] at hp
    cases hp
theorem TK.newH {σ : St} {F H : Hp} {m : List Addr} {ah : AH} {ds : List D} {vs : List V} {p : Addr} {Q : VK} (k : TK X.K X.mg fr W (Rep X.K) σ F m (newM (.lst ds) ah) Q) (S : Sim X.K X.mg fr F m ah H) (r : RepL X.K F m ds vs) (hp : H p = none) : Q (.ref p) (upd H p (.lst vs)) := by
  obtain ⟨S', e⟩ := S.laid (o := .lst vs) (c := .lst ds) hp ⟨S.freeF hp, vs, upd_same, r⟩
  refine k _ _ _ _ e S' ?_
  unfold Rep
  refine ⟨p, ?_, rfl⟩
  rw [← S.len, List.getElem?_append_right (Nat.le_refl _)]
  simp
theorem de_lstH {es : List Expr} {ms : M (List D)} (h : DA X W env es ms) : DE X W env (.List es pos) (do let xs ← ms; lstH xs) :=
  PE.from (pe_lst h) fun σ H Q ⟨fr, F, m, ah, s, er, k⟩ => TK.step s er k fun F1 m1 ah1 d v H1 e1 s1 er1 r1 k1 => by
    unfold lstH at k1
    by_cases hl : lenOk d.length = true
    · rw [if_pos hl] at k1
      exact ⟨by rw [RepL.length r1]; exact of_decide_eq_true hl, fun p hp => TK.newH k1 s1 r1 hp⟩
    · rw [if_neg hl] at k1
      exact False.elim k1
/-! ### + -/
/-- list + list -/
def rCatLs (K : Fg) : R2 := fun x y H Q => ∃ l b xs zs, x = .ref l ∧ y = .ref b ∧ SqL K H l xs ∧ SqL K H b zs ∧ xs.length + zs.length ≤ sizeLine ∧ ∀ p, H p = none → Q (.ref p) (upd H p (.lst (xs ++ zs)))
theorem op_catLs : OpR X (binaryOp .Add) (rCatLs X.K) := by
  intro pins s σ H x y v u Q I rx ry h
  obtain ⟨l, b, xs, zs, rfl, rfl, hH, hB, hz, q⟩ := h
  cases rx
  cases ry
  obtain ⟨its, r, hl, _⟩ := I.list hH
  obtain ⟨its2, r2, hl2, _⟩ := I.list hB
  have e1 := r.length
  have e2 := r2.length
  obtain ⟨m, F⟩ := I.fr
  obtain ⟨⟨cls, dd, data, sl⟩, ho, hc, n, hd⟩ := hl.isList
  obtain ⟨⟨cls2, dd2, data2, sl2⟩, ho2, hc2, n2, hd2⟩ := hl2.isList
  simp only at hc hd hc2 hd2
  subst hc hd hc2 hd2
  have e : its.toArray ++ its2.toArray = (its ++ its2).toArray := by simp
  refine PySem.concat_meets ⟨_, ho, rfl⟩ ⟨_, ho2, rfl⟩ noFill_list_add seq_list_add PySem.F.slot_list_add PySem.F.entry_list_add (PySem.F.args_list_add_2 _ _) (PyProof.Rows.list_addW l b its.toArray its2.toArray n n2 dd dd2 sl sl2 (by simp only [List.size_toArray]; omega)) ⟨ho, ho2, ?_⟩
  rw [e]
  exact ⟨.ref _, _, I.lnew (t' := s.toks) (r.append r2) (by rw [List.length_append]; omega), rfl, q _ I.fresh⟩
def rAddStr : R2 := fun x y H Q => ∃ i j, x = .str i ∧ y = .str j ∧ i.length + j.length ≤ sizeLine ∧ Q (.str (i ++ j)) H
def rAddAll (K : Fg) : R2 := fun x y H Q => rI0 (fun i j => .int (i + j)) x y H Q ∨ rAddStr x y H Q ∨ rCatA K x y H Q ∨ rCatLs K x y H Q
theorem op_addAll : OpR X (binaryOp .Add) (rAddAll X.K) := op_add.or (op_add_str.or (op_catA.or op_catLs))
def addM (x y : D) : M D := fun h => match x, y with
  | .int i, .int j => .ok (.int (i + j)) h
  | .str a, .str b => if lenOk (a.length + b.length) = true then .ok (.str (a ++ b)) h else .stuck
  | .tup a, .tup b => if lenOk (a.length + b.length) = true then .ok (.tup (a ++ b)) h else .stuck
  | x, y => match lstOf h x, lstOf h y with
    | some a, some b => if lenOk (a.length + b.length) = true then .ok (.lst (a ++ b)) h else .stuck
    | _, _ => .stuck
theorem add_ok : OpD X (rAddAll X.K) addM := by
  intro fr W σ F m ah H d e x y Q s rx ry k
  have ls : ∀ (a b : List D), lstOf ah d = some a → lstOf ah e = some b → TK X.K X.mg fr W (Rep X.K) σ F m (if lenOk (a.length + b.length) = true then .ok (.lst (a ++ b)) ah else .stuck) Q → rAddAll X.K x y H Q := by
    intro a b h1 h2 k
    by_cases hl : lenOk (a.length + b.length) = true
    · rw [if_pos hl] at k
      obtain ⟨p1, vs1, e1, q1, r1⟩ := lst_of s rx h1
      obtain ⟨p2, vs2, e2, q2, r2⟩ := lst_of s ry h2
      exact .inr (.inr (.inr ⟨p1, p2, vs1, vs2, e1, e2, q1, q2, by rw [RepL.length r1, RepL.length r2]; exact of_decide_eq_true hl, fun p hp => TK.newL k s (RepL.append r1 r2) hp⟩))
    · rw [if_neg hl] at k
      exact k.elim
  unfold addM at k
  split at k
  · unfold Rep at rx ry
    exact .inl ⟨_, _, rx, ry, k.val s Rep.int⟩
  · rename_i a b
    unfold Rep at rx ry
    by_cases hl : lenOk (a.length + b.length) = true
    · rw [if_pos hl] at k
      exact .inr (.inl ⟨_, _, rx, ry, of_decide_eq_true hl, k.val s Rep.str⟩)
    · rw [if_neg hl] at k
      exact k.elim
  · rename_i a b
    by_cases hl : lenOk (a.length + b.length) = true
    · rw [if_pos hl] at k
      unfold Rep at rx ry
      obtain ⟨p1, vs1, e1, q1, r1⟩ := rx
      obtain ⟨p2, vs2, e2, q2, r2⟩ := ry
      refine .inr (.inr (.inl ⟨p1, p2, vs1, vs2, e1, e2, SqT.up s.sub q1, SqT.up s.sub q2, by rw [RepL.length r1, RepL.length r2]; exact of_decide_eq_true hl, fun z => ?_, fun _ z => ?_, fun _ _ p hp => TK.newT k s (RepL.append r1 r2) hp⟩))
      · have la : a = [] := List.length_eq_zero_iff.mp (by rw [← RepL.length r1, z]; rfl)
        subst la
        exact k.val s (Rep.tup q2 r2)
      · have lb : b = [] := List.length_eq_zero_iff.mp (by rw [← RepL.length r2, z]; rfl)
        subst lb
        rw [List.append_nil] at k
        exact k.val s (Rep.tup q1 r1)
    · rw [if_neg hl] at k
      exact k.elim
  · cases h1 : lstOf ah d with
    | none =>
      rw [h1] at k
      exact k.elim
    | some a =>
      cases h2 : lstOf ah e with
      | none =>
        rw [h1, h2] at k
        exact k.elim
      | some b =>
        rw [h1, h2] at k
        exact ls a b h1 h2 k
theorem de_add {a b : Expr} {ma mb : M D} (ha : DE X W env a ma) (hb : DE X W env b mb) : DE X W env (.BinOp a .Add b pos) (do let x ← ma; let y ← mb; addM x y) := de_op op_addAll add_ok ha hb
/-! ### ints -/
def subM : D → D → M D := int2 fun i j => .int (i - j)
theorem de_sub {a b : Expr} {ma mb : M D} (ha : DE X W env a ma) (hb : DE X W env b mb) : DE X W env (.BinOp a .Sub b pos) (do let x ← ma; let y ← mb; subM x y) := de_op op_sub (int2_ok fun _ _ _ _ _ => Rep.int) ha hb
/-- ints, under a condition that is decided -/
def int2c (c : Int → Int → Bool) (f : Int → Int → D) : D → D → M D := fun x y => match x, y with
  | .int i, .int j => if c i j = true then pure (f i j) else stuck
  | _, _ => stuck
theorem int2c_ok {C : Int → Int → Prop} {c : Int → Int → Bool} {g : Int → Int → V} {f : Int → Int → D} (hc : ∀ i j, c i j = true → C i j) (h : ∀ i j K F m, Rep K F m (f i j) (g i j)) : OpD X (rI C g) (int2c c f) := by
  intro fr W σ F m ah H d e x y Q s rx ry k
  cases d <;> try exact (TK.stuck_of k).elim
  cases e <;> try exact (TK.stuck_of k).elim
  rename_i i j
  unfold Rep at rx ry
  by_cases z : c i j = true
  · have k : TK X.K X.mg fr W (Rep X.K) σ F m ((if c i j = true then pure (f i j) else stuck : M D) ah) Q := k
    rw [if_pos z] at k
    exact ⟨i, j, rx, ry, hc i j z, k F m _ H Ext.refl s (h i j _ _ _)⟩
  · have k : TK X.K X.mg fr W (Rep X.K) σ F m ((if c i j = true then pure (f i j) else stuck : M D) ah) Q := k
    rw [if_neg z] at k
    exact k.elim
/-- ints below 2 ^ 400000 together -/
def cMul (i j : Int) : Bool := decide (i.natAbs.log2 + j.natAbs.log2 < 1000000)
def mulM : D → D → M D := int2c cMul fun i j => .int (i * j)
theorem de_mul {a b : Expr} {ma mb : M D} (ha : DE X W env a ma) (hb : DE X W env b mb) : DE X W env (.BinOp a .Mult b pos) (do let x ← ma; let y ← mb; mulM x y) :=
  de_op op_mulW (int2c_ok (fun i j h => by unfold cMul at h; exact (of_decide_eq_true h : i.natAbs.log2 + j.natAbs.log2 < 1000000)) fun _ _ _ _ _ => Rep.int) ha hb
def cDiv (_ j : Int) : Bool := decide (0 < j ∧ j.natAbs.log2 < 9000)
def fdivM : D → D → M D := int2c cDiv fun i j => .int (i / j)
theorem de_fdiv {a b : Expr} {ma mb : M D} (ha : DE X W env a ma) (hb : DE X W env b mb) : DE X W env (.BinOp a .FloorDiv b pos) (do let x ← ma; let y ← mb; fdivM x y) :=
  de_op op_fdivW (int2c_ok (fun i j h => by unfold cDiv at h; exact (of_decide_eq_true h : 0 < j ∧ j.natAbs.log2 < 9000)) fun _ _ _ _ _ => Rep.int) ha hb
def cMod (_ j : Int) : Bool := decide (0 < j)
def modM : D → D → M D := int2c cMod fun i j => .int (i % j)
theorem de_mod {a b : Expr} {ma mb : M D} (ha : DE X W env a ma) (hb : DE X W env b mb) : DE X W env (.BinOp a .Mod b pos) (do let x ← ma; let y ← mb; modM x y) :=
  de_op op_mod (int2c_ok (fun i j h => of_decide_eq_true h) fun _ _ _ _ _ => Rep.int) ha hb
def cPow (i j : Int) : Bool := decide (0 ≤ j ∧ j ≤ 1000000 ∧ i.natAbs < 2 ^ 64)
def powM : D → D → M D := int2c cPow fun i j => .int (i ^ j.toNat)
theorem de_pow {a b : Expr} {ma mb : M D} (ha : DE X W env a ma) (hb : DE X W env b mb) : DE X W env (.BinOp a .Pow b pos) (do let x ← ma; let y ← mb; powM x y) :=
  de_op op_pow (int2c_ok (fun i j h => by unfold cPow at h; exact (of_decide_eq_true h : 0 ≤ j ∧ j ≤ 1000000 ∧ i.natAbs < 2 ^ 64)) fun _ _ _ _ _ => Rep.int) ha hb
def negM : D → M D
  | .int i => pure (.int (-i))
  | _ => stuck
theorem de_neg {a : Expr} {ma : M D} (ha : DE X W env a ma) : DE X W env (.UnaryOp .USub a pos) (do let x ← ma; negM x) := de_un un_neg (fun fr W σ F m ah H d x Q s r k => by
  cases d <;> try exact (TK.stuck_of k).elim
  unfold Rep at r
  exact ⟨_, r, k F m _ H Ext.refl s Rep.int⟩) ha
/-! comparisons of ints -/
def ltM : D → D → M D := int2 fun i j => .bl (decide (i < j))
def leM : D → D → M D := int2 fun i j => .bl (decide (i ≤ j))
def gtM : D → D → M D := int2 fun i j => .bl (decide (j < i))
def geM : D → D → M D := int2 fun i j => .bl (decide (j ≤ i))
theorem de_lt {a b : Expr} {ma mb : M D} (ha : DE X W env a ma) (hb : DE X W env b mb) : DE X W env (.Compare a [.Lt] [b] pos) (do let x ← ma; let y ← mb; ltM x y) := de_cmp op_lt (int2_ok fun _ _ _ _ _ => Rep.bl) ha hb (nomark _)
theorem de_ge {a b : Expr} {ma mb : M D} (ha : DE X W env a ma) (hb : DE X W env b mb) : DE X W env (.Compare a [.GtE] [b] pos) (do let x ← ma; let y ← mb; geM x y) := de_cmp op_ge (int2_ok fun _ _ _ _ _ => Rep.bl) ha hb (nomark _)
/-! a op b op c, ints -/
def chainM (f g : D → D → M D) (x y : D) (mc : M D) : M D := do
  match ← f x y with
  | .bl true => do let z ← mc; g y z
  | .bl false => pure (.bl false)
  | _ => stuck
/-! ### == over data -/
mutual
def toP : D → PyData
  | .non => .none
  | .bl b => .bool b
  | .int i => .int i
  | .str x => .str x
  | .tup xs => .tuple (toPs xs)
  | .lst xs => .list (toPs xs)
  | _ => .none
def toPs : List D → List PyData
  | [] => []
  | d :: ds => toP d :: toPs ds
/-- flat data, at most so deep -/
def flatD : Nat → D → Bool
  | _, .non => true
  | _, .bl _ => true
  | _, .int _ => true
  | _, .str _ => true
  | n, .tup xs => flatDs n xs
  | n, .lst xs => flatDs n xs
  | _, _ => false
def flatDs : Nat → List D → Bool
  | _, [] => true
  | n, d :: ds => flatD n d && flatDs n ds
end
mutual
theorem dp_of {K : Fg} {F H : Hp} {m : List Addr} (sub : ∀ a o, F a = some o → H a = some o) : ∀ (d : D) (v : V), Rep K F m d v → flatD 0 d = true → Dp K H v (toP d)
  | .non, v, r, _ => by
    unfold Rep at r
    rw [r]
    exact .non
  | .bl b, v, r, _ => by
    unfold Rep at r
    rw [r]
    exact .bl b
  | .int b, v, r, _ => by
    unfold Rep at r
    rw [r]
    exact .int b
  | .str b, v, r, _ => by
    unfold Rep at r
    rw [r]
    exact .str b
  | .ref _, v, _, f => by
    unfold flatD at f
    cases f
  | .exn _ _, v, _, f => by
    unfold flatD at f
    cases f
  | .emp, v, _, f => by
    unfold flatD at f
    cases f
  | .tup xs, v, r, f => by
    unfold Rep at r
    obtain ⟨a, vs, h1, h2, h3⟩ := r
    unfold flatD at f
    rw [h1]
    exact .tup (SqT.up sub h2) (dps_of sub xs vs h3 f)
  | .lst xs, v, r, f => by
    unfold Rep at r
    obtain ⟨a, vs, h1, h2, h3⟩ := r
    unfold flatD at f
    rw [h1]
    exact .lst (SqL.up sub h2) (dps_of sub xs vs h3 f)
theorem dps_of {K : Fg} {F H : Hp} {m : List Addr} (sub : ∀ a o, F a = some o → H a = some o) : ∀ (ds : List D) (vs : List V), RepL K F m ds vs → flatDs 0 ds = true → DpAll K H vs (toPs ds)
  | [], vs, r, _ => by
    unfold RepL at r
    rw [r]
    exact .nil
  | d :: ds, vs, r, f => by
    unfold RepL at r
    obtain ⟨v, u, h1, h2, h3⟩ := r
    unfold flatDs at f
    rw [Bool.and_eq_true] at f
    rw [h1]
    exact .cons (dp_of sub d v h2 f.1) (dps_of sub ds u h3 f.2)
end
/-- a list of the heap, looked at as data -/
def lookD (h : AH) : D → D
  | .ref n => match h[n]? with
    | some (.lst xs) => .lst xs
    | _ => .ref n
  | d => d
def okD (d : D) : Bool := flatD 0 d && SeqAt.shaped (toP d)
/-- two texts; two lists of unlike lengths -/
def eqP (h : AH) (x y : D) : Option Bool := match x, y with
  | .str a, .str b => some (decide (a = b))
  | x, y => match lstOf h x, lstOf h y with
    | some xs, some ys => if xs.length = ys.length then none else some false
    | _, _ => none
def eqM (x y : D) : M D := fun h => match eqP h x y with
  | some b => .ok (.bl b) h
  | none => if (okD (lookD h x) && okD (lookD h y)) = true then .ok (.bl (PyData.eqv (toP (lookD h x)) (toP (lookD h y)))) h else .stuck
def neM (x y : D) : M D := fun h => match eqP h x y with
  | some b => .ok (.bl (!b)) h
  | none => if (okD (lookD h x) && okD (lookD h y)) = true then .ok (.bl (!PyData.eqv (toP (lookD h x)) (toP (lookD h y)))) h else .stuck
theorem dp_look {K : Fg} {mg : Str → Option Value} {F H : Hp} {m : List Addr} {ah : AH} {d : D} {v : V} (S : Sim K mg fr F m ah H) (r : Rep K F m d v) (f : flatD 0 (lookD ah d) = true) : Dp K H v (toP (lookD ah d)) := by
  cases d <;> try exact dp_of S.sub _ v r f
  rename_i n
  unfold lookD at f ⊢
  cases hc : ah[n]? with
  | none =>
    simp only [hc] at f
    unfold flatD at f
    cases f
  | some c =>
    cases c <;> simp only [hc] at f ⊢ <;> try (unfold flatD at f; cases f; done)
    rename_i xs
    obtain ⟨a, vs, h1, h2, h3⟩ := lst_of (xs := xs) S r (by unfold lstOf; simp only [hc])
    unfold flatD at f
    rw [h1]
    exact .lst h2 (dps_of S.sub xs vs h3 f)
/-- lists of unlike lengths -/
def rLen (K : Fg) (k : Bool) : R2 := fun x y H Q => ∃ a b xs ys, x = .ref a ∧ y = .ref b ∧ SqL K H a xs ∧ SqL K H b ys ∧ xs.length ≠ ys.length ∧ Q (.bl k) H
theorem op_eqLen (hu : X.A.units + 64 < cLine) : OpR X (compareOp .Eq) (rLen X.K false) := by
  intro pins s σ H x y v u Q I rx ry h
  obtain ⟨a, b, xs, ys, rfl, rfl, ha, hb, hl, q⟩ := h
  cases rx
  cases ry
  obtain ⟨its, r, p, _⟩ := I.list ha
  obtain ⟨its2, r2, p2, _⟩ := I.list hb
  have e1 := r.length
  have e2 := r2.length
  exact PySem.SeqAt.eq_list_lengthsAt p.isList p2.isList (by simp only [List.size_toArray, bne_iff_ne]; omega) (by omega) ⟨.bl false, H, I, rfl, q⟩
theorem op_neLen (hu : X.A.units + 64 < cLine) : OpR X (compareOp .NotEq) (rLen X.K true) := by
  intro pins s σ H x y v u Q I rx ry h
  obtain ⟨a, b, xs, ys, rfl, rfl, ha, hb, hl, q⟩ := h
  cases rx
  cases ry
  obtain ⟨its, r, p, _⟩ := I.list ha
  obtain ⟨its2, r2, p2, _⟩ := I.list hb
  have e1 := r.length
  have e2 := r2.length
  exact PySem.SeqAt.RcNeAt.lists_lengths p.isList p2.isList (by simp only [List.size_toArray, bne_iff_ne]; omega) (by omega) X.prog X.w X.xe _ ⟨.bl true, H, I, rfl, q⟩
def rEqX (K : Fg) : R2 := fun x y H Q => (rEq x y H Q ∨ rLen K false x y H Q) ∨ rEqD K x y H Q
def rNeX (K : Fg) : R2 := fun x y H Q => (rNe x y H Q ∨ rLen K true x y H Q) ∨ rNeD K x y H Q
theorem op_eqX (hu : X.A.units + 64 < cLine) : OpR X (compareOp .Eq) (rEqX X.K) := (op_eq.or (op_eqLen hu)).or (op_eqD hu)
theorem op_neX (hu : X.A.units + 64 < cLine) : OpR X (compareOp .NotEq) (rNeX X.K) := (op_ne.or (op_neLen hu)).or (op_neD hu)
theorem eqP_of {K : Fg} {mg : Str → Option Value} {F H : Hp} {m : List Addr} {ah : AH} {d e : D} {x y : V} {b : Bool} (s : Sim K mg fr F m ah H) (rx : Rep K F m d x) (ry : Rep K F m e y) (h : eqP ah d e = some b) :
    (∃ p q, x = .str p ∧ y = .str q ∧ b = decide (p = q)) ∨ (b = false ∧ ∃ p q xs ys, x = .ref p ∧ y = .ref q ∧ SqL K H p xs ∧ SqL K H q ys ∧ xs.length ≠ ys.length) := by
  unfold eqP at h
  split at h
  · unfold Rep at rx ry
    cases h
    exact .inl ⟨_, _, rx, ry, rfl⟩
  · split at h
    · rename_i xs ys h1 h2
      by_cases hl : xs.length = ys.length
      · rw [if_pos hl] at h
        cases h
      · rw [if_neg hl] at h
        cases h
        obtain ⟨p, vs, e1, e2, e3⟩ := lst_of s rx h1
        obtain ⟨q, us, g1, g2, g3⟩ := lst_of s ry h2
        exact .inr ⟨rfl, p, q, vs, us, e1, g1, e2, g2, by rw [RepL.length e3, RepL.length g3]; exact hl⟩
    · cases h
theorem eq_ok : OpD X (rEqX X.K) eqM := by
  intro fr W σ F m ah H d e x y Q s rx ry k
  unfold eqM at k
  cases hp : eqP ah d e with
  | some b =>
    simp only [hp] at k
    rcases eqP_of s rx ry hp with ⟨p, q, rfl, rfl, rfl⟩ | ⟨rfl, p, q, xs, ys, rfl, rfl, h1, h2, h3⟩
    · refine .inl (.inl ⟨rfl, ?_⟩)
      have e : decide ((V.str p) = .str q) = decide (p = q) := by
        by_cases z : p = q
        · rw [decide_eq_true z, decide_eq_true (by rw [z])]
        · rw [decide_eq_false z, decide_eq_false (fun y => z (V.str.inj y))]
      rw [e]
      exact k.val s Rep.bl
    · exact .inl (.inr ⟨p, q, xs, ys, rfl, rfl, h1, h2, h3, k.val s Rep.bl⟩)
  | none =>
    simp only [hp] at k
    by_cases h : (okD (lookD ah d) && okD (lookD ah e)) = true
    · rw [if_pos h] at k
      rw [Bool.and_eq_true] at h
      unfold okD at h
      rw [Bool.and_eq_true, Bool.and_eq_true] at h
      exact .inr ⟨_, _, dp_look s rx h.1.1, dp_look s ry h.2.1, h.1.2, h.2.2, k.val s Rep.bl⟩
    · rw [if_neg h] at k
      exact k.elim
theorem ne_ok : OpD X (rNeX X.K) neM := by
  intro fr W σ F m ah H d e x y Q s rx ry k
  unfold neM at k
  cases hp : eqP ah d e with
  | some b =>
    simp only [hp] at k
    rcases eqP_of s rx ry hp with ⟨p, q, rfl, rfl, rfl⟩ | ⟨rfl, p, q, xs, ys, rfl, rfl, h1, h2, h3⟩
    · refine .inl (.inl ⟨rfl, ?_⟩)
      have e : decide ((V.str p) = .str q) = decide (p = q) := by
        by_cases z : p = q
        · rw [decide_eq_true z, decide_eq_true (by rw [z])]
        · rw [decide_eq_false z, decide_eq_false (fun y => z (V.str.inj y))]
      rw [e]
      exact k.val s Rep.bl
    · exact .inl (.inr ⟨p, q, xs, ys, rfl, rfl, h1, h2, h3, k.val s Rep.bl⟩)
  | none =>
    simp only [hp] at k
    by_cases h : (okD (lookD ah d) && okD (lookD ah e)) = true
    · rw [if_pos h] at k
      rw [Bool.and_eq_true] at h
      unfold okD at h
      rw [Bool.and_eq_true, Bool.and_eq_true] at h
      exact .inr ⟨_, _, dp_look s rx h.1.1, dp_look s ry h.2.1, h.1.2, h.2.2, k.val s Rep.bl⟩
    · rw [if_neg h] at k
      exact k.elim
theorem de_eq {a b : Expr} {ma mb : M D} (hu : X.A.units + 64 < cLine) (ha : DE X W env a ma) (hb : DE X W env b mb) : DE X W env (.Compare a [.Eq] [b] pos) (do let x ← ma; let y ← mb; eqM x y) := de_cmp (op_eqX hu) eq_ok ha hb (nomark _)
theorem de_ne {a b : Expr} {ma mb : M D} (hu : X.A.units + 64 < cLine) (ha : DE X W env a ma) (hb : DE X W env b mb) : DE X W env (.Compare a [.NotEq] [b] pos) (do let x ← ma; let y ← mb; neM x y) := de_cmp (op_neX hu) ne_ok ha hb (nomark _)
end
end Lw
/-! SimD: tests, is, and/or/not, subscripts, slices, built-in calls. -/
namespace Lw
open PySem L2
section
variable {X : Cx} {W : WX} {env : Env} {pos : Pos}
/-! ### tests -/
def asB : D → M Bool
  | .bl b => pure b
  | _ => stuck
theorem dt_of {e : Expr} {t : TE} {mc : M D} (hp : PT X e (tTest t)) (i : ∀ σ H Q, TC X.K X.mg W (Rep X.K) env mc σ H Q → t σ H Q) : DT X W env e (do let x ← mc; asB x) :=
  PT.from hp fun σ H Q ⟨fr, F, m, ah, s, er, k⟩ => i σ H _ (TK.step s er k fun F1 m1 ah1 d v H1 e1 s1 er1 r1 k1 => by
    cases d <;> try exact (TK.stuck_of k1).elim
    unfold Rep at r1
    exact ⟨_, r1, k1 F1 m1 _ H1 Ext.refl s1 rfl⟩)
theorem dt_cmp {a b : Expr} {ma mb : M D} {op : CmpOp} {r : R2} {f : D → D → M D} (ho : OpR X (compareOp op) r) (hr : OpD X r f) (ha : DE X W env a ma) (hb : DE X W env b mb) (hm : behindInMarks op b = false) :
    DT X W env (.Compare a [op] [b] pos) (do let v ← (do let x ← ma; let y ← mb; f x y); asB v) := dt_of (pt_cmpR ho ha hb hm) (tOp_from hr)
/-- an expression by its truth -/
def truM (d : D) : M Bool := fun h => match d with
  | .non => .ok false h
  | .bl b => .ok b h
  | .int i => .ok (i != 0) h
  | .str x => if lenOk x.length = true then .ok ((x.length : Int) != 0) h else .stuck
  | .tup xs => .ok (!xs.isEmpty) h
  | d => match lstOf h d with
    | some xs => .ok (!xs.isEmpty) h
    | none => .stuck
theorem RepL.isEmpty {K : Fg} {F : Hp} {m : List Addr} {ds : List D} {vs : List V} (r : RepL K F m ds vs) : vs.isEmpty = ds.isEmpty := by
  cases ds with
  | nil =>
    unfold RepL at r
    rw [r]
    rfl
  | cons d ds =>
    unfold RepL at r
    obtain ⟨v, u, h1, _, _⟩ := r
    rw [h1]
    rfl
theorem tru_of {K : Fg} {mg : Str → Option Value} {fr : Fm} {W : WX} {σ : St} {F H : Hp} {m : List Addr} {ah : AH} {d : D} {v : V} {Q : Bool → Hp → Prop} (S : Sim K mg fr F m ah H) (r : Rep K F m d v) (k : TK K mg fr W RB σ F m (truM d ah) Q) : ∃ b, TruV K v H b ∧ Q b H := by
  have ls : ∀ xs, lstOf ah d = some xs → TK K mg fr W RB σ F m (.ok (!xs.isEmpty) ah) Q → ∃ b, TruV K v H b ∧ Q b H := fun xs h k => by
    obtain ⟨a, vs, h1, h2, h3⟩ := lst_of S r h
    subst h1
    exact ⟨!xs.isEmpty, .inl ⟨vs, h2, by rw [RepL.isEmpty h3]⟩, k F m _ H Ext.refl S rfl⟩
  unfold truM at k
  split at k
  · unfold Rep at r
    subst r
    exact ⟨false, rfl, k F m _ H Ext.refl S rfl⟩
  · unfold Rep at r
    subst r
    exact ⟨_, rfl, k F m _ H Ext.refl S rfl⟩
  · unfold Rep at r
    subst r
    exact ⟨_, rfl, k F m _ H Ext.refl S rfl⟩
  · rename_i x
    unfold Rep at r
    subst r
    by_cases hl : lenOk x.length = true
    · rw [if_pos hl] at k
      exact ⟨_, ⟨of_decide_eq_true hl, rfl⟩, k F m _ H Ext.refl S rfl⟩
    · rw [if_neg hl] at k
      exact k.elim
  · rename_i xs
    unfold Rep at r
    obtain ⟨a, vs, h1, h2, h3⟩ := r
    subst h1
    exact ⟨!xs.isEmpty, .inr (.inl ⟨vs, SqT.up S.sub h2, by rw [RepL.isEmpty h3]⟩), k F m _ H Ext.refl S rfl⟩
  · cases h : lstOf ah d with
    | none =>
      rw [h] at k
      exact k.elim
    | some xs =>
      rw [h] at k
      exact ls xs h k
theorem dt_tru {e : Expr} {me : M D} (ha : DE X W env e me) (he : ∀ whole, isTrue e X.env whole = (do let v ← whole; standAt e.pos; holding [v] (truthy v)) := by intro _; rfl) : DT X W env e (do let x ← me; truM x) :=
  PT.from (pt_truth ha he) fun σ H Q ⟨fr, F, m, ah, s, er, k⟩ => TK.step s er k fun F1 m1 ah1 d v H1 e1 s1 er1 r1 k1 => tru_of s1 r1 k1
theorem dt_not {a : Expr} {ma : M Bool} (ha : DT X W env a ma) : DT X W env (.UnaryOp .Not a pos) (do let t ← ma; pure (!t)) :=
  PT.from (pt_not ha) fun σ H Q ⟨fr, F, m, ah, s, er, k⟩ => TK.step s er k fun F1 m1 ah1 d v H1 e1 s1 er1 r1 k1 => by
    have r1 : d = v := r1
    subst r1
    exact k1 F1 m1 _ H1 Ext.refl s1 rfl
abbrev DW (X : Cx) (W : WX) (env : Env) (e : Expr) (mc : M Bool) : Prop := PW X e (TC X.K X.mg W RB env mc)
theorem PW.from {X : Cx} {e : Expr} {t t' : TT} (h : PW X e t) (i : ∀ σ H Q, t' σ H Q → t σ H Q) : PW X e t' := ⟨fun w pins s σ H Q I q => h.run w pins s σ H Q I (i σ H Q q)⟩
theorem dw_or1 {a : Expr} {ma : M Bool} (ha : DT X W env a ma) : DW X W env (.BoolOp .Or [a] pos) ma := pw_or1 ha
theorem dw_or {a b : Expr} {rest : List Expr} {ma mb : M Bool} (ha : DT X W env a ma) (hb : DW X W env (.BoolOp .Or (b :: rest) pos) mb) : DW X W env (.BoolOp .Or (a :: b :: rest) pos) (do let t ← ma; if t = true then pure true else mb) :=
  PW.from (pw_or ha hb) fun σ H Q ⟨fr, F, m, ah, s, er, k⟩ => TK.step s er k fun F1 m1 ah1 d v H1 e1 s1 er1 r1 k1 => by
    have r1 : d = v := r1
    subst r1
    cases d with
    | true => exact iteT (k1 F1 m1 _ H1 Ext.refl s1 rfl)
    | false => exact iteF ⟨fr, F1, m1, ah1, s1, er1, k1⟩
theorem dt_w {e : Expr} {mc : M Bool} (h : DW X W env e mc) : DT X W env e mc := h.pt
/-! as values -/
theorem de_one {op : BoolOp} {a : Expr} {ma : M D} (h : DE X W env a ma) : DE X W env (.BoolOp op [a] pos) ma := pe_one h
def andV (x : D) (mb : M D) : M D := match x with
  | .bl true => mb
  | .bl false => pure (.bl false)
  | _ => stuck
def orV (x : D) (mb : M D) : M D := match x with
  | .bl true => pure (.bl true)
  | .bl false => mb
  | _ => stuck
theorem de_and {a b : Expr} {rest : List Expr} {ma mb : M D} (ha : DE X W env a ma) (hb : DE X W env (.BoolOp .And (b :: rest) pos) mb) : DE X W env (.BoolOp .And (a :: b :: rest) pos) (do let x ← ma; andV x mb) :=
  PE.from (pe_and ha hb) fun σ H Q ⟨fr, F, m, ah, s, er, k⟩ => TK.step s er k fun F1 m1 ah1 d v H1 e1 s1 er1 r1 k1 => by
    cases d <;> try exact (TK.stuck_of k1).elim
    rename_i c
    unfold Rep at r1
    refine ⟨c, r1, ?_⟩
    cases c with
    | true => exact iteT ⟨fr, F1, m1, ah1, s1, er1, k1⟩
    | false => exact iteF (k1 F1 m1 _ H1 Ext.refl s1 Rep.bl)
theorem de_or {a b : Expr} {rest : List Expr} {ma mb : M D} (ha : DE X W env a ma) (hb : DE X W env (.BoolOp .Or (b :: rest) pos) mb) : DE X W env (.BoolOp .Or (a :: b :: rest) pos) (do let x ← ma; orV x mb) :=
  PE.from (pe_or ha hb) fun σ H Q ⟨fr, F, m, ah, s, er, k⟩ => TK.step s er k fun F1 m1 ah1 d v H1 e1 s1 er1 r1 k1 => by
    cases d <;> try exact (TK.stuck_of k1).elim
    rename_i c
    unfold Rep at r1
    refine ⟨c, r1, ?_⟩
    cases c with
    | true => exact iteT (k1 F1 m1 _ H1 Ext.refl s1 Rep.bl)
    | false => exact iteF ⟨fr, F1, m1, ah1, s1, er1, k1⟩
def notV : D → M D
  | .bl b => pure (.bl (!b))
  | _ => stuck
theorem de_not {a : Expr} {ma : M D} (ha : DE X W env a ma) : DE X W env (.UnaryOp .Not a pos) (do let x ← ma; notV x) :=
  PE.from (pe_not ha) fun σ H Q ⟨fr, F, m, ah, s, er, k⟩ => TK.step s er k fun F1 m1 ah1 d v H1 e1 s1 er1 r1 k1 => by
    cases d <;> try exact (TK.stuck_of k1).elim
    unfold Rep at r1
    exact ⟨_, r1, k1 F1 m1 _ H1 Ext.refl s1 Rep.bl⟩
/-! ### is -/
theorem isnot_bl_gen {M : Model} {A : Around} {E : Value → Shared → Prop} {s : Shared} {Q : Value → Shared → Prop} {v : Value} {b : Bool} (hv : ∀ n, v ≠ .builtin n) (h : Q (.bool (!(v == .bool b))) s) : wpAny M A (compareOp .IsNot v (.bool b)) Q E s := by
  cases v <;> first | exact wpAny_pure h | exact absurd rfl (hv _)
theorem RelV.nob {x : V} {v : Value} (r : RelV x v) : ∀ n, v ≠ .builtin n := fun n e => by
  subst e
  cases x <;> first | (cases r; done) | (obtain ⟨t, z⟩ := r; cases z)
theorem RelV.bl_iff {x : V} {v : Value} {b : Bool} (r : RelV x v) : (v == Value.bool b) = decide (x = .bl b) := by
  cases x with
  | non => cases r; rfl
  | bl c => cases r; cases c <;> cases b <;> rfl
  | int _ => obtain ⟨t, rfl⟩ := r; rfl
  | str _ => obtain ⟨t, rfl⟩ := r; rfl
  | byt _ => obtain ⟨t, rfl⟩ := r; rfl
  | flt _ => obtain ⟨t, rfl⟩ := r; rfl
  | ref _ => cases r; rfl
  | ty _ => cases r; rfl
/-- is, the right side None, True or False -/
def rIs (neg : Bool) : R2 := fun x y H Q => (y = .non ∧ Q (.bl (xor neg (decide (x = .non)))) H) ∨ ∃ b, y = .bl b ∧ Q (.bl (xor neg (decide (x = .bl b)))) H
theorem op_isnotC : OpR X (compareOp .IsNot) (rIs true) := by
  intro pins s σ H x y v u Q I rx ry h
  rcases h with ⟨rfl, q⟩ | ⟨b, rfl, q⟩
  · exact op_notN pins s σ H x _ v u Q I rx ry ⟨rfl, by simpa using q⟩
  · cases ry
    exact isnot_bl_gen (RelV.nob rx) (fin_bl I q (by rw [RelV.bl_iff rx]; simp))
/-- the same None, True, False -/
def isC : D → D → Bool
  | .non, .non => true
  | .bl a, .bl b => a == b
  | _, _ => false
def isM (neg : Bool) (x y : D) : M D := match y with
  | .non => pure (.bl (xor neg (isC x .non)))
  | .bl b => pure (.bl (xor neg (isC x (.bl b))))
  | _ => stuck
theorem Rep.non_iff {K : Fg} {F : Hp} {m : List Addr} {d : D} {v : V} (r : Rep K F m d v) : decide (v = .non) = isC d .non := by
  cases d <;> unfold Rep at r
  · rw [r]; rfl
  · rw [r]; rfl
  · rw [r]; rfl
  · rw [r]; rfl
  · obtain ⟨a, _, h⟩ := r; rw [h]; rfl
  · rw [r]; rfl
  · obtain ⟨a, _, h⟩ := r; rw [h]; rfl
  · obtain ⟨a, _, h, _⟩ := r; rw [h]; rfl
  · obtain ⟨a, _, h, _⟩ := r; rw [h]; rfl
theorem Rep.bl_iff {K : Fg} {F : Hp} {m : List Addr} {d : D} {v : V} {b : Bool} (r : Rep K F m d v) : decide (v = .bl b) = isC d (.bl b) := by
  cases d <;> unfold Rep at r
  · rw [r]; rfl
  · rename_i c
    rw [r]
    cases c <;> cases b <;> rfl
  · rw [r]; rfl
  · rw [r]; rfl
  · obtain ⟨a, _, h⟩ := r; rw [h]; rfl
  · rw [r]; rfl
  · obtain ⟨a, _, h⟩ := r; rw [h]; rfl
  · obtain ⟨a, _, h, _⟩ := r; rw [h]; rfl
  · obtain ⟨a, _, h, _⟩ := r; rw [h]; rfl
theorem isM_ok {neg : Bool} : OpD X (rIs neg) (isM neg) := by
  intro fr W σ F m ah H d e x y Q s rx ry k
  cases e <;> try exact (TK.stuck_of k).elim
  · unfold Rep at ry
    exact .inl ⟨ry, by rw [Rep.non_iff rx]; exact TK.val k s Rep.bl⟩
  · unfold Rep at ry
    exact .inr ⟨_, ry, by rw [Rep.bl_iff rx]; exact TK.val k s Rep.bl⟩
theorem de_isnot {a b : Expr} {ma mb : M D} (ha : DE X W env a ma) (hb : DE X W env b mb) : DE X W env (.Compare a [.IsNot] [b] pos) (do let x ← ma; let y ← mb; isM true x y) := de_cmp op_isnotC isM_ok ha hb (nomark _)
/-! ### subscripts -/
def ixM (x y : D) : M D := fun h => match x, y with
  | .tup xs, .int i => (match atI xs i with
    | some d => .ok d h
    | none => .stuck)
  | .str z, .int i => if lenOk z.length = true then (match atI z.cps.toList i with
    | some c => .ok (.str ⟨#[c]⟩) h
    | none => .stuck) else .stuck
  | x, .int i => (match lstOf h x with
    | some xs => (match atI xs i with
      | some d => .ok d h
      | none => .stuck)
    | none => .stuck)
  | _, _ => .stuck
theorem RepL.atI {K : Fg} {F : Hp} {m : List Addr} {ds : List D} {vs : List V} {i : Int} {d : D} (r : RepL K F m ds vs) (h : atI ds i = some d) : ∃ v, L2.atI vs i = some v ∧ Rep K F m d v := by
  unfold L2.atI at h ⊢
  rw [RepL.length r]
  cases hj : ixN ds.length i with
  | none =>
    rw [hj] at h
    cases h
  | some j =>
    rw [hj] at h
    exact RepL.get r h
theorem ixM_ok : OpD X (rIx X.K) ixM := by
  intro fr W σ F m ah H d e x y Q s rx ry k
  unfold ixM at k
  split at k
  · rename_i xs i
    unfold Rep at ry
    obtain ⟨a, vs, h1, h2, h3⟩ := tup_of (xs := xs) rx rfl
    cases hj : atI xs i with
    | none =>
      rw [hj] at k
      exact k.elim
    | some d =>
      rw [hj] at k
      obtain ⟨v, q1, q2⟩ := RepL.atI h3 hj
      exact .inr (.inl ⟨a, vs, i, v, h1, ry, SqT.up s.sub h2, q1, k.val s q2⟩)
  · rename_i z i
    unfold Rep at rx ry
    by_cases hl : lenOk z.length = true
    · rw [if_pos hl] at k
      cases hj : atI z.cps.toList i with
      | none =>
        rw [hj] at k
        exact k.elim
      | some c =>
        rw [hj] at k
        exact .inr (.inr ⟨z, i, c, rx, ry, of_decide_eq_true hl, hj, k.val s Rep.str⟩)
    · rw [if_neg hl] at k
      exact k.elim
  · rename_i x' i _ _
    unfold Rep at ry
    cases hx : lstOf ah d with
    | none =>
      rw [hx] at k
      exact k.elim
    | some xs =>
      rw [hx] at k
      obtain ⟨a, vs, h1, h2, h3⟩ := lst_of s rx hx
      cases hj : atI xs i with
      | none =>
        simp only [hj] at k
        exact k.elim
      | some d =>
        simp only [hj] at k
        obtain ⟨v, q1, q2⟩ := RepL.atI h3 hj
        exact .inl ⟨a, vs, i, v, h1, ry, h2, q1, k.val s q2⟩
  · exact k.elim
theorem de_ix {a b : Expr} {ma mb : M D} (ha : DE X W env a ma) (hb : DE X W env b mb) (hs : PlainIx b := by exact fun _ _ => rfl) : DE X W env (.Subscript a b pos) (do let x ← ma; let y ← mb; ixM x y) := PE.from (pe_ix ix_seq ha hb hs) (tOp_from ixM_ok)
/-! ### slices -/
abbrev DO (X : Cx) (W : WX) (env : Env) (e : Option Expr) (mc : M (Option Int)) : Prop := PO X e (fun σ H Q => TC X.K X.mg W (fun _ _ a b => a = b) env mc σ H Q)
theorem do_none : DO X W env none (pure none) := ⟨fun pins s σ H Q I ⟨fr, F, m, ah, S, er, k⟩ => po_none.run pins s σ H Q I (k F m _ H Ext.refl S rfl)⟩
def asI : D → M (Option Int)
  | .int i => pure (some i)
  | _ => stuck
theorem do_some {e : Expr} {me : M D} (he : DE X W env e me) : DO X W env (some e) (do let x ← me; asI x) :=
  ⟨fun pins s σ H Q I ⟨fr, F, m, ah, S, er, k⟩ => (po_some he).run pins s σ H Q I (TK.step S er k fun F1 m1 ah1 d v H1 e1 s1 er1 r1 k1 => by
    cases d <;> try exact (TK.stuck_of k1).elim
    unfold Rep at r1
    exact ⟨_, r1, k1 F1 m1 _ H1 Ext.refl s1 rfl⟩)⟩
def cutD {α : Type} (xs : List α) (lo hi : Option Int) : List α := (xs.drop (HT.sIx xs.length 0 lo)).take (HT.sIx xs.length xs.length hi - HT.sIx xs.length 0 lo)
def sliceM (x : D) (lo hi : Option Int) : M D := fun h => match x with
  | .tup xs => .ok (.tup (cutD xs lo hi)) h
  | .str z => if lenOk z.length = true then .ok (.str (cutS z lo hi)) h else .stuck
  | x => match lstOf h x with
    | some xs => .ok (.lst (cutD xs lo hi)) h
    | none => .stuck
theorem cutD_whole {α : Type} {xs : List α} {lo hi : Option Int} (h : HT.sIx xs.length 0 lo = 0 ∧ HT.sIx xs.length xs.length hi = xs.length) : cutD xs lo hi = xs := by
  unfold cutD
  rw [h.1, h.2]
  simp
theorem RepL.cut {K : Fg} {F : Hp} {m : List Addr} {ds : List D} {vs : List V} {lo hi : Option Int} (r : RepL K F m ds vs) : RepL K F m (cutD ds lo hi) (cutV vs lo hi) := by
  unfold cutD cutV
  rw [RepL.length r]
  exact RepL.take _ (RepL.drop _ r)
def rSlAll (K : Fg) : V → Option Int → Option Int → Hp → VK → Prop := fun x lo hi H Q => rSlA K x lo hi H Q ∨ rSlL K x lo hi H Q ∨ rSlS x lo hi H Q
theorem slice_ok {fr : Fm} {W : WX} {σ : St} {F H : Hp} {m : List Addr} {ah : AH} {d : D} {v : V} {lo hi : Option Int} {Q : VK} (S : Sim X.K X.mg fr F m ah H) (r : Rep X.K F m d v) (k : TK X.K X.mg fr W (Rep X.K) σ F m (sliceM d lo hi ah) Q) : rSlAll X.K v lo hi H Q := by
  unfold sliceM at k
  split at k
  · rename_i xs
    obtain ⟨a, vs, h1, h2, h3⟩ := tup_of (xs := xs) r rfl
    refine .inl ⟨a, vs, h1, SqT.up S.sub h2, fun z => ?_, fun _ p hp => TK.newT k S (RepL.cut h3) hp⟩
    rw [RepL.length h3] at z
    rw [cutD_whole z] at k
    exact k.val S (Rep.tup h2 h3)
  · rename_i z
    unfold Rep at r
    by_cases hl : lenOk z.length = true
    · rw [if_pos hl] at k
      exact .inr (.inr ⟨z, r, of_decide_eq_true hl, k.val S Rep.str⟩)
    · rw [if_neg hl] at k
      exact k.elim
  · cases hx : lstOf ah d with
    | none =>
      rw [hx] at k
      exact k.elim
    | some xs =>
      rw [hx] at k
      obtain ⟨a, vs, h1, h2, h3⟩ := lst_of S r hx
      exact .inr (.inl ⟨a, vs, h1, h2, fun p hp => TK.newL k S (RepL.cut h3) hp⟩)
theorem sl_all : SlR X (rSlAll X.K) := sl_tupA.or (sl_list.or sl_str)
theorem de_slice {a : Expr} {lo hi : Option Expr} {ma : M D} {ml mh : M (Option Int)} {p2 : Pos} (ha : DE X W env a ma) (hl : DO X W env lo ml) (hh : DO X W env hi mh) :
    DE X W env (.Subscript a (.Slice lo hi none p2) pos) (do let x ← ma; let l ← ml; let u ← mh; sliceM x l u) :=
  PE.from (pe_slice sl_all ha hl hh) fun σ H Q ⟨fr, F, m, ah, s, er, k⟩ => TK.step s er k fun F1 m1 ah1 d v H1 e1 s1 er1 r1 k1 => TK.step s1 er1 k1 fun F2 m2 ah2 d2 v2 H2 e2 s2 er2 r2 k2 => TK.step s2 er2 k2 fun F3 m3 ah3 d3 v3 H3 e3 s3 er3 r3 k3 => by
    have r2 : d2 = v2 := r2
    have r3 : d3 = v3 := r3
    subst r2 r3
    exact slice_ok s3 (Rep.ext (e2.trans e3) _ _ r1) k3
/-! ### calls of built-in things -/
/-- a rule of a call, read of data -/
def ClD (X : Cx) (r : List V → Hp → VK → Prop) (f : List D → M D) : Prop := ∀ (fr : Fm) (W : WX) (σ : St) (F : Hp) (m : List Addr) (ah : AH) (H : Hp) (ds : List D) (vs : List V) (Q : VK), Sim X.K X.mg fr F m ah H → RepL X.K F m ds vs →
  TK X.K X.mg fr W (Rep X.K) σ F m (f ds ah) Q → r vs H Q
theorem tCB_from {r : List V → Hp → VK → Prop} {f : List D → M D} {ms : M (List D)} (hr : ClD X r f) : ∀ σ H Q, TC X.K X.mg W (Rep X.K) env (do let xs ← ms; f xs) σ H Q → tCB r (TC X.K X.mg W (RepL X.K) env ms) σ H Q :=
  fun σ H Q ⟨fr, F, m, ah, s, er, k⟩ => TK.step s er k fun F1 m1 ah1 d v H1 e1 s1 er1 r1 k1 => hr fr W σ F1 m1 ah1 H1 d v Q s1 r1 k1
theorem de_callB {x : Str} {id : String} {e : Expr} {es : List Expr} {r : List V → Hp → VK → Prop} {f : List D → M D} {ms : M (List D)} {p : Pos} (hc : CallR X (.builtin id) r) (hr : ClD X r f) (hm : X.mg x = none) (hv : bootBuiltins x = some (.builtin id)) (ha : DA X W env (e :: es) ms)
    (hg : Gl X x := by rfl) (hn : x ≠ "__name__" := by decide) (hdb : (x == ("__debug__" : Str)) = false := by decide) (he : starEach (e :: es) X.env = (false, eval e X.env) :: starEach es X.env := by rfl) (hpl : (backTo pos (starEach es X.env)).any (·.1) = false := by rfl) :
    DE X W env (.Call (.Name x p) (e :: es) [] pos) (do let xs ← ms; f xs) := PE.from (pe_callB hc hg hm hv ha hn hdb he hpl) (tCB_from hr)
theorem de_callT {x : Str} {T : String} {e : Expr} {es : List Expr} {r : List V → Hp → VK → Prop} {f : List D → M D} {ms : M (List D)} {p : Pos} (hc : CallR X (.type T) r) (hr : ClD X r f) (hm : X.mg x = none) (hv : bootBuiltins x = some (.type T)) (ha : DA X W env (e :: es) ms)
    (hg : Gl X x := by rfl) (hn : x ≠ "__name__" := by decide) (hdb : (x == ("__debug__" : Str)) = false := by decide) (he : starEach (e :: es) X.env = (false, eval e X.env) :: starEach es X.env := by rfl) (hpl : (backTo pos (starEach es X.env)).any (·.1) = false := by rfl) :
    DE X W env (.Call (.Name x p) (e :: es) [] pos) (do let xs ← ms; f xs) := PE.from (pe_callTy hc hg hm hv ha hn hdb he hpl) (tCB_from hr)
theorem RepL.one {K : Fg} {F : Hp} {m : List Addr} {d : D} {vs : List V} (r : RepL K F m [d] vs) : ∃ v, vs = [v] ∧ Rep K F m d v := by
  unfold RepL at r
  obtain ⟨v, u, h1, h2, h3⟩ := r
  unfold RepL at h3
  rw [h3] at h1
  exact ⟨v, h1, h2⟩
theorem RepL.two {K : Fg} {F : Hp} {m : List Addr} {d e : D} {vs : List V} (r : RepL K F m [d, e] vs) : ∃ v w, vs = [v, w] ∧ Rep K F m d v ∧ Rep K F m e w := by
  unfold RepL at r
  obtain ⟨v, u, h1, h2, h3⟩ := r
  obtain ⟨w, h4, h5⟩ := RepL.one h3
  rw [h4] at h1
  exact ⟨v, w, h1, h2, h5⟩
/-- one argument, two -/
def ap1 (f : D → M D) : List D → M D
  | [d] => f d
  | _ => stuck
theorem ap1_ok {r : List V → Hp → VK → Prop} {f : D → M D} (h : ∀ (fr : Fm) (W : WX) (σ : St) (F : Hp) (m : List Addr) (ah : AH) (H : Hp) (d : D) (v : V) (Q : VK), Sim X.K X.mg fr F m ah H → Rep X.K F m d v →
    TK X.K X.mg fr W (Rep X.K) σ F m (f d ah) Q → r [v] H Q) : ClD X r (ap1 f) := fun fr W σ F m ah H ds vs Q s r k => by
  match ds, r, k with
  | [], _, k => exact k.elim
  | [d], r, k =>
    obtain ⟨v, rfl, r1⟩ := RepL.one r
    exact h fr W σ F m ah H d v Q s r1 k
  | _ :: _ :: _, _, k => exact k.elim
/-! len -/
def lenM (d : D) : M D := fun h => match d with
  | .str x => if lenOk x.length = true then .ok (.int x.length) h else .stuck
  | .tup xs => .ok (.int xs.length) h
  | d => match lstOf h d with
    | some xs => .ok (.int xs.length) h
    | none => .stuck
theorem len_ok : ClD X (fun xs H Q => ∃ x n, xs = [x] ∧ LenV X.K x H n ∧ Q (.int n) H) (ap1 lenM) := ap1_ok fun fr W σ F m ah H d v Q s r k => by
  unfold lenM at k
  split at k
  · rename_i x
    unfold Rep at r
    subst r
    by_cases hl : lenOk x.length = true
    · rw [if_pos hl] at k
      exact ⟨_, _, rfl, ⟨of_decide_eq_true hl, rfl⟩, k.val s Rep.int⟩
    · rw [if_neg hl] at k
      exact k.elim
  · rename_i xs
    obtain ⟨a, vs, h1, h2, h3⟩ := tup_of (xs := xs) r rfl
    subst h1
    exact ⟨_, _, rfl, .inr ⟨vs, SqT.up s.sub h2, rfl⟩, by rw [RepL.length h3]; exact k.val s Rep.int⟩
  · cases hx : lstOf ah d with
    | none =>
      rw [hx] at k
      exact k.elim
    | some xs =>
      rw [hx] at k
      obtain ⟨a, vs, h1, h2, h3⟩ := lst_of s r hx
      subst h1
      exact ⟨_, _, rfl, .inl ⟨vs, h2, rfl⟩, by rw [RepL.length h3]; exact k.val s Rep.int⟩
theorem de_len {e : Expr} {me : M D} {p : Pos} (hm : X.mg "len" = none) (ha : DE X W env e me) (hg : Gl X "len" := by rfl) (he : starEach [e] X.env = [(false, eval e X.env)] := by rfl) (hpl : (backTo pos (starEach [] X.env)).any (·.1) = false := by rfl) :
    DE X W env (.Call (.Name "len" p) [e] [] pos) (do let x ← me; lenM x) := by
  have h := de_callB (pos := pos) (p := p) call_len (len_ok (X := X)) hm PySem.boot_len (da_one ha he) hg (by decide) (by decide) he hpl
  rw [bind_assoc] at h
  exact h
/-! tuple(x), list(x) -/
def tupleM (d : D) : M D := fun h => match d with
  | .tup xs => .ok (.tup xs) h
  | d => match lstOf h d with
    | some xs => .ok (.tup xs) h
    | none => .stuck
theorem tuple_ok : ClD X (fun xs H Q => ∃ p ys, xs = [.ref p] ∧ ((SqL X.K H p ys ∧ ∀ l, H l = none → Q (.ref l) (upd H l (.tup ys))) ∨ (SqT X.K H p ys ∧ Q (.ref p) H))) (ap1 tupleM) := ap1_ok fun fr W σ F m ah H d v Q s r k => by
  unfold tupleM at k
  split at k
  · rename_i xs
    obtain ⟨a, vs, h1, h2, h3⟩ := tup_of (xs := xs) r rfl
    subst h1
    exact ⟨_, _, rfl, .inr ⟨SqT.up s.sub h2, k.val s (Rep.tup h2 h3)⟩⟩
  · cases hx : lstOf ah d with
    | none =>
      rw [hx] at k
      exact k.elim
    | some xs =>
      rw [hx] at k
      obtain ⟨a, vs, h1, h2, h3⟩ := lst_of s r hx
      subst h1
      exact ⟨_, _, rfl, .inl ⟨h2, fun l hl => TK.newT k s h3 hl⟩⟩
theorem de_tuple {e : Expr} {me : M D} {p : Pos} (hm : X.mg "tuple" = none) (ha : DE X W env e me) (hg : Gl X "tuple" := by rfl) (he : starEach [e] X.env = [(false, eval e X.env)] := by rfl) (hpl : (backTo pos (starEach [] X.env)).any (·.1) = false := by rfl) :
    DE X W env (.Call (.Name "tuple" p) [e] [] pos) (do let x ← me; tupleM x) := by
  have h := de_callT (pos := pos) (p := p) call_tuple_of (tuple_ok (X := X)) hm (by decide +kernel) (da_one ha he) hg (by decide) (by decide) he hpl
  rw [bind_assoc] at h
  exact h
/-- list(x), never written -/
def listM (d : D) : M D := fun h => match d with
  | .tup xs => .ok (.lst xs) h
  | d => match lstOf h d with
    | some xs => .ok (.lst xs) h
    | none => .stuck
/-! sum, any, all of lists -/
def blsOf : List D → Option (List Bool)
  | [] => some []
  | .bl i :: r => (blsOf r).map (i :: ·)
  | _ => none
theorem blsOf_eq : ∀ {ds : List D} {ns : List Bool}, blsOf ds = some ns → ds = ns.map D.bl
  | [], ns, h => by
    cases h
    rfl
  | d :: ds, ns, h => by
    cases d <;> try (cases h; done)
    rename_i i
    have h : (blsOf ds).map (i :: ·) = some ns := h
    cases q : blsOf ds with
    | none =>
      rw [q] at h
      cases h
    | some ms =>
      rw [q] at h
      cases h
      rw [blsOf_eq q]
      rfl
theorem blsOf_map (ns : List Bool) : blsOf (ns.map D.bl) = some ns := by
  induction ns with
  | nil => rfl
  | cons n r ih =>
    show (blsOf (r.map D.bl)).map (n :: ·) = _
    rw [ih]
    rfl
theorem RepL.bls {K : Fg} {F : Hp} {m : List Addr} : ∀ {ns : List Bool} {vs : List V}, RepL K F m (ns.map D.bl) vs → vs = ns.map V.bl
  | [], vs, r => by
    rw [List.map_nil] at r
    unfold RepL at r
    exact r
  | n :: ns, vs, r => by
    rw [List.map_cons] at r
    unfold RepL at r
    obtain ⟨v, u, h1, h2, h3⟩ := r
    unfold Rep at h2
    rw [h1, h2, RepL.bls h3]
    rfl
def onBls (f : List Bool → D) (d : D) : M D := fun h => match lstOf h d with
  | some xs => (match blsOf xs with
    | some ns => .ok (f ns) h
    | none => .stuck)
  | none => .stuck
def allM : D → M D := onBls fun ns => .bl (ns.all id)
theorem all_ok : ClD X (rAll X.K) (ap1 allM) := ap1_ok fun fr W σ F m ah H d v Q s r k => by
  unfold allM onBls at k
  cases hx : lstOf ah d with
  | none =>
    rw [hx] at k
    exact k.elim
  | some xs =>
    obtain ⟨a, vs, h1, h2, h3⟩ := lst_of s r hx
    cases hi : blsOf xs with
    | none =>
      simp only [hx, hi] at k
      exact k.elim
    | some ns =>
      simp only [hx, hi] at k
      rw [blsOf_eq hi] at h3
      rw [RepL.bls h3] at h2
      subst h1
      exact ⟨a, ns, rfl, h2, TK.val k s Rep.bl⟩
theorem de_b1 {x : Str} {id : String} {r : List V → Hp → VK → Prop} {f : D → M D} {e : Expr} {me : M D} {p : Pos} (hc : CallR X (.builtin id) r) (hr : ClD X r (ap1 f)) (hm : X.mg x = none) (hv : bootBuiltins x = some (.builtin id)) (ha : DE X W env e me) (hg : Gl X x := by rfl)
    (hn : x ≠ "__name__" := by decide) (hdb : (x == ("__debug__" : Str)) = false := by decide) (he : starEach [e] X.env = [(false, eval e X.env)] := by rfl) (hpl : (backTo pos (starEach [] X.env)).any (·.1) = false := by rfl) :
    DE X W env (.Call (.Name x p) [e] [] pos) (do let x ← me; f x) := by
  have h := de_callB (pos := pos) (p := p) hc hr hm hv (da_one ha he) hg hn hdb he hpl
  rw [bind_assoc] at h
  exact h
theorem de_t1 {x : Str} {id : String} {r : List V → Hp → VK → Prop} {f : D → M D} {e : Expr} {me : M D} {p : Pos} (hc : CallR X (.type id) r) (hr : ClD X r (ap1 f)) (hm : X.mg x = none) (hv : bootBuiltins x = some (.type id)) (ha : DE X W env e me) (hg : Gl X x := by rfl)
    (hn : x ≠ "__name__" := by decide) (hdb : (x == ("__debug__" : Str)) = false := by decide) (he : starEach [e] X.env = [(false, eval e X.env)] := by rfl) (hpl : (backTo pos (starEach [] X.env)).any (·.1) = false := by rfl) :
    DE X W env (.Call (.Name x p) [e] [] pos) (do let x ← me; f x) := by
  have h := de_callT (pos := pos) (p := p) hc hr hm hv (da_one ha he) hg hn hdb he hpl
  rw [bind_assoc] at h
  exact h
def maxM : D → D → M D := int2 fun i j => .int (if j > i then j else i)
def minM : D → D → M D := int2 fun i j => .int (if j < i then j else i)
end
end Lw
/-! SimE: what is walked, comprehensions, lists that are written, calls, defs. -/
namespace Lw
open PySem L2
/-! ### frames within frames -/
section
variable {K : Fg} {mg : Str → Option Value} {fr : Fm} {F F' H H' : Hp} {m m' : List Addr} {ah ah' : AH}
theorem Sim.re (S : Sim K mg fr F m ah H) : Sim K mg ⟨H, F, m⟩ F m ah H := ⟨S.sub, S.len, S.nod, S.cells, fun _ _ h _ => h, fun a h n => absurd h n, fun _ _ h => h, S.there, fun _ _ h => .inl h⟩
theorem Sim.back (S : Sim K mg fr F m ah H) (T : Sim K mg ⟨H, F, m⟩ F' m' ah' H') : Sim K mg fr F' m' ah' H' := by
  have ym : ∀ a, a ∈ m → a ∉ fr.m0 → fr.H0 a = none := S.young
  refine ⟨T.sub, T.len, T.nod, T.cells, fun a o h n => ?_, fun a h n => ?_, fun i a h => T.pre i a (S.pre i a h), T.there, fun a o h => ?_⟩
  · refine T.frame a o (S.frame a o h n) fun z => ?_
    rw [ym a z n] at h
    cases h
  · by_cases z : a ∈ m
    · exact ym a z n
    · exact S.fresh0 (T.young a h z)
  · rcases T.old a o h with z | z | z
    · exact S.old a o z
    · exact .inr (.inl (S.fresh0 z))
    · by_cases y : a ∈ fr.m0
      · exact .inr (.inr y)
      · exact .inr (.inl (ym a z y))
/-- an object that is nobody's is written -/
theorem Sim.other {p : Addr} {o : HO} (S : Sim K mg fr F m ah H) (hF : F p = none) (hm : p ∉ m) (h0 : fr.H0 p = none) : Sim K mg fr F m ah (upd H p o) := by
  have nf : ∀ {a : Addr} {u : HO}, F a = some u → a ≠ p := fun h z => by rw [z, hF] at h; cases h
  have nm : ∀ {a : Addr}, a ∈ m → a ≠ p := fun h z => hm (by rw [← z]; exact h)
  refine ⟨fun a u h => by rw [upd_ne (nf h)]; exact S.sub a u h, S.len, S.nod, fun i c h => ?_, fun a u h n => ?_, S.young, S.pre, fun a h => by rw [upd_ne (nm h)]; exact S.there a h, S.old⟩
  · obtain ⟨a, q, ok⟩ := S.cells i c h
    exact ⟨a, q, ok.ext Ext.refl (fun z => ok.free z) fun _ => upd_ne (nm (List.mem_of_getElem? q))⟩
  · have ne : a ≠ p := fun z => by rw [z, h0] at h; cases h
    rw [upd_ne ne]
    exact S.frame a u h n
/-- it is nobody's, and never written from now on -/
theorem Sim.seal {p : Addr} {o : HO} (S : Sim K mg fr F m ah H) (hF : F p = none) (hm : p ∉ m) (h0 : fr.H0 p = none) (hp : H p = some o) : Sim K mg fr (upd F p o) m ah H ∧ Ext F m (upd F p o) m := by
  have e : Ext F m (upd F p o) m := ⟨fun a u h => by rw [upd_ne (ne_of_none h hF)]; exact h, fun _ _ h => h⟩
  have nm : ∀ {a : Addr}, a ∈ m → a ≠ p := fun h z => hm (by rw [← z]; exact h)
  refine ⟨⟨fun a u h => ?_, S.len, S.nod, fun i c h => ?_, S.frame, S.young, S.pre, S.there, fun a u h => ?_⟩, e⟩
  · by_cases z : a = p
    · rw [z, upd_same] at h
      cases h
      rw [z]
      exact hp
    · rw [upd_ne z] at h
      exact S.sub a u h
  · obtain ⟨a, q, ok⟩ := S.cells i c h
    exact ⟨a, q, ok.ext e (fun z => by rw [upd_ne (nm (List.mem_of_getElem? q))]; exact ok.free z) fun _ => rfl⟩
  · by_cases z : a = p
    · exact .inr (.inl (by rw [z]; exact h0))
    · rw [upd_ne z] at h
      exact S.old a u h
/-- what stood and was nobody's stands, and is nobody's -/
theorem Sim.kept (T : Sim K mg ⟨H, F, m⟩ F' m' ah' H') {p : Addr} {o : HO} (hp : H p = some o) (hF : F p = none) (hm : p ∉ m) : H' p = some o ∧ F' p = none ∧ p ∉ m' := by
  refine ⟨T.frame p o hp hm, ?_, fun z => ?_⟩
  · cases q : F' p with
    | none => rfl
    | some u =>
      rcases T.old p u q with z | z | z
      · have z : F p = some u := z
        rw [hF] at z
        cases z
      · have z : H p = none := z
        rw [hp] at z
        cases z
      · exact absurd z hm
  · have y : H p = none := T.young p z hm
    rw [hp] at y
    cases y
end
/-! ### what is walked -/
section
variable {X : Cx} {W : WX} {env : Env} {pos : Pos} {tg : Expr}
def iSeq (K : Fg) (tl : TE) : TI := fun σ H R => tl σ H fun x H1 => ∃ a, x = .ref a ∧ ((∃ xs, SqL K H1 a xs ∧ R (Itl K a) H1) ∨ (∃ xs, SqT K H1 a xs ∧ R (Itt K a) H1))
theorem pi_seq {l : Expr} {tl : TE} (hl : PE X l tl) : PI X tg l (iSeq X.K tl) := by
  refine ⟨fun pins s σ H R I h => ?_⟩
  refine thn (hl.run pins s σ H _ I h) fun v s1 ⟨x, H1, I1, r1, q1⟩ => ?_
  obtain ⟨a, e, q⟩ := q1
  subst e
  cases r1
  rcases q with ⟨xs, hq, q⟩ | ⟨xs, hq, q⟩
  · obtain ⟨its, rv, p, hz⟩ := I1.list hq
    refine wpAny_pyIter_list p.isList ?_
    refine ⟨s1.heap.objs.size, [s1.heap.objs.size], _, _, H1, rfl, I1.kept (t' := s1.toks) fun b o e => Heap.get?_push_of_some _ e, turn_list a _, ⟨_, Heap.get?_push_size _ rfl, rfl, rfl⟩, fun b hb => ?_, q⟩
    have e : b = s1.heap.objs.size := by simpa using hb
    subst e
    exact I1.fpOk (Nat.le_refl _) (I1.hok.fresh (Nat.le_refl _))
  · obtain ⟨its, rv, p, hz⟩ := I1.tuple hq
    refine wpAny_pyIter_tuple (show s1.heap.IsTuple a its.toArray from p) ?_
    refine ⟨s1.heap.objs.size, [s1.heap.objs.size], _, _, H1, rfl, I1.kept (t' := s1.toks) fun b o e => Heap.get?_push_of_some _ e, turn_tuple a _, ⟨_, Heap.get?_push_size _ rfl, rfl, rfl⟩, fun b hb => ?_, q⟩
    have e : b = s1.heap.objs.size := by simpa using hb
    subst e
    exact I1.fpOk (Nat.le_refl _) (I1.hok.fresh (Nat.le_refl _))
def itemsM : D → M (List D)
  | .tup xs => pure xs
  | .lst xs => pure xs
  | _ => stuck
theorem RepL.none_of {K : Fg} {F : Hp} {m : List Addr} {ds : List D} {vs : List V} {i : Nat} (r : RepL K F m ds vs) (h : ds.length ≤ i) : vs.length ≤ i := by
  rw [RepL.length r]
  exact h
theorem yl_tup {K : Fg} {mg : Str → Option Value} {F : Hp} {m : List Addr} {a : Addr} {ds : List D} {vs : List V} (h : SqT K F a vs) (r : RepL K F m ds vs) : Yl K mg F m ds (Itt K a) where
  go := fun i fr F1 m1 ah1 H1 e s hi => by
    obtain ⟨d, hd⟩ : ∃ d, ds[i]? = some d := ⟨_, List.getElem?_eq_getElem hi⟩
    obtain ⟨v, hv, _⟩ := RepL.get r hd
    exact ⟨vs, v, SqT.up s.sub (SqT.up e.sub h), hv⟩
  stop := fun fr F1 m1 ah1 H1 e s => ⟨vs, SqT.up s.sub (SqT.up e.sub h), RepL.none_of r (Nat.le_refl _)⟩
  yld := fun i fr F1 m1 ah1 H1 x H2 e s hi y => by
    obtain ⟨e2, y⟩ := y
    subst e2
    obtain ⟨d, hd⟩ : ∃ d, ds[i]? = some d := ⟨_, List.getElem?_eq_getElem hi⟩
    obtain ⟨v, hv, rv⟩ := RepL.get r hd
    have q := y vs (SqT.up s.sub (SqT.up e.sub h))
    rw [hv] at q
    cases q
    exact ⟨F1, d, hd, Ext.refl, s, Rep.ext e _ _ rv⟩
theorem yl_lst {K : Fg} {mg : Str → Option Value} {F : Hp} {m : List Addr} {a : Addr} {ds : List D} {vs : List V} (h : SqL K F a vs) (r : RepL K F m ds vs) : Yl K mg F m ds (Itl K a) where
  go := fun i fr F1 m1 ah1 H1 e s hi => by
    obtain ⟨d, hd⟩ : ∃ d, ds[i]? = some d := ⟨_, List.getElem?_eq_getElem hi⟩
    obtain ⟨v, hv, _⟩ := RepL.get r hd
    exact ⟨vs, v, SqL.up s.sub (SqL.up e.sub h), hv⟩
  stop := fun fr F1 m1 ah1 H1 e s => ⟨vs, SqL.up s.sub (SqL.up e.sub h), RepL.none_of r (Nat.le_refl _)⟩
  yld := fun i fr F1 m1 ah1 H1 x H2 e s hi y => by
    obtain ⟨e2, y⟩ := y
    subst e2
    obtain ⟨d, hd⟩ : ∃ d, ds[i]? = some d := ⟨_, List.getElem?_eq_getElem hi⟩
    obtain ⟨v, hv, rv⟩ := RepL.get r hd
    have q := y vs (SqL.up s.sub (SqL.up e.sub h))
    rw [hv] at q
    cases q
    exact ⟨F1, d, hd, Ext.refl, s, Rep.ext e _ _ rv⟩
theorem di_seq {e : Expr} {me : M D} (he : DE X W env e me) : DI X W env tg e (do let x ← me; itemsM x) :=
  PI.from (pi_seq he) fun σ H Q ⟨fr, F, m, ah, s, er, k⟩ => TK.step s er k fun F1 m1 ah1 d v H1 e1 s1 er1 r1 k1 => by
    cases d <;> try exact (TK.stuck_of k1).elim
    · rename_i xs
      obtain ⟨a, vs, h1, h2, h3⟩ := tup_of (xs := xs) r1 rfl
      exact ⟨a, h1, .inr ⟨vs, SqT.up s1.sub h2, k1 F1 m1 _ H1 Ext.refl s1 (yl_tup h2 h3)⟩⟩
    · rename_i xs
      unfold Rep at r1
      obtain ⟨a, vs, h1, h2, h3⟩ := r1
      exact ⟨a, h1, .inl ⟨vs, SqL.up s1.sub h2, k1 F1 m1 _ H1 Ext.refl s1 (yl_lst h2 h3)⟩⟩
/-- ints in a row -/
def rangeD (lo : Int) (n : Nat) : List D := (List.range n).map fun k => D.int (lo + (k : Nat))
theorem yl_range {K : Fg} {mg : Str → Option Value} {F : Hp} {m : List Addr} (lo : Int) (n : Nat) : Yl K mg F m (rangeD lo n) (Itr lo n) where
  go := fun i fr F1 m1 ah1 H1 e s hi => by
    unfold rangeD at hi
    rw [List.length_map, List.length_range] at hi
    exact hi
  stop := fun fr F1 m1 ah1 H1 e s => by
    unfold rangeD
    rw [List.length_map, List.length_range]
    exact Nat.le_refl _
  yld := fun i fr F1 m1 ah1 H1 x H2 e s hi y => by
    obtain ⟨e2, y⟩ := y
    subst e2 y
    unfold rangeD at hi
    rw [List.length_map, List.length_range] at hi
    exact ⟨F1, .int (lo + (i : Nat)), by unfold rangeD; rw [List.getElem?_map, List.getElem?_range hi]; rfl, Ext.refl, s, Rep.int⟩
def rng1M : List D → M (List D)
  | [.int j] => if -(2 ^ 62) ≤ j ∧ j < 2 ^ 62 then pure (rangeD 0 j.toNat) else stuck
  | _ => stuck
def rng2M : List D → M (List D)
  | [.int i, .int j] => if -(2 ^ 62) ≤ i ∧ i < 2 ^ 62 ∧ -(2 ^ 62) ≤ j ∧ j < 2 ^ 62 then pure (rangeD i (j - i).toNat) else stuck
  | _ => stuck
theorem di_range1 {e : Expr} {me : M D} {p : Pos} (hm : X.mg "range" = none) (he : DE X W env e me) (hg : Gl X "range" := by rfl) (hs : starEach [e] X.env = [(false, eval e X.env)] := by rfl) :
    DI X W env tg (.Call (.Name "range" p) [e] [] pos) (do let x ← me; rng1M [x]) :=
  PI.from (pi_range1 (pos := pos) (p := p) hg hm (da_one he hs) hs) fun σ H Q ⟨fr, F, m, ah, s, er, k⟩ => by
    have k' : TK X.K X.mg fr W (Yl X.K X.mg) σ F m (((do let x ← me; pure [x]) >>= rng1M) ah) (fun J H' => Q J H') := by
      rw [bind_assoc]
      exact k
    refine TK.step (R := RepL X.K) s er k' fun F1 m1 ah1 d v H1 e1 s1 er1 r1 k1 => ?_
    unfold rng1M at k1
    split at k1
    · rename_i j
      by_cases h : -(2 ^ 62) ≤ j ∧ j < 2 ^ 62
      · rw [if_pos h] at k1
        obtain ⟨v, rfl, r⟩ := RepL.one r1
        unfold Rep at r
        exact ⟨j, by rw [r], h.1, h.2, k1 F1 m1 _ H1 Ext.refl s1 (yl_range 0 j.toNat)⟩
      · rw [if_neg h] at k1
        exact (TK.stuck_of k1).elim
    · exact (TK.stuck_of k1).elim
theorem di_range2 {a b : Expr} {ma mb : M D} {p : Pos} (hm : X.mg "range" = none) (ha : DE X W env a ma) (hb : DE X W env b mb) (hg : Gl X "range" := by rfl) (hs : starEach [a, b] X.env = [(false, eval a X.env), (false, eval b X.env)] := by rfl) (hs2 : starEach [b] X.env = [(false, eval b X.env)] := by rfl) :
    DI X W env tg (.Call (.Name "range" p) [a, b] [] pos) (do let x ← ma; let y ← mb; rng2M [x, y]) :=
  PI.from (pi_range2 (pos := pos) (p := p) hg hm (da_two ha hb (by rw [hs, hs2]) hs2) hs hs2) fun σ H Q ⟨fr, F, m, ah, s, er, k⟩ => by
    have e : ((do let x ← ma; let y ← mb; pure [x, y]) >>= rng2M) = (do let x ← ma; let y ← mb; rng2M [x, y]) := by
      rw [bind_assoc]
      congr 1
      funext x
      rw [bind_assoc]
      rfl
    have k' : TK X.K X.mg fr W (Yl X.K X.mg) σ F m (((do let x ← ma; let y ← mb; pure [x, y]) >>= rng2M) ah) (fun J H' => Q J H') := by
      rw [e]
      exact k
    refine TK.step (R := RepL X.K) s er k' fun F1 m1 ah1 d v H1 e1 s1 er1 r1 k1 => ?_
    unfold rng2M at k1
    split at k1
    · rename_i i j
      by_cases h : -(2 ^ 62) ≤ i ∧ i < 2 ^ 62 ∧ -(2 ^ 62) ≤ j ∧ j < 2 ^ 62
      · rw [if_pos h] at k1
        obtain ⟨v, w, rfl, r, r2⟩ := RepL.two r1
        unfold Rep at r r2
        exact ⟨i, j, by rw [r, r2], h, k1 F1 m1 _ H1 Ext.refl s1 (yl_range i (j - i).toNat)⟩
      · rw [if_neg h] at k1
        exact (TK.stuck_of k1).elim
    · exact (TK.stuck_of k1).elim
/-- two side by side -/
def zipD (xs ys : List D) : List D := List.zipWith (fun a b => D.tup [a, b]) xs ys
def zipM : List D → M (List D)
  | [.tup xs, .tup ys] => pure (zipD xs ys)
  | [.lst xs, .lst ys] => pure (zipD xs ys)
  | _ => stuck
theorem zipD_length (xs ys : List D) : (zipD xs ys).length = min xs.length ys.length := by
  unfold zipD
  rw [List.length_zipWith]
theorem zipD_get {xs ys : List D} {i : Nat} (h : i < (zipD xs ys).length) : ∃ a b, xs[i]? = some a ∧ ys[i]? = some b ∧ (zipD xs ys)[i]? = some (.tup [a, b]) := by
  rw [zipD_length] at h
  have h1 : i < xs.length := by omega
  have h2 : i < ys.length := by omega
  refine ⟨_, _, List.getElem?_eq_getElem h1, List.getElem?_eq_getElem h2, ?_⟩
  unfold zipD
  rw [List.getElem?_zipWith, List.getElem?_eq_getElem h1, List.getElem?_eq_getElem h2]
theorem yl_zipT {K : Fg} {mg : Str → Option Value} {F : Hp} {m : List Addr} {a b : Addr} {xs ys : List D} {vs us : List V} (h : SqT K F a vs) (h' : SqT K F b us) (r : RepL K F m xs vs) (r' : RepL K F m ys us) : Yl K mg F m (zipD xs ys) (RZ.ItzT K a b) where
  go := fun i fr F1 m1 ah1 H1 e s hi => by
    obtain ⟨x, y, hx, hy, _⟩ := zipD_get hi
    obtain ⟨v, hv, _⟩ := RepL.get r hx
    obtain ⟨u, hu, _⟩ := RepL.get r' hy
    exact ⟨vs, us, v, u, SqT.up s.sub (SqT.up e.sub h), SqT.up s.sub (SqT.up e.sub h'), hv, hu⟩
  stop := fun fr F1 m1 ah1 H1 e s => by
    refine ⟨vs, us, SqT.up s.sub (SqT.up e.sub h), SqT.up s.sub (SqT.up e.sub h'), ?_⟩
    rw [zipD_length, RepL.length r, RepL.length r']
    omega
  yld := fun i fr F1 m1 ah1 H1 x H2 e s hi z => by
    obtain ⟨T, p, q, e1, e2, e3, z1, z2⟩ := z
    subst e1 e3
    obtain ⟨x, y, hx, hy, hz⟩ := zipD_get hi
    obtain ⟨v, hv, rv⟩ := RepL.get r hx
    obtain ⟨u, hu, ru⟩ := RepL.get r' hy
    have q1 := z1 vs (SqT.up s.sub (SqT.up e.sub h))
    have q2 := z2 us (SqT.up s.sub (SqT.up e.sub h'))
    rw [hv] at q1
    rw [hu] at q2
    have hp : v = p := Option.some.inj q1
    have hq : u = q := Option.some.inj q2
    rw [hp] at rv
    rw [hq] at ru
    obtain ⟨S', e'⟩ := s.frozen (o := .tup [p, q]) e2
    exact ⟨_, _, hz, e', S', Rep.tup (.inl (.inl upd_same)) (RepL.cons (Rep.ext (e.trans e') _ _ rv) (RepL.cons (Rep.ext (e.trans e') _ _ ru) RepL.nil))⟩
theorem yl_zipL {K : Fg} {mg : Str → Option Value} {F : Hp} {m : List Addr} {a b : Addr} {xs ys : List D} {vs us : List V} (h : SqL K F a vs) (h' : SqL K F b us) (r : RepL K F m xs vs) (r' : RepL K F m ys us) : Yl K mg F m (zipD xs ys) (Itz K a b) where
  go := fun i fr F1 m1 ah1 H1 e s hi => by
    obtain ⟨x, y, hx, hy, _⟩ := zipD_get hi
    obtain ⟨v, hv, _⟩ := RepL.get r hx
    obtain ⟨u, hu, _⟩ := RepL.get r' hy
    exact ⟨vs, us, v, u, SqL.up s.sub (SqL.up e.sub h), SqL.up s.sub (SqL.up e.sub h'), hv, hu⟩
  stop := fun fr F1 m1 ah1 H1 e s => by
    refine ⟨vs, us, SqL.up s.sub (SqL.up e.sub h), SqL.up s.sub (SqL.up e.sub h'), ?_⟩
    rw [zipD_length, RepL.length r, RepL.length r']
    omega
  yld := fun i fr F1 m1 ah1 H1 x H2 e s hi z => by
    obtain ⟨T, p, q, e1, e2, e3, z1, z2⟩ := z
    subst e1 e3
    obtain ⟨x, y, hx, hy, hz⟩ := zipD_get hi
    obtain ⟨v, hv, rv⟩ := RepL.get r hx
    obtain ⟨u, hu, ru⟩ := RepL.get r' hy
    have q1 := z1 vs (SqL.up s.sub (SqL.up e.sub h))
    have q2 := z2 us (SqL.up s.sub (SqL.up e.sub h'))
    rw [hv] at q1
    rw [hu] at q2
    have hp : v = p := Option.some.inj q1
    have hq : u = q := Option.some.inj q2
    rw [hp] at rv
    rw [hq] at ru
    obtain ⟨S', e'⟩ := s.frozen (o := .tup [p, q]) e2
    exact ⟨_, _, hz, e', S', Rep.tup (.inl (.inl upd_same)) (RepL.cons (Rep.ext (e.trans e') _ _ rv) (RepL.cons (Rep.ext (e.trans e') _ _ ru) RepL.nil))⟩
theorem di_zip {a b : Expr} {ma mb : M D} {p tpos : Pos} {elts : List Expr} {kk : Nat} (hm : X.mg "zip" = none) (ha : DE X W env a ma) (hb : DE X W env b mb) (hg : Gl X "zip" := by rfl) (hs : starEach [a, b] X.env = (false, eval a X.env) :: starEach [b] X.env := by rfl)
    (hs2 : starEach [b] X.env = (false, eval b X.env) :: starEach [] X.env := by rfl) (hpl : (backTo pos (starEach [b] X.env)).any (·.1) = false := by rfl) :
    DI X W env (.Tuple elts kk tpos) (.Call (.Name "zip" p) [a, b] [] pos) (do let x ← ma; let y ← mb; zipM [x, y]) :=
  PI.from (RZ.pi_zipA (pos := pos) (p := p) hg hm (da_two ha hb hs hs2) hs hpl) fun σ H Q ⟨fr, F, m, ah, s, er, k⟩ => by
    have e : ((do let x ← ma; let y ← mb; pure [x, y]) >>= zipM) = (do let x ← ma; let y ← mb; zipM [x, y]) := by
      rw [bind_assoc]
      congr 1
      funext x
      rw [bind_assoc]
      rfl
    have k' : TK X.K X.mg fr W (Yl X.K X.mg) σ F m (((do let x ← ma; let y ← mb; pure [x, y]) >>= zipM) ah) (fun J H' => Q J H') := by
      rw [e]
      exact k
    refine TK.step (R := RepL X.K) s er k' fun F1 m1 ah1 d v H1 e1 s1 er1 r1 k1 => ?_
    unfold zipM at k1
    split at k1
    · obtain ⟨v, w, rfl, r, r2⟩ := RepL.two r1
      unfold Rep at r r2
      obtain ⟨a1, vs, h1, h2, h3⟩ := r
      obtain ⟨a2, us, h1', h2', h3'⟩ := r2
      exact ⟨a1, a2, vs, us, by rw [h1, h1'], .inr ⟨SqT.up s1.sub h2, SqT.up s1.sub h2', k1 F1 m1 _ H1 Ext.refl s1 (yl_zipT h2 h2' h3 h3')⟩⟩
    · obtain ⟨v, w, rfl, r, r2⟩ := RepL.two r1
      unfold Rep at r r2
      obtain ⟨a1, vs, h1, h2, h3⟩ := r
      obtain ⟨a2, us, h1', h2', h3'⟩ := r2
      exact ⟨a1, a2, vs, us, by rw [h1, h1'], .inl ⟨SqL.up s1.sub h2, SqL.up s1.sub h2', k1 F1 m1 _ H1 Ext.refl s1 (yl_zipL h2 h2' h3 h3')⟩⟩
    · exact (TK.stuck_of k1).elim
end
/-! ### list comprehensions -/
def compM : List D → (D → M (List D)) → M (List D)
  | [], _ => pure []
  | x :: r, f => do let ys ← f x; let zs ← compM r f; pure (ys ++ zs)
/-- a computation that may not raise -/
def nores {α : Type} : Res α → Res α
  | .ok a h => .ok a h
  | _ => .stuck
def noexM {α : Type} (x : M α) : M α := fun h => nores (x h)
def lcM (xs : List D) (f : D → M (List D)) : M D := if lenOk xs.length = true then (do let ys ← noexM (compM xs f); pure (.lst ys)) else stuck
def W0 : WX := fun _ _ _ _ => False
def wipeE (env : Env) : List Nat → Env
  | [] => env
  | v :: vs => (wipeE env vs).set v none
theorem EnvRep.wipe {K : Fg} {F : Hp} {m : List Addr} {env : Env} {σ : St} (h : EnvRep K F m env σ) : ∀ vs : List Nat, EnvRep K F m (wipeE env vs) (wipe σ vs)
  | [] => h
  | v :: vs => by
    have ih := EnvRep.wipe h vs
    unfold wipeE L2.wipe
    refine ⟨by rw [List.length_set, List.length_set]; exact ih.1, fun j d q => ?_⟩
    by_cases hj : v = j
    · subst hj
      by_cases hl : v < (wipeE env vs).length
      · rw [List.getElem?_set_self hl] at q
        cases q
      · rw [List.getElem?_eq_none (by simpa using hl)] at q
        cases q
    · rw [List.getElem?_set_ne hj] at q
      obtain ⟨u, h1, h2⟩ := ih.2 j d q
      exact ⟨u, by rw [List.getElem?_set_ne hj]; exact h1, h2⟩
section
variable {X : Cx} {W : WX} {env : Env} {pos : Pos}
/-- a part of what may not raise, behind a frame of its own -/
theorem TK.inner {K : Fg} {mg : Str → Option Value} {fr : Fm} {W : WX} {σ : St} {F H : Hp} {m : List Addr} {ah : AH} {α β γ δ : Type} {R : Hp → List Addr → α → β → Prop} {S : Hp → List Addr → γ → δ → Prop} {envB : Env} {σB : St} {ma : M α} {k : α → M γ} {Q : δ → Hp → Prop} {P : β → Hp → Prop}
    (s : Sim K mg fr F m ah H) (er : EnvRep K F m envB σB) (h : TK K mg fr W S σ F m (nores ((ma >>= k) ah)) Q)
    (hP : ∀ F1 m1 ah1 d v H1, Ext F m F1 m1 → Sim K mg ⟨H, F, m⟩ F1 m1 ah1 H1 → EnvRep K F1 m1 envB σB → R F1 m1 d v → TK K mg fr W S σ F1 m1 (nores (k d ah1)) Q → P v H1) : TC K mg W0 R envB ma σB H P := by
  refine ⟨⟨H, F, m⟩, F, m, ah, s.re, er, ?_⟩
  rw [bind_def] at h
  cases hr : ma ah with
  | ok d a =>
    rw [hr] at h
    exact fun F' m' v H' e s' r => hP F' m' a d v H' e s' (er.ext e) r (TK.ext e h)
  | exc x a =>
    rw [hr] at h
    exact h.elim
  | stuck =>
    rw [hr] at h
    exact h.elim
abbrev lcD (xs : List D) {π : Type} (unp : D → Option π) (mt : π → M Bool) (me : π → M D) : M D := lcM xs (fun x => do let p ← liftO (unp x); let t ← mt p; if t = true then (do let y ← me p; pure [y]) else pure [])
theorem lc_from {own : List (Str × Nat)} {π : Type} {sl : List Nat} {mi : M (List D)} {unp : D → Option π} {sets : π → Env → Env} {mt : π → M Bool} {me : π → M D} (hsl : ∀ i ∈ sl, i ∈ own.map (·.2)) :
    ∀ σ H Q, TC X.K X.mg W (Rep X.K) env (do let xs ← mi; lcD xs unp mt me) σ H Q → tLc (TIM X.K X.mg W env mi) (gD X.K X.mg sl unp sets) (fun σ H Q => ∃ p, TC X.K X.mg W0 RB (sets p (wipeE env (own.map (·.2)))) (mt p) σ H Q)
      (fun σ H Q => ∃ p, TC X.K X.mg W0 (Rep X.K) (sets p (wipeE env (own.map (·.2)))) (me p) σ H Q) (own.map (·.2)) σ H Q := by
  intro σ H Q ⟨fr, F, m, ah, s, er, q⟩
  refine ⟨fr, F, m, ah, s, er, ?_⟩
  rw [bind_def] at q
  cases hi' : mi ah with
  | stuck =>
    rw [hi'] at q
    exact q
  | exc x a =>
    rw [hi'] at q
    exact q
  | ok xs a =>
    rw [hi'] at q
    intro F1 m1 J H1 e1 s1 y L hL
    have q1 : TK X.K X.mg fr W (Rep X.K) σ F1 m1 (lcM xs (fun x => do let p ← liftO (unp x); let t ← mt p; if t = true then (do let y ← me p; pure [y]) else pure []) a) Q := TK.ext e1 q
    have er1 := er.ext e1
    clear q e1 er s
    by_cases hl : lenOk xs.length = true
    case neg =>
      unfold lcM at q1
      rw [if_neg hl] at q1
      exact q1.elim
    have hlen : xs.length ≤ sizeLine := of_decide_eq_true hl
    have fL : F1 L = none := s1.freeF hL
    have mL : L ∉ m1 := fun z => by
      obtain ⟨u, hu⟩ := s1.there L z
      rw [hL] at hu
      cases hu
    have hL0 := s1.fresh0 hL
    generalize hf : (fun x : D => do let p ← liftO (unp x); let t ← mt p; if t = true then (do let y ← me p; pure [y]) else pure [] : D → M (List D)) = f at q1
    have q2 : TK X.K X.mg fr W (Rep X.K) σ F1 m1 (nores ((compM xs f >>= fun ys => pure (D.lst ([] ++ ys))) a)) Q := by
      have z : TK X.K X.mg fr W (Rep X.K) σ F1 m1 ((noexM (compM xs f) >>= fun ys => pure (D.lst ys)) a) Q := by
        have z := q1
        unfold lcM at z
        rw [if_pos hl] at z
        exact z
      rw [bind_def] at z ⊢
      unfold noexM at z
      cases hcm : compM xs f a with
      | ok ys b =>
        rw [hcm] at z
        exact z
      | exc _ _ =>
        rw [hcm] at z
        exact z
      | stuck =>
        rw [hcm] at z
        exact z
    refine ⟨fun i n H => n = xs.length - i ∧ i ≤ xs.length ∧ ∃ F2 m2 ah2 acc vs, Ext F1 m1 F2 m2 ∧ Sim X.K X.mg fr F2 m2 ah2 H ∧ H L = some (.lst vs) ∧ F2 L = none ∧ L ∉ m2 ∧ RepL X.K F2 m2 acc vs ∧ acc.length ≤ i ∧
      TK X.K X.mg fr W (Rep X.K) σ F2 m2 (nores ((compM (xs.drop i) f >>= fun ys => pure (D.lst (acc ++ ys))) ah2)) Q,
      ⟨_, rfl, Nat.zero_le _, F1, m1, a, [], [], Ext.refl, s1.other fL mL hL0, upd_same, fL, mL, RepL.nil, Nat.zero_le _, by rw [List.drop_zero]; exact q2⟩, ?_⟩
    rintro i n H2 ⟨rfl, hi2, F2, m2, ah2, acc, vs, e2, s2, hL2, fL2, mL2, ra, la, k2⟩
    by_cases hlt : i < xs.length
    · refine .inr ⟨y.go i fr F2 m2 ah2 H2 e2 s2 hlt, fun H => ∃ F2 m2 ah2 acc vs, Ext F1 m1 F2 m2 ∧ Sim X.K X.mg fr F2 m2 ah2 H ∧ H L = some (.lst vs) ∧ F2 L = none ∧ L ∉ m2 ∧ RepL X.K F2 m2 acc vs ∧ acc.length ≤ i + 1 ∧
        TK X.K X.mg fr W (Rep X.K) σ F2 m2 (nores ((compM (xs.drop (i + 1)) f >>= fun ys => pure (D.lst (acc ++ ys))) ah2)) Q, fun H' z => ⟨xs.length - (i + 1), by omega, rfl, hlt, z⟩, fun v H3 yy => ?_⟩
      obtain ⟨F3, d, hd, e3, s3', r3⟩ := y.yld i _ F2 m2 ah2 H2 v H3 e2 s2.re hlt yy
      obtain ⟨hL3, fL3, mL3⟩ := s3'.kept hL2 fL2 mL2
      have s3 := s2.back s3'
      have er3 := ((er1.ext e2).ext e3)
      have hdrop : xs.drop i = d :: xs.drop (i + 1) := by
        rw [List.drop_eq_getElem_cons hlt]
        rw [List.getElem?_eq_getElem hlt] at hd
        cases hd
        rfl
      have k3 : TK X.K X.mg fr W (Rep X.K) σ F3 m2 (nores (((liftO (unp d) >>= fun p => mt p >>= fun t => (if t = true then (me p >>= fun y => pure [y]) else pure [])) >>= fun ys => compM (xs.drop (i + 1)) f >>= fun zs => pure (D.lst (acc ++ (ys ++ zs)))) ah2)) Q := by
        have z := TK.ext e3 k2
        rw [hdrop] at z
        have z2 : (compM (d :: xs.drop (i + 1)) f >>= fun ys => pure (D.lst (acc ++ ys))) = (f d >>= fun ys => compM (xs.drop (i + 1)) f >>= fun zs => pure (D.lst (acc ++ (ys ++ zs)))) := by
          show ((f d >>= fun ys => compM (xs.drop (i + 1)) f >>= fun zs => pure (ys ++ zs)) >>= fun ys => pure (D.lst (acc ++ ys))) = _
          rw [bind_assoc]
          congr 1
          funext ys
          rw [bind_assoc]
          rfl
        rw [z2, ← hf] at z
        rw [← hf]
        exact z
      cases hu : unp d with
      | none =>
        rw [hu] at k3
        exact k3.elim
      | some p =>
        rw [hu] at k3
        have k4 : TK X.K X.mg fr W (Rep X.K) σ F3 m2 (nores ((mt p >>= fun t => ((if t = true then (me p >>= fun y => pure [y]) else pure []) >>= fun ys => compM (xs.drop (i + 1)) f >>= fun zs => pure (D.lst (acc ++ (ys ++ zs))))) ah2)) Q := by
          rw [← bind_assoc]
          exact k3
        refine ⟨fr, F3, m2, ah2, wipeE env (own.map (·.2)), d, p, s3, er3.wipe _, r3, hu, fun σ4 er4 hw => ⟨?_, p, ?_⟩⟩
        · have z := hw (own.map (·.2)) hsl
          rw [z]
          clear z hw er4 σ4
          have ww : ∀ (vs ws : List Nat) (σ : St), (∀ i ∈ vs, i ∈ ws) → wipe (wipe σ vs) ws = wipe σ ws := by
            intro vs
            induction vs with
            | nil => intro _ _ _; rfl
            | cons v vs ih =>
              intro ws σ h
              show wipe ((wipe σ vs).set v none) ws = _
              rw [wipe_set (h v List.mem_cons_self), ih ws σ fun i hi => h i (List.mem_cons_of_mem _ hi)]
          exact ww _ _ _ fun i hi => hi
        · refine TK.inner s3 er4 k4 fun F5 m5 ah5 t t' H5 e5 s5' er5 r5 k5 => ?_
          have r5 : t = t' := r5
          subst r5
          obtain ⟨hL5, fL5, mL5⟩ := s5'.kept hL3 fL3 mL3
          have s5 := s3.back s5'
          cases t with
          | false =>
            refine iteF ⟨F5, m5, ah5, acc, vs, (e2.trans e3).trans e5, s5, hL5, fL5, mL5, RepL.ext (e3.trans e5) _ _ ra, by omega, ?_⟩
            exact k5
          | true =>
            refine iteT ⟨p, ?_⟩
            have k6 : TK X.K X.mg fr W (Rep X.K) σ F5 m5 (nores ((me p >>= fun y => compM (xs.drop (i + 1)) f >>= fun zs => pure (D.lst (acc ++ ([y] ++ zs)))) ah5)) Q := by
              have z : ((me p >>= fun y => pure [y]) >>= fun ys => compM (xs.drop (i + 1)) f >>= fun zs => pure (D.lst (acc ++ (ys ++ zs)))) = (me p >>= fun y => compM (xs.drop (i + 1)) f >>= fun zs => pure (D.lst (acc ++ ([y] ++ zs)))) := by
                rw [bind_assoc]
                rfl
              rw [← z]
              exact k5
            refine TK.inner s5 er5 k6 fun F7 m7 ah7 y7 v7 H7 e7 s7' er7 r7 k7 => ?_
            obtain ⟨hL7, fL7, mL7⟩ := s7'.kept hL5 fL5 mL5
            have s7 := s5.back s7'
            refine ⟨vs, hL7, ?_, F7, m7, ah7, acc ++ [y7], vs ++ [v7], ((e2.trans e3).trans e5).trans e7, s7.other fL7 mL7 hL0, upd_same, fL7, mL7, RepL.append (RepL.ext ((e3.trans e5).trans e7) _ _ ra) (RepL.cons r7 RepL.nil), by rw [List.length_append, List.length_singleton]; omega, ?_⟩
            · rw [RepL.length ra]
              omega
            · have z : (fun zs => (pure (D.lst (acc ++ ([y7] ++ zs))) : M D)) = fun zs => pure (D.lst ((acc ++ [y7]) ++ zs)) := by
                funext zs
                rw [List.append_assoc]
              rw [z] at k7
              exact k7
    · have ei : i = xs.length := by omega
      subst ei
      refine .inl ⟨y.stop fr F2 m2 ah2 H2 e2 s2, ?_⟩
      rw [List.drop_length] at k2
      have k3 : TK X.K X.mg fr W (Rep X.K) σ F2 m2 (.ok (.lst acc) ah2) Q := by
        have z : (compM [] f >>= fun ys => (pure (D.lst (acc ++ ys)) : M D)) = pure (D.lst acc) := by
          show (pure (D.lst (acc ++ [])) : M D) = _
          rw [List.append_nil]
        rw [z] at k2
        exact k2
      obtain ⟨s3, e3⟩ := s2.seal fL2 mL2 hL0 hL2
      refine k3 _ _ _ _ e3 s3 ?_
      unfold Rep
      exact ⟨L, vs, rfl, .inl (.inl upd_same), RepL.ext e3 _ _ ra⟩
theorem de_lc {elt tg iter : Expr} {ifs : List Expr} {scope : Scope} {own : List (Str × Nat)} {π : Type} {sl : List Nat} {mi : M (List D)} {unp : D → Option π} {sets : π → Env → Env} {mt : π → M Bool} {me : π → M D}
    (hc : X.calm = true) (hN : X.N.Nodup) (hi : DI X W env tg iter mi) (ok : BlkOk X.N X.env.scope scope own) (hsl : ∀ i ∈ sl, i ∈ own.map (·.2))
    (hg : ∀ (s : Shared) (H : Hp) (C : Addr) (cl : List (Str × Addr)) (fp : List Addr), DG (X.blk s H scope (compEnvC scope cl C X.env) fp) tg sl unp sets)
    (ht : ∀ (s : Shared) (H : Hp) (C : Addr) (cl : List (Str × Addr)) (fp : List Addr) (p : π), PTs (X.blk s H scope (compEnvC scope cl C X.env) fp) ifs (TC X.K X.mg W0 RB (sets p (wipeE env (own.map (·.2)))) (mt p)))
    (he : ∀ (s : Shared) (H : Hp) (C : Addr) (cl : List (Str × Addr)) (fp : List Addr) (p : π), DE (X.blk s H scope (compEnvC scope cl C X.env) fp) W0 (sets p (wipeE env (own.map (·.2)))) elt (me p))
    (hs : ∀ x, foldedSetIterable iter X.env x = pure x := by intro _; rfl) :
    DE X W env (.ListComp elt [⟨tg, iter, ifs, 0⟩] scope pos) (do let xs ← mi; lcM xs (fun x => do let p ← liftO (unp x); let t ← mt p; if t = true then (do let y ← me p; pure [y]) else pure [])) :=
  PE.from (pe_lc (g := gD X.K X.mg sl unp sets) hc hN hi ok hg (fun s H C cl fp => (⟨fun pins s' σ H' Q I ⟨p, q⟩ => (ht s H C cl fp p).run pins s' σ H' Q I q⟩ : PTs _ ifs (fun σ H Q => ∃ p, TC X.K X.mg W0 RB (sets p (wipeE env (own.map (·.2)))) (mt p) σ H Q)))
    (fun s H C cl fp => (⟨fun pins s' σ H' Q I ⟨p, q⟩ => (he s H C cl fp p).run pins s' σ H' Q I q⟩ : PE _ elt (fun σ H Q => ∃ p, TC X.K X.mg W0 (Rep X.K) (sets p (wipeE env (own.map (·.2)))) (me p) σ H Q))) hs) (lc_from hsl)
theorem ds_setLc (i : Nat) {y : Str} {py spos : Pos} {ex : Env} {τ β : Type} {mk : τ → Env} {lp : β → Env} {rest : List Stmt} {k : D → M (Out τ β)} {elt tg iter : Expr} {ifs : List Expr} {scope : Scope} {own : List (Str × Nat)} {π : Type} {sl : List Nat} {mi : M (List D)} {unp : D → Option π} {sets : π → Env → Env} {mt : π → M Bool} {me : π → M D}
    (hc : X.calm = true) (hN : X.N.Nodup) (hi : DI X W env tg iter mi) (ok : BlkOk X.N X.env.scope scope own) (hsl : ∀ i ∈ sl, i ∈ own.map (·.2))
    (hg : ∀ (s : Shared) (H : Hp) (C : Addr) (cl : List (Str × Addr)) (fp : List Addr), DG (X.blk s H scope (compEnvC scope cl C X.env) fp) tg sl unp sets)
    (ht : ∀ (s : Shared) (H : Hp) (C : Addr) (cl : List (Str × Addr)) (fp : List Addr) (p : π), PTs (X.blk s H scope (compEnvC scope cl C X.env) fp) ifs (TC X.K X.mg W0 RB (sets p (wipeE env (own.map (·.2)))) (mt p)))
    (he : ∀ (s : Shared) (H : Hp) (C : Addr) (cl : List (Str × Addr)) (fp : List Addr) (p : π), DE (X.blk s H scope (compEnvC scope cl C X.env) fp) W0 (sets p (wipeE env (own.map (·.2)))) elt (me p))
    (env' : D → Env) (hx : EnvLe ex env) (hr : ∀ d, DS X W ex (env' d) mk lp rest (k d)) (hs : ∀ x, foldedSetIterable iter X.env x = pure x := by intro _; rfl) (hv : ∀ d, env.set i (some d) = env' d := by intro _; rfl) (hy : X.N[i]? = some y := by rfl) (hyl : X.env.scope.names.lookup y = some .local := by rfl)
    (hsw : swapsWith (.ListComp elt [⟨tg, iter, ifs, 0⟩] scope pos) (some (.Name y py)) spos.line X.env = pure true := by exact sw_true rfl rfl rfl (by decide +kernel)) :
    DS X W ex env mk lp (.Assign [.Name y py] (.ListComp elt [⟨tg, iter, ifs, 0⟩] scope pos) spos :: rest) ((do let xs ← mi; lcM xs (fun x => do let p ← liftO (unp x); let t ← mt p; if t = true then (do let y ← me p; pure [y]) else pure [])) >>= k) :=
  PSs.from (pss_cons (ps_setLc (g := gD X.K X.mg sl unp sets) hc hN hy hyl hsw hi ok hg (fun s H C cl fp => (⟨fun pins s' σ H' Q I ⟨p, q⟩ => (ht s H C cl fp p).run pins s' σ H' Q I q⟩ : PTs _ ifs (fun σ H Q => ∃ p, TC X.K X.mg W0 RB (sets p (wipeE env (own.map (·.2)))) (mt p) σ H Q)))
    (fun s H C cl fp => (⟨fun pins s' σ H' Q I ⟨p, q⟩ => (he s H C cl fp p).run pins s' σ H' Q I q⟩ : PE _ elt (fun σ H Q => ∃ p, TC X.K X.mg W0 (Rep X.K) (sets p (wipeE env (own.map (·.2)))) (me p) σ H Q))) hs) (PSs.ex hr)) fun Dn σ H ⟨fr, F, m, ah, s, er, q⟩ => lc_from (sets := sets) hsl σ H (fun x H1 => gName i x σ H1 fun σ' H' => ∃ a, TB X.K X.mg W ex (env' a) mk lp (k a) Dn σ' H') (TO.step s er hx q fun F1 m1 ah1 d v H1 e1 s1 er1 r1 k1 => ⟨d, fr, F1, m1, ah1, s1, by rw [← hv d]; exact er1.set r1, k1⟩)
theorem dts_nil {X : Cx} {env : Env} : PTs X [] (TC X.K X.mg W0 RB env (pure true)) := ⟨fun pins s σ H Q I ⟨fr, F, m, ah, S, er, k⟩ => pts_nil.run pins s σ H Q I (k F m _ H Ext.refl S rfl)⟩
theorem dts_one {X : Cx} {env : Env} {c : Expr} {mc : M Bool} (h : DT X W0 env c mc) : PTs X [c] (TC X.K X.mg W0 RB env mc) := pts_one h
end
end Lw
/-! SimF: calls, defs, lists that are written. (printed by wip/genF.py) -/
namespace Lw
open PySem L2
/-! ### what a def promises -/
def spD (K : Fg) (mg : Str → Option Value) (n : Nat) (g : List D → M D) : Sp := fun vs H Q E => vs.length = n ∧ ∃ fr F m ah ds, Sim K mg fr F m ah H ∧ RepL K F m ds vs ∧ TK K mg fr (fun c d _ H => E c d H) (Rep K) [] F m (g ds ah) Q
theorem TK.wish {α β : Type} {K : Fg} {mg : Str → Option Value} {fr : Fm} {W : WX} {R : Hp → List Addr → α → β → Prop} {σ : St} {F : Hp} {m : List Addr} {r : Res α} {Q : β → Hp → Prop} (h : TK K mg fr W R σ F m r Q) :
    TK K mg fr (fun c d _ H => W c d σ H) R [] F m r Q := by
  cases r with
  | ok _ _ => exact h
  | exc _ _ => exact h
  | stuck => exact h
mutual
def noRef : D → Bool
  | .ref _ => false
  | .tup xs => noRefs xs
  | .lst xs => noRefs xs
  | _ => true
def noRefs : List D → Bool
  | [] => true
  | d :: ds => noRef d && noRefs ds
end
mutual
theorem Rep.noref {K : Fg} {F : Hp} {m m' : List Addr} : ∀ (d : D) (v : V), noRef d = true → Rep K F m d v → Rep K F m' d v
  | .non, v, _, r => by
    unfold Rep at r ⊢
    exact r
  | .bl _, v, _, r => by
    unfold Rep at r ⊢
    exact r
  | .int _, v, _, r => by
    unfold Rep at r ⊢
    exact r
  | .str _, v, _, r => by
    unfold Rep at r ⊢
    exact r
  | .ref _, v, h, r => by
    unfold noRef at h
    cases h
  | .exn _ _, v, _, r => by
    unfold Rep at r ⊢
    exact r
  | .emp, v, _, r => by
    unfold Rep at r ⊢
    exact r
  | .tup xs, v, h, r => by
    unfold noRef at h
    unfold Rep at r ⊢
    obtain ⟨a, vs, h1, h2, h3⟩ := r
    exact ⟨a, vs, h1, h2, RepL.noref xs vs h h3⟩
  | .lst xs, v, h, r => by
    unfold noRef at h
    unfold Rep at r ⊢
    obtain ⟨a, vs, h1, h2, h3⟩ := r
    exact ⟨a, vs, h1, h2, RepL.noref xs vs h h3⟩
theorem RepL.noref {K : Fg} {F : Hp} {m m' : List Addr} : ∀ (ds : List D) (vs : List V), noRefs ds = true → RepL K F m ds vs → RepL K F m' ds vs
  | [], vs, _, r => by
    unfold RepL at r ⊢
    exact r
  | d :: ds, vs, h, r => by
    unfold noRefs at h
    rw [Bool.and_eq_true] at h
    unfold RepL at r ⊢
    obtain ⟨v, u, h1, h2, h3⟩ := r
    exact ⟨v, u, h1, Rep.noref d v h.1 h2, RepL.noref ds u h.2 h3⟩
end
/-- a call of a def that looks at no list or object of the plain heap: it runs in a heap of its own -/
def pcallM (g : List D → M D) (ds : List D) : M D := fun h => if noRefs ds = true then (match g ds [] with
  | .ok d _ => if noRef d = true then .ok d h else .stuck
  | .exc x _ => .exc x h
  | .stuck => .stuck) else .stuck
section
variable {K : Fg} {mg : Str → Option Value} {fr : Fm} {F F' H H' : Hp} {m m' : List Addr} {ah ah' : AH}
theorem Sim.bare (S : Sim K mg fr F m ah H) : Sim K mg ⟨H, F, []⟩ F [] [] H := ⟨S.sub, rfl, List.nodup_nil, (fun i c h => by simp at h), (fun _ _ h _ => h), (fun a h => nomatch h), (fun i a h => by simp at h), (fun a h => nomatch h), fun _ _ h => .inl h⟩
theorem Sim.pured (S : Sim K mg fr F m ah H) (e : Ext F [] F' m') (T : Sim K mg ⟨H, F, []⟩ F' m' ah' H') : Sim K mg fr F' m ah H' ∧ Ext F m F' m := by
  have e' : Ext F m F' m := ⟨e.sub, fun _ _ h => h⟩
  have st : ∀ a o, H a = some o → H' a = some o := fun a o h => T.frame a o h (by intro z; cases z)
  refine ⟨⟨T.sub, S.len, S.nod, fun i c h => ?_, fun a o h n => st a o (S.frame a o h n), S.young, S.pre, fun a h => ?_, fun a o h => ?_⟩, e'⟩
  · obtain ⟨a, q, ok⟩ := S.cells i c h
    obtain ⟨u, hu⟩ := S.there a (List.mem_of_getElem? q)
    refine ⟨a, q, ok.ext e' (fun z => ?_) fun _ => by rw [st a u hu, hu]⟩
    cases p : F' a with
    | none => rfl
    | some o =>
      rcases T.old a o p with y | y | y
      · have y : F a = some o := y
        rw [ok.free z] at y
        cases y
      · have y : H a = none := y
        rw [hu] at y
        cases y
      · cases y
  · obtain ⟨u, hu⟩ := S.there a h
    exact ⟨u, st a u hu⟩
  · rcases T.old a o h with y | y | y
    · exact S.old a o y
    · exact .inr (.inl (S.fresh0 y))
    · cases y
end
section
variable {X : Cx} {W : WX} {env : Env} {pos : Pos} {k : Nat} {f : Addr} {fd : FuncData} {ps : List Str} {x : Str} {p : Pos} {e : Expr} {es : List Expr} {g : List D → M D} {ms : M (List D)}
/-- a call -/
theorem de_call (n : Nat) (G : FnOk X.prog X.w X.K X.mg X.base (L2N.CX X.prog X.w) k f fd ps (spD X.K X.mg n g)) (hr : Room k X.A) (hm : X.mg x = some (.ref f)) (hk : PySem.W.keepIn X.K (.ref f) = true) (hb : Binds X.K fd ps []) (tk : L2N.Takes X W) (ha : DA X W env (e :: es) ms)
    (hn : ∀ ah ds ah', ms ah = .ok ds ah' → ds.length = n) (hg : Gl X x := by rfl) (hdb : (x == ("__debug__" : Str)) = false := by decide) (he : starEach (e :: es) X.env = (false, eval e X.env) :: starEach es X.env := by rfl) (hpl : (backTo pos (starEach es X.env)).any (·.1) = false := by rfl) :
    DE X W env (.Call (.Name x p) (e :: es) [] pos) (do let xs ← ms; g xs) :=
  PE.from (pe_callS G hr hg hm hk hb (fun σ => L2N.passAt tk σ) ha hdb he hpl) fun σ H Q ⟨fr, F, m, ah, s, er, q⟩ => by
    refine ⟨fr, F, m, ah, s, er, ?_⟩
    rw [bind_def] at q
    cases hr : ms ah with
    | ok d a =>
      rw [hr] at q
      exact fun F1 m1 v H1 e1 s1 r1 => ⟨by rw [RepL.length r1]; exact hn _ _ _ hr, fr, F1, m1, a, d, s1, r1, TK.wish (TK.ext e1 q)⟩
    | exc x a =>
      rw [hr] at q
      exact q
    | stuck =>
      rw [hr] at q
      exact q
theorem de_pcall (n : Nat) (G : FnOk X.prog X.w X.K X.mg X.base (L2N.CX X.prog X.w) k f fd ps (spD X.K X.mg n g)) (hr : Room k X.A) (hm : X.mg x = some (.ref f)) (hk : PySem.W.keepIn X.K (.ref f) = true) (hb : Binds X.K fd ps []) (tk : L2N.Takes X W) (ha : DA X W env (e :: es) ms)
    (hn : ∀ ah ds ah', ms ah = .ok ds ah' → ds.length = n) (hg : Gl X x := by rfl) (hdb : (x == ("__debug__" : Str)) = false := by decide) (he : starEach (e :: es) X.env = (false, eval e X.env) :: starEach es X.env := by rfl) (hpl : (backTo pos (starEach es X.env)).any (·.1) = false := by rfl) :
    DE X W env (.Call (.Name x p) (e :: es) [] pos) (do let xs ← ms; pcallM g xs) :=
  PE.from (pe_callS G hr hg hm hk hb (fun σ => L2N.passAt tk σ) ha hdb he hpl) fun σ H Q ⟨fr, F, m, ah, s, er, q⟩ => by
    refine ⟨fr, F, m, ah, s, er, ?_⟩
    rw [bind_def] at q
    cases hr : ms ah with
    | ok ds a =>
      rw [hr] at q
      have q : TK X.K X.mg fr W (Rep X.K) σ F m (pcallM g ds a) Q := q
      intro F1 m1 v H1 e1 s1 r1
      unfold pcallM at q
      by_cases h : noRefs ds = true
      case neg =>
        rw [if_neg h] at q
        exact q.elim
      rw [if_pos h] at q
      refine ⟨by rw [RepL.length r1]; exact hn _ _ _ hr, ⟨H1, F1, []⟩, F1, [], [], ds, s1.bare, RepL.noref ds v h r1, ?_⟩
      cases hg' : g ds [] with
      | ok d b =>
        simp only [hg'] at q
        by_cases hd : noRef d = true
        · rw [if_pos hd] at q
          intro F2 m2 u H2 e2 s2 r2
          obtain ⟨s3, e3⟩ := s1.pured e2 s2
          exact q F2 m1 u H2 ⟨fun a o h => e3.sub a o (e1.sub a o h), fun i a h => e1.pre i a h⟩ s3 (Rep.noref d u hd r2)
        · rw [if_neg hd] at q
          exact q.elim
      | exc y b =>
        simp only [hg'] at q
        intro F2 m2 C H2 e2 s2 hC
        obtain ⟨s3, e3⟩ := s1.pured e2 s2
        exact q F2 m1 C H2 ⟨fun a o h => e3.sub a o (e1.sub a o h), fun i a h => e1.pre i a h⟩ s3 hC
      | stuck =>
        simp only [hg'] at q
        exact q.elim
    | exc x a =>
      rw [hr] at q
      exact q
    | stuck =>
      rw [hr] at q
      exact q
theorem hu64 {A : Around} {k : Nat} (hr : Room k A) : A.units + 64 < cLine := by
  have := hr.un
  omega
end
theorem EnvLe.noth {n : Nat} {env : Env} (h : env.length = n) : EnvLe (List.replicate n none) env := ⟨by rw [List.length_replicate, h], fun i d q => by
  rw [List.getElem?_replicate] at q
  split at q <;> cases q⟩
theorem okXN {P : Program} {w : World} {K : Fg} {mg : Str → Option Value} {base : Heap} {x qual : Str} {st : Stmt} {f : Addr} {fd : FuncData} {N ps : List Str} {k : Nat} {sp : Sp} (F : Fun K x qual st f fd) (S : FnScope N ps (defScope st)) (len : ∀ vs H Q E, sp vs H Q E → vs.length = ps.length)
    (hbody : ∀ (cdv : Value) (A : Around) (outer : List PySem.Env) (s : Shared) (H : Hp) (vs : List V) (Q : VK) (E : XK), Room k (A.deeper (PyProof.Rows.envOfC qual (defScope st) s.heap.objs.size f cdv)) → sp vs H Q E →
      ∃ t, PSs (cxOf (L2N.CX P w) P w K mg base N qual (defScope st) f cdv A outer s H E) (defBody st) t ∧ t { nx := fun _ H' => Q .non H', rt := Q } (L2.start N vs) H) : FnOk P w K mg base (L2N.CX P w) (k + 1) f fd ps sp := by
  obtain ⟨oc, od, kV, doc, pm, an, cdv, ct, osl, rfl, lk, hcd⟩ := F.ex
  exact fn_of lk hcd S len fun A outer s H vs Q E hr hsp => hbody cdv A outer s H vs Q E hr hsp
/-- a def -/
theorem fn_sim {P : Program} {w : World} {K : Fg} {mg : Str → Option Value} {base : Heap} {x qual : Str} {st : Stmt} {f : Addr} {fd : FuncData} {N ps : List Str} {k n : Nat} {τ : Type} {mk : τ → Env} {lp : Empty → Env} {mc : List D → M (Out τ Empty)} {g : List D → M D}
    (F : Fun K x qual st f fd) (S : FnScope N ps (defScope st)) (hn : ps.length = n) (hg : ∀ ds, ds.length = n → g ds = defM (mc ds))
    (h : ∀ (cdv : Value) (A : Around) (outer : List PySem.Env) (s : Shared) (H : Hp) (E : XK), Room k (A.deeper (PyProof.Rows.envOfC qual (defScope st) s.heap.objs.size f cdv)) → ∀ ds : List D, ds.length = n →
      DS (cxOf (L2N.CX P w) P w K mg base N qual (defScope st) f cdv A outer s H E) (fun c d _ H => E c d H) (List.replicate N.length none) (ds.map some ++ List.replicate (N.length - n) none) mk lp (defBody st) (mc ds)) :
    FnOk P w K mg base (L2N.CX P w) (k + 1) f fd ps (spD K mg n g) := by
  refine okXN F S (fun vs H Q E h => h.1.trans hn.symm) fun cdv A outer s H vs Q E hr hsp => ?_
  obtain ⟨hl, fr, F', m, ah, ds, S', r, q⟩ := hsp
  have hd : ds.length = n := by rw [← RepL.length r]; exact hl
  refine ⟨_, h cdv A outer s H E hr ds hd, fr, F', m, ah, S', ?_, ?_⟩
  · have hp : ps.length ≤ N.length := by
      have z := congrArg List.length S.pre
      rw [List.length_take] at z
      omega
    refine ⟨by unfold L2.start; simp [hl, hd], fun i d hi => ?_⟩
    by_cases hlt : i < ds.length
    · rw [List.getElem?_append_left (by simpa using hlt), List.getElem?_map] at hi
      cases hdi : ds[i]? with
      | none =>
        rw [hdi] at hi
        cases hi
      | some d' =>
        rw [hdi] at hi
        cases hi
        obtain ⟨v, hv, rv⟩ := RepL.get r hdi
        refine ⟨v, ?_, rv⟩
        unfold L2.start
        rw [List.getElem?_append_left (by simp; have := RepL.length r; omega), List.getElem?_map, hv]
        rfl
    · rw [List.getElem?_append_right (by simp; omega), List.getElem?_replicate] at hi
      split at hi <;> cases hi
  · rw [hg ds hd] at q
    have q : TK K mg fr (fun c d _ H => E c d H) (Rep K) [] F' m (dres (mc ds ah)) Q := q
    cases hm : mc ds ah with
    | ok o a =>
      rw [hm] at q
      cases o with
      | nx t => exact fun F2 m2 σ2 H2 e2 s2 r2 => q F2 m2 .non H2 e2 s2 Rep.non
      | ret d => exact fun F2 m2 v H2 e2 s2 r2 => q F2 m2 v H2 e2 s2 r2
      | bk b => exact b.elim
      | ct b => exact b.elim
    | exc y a =>
      rw [hm] at q
      exact fun F2 m2 C σ2 H2 e2 s2 r2 hC => q F2 m2 C H2 e2 s2 hC
    | stuck =>
      rw [hm] at q
      exact q
def app1 (f : D → M D) : List D → M D
  | [d1] => f d1
  | _ => stuck
def app2 (f : D → D → M D) : List D → M D
  | [d1, d2] => f d1 d2
  | _ => stuck
def app3 (f : D → D → D → M D) : List D → M D
  | [d1, d2, d3] => f d1 d2 d3
  | _ => stuck
def app4 (f : D → D → D → D → M D) : List D → M D
  | [d1, d2, d3, d4] => f d1 d2 d3 d4
  | _ => stuck
def app5 (f : D → D → D → D → D → M D) : List D → M D
  | [d1, d2, d3, d4, d5] => f d1 d2 d3 d4 d5
  | _ => stuck
section
variable {X : Cx} {W : WX} {env : Env} {pos : Pos} {k : Nat} {f : Addr} {fd : FuncData} {ps : List Str} {x : Str} {p : Pos}
theorem da1 {ex1 : Expr} {mm1 : M D} (hh1 : DE X W env ex1 mm1) (ss1 : starEach [ex1] X.env = (false, eval ex1 X.env) :: starEach [] X.env := by rfl) :
    DA X W env [ex1] (do let x1 ← mm1; pure [x1]) := by
  refine PA.from (pa_cons hh1 pa_nil ss1) fun σ H Q ⟨fr, F, m, ah, s, er, q⟩ => ?_
  refine TK.step s er q fun F1 m1' ah1 d1 v1 H1 x1 y1 z1 r1 q1 => ?_
  exact q1 F1 m1' _ H1 Ext.refl y1 (RepL.cons r1 RepL.nil)
theorem len1 {mm1 : M D} (ah : AH) (ds : List D) (ah' : AH) (h : (do let x1 ← mm1; pure [x1] : M (List D)) ah = .ok ds ah') : ds.length = 1 := by
  rw [bind_def] at h
  cases h1 : mm1 ah with
  | exc _ _ => rw [h1] at h; cases h
  | stuck => rw [h1] at h; cases h
  | ok d1 a1 =>
  rw [h1] at h; dsimp only at h
  cases h
  rfl
theorem assoc1 {mm1 : M D} {g : List D → M D} : ((do let x1 ← mm1; pure [x1] : M (List D)) >>= g) = (do let x1 ← mm1; g [x1]) := by
  simp only [bind_assoc, pure_bind]
theorem de_call1 {ex1 : Expr} {mm1 : M D} {g : D → M D} (G : FnOk X.prog X.w X.K X.mg X.base (L2N.CX X.prog X.w) k f fd ps (spD X.K X.mg 1 (app1 g))) (hr : Room k X.A) (hm : X.mg x = some (.ref f)) (hk : PySem.W.keepIn X.K (.ref f) = true) (hb : Binds X.K fd ps []) (tk : L2N.Takes X W) (hh1 : DE X W env ex1 mm1)
    (hg : Gl X x := by rfl) (hdb : (x == ("__debug__" : Str)) = false := by decide) (ss1 : starEach [ex1] X.env = (false, eval ex1 X.env) :: starEach [] X.env := by rfl) (hpl : (backTo pos (starEach [] X.env)).any (·.1) = false := by rfl) :
    DE X W env (.Call (.Name x p) [ex1] [] pos) (do let x1 ← mm1; g x1) := by
  have h := de_call (pos := pos) (p := p) 1 G hr hm hk hb tk (da1 hh1 ss1) len1 hg hdb ss1 hpl
  rw [assoc1] at h
  exact h
theorem de_pcall1 {ex1 : Expr} {mm1 : M D} {g : D → M D} (G : FnOk X.prog X.w X.K X.mg X.base (L2N.CX X.prog X.w) k f fd ps (spD X.K X.mg 1 (app1 g))) (hr : Room k X.A) (hm : X.mg x = some (.ref f)) (hk : PySem.W.keepIn X.K (.ref f) = true) (hb : Binds X.K fd ps []) (tk : L2N.Takes X W) (hh1 : DE X W env ex1 mm1)
    (hg : Gl X x := by rfl) (hdb : (x == ("__debug__" : Str)) = false := by decide) (ss1 : starEach [ex1] X.env = (false, eval ex1 X.env) :: starEach [] X.env := by rfl) (hpl : (backTo pos (starEach [] X.env)).any (·.1) = false := by rfl) :
    DE X W env (.Call (.Name x p) [ex1] [] pos) (do let x1 ← mm1; pcallM (app1 g) [x1]) := by
  have h := de_pcall (pos := pos) (p := p) 1 G hr hm hk hb tk (da1 hh1 ss1) len1 hg hdb ss1 hpl
  rw [assoc1] at h
  exact h
theorem da2 {ex1 ex2 : Expr} {mm1 mm2 : M D} (hh1 : DE X W env ex1 mm1) (hh2 : DE X W env ex2 mm2) (ss1 : starEach [ex1, ex2] X.env = (false, eval ex1 X.env) :: starEach [ex2] X.env := by rfl) (ss2 : starEach [ex2] X.env = (false, eval ex2 X.env) :: starEach [] X.env := by rfl) :
    DA X W env [ex1, ex2] (do let x1 ← mm1; let x2 ← mm2; pure [x1, x2]) := by
  refine PA.from (pa_cons hh1 (pa_cons hh2 pa_nil ss2) ss1) fun σ H Q ⟨fr, F, m, ah, s, er, q⟩ => ?_
  refine TK.step s er q fun F1 m1' ah1 d1 v1 H1 x1 y1 z1 r1 q1 => ?_
  refine TK.step y1 z1 q1 fun F2 m2' ah2 d2 v2 H2 x2 y2 z2 r2 q2 => ?_
  exact q2 F2 m2' _ H2 Ext.refl y2 (RepL.cons (Rep.ext x2 _ _ r1) (RepL.cons r2 RepL.nil))
theorem len2 {mm1 mm2 : M D} (ah : AH) (ds : List D) (ah' : AH) (h : (do let x1 ← mm1; let x2 ← mm2; pure [x1, x2] : M (List D)) ah = .ok ds ah') : ds.length = 2 := by
  rw [bind_def] at h
  cases h1 : mm1 ah with
  | exc _ _ => rw [h1] at h; cases h
  | stuck => rw [h1] at h; cases h
  | ok d1 a1 =>
  rw [h1] at h; dsimp only at h
  rw [bind_def] at h
  cases h2 : mm2 a1 with
  | exc _ _ => rw [h2] at h; cases h
  | stuck => rw [h2] at h; cases h
  | ok d2 a2 =>
  rw [h2] at h; dsimp only at h
  cases h
  rfl
theorem assoc2 {mm1 mm2 : M D} {g : List D → M D} : ((do let x1 ← mm1; let x2 ← mm2; pure [x1, x2] : M (List D)) >>= g) = (do let x1 ← mm1; let x2 ← mm2; g [x1, x2]) := by
  simp only [bind_assoc, pure_bind]
theorem de_call2 {ex1 ex2 : Expr} {mm1 mm2 : M D} {g : D → D → M D} (G : FnOk X.prog X.w X.K X.mg X.base (L2N.CX X.prog X.w) k f fd ps (spD X.K X.mg 2 (app2 g))) (hr : Room k X.A) (hm : X.mg x = some (.ref f)) (hk : PySem.W.keepIn X.K (.ref f) = true) (hb : Binds X.K fd ps []) (tk : L2N.Takes X W) (hh1 : DE X W env ex1 mm1) (hh2 : DE X W env ex2 mm2)
    (hg : Gl X x := by rfl) (hdb : (x == ("__debug__" : Str)) = false := by decide) (ss1 : starEach [ex1, ex2] X.env = (false, eval ex1 X.env) :: starEach [ex2] X.env := by rfl) (ss2 : starEach [ex2] X.env = (false, eval ex2 X.env) :: starEach [] X.env := by rfl) (hpl : (backTo pos (starEach [ex2] X.env)).any (·.1) = false := by rfl) :
    DE X W env (.Call (.Name x p) [ex1, ex2] [] pos) (do let x1 ← mm1; let x2 ← mm2; g x1 x2) := by
  have h := de_call (pos := pos) (p := p) 2 G hr hm hk hb tk (da2 hh1 hh2 ss1 ss2) len2 hg hdb ss1 hpl
  rw [assoc2] at h
  exact h
theorem de_pcall2 {ex1 ex2 : Expr} {mm1 mm2 : M D} {g : D → D → M D} (G : FnOk X.prog X.w X.K X.mg X.base (L2N.CX X.prog X.w) k f fd ps (spD X.K X.mg 2 (app2 g))) (hr : Room k X.A) (hm : X.mg x = some (.ref f)) (hk : PySem.W.keepIn X.K (.ref f) = true) (hb : Binds X.K fd ps []) (tk : L2N.Takes X W) (hh1 : DE X W env ex1 mm1) (hh2 : DE X W env ex2 mm2)
    (hg : Gl X x := by rfl) (hdb : (x == ("__debug__" : Str)) = false := by decide) (ss1 : starEach [ex1, ex2] X.env = (false, eval ex1 X.env) :: starEach [ex2] X.env := by rfl) (ss2 : starEach [ex2] X.env = (false, eval ex2 X.env) :: starEach [] X.env := by rfl) (hpl : (backTo pos (starEach [ex2] X.env)).any (·.1) = false := by rfl) :
    DE X W env (.Call (.Name x p) [ex1, ex2] [] pos) (do let x1 ← mm1; let x2 ← mm2; pcallM (app2 g) [x1, x2]) := by
  have h := de_pcall (pos := pos) (p := p) 2 G hr hm hk hb tk (da2 hh1 hh2 ss1 ss2) len2 hg hdb ss1 hpl
  rw [assoc2] at h
  exact h
theorem da3 {ex1 ex2 ex3 : Expr} {mm1 mm2 mm3 : M D} (hh1 : DE X W env ex1 mm1) (hh2 : DE X W env ex2 mm2) (hh3 : DE X W env ex3 mm3) (ss1 : starEach [ex1, ex2, ex3] X.env = (false, eval ex1 X.env) :: starEach [ex2, ex3] X.env := by rfl) (ss2 : starEach [ex2, ex3] X.env = (false, eval ex2 X.env) :: starEach [ex3] X.env := by rfl) (ss3 : starEach [ex3] X.env = (false, eval ex3 X.env) :: starEach [] X.env := by rfl) :
    DA X W env [ex1, ex2, ex3] (do let x1 ← mm1; let x2 ← mm2; let x3 ← mm3; pure [x1, x2, x3]) := by
  refine PA.from (pa_cons hh1 (pa_cons hh2 (pa_cons hh3 pa_nil ss3) ss2) ss1) fun σ H Q ⟨fr, F, m, ah, s, er, q⟩ => ?_
  refine TK.step s er q fun F1 m1' ah1 d1 v1 H1 x1 y1 z1 r1 q1 => ?_
  refine TK.step y1 z1 q1 fun F2 m2' ah2 d2 v2 H2 x2 y2 z2 r2 q2 => ?_
  refine TK.step y2 z2 q2 fun F3 m3' ah3 d3 v3 H3 x3 y3 z3 r3 q3 => ?_
  exact q3 F3 m3' _ H3 Ext.refl y3 (RepL.cons (Rep.ext (x2.trans x3) _ _ r1) (RepL.cons (Rep.ext x3 _ _ r2) (RepL.cons r3 RepL.nil)))
theorem len3 {mm1 mm2 mm3 : M D} (ah : AH) (ds : List D) (ah' : AH) (h : (do let x1 ← mm1; let x2 ← mm2; let x3 ← mm3; pure [x1, x2, x3] : M (List D)) ah = .ok ds ah') : ds.length = 3 := by
  rw [bind_def] at h
  cases h1 : mm1 ah with
  | exc _ _ => rw [h1] at h; cases h
  | stuck => rw [h1] at h; cases h
  | ok d1 a1 =>
  rw [h1] at h; dsimp only at h
  rw [bind_def] at h
  cases h2 : mm2 a1 with
  | exc _ _ => rw [h2] at h; cases h
  | stuck => rw [h2] at h; cases h
  | ok d2 a2 =>
  rw [h2] at h; dsimp only at h
  rw [bind_def] at h
  cases h3 : mm3 a2 with
  | exc _ _ => rw [h3] at h; cases h
  | stuck => rw [h3] at h; cases h
  | ok d3 a3 =>
  rw [h3] at h; dsimp only at h
  cases h
  rfl
theorem assoc3 {mm1 mm2 mm3 : M D} {g : List D → M D} : ((do let x1 ← mm1; let x2 ← mm2; let x3 ← mm3; pure [x1, x2, x3] : M (List D)) >>= g) = (do let x1 ← mm1; let x2 ← mm2; let x3 ← mm3; g [x1, x2, x3]) := by
  simp only [bind_assoc, pure_bind]
theorem de_pcall3 {ex1 ex2 ex3 : Expr} {mm1 mm2 mm3 : M D} {g : D → D → D → M D} (G : FnOk X.prog X.w X.K X.mg X.base (L2N.CX X.prog X.w) k f fd ps (spD X.K X.mg 3 (app3 g))) (hr : Room k X.A) (hm : X.mg x = some (.ref f)) (hk : PySem.W.keepIn X.K (.ref f) = true) (hb : Binds X.K fd ps []) (tk : L2N.Takes X W) (hh1 : DE X W env ex1 mm1) (hh2 : DE X W env ex2 mm2) (hh3 : DE X W env ex3 mm3)
    (hg : Gl X x := by rfl) (hdb : (x == ("__debug__" : Str)) = false := by decide) (ss1 : starEach [ex1, ex2, ex3] X.env = (false, eval ex1 X.env) :: starEach [ex2, ex3] X.env := by rfl) (ss2 : starEach [ex2, ex3] X.env = (false, eval ex2 X.env) :: starEach [ex3] X.env := by rfl) (ss3 : starEach [ex3] X.env = (false, eval ex3 X.env) :: starEach [] X.env := by rfl) (hpl : (backTo pos (starEach [ex2, ex3] X.env)).any (·.1) = false := by rfl) :
    DE X W env (.Call (.Name x p) [ex1, ex2, ex3] [] pos) (do let x1 ← mm1; let x2 ← mm2; let x3 ← mm3; pcallM (app3 g) [x1, x2, x3]) := by
  have h := de_pcall (pos := pos) (p := p) 3 G hr hm hk hb tk (da3 hh1 hh2 hh3 ss1 ss2 ss3) len3 hg hdb ss1 hpl
  rw [assoc3] at h
  exact h
theorem da4 {ex1 ex2 ex3 ex4 : Expr} {mm1 mm2 mm3 mm4 : M D} (hh1 : DE X W env ex1 mm1) (hh2 : DE X W env ex2 mm2) (hh3 : DE X W env ex3 mm3) (hh4 : DE X W env ex4 mm4) (ss1 : starEach [ex1, ex2, ex3, ex4] X.env = (false, eval ex1 X.env) :: starEach [ex2, ex3, ex4] X.env := by rfl) (ss2 : starEach [ex2, ex3, ex4] X.env = (false, eval ex2 X.env) :: starEach [ex3, ex4] X.env := by rfl) (ss3 : starEach [ex3, ex4] X.env = (false, eval ex3 X.env) :: starEach [ex4] X.env := by rfl) (ss4 : starEach [ex4] X.env = (false, eval ex4 X.env) :: starEach [] X.env := by rfl) :
    DA X W env [ex1, ex2, ex3, ex4] (do let x1 ← mm1; let x2 ← mm2; let x3 ← mm3; let x4 ← mm4; pure [x1, x2, x3, x4]) := by
  refine PA.from (pa_cons hh1 (pa_cons hh2 (pa_cons hh3 (pa_cons hh4 pa_nil ss4) ss3) ss2) ss1) fun σ H Q ⟨fr, F, m, ah, s, er, q⟩ => ?_
  refine TK.step s er q fun F1 m1' ah1 d1 v1 H1 x1 y1 z1 r1 q1 => ?_
  refine TK.step y1 z1 q1 fun F2 m2' ah2 d2 v2 H2 x2 y2 z2 r2 q2 => ?_
  refine TK.step y2 z2 q2 fun F3 m3' ah3 d3 v3 H3 x3 y3 z3 r3 q3 => ?_
  refine TK.step y3 z3 q3 fun F4 m4' ah4 d4 v4 H4 x4 y4 z4 r4 q4 => ?_
  exact q4 F4 m4' _ H4 Ext.refl y4 (RepL.cons (Rep.ext ((x2.trans x3).trans x4) _ _ r1) (RepL.cons (Rep.ext (x3.trans x4) _ _ r2) (RepL.cons (Rep.ext x4 _ _ r3) (RepL.cons r4 RepL.nil))))
theorem len4 {mm1 mm2 mm3 mm4 : M D} (ah : AH) (ds : List D) (ah' : AH) (h : (do let x1 ← mm1; let x2 ← mm2; let x3 ← mm3; let x4 ← mm4; pure [x1, x2, x3, x4] : M (List D)) ah = .ok ds ah') : ds.length = 4 := by
  rw [bind_def] at h
  cases h1 : mm1 ah with
  | exc _ _ => rw [h1] at h; cases h
  | stuck => rw [h1] at h; cases h
  | ok d1 a1 =>
  rw [h1] at h; dsimp only at h
  rw [bind_def] at h
  cases h2 : mm2 a1 with
  | exc _ _ => rw [h2] at h; cases h
  | stuck => rw [h2] at h; cases h
  | ok d2 a2 =>
  rw [h2] at h; dsimp only at h
  rw [bind_def] at h
  cases h3 : mm3 a2 with
  | exc _ _ => rw [h3] at h; cases h
  | stuck => rw [h3] at h; cases h
  | ok d3 a3 =>
  rw [h3] at h; dsimp only at h
  rw [bind_def] at h
  cases h4 : mm4 a3 with
  | exc _ _ => rw [h4] at h; cases h
  | stuck => rw [h4] at h; cases h
  | ok d4 a4 =>
  rw [h4] at h; dsimp only at h
  cases h
  rfl
theorem assoc4 {mm1 mm2 mm3 mm4 : M D} {g : List D → M D} : ((do let x1 ← mm1; let x2 ← mm2; let x3 ← mm3; let x4 ← mm4; pure [x1, x2, x3, x4] : M (List D)) >>= g) = (do let x1 ← mm1; let x2 ← mm2; let x3 ← mm3; let x4 ← mm4; g [x1, x2, x3, x4]) := by
  simp only [bind_assoc, pure_bind]
theorem de_pcall4 {ex1 ex2 ex3 ex4 : Expr} {mm1 mm2 mm3 mm4 : M D} {g : D → D → D → D → M D} (G : FnOk X.prog X.w X.K X.mg X.base (L2N.CX X.prog X.w) k f fd ps (spD X.K X.mg 4 (app4 g))) (hr : Room k X.A) (hm : X.mg x = some (.ref f)) (hk : PySem.W.keepIn X.K (.ref f) = true) (hb : Binds X.K fd ps []) (tk : L2N.Takes X W) (hh1 : DE X W env ex1 mm1) (hh2 : DE X W env ex2 mm2) (hh3 : DE X W env ex3 mm3) (hh4 : DE X W env ex4 mm4)
    (hg : Gl X x := by rfl) (hdb : (x == ("__debug__" : Str)) = false := by decide) (ss1 : starEach [ex1, ex2, ex3, ex4] X.env = (false, eval ex1 X.env) :: starEach [ex2, ex3, ex4] X.env := by rfl) (ss2 : starEach [ex2, ex3, ex4] X.env = (false, eval ex2 X.env) :: starEach [ex3, ex4] X.env := by rfl) (ss3 : starEach [ex3, ex4] X.env = (false, eval ex3 X.env) :: starEach [ex4] X.env := by rfl) (ss4 : starEach [ex4] X.env = (false, eval ex4 X.env) :: starEach [] X.env := by rfl) (hpl : (backTo pos (starEach [ex2, ex3, ex4] X.env)).any (·.1) = false := by rfl) :
    DE X W env (.Call (.Name x p) [ex1, ex2, ex3, ex4] [] pos) (do let x1 ← mm1; let x2 ← mm2; let x3 ← mm3; let x4 ← mm4; pcallM (app4 g) [x1, x2, x3, x4]) := by
  have h := de_pcall (pos := pos) (p := p) 4 G hr hm hk hb tk (da4 hh1 hh2 hh3 hh4 ss1 ss2 ss3 ss4) len4 hg hdb ss1 hpl
  rw [assoc4] at h
  exact h
end
theorem fn1 {P : Program} {w : World} {K : Fg} {mg : Str → Option Value} {base : Heap} {x qual : Str} {st : Stmt} {f : Addr} {fd : FuncData} {N ps : List Str} {k : Nat} {τ : Type} {mk : τ → Env} {lp : Empty → Env} {mc : D → M (Out τ Empty)}
    (F : Fun K x qual st f fd) (S : FnScope N ps (defScope st)) (hn : ps.length = 1)
    (h : ∀ (cdv : Value) (A : Around) (outer : List PySem.Env) (s : Shared) (H : Hp) (E : XK), Room k (A.deeper (PyProof.Rows.envOfC qual (defScope st) s.heap.objs.size f cdv)) → ∀ d1 : D,
      DS (cxOf (L2N.CX P w) P w K mg base N qual (defScope st) f cdv A outer s H E) (fun c d _ H => E c d H) (List.replicate N.length none) ([some d1] ++ List.replicate (N.length - 1) none) mk lp (defBody st) (mc d1)) :
    FnOk P w K mg base (L2N.CX P w) (k + 1) f fd ps (spD K mg 1 (app1 fun d1 => defM (mc d1))) :=
  fn_sim (mc := fun ds => match ds with | [d1] => mc d1 | _ => stuck) F S hn (fun ds hl => match ds, hl with | [_], _ => rfl) fun cdv A outer s H E hr ds hl => match ds, hl with | [d1], _ => h cdv A outer s H E hr d1
theorem fn2 {P : Program} {w : World} {K : Fg} {mg : Str → Option Value} {base : Heap} {x qual : Str} {st : Stmt} {f : Addr} {fd : FuncData} {N ps : List Str} {k : Nat} {τ : Type} {mk : τ → Env} {lp : Empty → Env} {mc : D → D → M (Out τ Empty)}
    (F : Fun K x qual st f fd) (S : FnScope N ps (defScope st)) (hn : ps.length = 2)
    (h : ∀ (cdv : Value) (A : Around) (outer : List PySem.Env) (s : Shared) (H : Hp) (E : XK), Room k (A.deeper (PyProof.Rows.envOfC qual (defScope st) s.heap.objs.size f cdv)) → ∀ d1 d2 : D,
      DS (cxOf (L2N.CX P w) P w K mg base N qual (defScope st) f cdv A outer s H E) (fun c d _ H => E c d H) (List.replicate N.length none) ([some d1, some d2] ++ List.replicate (N.length - 2) none) mk lp (defBody st) (mc d1 d2)) :
    FnOk P w K mg base (L2N.CX P w) (k + 1) f fd ps (spD K mg 2 (app2 fun d1 d2 => defM (mc d1 d2))) :=
  fn_sim (mc := fun ds => match ds with | [d1, d2] => mc d1 d2 | _ => stuck) F S hn (fun ds hl => match ds, hl with | [_, _], _ => rfl) fun cdv A outer s H E hr ds hl => match ds, hl with | [d1, d2], _ => h cdv A outer s H E hr d1 d2
theorem fn3 {P : Program} {w : World} {K : Fg} {mg : Str → Option Value} {base : Heap} {x qual : Str} {st : Stmt} {f : Addr} {fd : FuncData} {N ps : List Str} {k : Nat} {τ : Type} {mk : τ → Env} {lp : Empty → Env} {mc : D → D → D → M (Out τ Empty)}
    (F : Fun K x qual st f fd) (S : FnScope N ps (defScope st)) (hn : ps.length = 3)
    (h : ∀ (cdv : Value) (A : Around) (outer : List PySem.Env) (s : Shared) (H : Hp) (E : XK), Room k (A.deeper (PyProof.Rows.envOfC qual (defScope st) s.heap.objs.size f cdv)) → ∀ d1 d2 d3 : D,
      DS (cxOf (L2N.CX P w) P w K mg base N qual (defScope st) f cdv A outer s H E) (fun c d _ H => E c d H) (List.replicate N.length none) ([some d1, some d2, some d3] ++ List.replicate (N.length - 3) none) mk lp (defBody st) (mc d1 d2 d3)) :
    FnOk P w K mg base (L2N.CX P w) (k + 1) f fd ps (spD K mg 3 (app3 fun d1 d2 d3 => defM (mc d1 d2 d3))) :=
  fn_sim (mc := fun ds => match ds with | [d1, d2, d3] => mc d1 d2 d3 | _ => stuck) F S hn (fun ds hl => match ds, hl with | [_, _, _], _ => rfl) fun cdv A outer s H E hr ds hl => match ds, hl with | [d1, d2, d3], _ => h cdv A outer s H E hr d1 d2 d3
theorem fn4 {P : Program} {w : World} {K : Fg} {mg : Str → Option Value} {base : Heap} {x qual : Str} {st : Stmt} {f : Addr} {fd : FuncData} {N ps : List Str} {k : Nat} {τ : Type} {mk : τ → Env} {lp : Empty → Env} {mc : D → D → D → D → M (Out τ Empty)}
    (F : Fun K x qual st f fd) (S : FnScope N ps (defScope st)) (hn : ps.length = 4)
    (h : ∀ (cdv : Value) (A : Around) (outer : List PySem.Env) (s : Shared) (H : Hp) (E : XK), Room k (A.deeper (PyProof.Rows.envOfC qual (defScope st) s.heap.objs.size f cdv)) → ∀ d1 d2 d3 d4 : D,
      DS (cxOf (L2N.CX P w) P w K mg base N qual (defScope st) f cdv A outer s H E) (fun c d _ H => E c d H) (List.replicate N.length none) ([some d1, some d2, some d3, some d4] ++ List.replicate (N.length - 4) none) mk lp (defBody st) (mc d1 d2 d3 d4)) :
    FnOk P w K mg base (L2N.CX P w) (k + 1) f fd ps (spD K mg 4 (app4 fun d1 d2 d3 d4 => defM (mc d1 d2 d3 d4))) :=
  fn_sim (mc := fun ds => match ds with | [d1, d2, d3, d4] => mc d1 d2 d3 d4 | _ => stuck) F S hn (fun ds hl => match ds, hl with | [_, _, _, _], _ => rfl) fun cdv A outer s H E hr ds hl => match ds, hl with | [d1, d2, d3, d4], _ => h cdv A outer s H E hr d1 d2 d3 d4
end Lw
/-! SimG: lists that are written, freezing them, raise, sorted. -/
namespace Lw
open PySem L2
/-! ### a cell is written -/
section
variable {K : Fg} {mg : Str → Option Value} {fr : Fm} {F H : Hp} {m : List Addr} {ah : AH}
theorem Sim.write {i : Nat} {a : Addr} {c c' : Cell} {o : HO} (S : Sim K mg fr F m ah H) (hi : ah[i]? = some c) (ha : m[i]? = some a) (hc : trk c = true) (ok : CellOk K mg F m (upd H a o) a c') : Sim K mg fr F m (ah.set i c') (upd H a o) := by
  have am : a ∈ m := List.mem_of_getElem? ha
  have fa : F a = none := by
    obtain ⟨a', q, ok'⟩ := S.cells i c hi
    rw [ha] at q
    cases q
    exact ok'.free hc
  refine ⟨fun b u h => ?_, by rw [List.length_set]; exact S.len, S.nod, fun j x h => ?_, fun b u h n => ?_, S.young, S.pre, fun b h => ?_, S.old⟩
  · have ne : b ≠ a := fun z => by rw [z, fa] at h; cases h
    rw [upd_ne ne]
    exact S.sub b u h
  · by_cases hj : i = j
    · subst hj
      rw [List.getElem?_set_self (List.getElem?_eq_some_iff.mp hi).1] at h
      cases h
      exact ⟨a, ha, ok⟩
    · rw [List.getElem?_set_ne hj] at h
      obtain ⟨b, q, okb⟩ := S.cells j x h
      have ne : b ≠ a := fun z => hj (by
        rw [z] at q
        obtain ⟨h1, e1⟩ := List.getElem?_eq_some_iff.mp ha
        obtain ⟨h2, e2⟩ := List.getElem?_eq_some_iff.mp q
        exact (List.getElem_inj S.nod).mp (e1.trans e2.symm))
      exact ⟨b, q, okb.ext Ext.refl (fun z => okb.free z) fun _ => upd_ne ne⟩
  · have ne : b ≠ a := fun z => by
      rw [z] at h n
      rw [S.young a am n] at h
      cases h
    rw [upd_ne ne]
    exact S.frame b u h n
  · by_cases z : b = a
    · rw [z, upd_same]
      exact ⟨_, rfl⟩
    · rw [upd_ne z]
      exact S.there b h
/-- a list of the heap is never written from now on -/
theorem Sim.freeze {i : Nat} {a : Addr} {xs : List D} (S : Sim K mg fr F m ah H) (hi : ah[i]? = some (.lst xs)) (ha : m[i]? = some a) : ∃ vs, Sim K mg fr (upd F a (.lst vs)) m (ah.set i .dead) H ∧ Ext F m (upd F a (.lst vs)) m ∧ RepL K F m xs vs := by
  have am : a ∈ m := List.mem_of_getElem? ha
  obtain ⟨a', q, ok⟩ := S.cells i _ hi
  rw [ha] at q
  cases q
  obtain ⟨fa, vs, hv, rv⟩ := ok
  have e : Ext F m (upd F a (.lst vs)) m := ⟨fun b u h => by rw [upd_ne (ne_of_none h fa)]; exact h, fun _ _ h => h⟩
  refine ⟨vs, ⟨fun b u h => ?_, by rw [List.length_set]; exact S.len, S.nod, fun j x h => ?_, S.frame, S.young, S.pre, S.there, fun b u h => ?_⟩, e, rv⟩
  · by_cases z : b = a
    · rw [z, upd_same] at h
      cases h
      rw [z]
      exact hv
    · rw [upd_ne z] at h
      exact S.sub b u h
  · by_cases hj : i = j
    · subst hj
      rw [List.getElem?_set_self (List.getElem?_eq_some_iff.mp hi).1] at h
      cases h
      exact ⟨a, ha, trivial⟩
    · rw [List.getElem?_set_ne hj] at h
      obtain ⟨b, q, okb⟩ := S.cells j x h
      have ne : b ≠ a := fun z => hj (by
        rw [z] at q
        obtain ⟨h1, e1⟩ := List.getElem?_eq_some_iff.mp ha
        obtain ⟨h2, e2⟩ := List.getElem?_eq_some_iff.mp q
        exact (List.getElem_inj S.nod).mp (e1.trans e2.symm))
      exact ⟨b, q, okb.ext e (fun z => by rw [upd_ne ne]; exact okb.free z) fun _ => rfl⟩
  · by_cases z : b = a
    · rw [z]
      by_cases y : a ∈ fr.m0
      · exact .inr (.inr y)
      · exact .inr (.inl (S.young a am y))
    · rw [upd_ne z] at h
      exact S.old b u h
end
/-- a list of the heap, from now on a value -/
def freezeM (d : D) : M D := fun h => match d with
  | .ref n => (match h[n]? with
    | some (.lst xs) => .ok (.lst xs) (h.set n .dead)
    | _ => .stuck)
  | _ => .stuck
section
variable {X : Cx} {W : WX} {ex env : Env} {pos : Pos} {τ β : Type} {mk : τ → Env} {lp : β → Env} {rest : List Stmt}
theorem ds_freeze (i : Nat) {d : D} {k : D → M (Out τ β)} (env' : D → Env) (hr : ∀ d, DS X W ex (env' d) mk lp rest (k d)) (he : env[i]? = some (some d) := by rfl) (hvv : ∀ d, env.set i (some d) = env' d := by intro _; rfl) : DS X W ex env mk lp rest (freezeM d >>= k) :=
  PSs.from (PSs.ex hr) fun Dn σ H ⟨fr, F, m, ah, s, er, q⟩ => by
    rw [bind_def] at q
    unfold freezeM at q
    obtain ⟨n, hd⟩ : ∃ n, d = .ref n := by
      cases d <;> first | exact ⟨_, rfl⟩ | exact q.elim
    subst hd
    obtain ⟨xs, hc⟩ : ∃ xs, ah[n]? = some (.lst xs) := by
      cases hc : ah[n]? with
      | none =>
        simp only [hc] at q
        exact q.elim
      | some c =>
        cases c <;> simp only [hc] at q <;> first | exact ⟨_, rfl⟩ | exact q.elim
    · simp only [hc] at q
      obtain ⟨v, hv, rv⟩ := er.2 i _ he
      unfold Rep at rv
      obtain ⟨a, ha, hva⟩ := rv
      obtain ⟨vs, s2, e2, r2⟩ := s.freeze hc ha
      refine ⟨.lst xs, fr, _, m, _, s2, ⟨by rw [← hvv, List.length_set]; exact er.1, fun j x hj => ?_⟩, TO.ext e2 q⟩
      rw [← hvv] at hj
      by_cases hij : i = j
      · subst hij
        rw [List.getElem?_set_self (List.getElem?_eq_some_iff.mp he).1] at hj
        cases hj
        refine ⟨v, hv, ?_⟩
        unfold Rep
        exact ⟨a, vs, hva, .inl (.inl upd_same), RepL.ext e2 _ _ r2⟩
      · rw [List.getElem?_set_ne hij] at hj
        obtain ⟨u, hu, ru⟩ := er.2 j x hj
        exact ⟨u, hu, Rep.ext e2 _ _ ru⟩
/-! ### methods of lists -/
def onLst (x : D) (f : List D → Option (D × List D)) : M D := fun h => match x with
  | .ref n => (match h[n]? with
    | some (.lst xs) => (match f xs with
      | some (d, ys) => .ok d (h.set n (.lst ys))
      | none => .stuck)
    | _ => .stuck)
  | _ => .stuck
def appendM (x y : D) : M D := onLst x fun xs => if lenOk (xs.length + 1) = true then some (.non, xs ++ [y]) else none
theorem onLst_of {fr : Fm} {σ : St} {F H : Hp} {m : List Addr} {ah : AH} {d : D} {v : V} {f : List D → Option (D × List D)} {Q : VK} (S : Sim X.K X.mg fr F m ah H) (r : Rep X.K F m d v) (k : TK X.K X.mg fr W (Rep X.K) σ F m (onLst d f ah) Q) :
    ∃ a xs vs z ys, v = .ref a ∧ H a = some (.lst vs) ∧ RepL X.K F m xs vs ∧ f xs = some (z, ys) ∧ ∀ us, RepL X.K F m ys us → ∀ u, Rep X.K F m z u → Q u (upd H a (.lst us)) := by
  unfold onLst at k
  cases d <;> try exact k.elim
  rename_i n
  cases hc : ah[n]? with
  | none =>
    simp only [hc] at k
    exact k.elim
  | some c =>
    cases c <;> simp only [hc] at k <;> try exact k.elim
    rename_i xs
    unfold Rep at r
    obtain ⟨a, ha, hva⟩ := r
    obtain ⟨a', q, ok⟩ := S.cells n _ hc
    rw [ha] at q
    cases q
    obtain ⟨fa, vs, hv, rv⟩ := ok
    cases hf : f xs with
    | none =>
      rw [hf] at k
      exact k.elim
    | some p =>
      obtain ⟨z, ys⟩ := p
      rw [hf] at k
      refine ⟨a, xs, vs, z, ys, hva, hv, rv, hf, fun us ru u rz => ?_⟩
      exact k F m u _ Ext.refl (S.write hc ha rfl ⟨fa, us, upd_same, ru⟩) rz
/-- it is a list -/
def lchk (x : D) : M Unit := fun h => match lstOf h x with
  | some _ => .ok () h
  | none => .stuck
theorem lchk_of {fr : Fm} {σ : St} {F H : Hp} {m : List Addr} {ah : AH} {α β : Type} {R : Hp → List Addr → α → β → Prop} {d : D} {v : V} {k : Unit → M α} {Q : β → Hp → Prop} (S : Sim X.K X.mg fr F m ah H) (r : Rep X.K F m d v) (q : TK X.K X.mg fr W R σ F m ((lchk d >>= k) ah) Q) :
    tyV X.K "list" v H ∧ TK X.K X.mg fr W R σ F m (k () ah) Q := by
  rw [bind_def] at q
  unfold lchk at q
  cases hx : lstOf ah d with
  | none =>
    simp only [hx] at q
    exact q.elim
  | some xs =>
    simp only [hx] at q
    obtain ⟨a, vs, h1, h2, h3⟩ := lst_of S r hx
    subst h1
    exact ⟨.inl ⟨rfl, vs, h2⟩, q⟩
/-- x.m(e), a method of lists -/
theorem de_lm1 {o e : Expr} {mo me : M D} {apos : Pos} {name : Str} {id : String} {r : V → List V → Hp → VK → Prop} {f : D → D → M D} (slot : Slot "list" name id) (hty : typeOf (.builtin id) = pure (.type "method_descriptor")) (hm : MtR X id r)
    (hr : ∀ (fr : Fm) (W : WX) (σ : St) (F : Hp) (m : List Addr) (ah : AH) (H : Hp) (d e : D) (v w : V) (Q : VK), Sim X.K X.mg fr F m ah H → Rep X.K F m d v → Rep X.K F m e w → TK X.K X.mg fr W (Rep X.K) σ F m (f d e ah) Q → r v [w] H Q)
    (ho : DE X W env o mo) (he : DE X W env e me) (hbase : attributeBase o name X.env (eval o X.env) = eval o X.env := by rfl)
    (hfew : ((backTo pos (starEach [e] X.env)).all (fun x => !x.1) && (backToKw pos (keywordEach [] X.env)).all (fun x => x.1.isSome)
      && decide ([e].length + ([] : List Keyword).length + (if ([] : List Keyword).isEmpty then 0 else 1) < 30)) = true := by rfl)
    (hline : (apos.endLine == pos.line) = true := by rfl) (hs : starEach [e] X.env = (false, eval e X.env) :: starEach [] X.env := by rfl) (hplain : (backTo pos (starEach [] X.env)).any (·.1) = false := by rfl) :
    DE X W env (.Call (.Attribute o name apos) [e] [] pos) (do let x ← mo; lchk x; let y ← me; f x y) :=
  PE.from (pe_bm PySem.F.plainAttrs_list slot hty hm ho (da_one he hs) hbase hfew hline hs hplain) fun σ H Q ⟨fr, F, m, ah, s, er, q⟩ => TK.step s er q fun F1 m1 ah1 d v H1 e1 s1 er1 r1 k1 => by
    obtain ⟨h1, k2⟩ := lchk_of s1 r1 k1
    refine ⟨h1, ?_⟩
    have k3 : TK X.K X.mg fr W (Rep X.K) σ F1 m1 (((do let y ← me; pure [y]) >>= fun ys => ap1 (f d) ys) ah1) Q := by
      rw [bind_assoc]
      exact k2
    refine TK.step (R := RepL X.K) s1 er1 k3 fun F2 m2 ah2 d2 v2 H2 e2 s2 er2 r2 k4 => ?_
    match d2, r2, k4 with
    | [], _, k4 => exact k4.elim
    | [d3], r2, k4 =>
      obtain ⟨w, rfl, r3⟩ := RepL.one r2
      exact hr fr W σ F2 m2 ah2 H2 d d3 v w Q s2 (Rep.ext e2 _ _ r1) r3 k4
    | _ :: _ :: _, _, k4 => exact k4.elim
theorem de_append {o e : Expr} {mo me : M D} {apos : Pos} (ho : DE X W env o mo) (he : DE X W env e me) (hbase : attributeBase o "append" X.env (eval o X.env) = eval o X.env := by rfl)
    (hfew : ((backTo pos (starEach [e] X.env)).all (fun x => !x.1) && (backToKw pos (keywordEach [] X.env)).all (fun x => x.1.isSome)
      && decide ([e].length + ([] : List Keyword).length + (if ([] : List Keyword).isEmpty then 0 else 1) < 30)) = true := by rfl)
    (hline : (apos.endLine == pos.line) = true := by rfl) (hs : starEach [e] X.env = (false, eval e X.env) :: starEach [] X.env := by rfl) (hplain : (backTo pos (starEach [] X.env)).any (·.1) = false := by rfl) :
    DE X W env (.Call (.Attribute o "append" apos) [e] [] pos) (do let x ← mo; lchk x; let y ← me; appendM x y) :=
  de_lm1 PySem.F.slot_list_append PySem.F.type_list_append mt_append (fun fr W σ F m ah H d e v w Q S r r2 k => by
    obtain ⟨a, xs, vs, z, ys, h1, h2, h3, h4, h5⟩ := onLst_of S r k
    by_cases hl : lenOk (xs.length + 1) = true
    · rw [if_pos hl] at h4
      cases h4
      refine ⟨a, vs, w, h1, rfl, h2, ?_, h5 _ (RepL.append h3 (RepL.cons r2 RepL.nil)) _ Rep.non⟩
      rw [RepL.length h3]
      exact of_decide_eq_true hl
    · rw [if_neg hl] at h4
      cases h4) ho he hbase hfew hline hs hplain
/-! ### raise -/
/-- a class of errors, of one's own, over ValueError, without __init__ -/
structure XcF (K : Fg) (mg : Str → Option Value) (x : Str) (C : Addr) : Prop where
  g : mg x = some (.ref C)
  q : PySem.W.excIn K C [.type "ValueError", .type "Exception", .type "BaseException", .type "object"] "ValueError.__new__" = true
  k : PySem.W.keepIn K (.ref C) = true
  b : PySem.W.subIn K (.ref C) (.type "BaseException") = some true
  t : PySem.W.typeIn K (.ref C) = some (.type "type")
theorem ds_raise {x msg : Str} {C : Addr} {j : Nat} {p p2 p3 : Pos} (T : XcF X.K X.mg x C) (hc : X.calm = true) (tk : L2N.Takes X W) (hx : EnvLe ex env) (hg : Gl X x := by rfl) (hdb : (x == ("__debug__" : Str)) = false := by decide) :
    DS X W ex env mk lp (.Raise (some (.Call (.Name x p) [.Constant (.str msg) j p2] [] p3)) none pos :: rest) (throwM x) :=
  PSs.from (pss_cons (L2N.ps_raise hc tk (L2N.pmk_own PySem.F.excBase_ValueError T.q T.g T.k (raises_own T.b T.t) hg hdb)) pss_never) fun Dn σ H ⟨fr, F, m, ah, s, er, q⟩ => q F m C σ H Ext.refl s (er.le hx) T.g
/-! ### sorted -/
end
section
open PySem PySem.W PyProof.Rows
end
section
variable {X : Cx} {W : WX} {env : Env} {pos : Pos}
theorem de_all {e : Expr} {me : M D} {p : Pos} (hc : X.calm = true) (hm : X.mg "all" = none) (ha : DE X W env e me) (hg : Gl X "all" := by rfl) (he : starEach [e] X.env = [(false, eval e X.env)] := by rfl) (hpl : (backTo pos (starEach [] X.env)).any (·.1) = false := by rfl) :
    DE X W env (.Call (.Name "all" p) [e] [] pos) (do let x ← me; allM x) := de_b1 (cr_all hc) all_ok hm (by decide +kernel) ha hg (by decide) (by decide) he hpl
end
end Lw
/-! SimH: items stored, chains as tests, what stands of a def, the law's end. -/
namespace Lw
open PySem L2
section
variable {X : Cx} {W : WX} {ex env : Env} {pos : Pos} {τ β : Type} {mk : τ → Env} {lp : β → Env} {rest : List Stmt}
/-! ### o[i] = v -/
def setIxM (o i v : D) : M Unit := fun h => match o, i with
  | .ref n, .int k => (match h[n]? with
    | some (.lst xs) => (match ixN xs.length k with
      | some j => .ok () (h.set n (.lst (xs.set j v)))
      | none => .stuck)
    | _ => .stuck)
  | _, _ => .stuck
theorem RepL.set {K : Fg} {F : Hp} {m : List Addr} {d : D} {v : V} : ∀ {ds : List D} {vs : List V} (j : Nat), RepL K F m ds vs → Rep K F m d v → RepL K F m (ds.set j d) (vs.set j v)
  | [], vs, _, r, _ => by
    unfold RepL at r
    rw [r]
    exact RepL.nil
  | x :: ds, vs, 0, r, h => by
    unfold RepL at r
    obtain ⟨u, w, h1, h2, h3⟩ := r
    rw [h1]
    exact RepL.cons h h3
  | x :: ds, vs, j + 1, r, h => by
    unfold RepL at r
    obtain ⟨u, w, h1, h2, h3⟩ := r
    rw [h1]
    exact RepL.cons h2 (RepL.set j h3 h)
theorem ds_setix {o i e : Expr} {mo mi me : M D} {mc : M (Out τ β)} {tpos : Pos} (he : DE X W env e me) (ho : DE X W env o mo) (hi : DE X W env i mi) (hx : EnvLe ex env) (hr : DS X W ex env mk lp rest mc)
    (hs : swapsWithSole [.Subscript o i tpos] e pos.line X.env = pure false := by rfl) (hw : swappedStores [.Subscript o i tpos] e X.env = pure none := by rfl) (h1 : (assignEach [.Subscript o i tpos] X.env).map (·.2) = [assign (.Subscript o i tpos) X.env] := by rfl)
    (ha : ∀ v, assign (.Subscript o i tpos) X.env v = (do
      let ov ← holding [v] (eval o X.env)
      let iv ← holding [v, ov] (eval i X.env)
      standAt tpos
      holding [v, ov, iv] (setItem ov iv v)
      release [v, ov, iv] []) := by intro _; rfl) :
    DS X W ex env mk lp (.Assign [.Subscript o i tpos] e pos :: rest) (do let v ← me; let x ← mo; let y ← mi; let _ ← setIxM x y v; mc) :=
  PSs.from (pss_cons (ps_asg he (pg_sub ho hi set_list ha) hs hw h1) hr) fun Dn σ H ⟨fr, F, m, ah, s, er, q⟩ =>
    TO.step s er hx q fun F1 m1 ah1 d1 v1 H1 e1 s1 er1 r1 k1 => TO.step s1 er1 hx k1 fun F2 m2 ah2 d2 v2 H2 e2 s2 er2 r2 k2 => TO.step s2 er2 hx k2 fun F3 m3 ah3 d3 v3 H3 e3 s3 er3 r3 k3 => by
      rw [bind_def] at k3
      unfold setIxM at k3
      obtain ⟨n, k, hd2, hd3⟩ : ∃ n k, d2 = .ref n ∧ d3 = .int k := by
        cases d2 <;> cases d3 <;> first | exact ⟨_, _, rfl, rfl⟩ | exact k3.elim
      subst hd2 hd3
      obtain ⟨xs, hc⟩ : ∃ xs, ah3[n]? = some (.lst xs) := by
        cases hc : ah3[n]? with
        | none =>
          simp only [hc] at k3
          exact k3.elim
        | some c =>
          cases c <;> simp only [hc] at k3 <;> first | exact ⟨_, rfl⟩ | exact k3.elim
      simp only [hc] at k3
      cases hj : ixN xs.length k with
      | none =>
        rw [hj] at k3
        exact k3.elim
      | some j =>
        rw [hj] at k3
        have r2 := Rep.ext e3 _ _ r2
        have r1 := Rep.ext (e2.trans e3) _ _ r1
        unfold Rep at r2 r3
        obtain ⟨a, ha, hva⟩ := r2
        obtain ⟨a', q', ok⟩ := s3.cells n _ hc
        rw [ha] at q'
        cases q'
        obtain ⟨fa, vs, hv, rv⟩ := ok
        refine ⟨a, vs, k, j, hva, r3, hv, by rw [RepL.length rv]; exact hj, fr, F3, m3, _, s3.write (c' := .lst (xs.set j d1)) hc ha rfl ⟨fa, _, upd_same, RepL.set j rv r1⟩, er3, k3⟩
/-! ### a op b op c as a test -/
theorem tChain_from {ma mb mc : M D} {r r' : R2} {f g : D → D → M D} (hr : OpD X r f) (hr' : OpD X r' g) : ∀ σ H Q, TC X.K X.mg W (Rep X.K) env (do let x ← ma; let y ← mb; chainM f g x y mc) σ H Q →
    tChain r r' (TC X.K X.mg W (Rep X.K) env ma) (TC X.K X.mg W (Rep X.K) env mb) (TC X.K X.mg W (Rep X.K) env mc) σ H Q := fun σ H Q ⟨fr, F, m, ah, s, er, k⟩ => TK.step s er k fun F1 m1 ah1 d v H1 e1 s1 er1 r1 k1 => TK.step s1 er1 k1 fun F2 m2 ah2 d2 v2 H2 e2 s2 er2 r2 k2 => by
    refine hr fr W σ F2 m2 ah2 H2 d d2 v v2 _ s2 (Rep.ext e2 _ _ r1) r2 ?_
    have k3 : TK X.K X.mg fr W (Rep X.K) σ F2 m2 ((f d d2 >>= fun z => match z with | .bl true => (do let z ← mc; g d2 z) | .bl false => pure (.bl false) | _ => stuck) ah2) Q := k2
    rw [bind_def] at k3
    cases hf : f d d2 ah2 with
    | stuck =>
      rw [hf] at k3
      exact k3
    | exc x a =>
      rw [hf] at k3
      exact k3
    | ok z a =>
      rw [hf] at k3
      intro F3 m3 w H3 e3 s3 r3
      have k4 := TK.ext e3 k3
      cases z <;> try exact (TK.stuck_of k4).elim
      rename_i t
      unfold Rep at r3
      refine ⟨t, r3, ?_⟩
      cases t with
      | false => exact iteF (k4 F3 m3 _ H3 Ext.refl s3 Rep.bl)
      | true =>
        refine iteT ?_
        exact TK.step (R := Rep X.K) s3 ((er2.ext e3)) k4 fun F4 m4 ah4 d4 v4 H4 e4 s4 er4 r4 k5 => hr' fr W σ F4 m4 ah4 H4 d2 d4 v2 v4 Q s4 (Rep.ext (e3.trans e4) _ _ r2) r4 k5
theorem dt_chain {a b c : Expr} {ma mb mc : M D} {op op' : CmpOp} {r r' : R2} {f g : D → D → M D} (ho : OpR X (compareOp op) r) (hr : OpD X r f) (ho' : OpR X (compareOp op') r') (hr' : OpD X r' g) (ha : DE X W env a ma) (hb : DE X W env b mb) (hc : DE X W env c mc)
    (hm : lastMarks [op, op'] [b, c] = false := by with_unfolding_all rfl) : DT X W env (.Compare a [op, op'] [b, c] pos) (do let v ← (do let x ← ma; let y ← mb; chainM f g x y mc); asB v) := dt_of (pt_chain ho ho' ha hb hc hm) (tChain_from hr hr')
theorem gt_ok : OpD X (rI0 fun i j => .bl (decide (j < i))) gtM := int2_ok fun _ _ _ _ _ => Rep.bl
end
/-! ### what stands of a def; a def that keeps its promise -/
structure Dfn (K : Fg) (mg : Str → Option Value) (x qual : Str) (st : Stmt) (ps : List Str) : Prop where
  ex : ∃ (f : Addr) (fd : FuncData), Fun K x qual st f fd ∧ mg x = some (.ref f) ∧ PySem.W.keepIn K (.ref f) = true ∧ Binds K fd ps []
structure Cal (P : Program) (w : World) (K : Fg) (mg : Str → Option Value) (base : Heap) (x : Str) (k n : Nat) (g : List D → M D) : Prop where
  ex : ∃ (f : Addr) (fd : FuncData) (ps : List Str), FnOk P w K mg base (L2N.CX P w) k f fd ps (spD K mg n g) ∧ mg x = some (.ref f) ∧ PySem.W.keepIn K (.ref f) = true ∧ Binds K fd ps []
theorem Dfn.cal {P : Program} {w : World} {K : Fg} {mg : Str → Option Value} {base : Heap} {x qual : Str} {st : Stmt} {ps : List Str} {k n : Nat} {g : List D → M D} (D : Dfn K mg x qual st ps)
    (h : ∀ (f : Addr) (fd : FuncData), Fun K x qual st f fd → FnOk P w K mg base (L2N.CX P w) k f fd ps (spD K mg n g)) : Cal P w K mg base x k n g := by
  obtain ⟨f, fd, F, hm, hk, hb⟩ := D.ex
  exact ⟨f, fd, ps, h f fd F, hm, hk, hb⟩
section
variable {X : Cx} {W : WX} {env : Env} {pos : Pos} {k : Nat} {x : Str} {p : Pos}
theorem de_c1 {ex1 : Expr} {mm1 : M D} {g : D → M D} (C : Cal X.prog X.w X.K X.mg X.base x k 1 (app1 g)) (hr : Room k X.A) (tk : L2N.Takes X W) (hh1 : DE X W env ex1 mm1)
    (hg : Gl X x := by rfl) (hdb : (x == ("__debug__" : Str)) = false := by decide) (ss1 : starEach [ex1] X.env = (false, eval ex1 X.env) :: starEach [] X.env := by rfl) (hpl : (backTo pos (starEach [] X.env)).any (·.1) = false := by rfl) :
    DE X W env (.Call (.Name x p) [ex1] [] pos) (do let x1 ← mm1; g x1) := by
  obtain ⟨f, fd, ps, G, hm, hk, hb⟩ := C.ex
  exact de_call1 G hr hm hk hb tk hh1 hg hdb ss1 hpl
theorem de_p1 {ex1 : Expr} {mm1 : M D} {g : D → M D} (C : Cal X.prog X.w X.K X.mg X.base x k 1 (app1 g)) (hr : Room k X.A) (tk : L2N.Takes X W) (hh1 : DE X W env ex1 mm1)
    (hg : Gl X x := by rfl) (hdb : (x == ("__debug__" : Str)) = false := by decide) (ss1 : starEach [ex1] X.env = (false, eval ex1 X.env) :: starEach [] X.env := by rfl) (hpl : (backTo pos (starEach [] X.env)).any (·.1) = false := by rfl) :
    DE X W env (.Call (.Name x p) [ex1] [] pos) (do let x1 ← mm1; pcallM (app1 g) [x1]) := by
  obtain ⟨f, fd, ps, G, hm, hk, hb⟩ := C.ex
  exact de_pcall1 G hr hm hk hb tk hh1 hg hdb ss1 hpl
theorem de_c2 {ex1 ex2 : Expr} {mm1 mm2 : M D} {g : D → D → M D} (C : Cal X.prog X.w X.K X.mg X.base x k 2 (app2 g)) (hr : Room k X.A) (tk : L2N.Takes X W) (hh1 : DE X W env ex1 mm1) (hh2 : DE X W env ex2 mm2)
    (hg : Gl X x := by rfl) (hdb : (x == ("__debug__" : Str)) = false := by decide) (ss1 : starEach [ex1, ex2] X.env = (false, eval ex1 X.env) :: starEach [ex2] X.env := by rfl) (ss2 : starEach [ex2] X.env = (false, eval ex2 X.env) :: starEach [] X.env := by rfl) (hpl : (backTo pos (starEach [ex2] X.env)).any (·.1) = false := by rfl) :
    DE X W env (.Call (.Name x p) [ex1, ex2] [] pos) (do let x1 ← mm1; let x2 ← mm2; g x1 x2) := by
  obtain ⟨f, fd, ps, G, hm, hk, hb⟩ := C.ex
  exact de_call2 G hr hm hk hb tk hh1 hh2 hg hdb ss1 ss2 hpl
theorem de_p2 {ex1 ex2 : Expr} {mm1 mm2 : M D} {g : D → D → M D} (C : Cal X.prog X.w X.K X.mg X.base x k 2 (app2 g)) (hr : Room k X.A) (tk : L2N.Takes X W) (hh1 : DE X W env ex1 mm1) (hh2 : DE X W env ex2 mm2)
    (hg : Gl X x := by rfl) (hdb : (x == ("__debug__" : Str)) = false := by decide) (ss1 : starEach [ex1, ex2] X.env = (false, eval ex1 X.env) :: starEach [ex2] X.env := by rfl) (ss2 : starEach [ex2] X.env = (false, eval ex2 X.env) :: starEach [] X.env := by rfl) (hpl : (backTo pos (starEach [ex2] X.env)).any (·.1) = false := by rfl) :
    DE X W env (.Call (.Name x p) [ex1, ex2] [] pos) (do let x1 ← mm1; let x2 ← mm2; pcallM (app2 g) [x1, x2]) := by
  obtain ⟨f, fd, ps, G, hm, hk, hb⟩ := C.ex
  exact de_pcall2 G hr hm hk hb tk hh1 hh2 hg hdb ss1 ss2 hpl
theorem de_p3 {ex1 ex2 ex3 : Expr} {mm1 mm2 mm3 : M D} {g : D → D → D → M D} (C : Cal X.prog X.w X.K X.mg X.base x k 3 (app3 g)) (hr : Room k X.A) (tk : L2N.Takes X W) (hh1 : DE X W env ex1 mm1) (hh2 : DE X W env ex2 mm2) (hh3 : DE X W env ex3 mm3)
    (hg : Gl X x := by rfl) (hdb : (x == ("__debug__" : Str)) = false := by decide) (ss1 : starEach [ex1, ex2, ex3] X.env = (false, eval ex1 X.env) :: starEach [ex2, ex3] X.env := by rfl) (ss2 : starEach [ex2, ex3] X.env = (false, eval ex2 X.env) :: starEach [ex3] X.env := by rfl) (ss3 : starEach [ex3] X.env = (false, eval ex3 X.env) :: starEach [] X.env := by rfl) (hpl : (backTo pos (starEach [ex2, ex3] X.env)).any (·.1) = false := by rfl) :
    DE X W env (.Call (.Name x p) [ex1, ex2, ex3] [] pos) (do let x1 ← mm1; let x2 ← mm2; let x3 ← mm3; pcallM (app3 g) [x1, x2, x3]) := by
  obtain ⟨f, fd, ps, G, hm, hk, hb⟩ := C.ex
  exact de_pcall3 G hr hm hk hb tk hh1 hh2 hh3 hg hdb ss1 ss2 ss3 hpl
theorem de_p4 {ex1 ex2 ex3 ex4 : Expr} {mm1 mm2 mm3 mm4 : M D} {g : D → D → D → D → M D} (C : Cal X.prog X.w X.K X.mg X.base x k 4 (app4 g)) (hr : Room k X.A) (tk : L2N.Takes X W) (hh1 : DE X W env ex1 mm1) (hh2 : DE X W env ex2 mm2) (hh3 : DE X W env ex3 mm3) (hh4 : DE X W env ex4 mm4)
    (hg : Gl X x := by rfl) (hdb : (x == ("__debug__" : Str)) = false := by decide) (ss1 : starEach [ex1, ex2, ex3, ex4] X.env = (false, eval ex1 X.env) :: starEach [ex2, ex3, ex4] X.env := by rfl) (ss2 : starEach [ex2, ex3, ex4] X.env = (false, eval ex2 X.env) :: starEach [ex3, ex4] X.env := by rfl) (ss3 : starEach [ex3, ex4] X.env = (false, eval ex3 X.env) :: starEach [ex4] X.env := by rfl) (ss4 : starEach [ex4] X.env = (false, eval ex4 X.env) :: starEach [] X.env := by rfl) (hpl : (backTo pos (starEach [ex2, ex3, ex4] X.env)).any (·.1) = false := by rfl) :
    DE X W env (.Call (.Name x p) [ex1, ex2, ex3, ex4] [] pos) (do let x1 ← mm1; let x2 ← mm2; let x3 ← mm3; let x4 ← mm4; pcallM (app4 g) [x1, x2, x3, x4]) := by
  obtain ⟨f, fd, ps, G, hm, hk, hb⟩ := C.ex
  exact de_pcall4 G hr hm hk hb tk hh1 hh2 hh3 hh4 hg hdb ss1 ss2 ss3 ss4 hpl
end
/-! ### the law's end -/
/-- what the law's def is asked -/
def spLawD (K : Fg) (mg : Str → Option Value) (f : D → M D) : Sp := spD K mg 1 (app1 f)
theorem law_sp {K : Fg} {mg : Str → Option Value} {f : D → M D} {H : Hp} {a : Addr} {ns : List Int} (hS : SqL K H a (ns.map V.int)) (h : ∃ ah, f (.lst (ns.map D.int)) [] = .ok (.bl true) ah) :
    spLawD K mg f [.ref a] H (fun v _ => v = .bl true) fun _ _ _ => False := by
  obtain ⟨ah, h⟩ := h
  have ri : ∀ ns : List Int, RepL K H [] (ns.map D.int) (ns.map V.int) := by
    intro ns
    induction ns with
    | nil => exact RepL.nil
    | cons n r ih => exact RepL.cons Rep.int ih
  refine ⟨rfl, ⟨H, H, []⟩, H, [], [], [.lst (ns.map D.int)], ⟨fun _ _ h => h, rfl, List.nodup_nil, (fun i c h => by simp at h), (fun _ _ h _ => h), (fun a h => nomatch h), (fun i a h => by simp at h), (fun a h => nomatch h), fun _ _ h => .inl h⟩, RepL.cons ?_ RepL.nil, ?_⟩
  · unfold Rep
    exact ⟨a, _, rfl, hS, ri ns⟩
  · show TK K mg _ _ (Rep K) [] H [] (f (.lst (ns.map D.int)) []) _
    rw [h]
    intro F' m' v H' e s r
    unfold Rep at r
    exact r
end Lw
/-! SimI: a def's facts, the law's end. -/
namespace Lw
open PySem L2
theorem dfn_mk {K : Fg} {h : Heap} {mg : Str → Option Value} {x qual : Str} {st : Stmt} {ps : List Str} {f : Addr} {od an : Option Addr} {sl : Array (Option Value)} {oc kV dc pm cd ct : Value}
    (b : ∀ (kV doc pm : Value) (an : Option Addr) (cdv ct : Value) (us : List Value), us.length = ps.length → bindArgs (PySem.W.fnOf x qual (defArgs st) (defBody st) (defScope st) .none kV doc pm an cdv ct) ⟨us, []⟩ = pure (ps.zip us))
    (X : K.In h) (G : h.Ns mainGlobals mg) (a : PySem.W.nsIn K mainGlobals x = some (some (.ref f)))
    (l : K.lookup f = some ⟨oc, od, .func (PySem.W.fnOf x qual (defArgs st) (defBody st) (defScope st) .none kV dc pm an cd ct), sl⟩)
    (c : PySem.W.codeIn K cd qual = true) (k : PySem.W.keepIn K (.ref f) = true) : Dfn K mg x qual st ps :=
  ⟨⟨f, _, fun_mk l c k, PySem.W.mg_of X G a, k, (fun_mk l c k).binds b⟩⟩
/-- what the law's def is asked, by the script alone -/
def spEnd (K : Fg) : Sp := fun vs H Q E => ∃ (a : Addr) (ns : List Int), vs = [.ref a] ∧ SqL K H a (ns.map V.int) ∧ ns.length ≤ 63 ∧ (∀ z ∈ ns, Builtin.Int.intBits z ≤ 1048576) ∧ Q = (fun v _ => v = .bl true) ∧ E = fun _ _ _ => False
theorem walkD {l : PySem.W.OpenLaw} {q : Program} {loose : List Str} {XP : (Str → Option Value) → Heap → Prop} {YP : World → Heap → Prop} {d : DefRec} {K : Params → Fg} {g : D → M D} {k : Nat} {x : Str} {st : Stmt}
    (hn : l.most = some 63) (hdf : d.params.defaults = []) (hr : Room k callerA) (hd : d.name = ("law" : Str)) (hY : ∀ (w : World) (h : Heap), YP w h → (K w.params).In h)
    (b : ∀ (kV doc pm : Value) (an : Option Addr) (cdv ct : Value) (s : Shared) (u : Value), BindsTo s (PySem.W.fnOf ("law" : Str) ("law" : Str) (defArgs st) (defBody st) (defScope st) .none kV doc pm an cdv ct) ⟨[u], []⟩ [(x, u)])
    (F : ∀ (w : World) (mg : Str → Option Value) (h : Heap), (K w.params).In h → h.Ns mainGlobals mg → Dfn (K w.params) mg "law" "law" st [x] ∧
      ∀ (base : Heap) (f : Addr) (fd : FuncData), Fun (K w.params) "law" "law" st f fd → FnOk l.prog w (K w.params) mg base (L2N.CX l.prog w) k f fd [x] (spD (K w.params) mg 1 (app1 g)))
    (G : ∀ ns : List Int, ns.length ≤ 63 → (∀ z ∈ ns, Builtin.Int.intBits z ≤ 1048576) → ∃ ah, g (.lst (ns.map D.int)) [] = .ok (.bl true) ah) :
    PySem.W.WalkO q loose XP YP l.row.toRowW d [] (fun f vs => PySem.call f vs) := by
  refine L2.walk_ofB (n := 63) (k := k) (x := x) (CX := fun w => L2N.CX l.prog w) (sp := fun w => spEnd (K w.params)) hn (by decide) hdf hr hY ?_ (fun w H a ns hl hb _ hS => ⟨a, ns, rfl, hS, hl, hb, rfl, rfl⟩) ?_
  · intro w mg fa h KX Gh hfa
    obtain ⟨⟨⟨f, fd, Fn, hm, hk, hb⟩⟩, hF⟩ := F w mg h KX Gh
    rw [hd, hm] at hfa
    cases hfa
    refine ⟨fd, ?_, fun base _ _ => (hF base _ fd Fn).imp fun vs H Q E hs => ?_⟩
    · obtain ⟨oc, od, kV, doc, pm, an, cdv, ct, osl, rfl, lk, hcd⟩ := Fn.ex
      exact fun s u => b kV doc pm an cdv ct s u
    · obtain ⟨a, ns, rfl, hS, hl, hb, rfl, rfl⟩ := hs
      exact law_sp (f := g) hS (G ns hl hb)
  · intro w H s e s' z
    obtain ⟨_, _, _, _, _, _, _, _, _, _, _, _, z⟩ := z
    exact z
end Lw
/-! SimJ: plain computations are run: rows to reckon with. -/
namespace Lw
open PySem L2
def Res.bd {α β : Type} (r : Res α) (f : α → M β) : Res β := match r with
  | .ok a h => f a h
  | .exc x h => .exc x h
  | .stuck => .stuck
section
variable {α β τ τ' : Type} {h : AH}
theorem r_bind (x : M α) (f : α → M β) : (x >>= f) h = (x h).bd f := by
  rw [bind_def]
  cases x h <;> rfl
theorem r_pure (a : α) : (pure a : M α) h = .ok a h := (rfl)
theorem r_ok (a : α) (f : α → M β) : (Res.ok a h).bd f = f a h := (rfl)
theorem r_exc (x : Str) (f : α → M β) : (Res.exc x h : Res α).bd f = .exc x h := (rfl)
theorem r_stuck (f : α → M β) : (Res.stuck : Res α).bd f = .stuck := (rfl)
theorem r_ite (c : Bool) (a b : M α) : (if c = true then a else b) h = if c = true then a h else b h := by
  cases c <;> rfl
theorem r_iteP (c : Prop) [Decidable c] (a b : M α) : (if c then a else b) h = if c then a h else b h := by
  by_cases q : c
  · rw [if_pos q, if_pos q]
  · rw [if_neg q, if_neg q]
theorem r_obind (x : M (Out τ' β)) (k : τ' → M (Out τ β)) : (obind x k) h = ores k (x h) := (rfl)
theorem r_nx (k : τ' → M (Out τ β)) (t : τ') : ores k (.ok (.nx t) h) = k t h := (rfl)
theorem r_ret (k : τ' → M (Out τ β)) (d : D) : ores k (.ok (.ret d) h) = .ok (.ret d) h := (rfl)
theorem r_bk (k : τ' → M (Out τ β)) (d : β) : ores k (.ok (.bk d) h) = .ok (.bk d) h := (rfl)
theorem r_ct (k : τ' → M (Out τ β)) (d : β) : ores k (.ok (.ct d) h) = .ok (.ct d) h := (rfl)
theorem r_oexc (k : τ' → M (Out τ β)) (x : Str) : ores k (.exc x h) = .exc x h := (rfl)
theorem r_lbind (x : M (Out τ τ)) (k : τ → M (Out τ β)) : (lbind x k) h = lres k (x h) := (rfl)
theorem r_lnx (k : τ → M (Out τ β)) (t : τ) : lres k (.ok (.nx t) h) = k t h := (rfl)
theorem r_lct (k : τ → M (Out τ β)) (t : τ) : lres k (.ok (.ct t) h) = k t h := (rfl)
theorem r_lbk (k : τ → M (Out τ β)) (t : τ) : lres k (.ok (.bk t) h) = .ok (.nx t) h := (rfl)
theorem r_lret (k : τ → M (Out τ β)) (d : D) : lres k (.ok (.ret d) h) = .ok (.ret d) h := (rfl)
theorem r_lexc (k : τ → M (Out τ β)) (x : Str) : lres k (.exc x h) = .exc x h := (rfl)
theorem r_for (x : D) (r : List D) (t : τ) (f : D → τ → M (Out τ τ)) : (forM (x :: r) t f : M (Out τ β)) h = lres (fun t' => forM r t' f) (f x t h) := (rfl)
theorem r_def (x : M (Out τ β)) : defM x h = dres (x h) := (rfl)
theorem r_dnx (t : τ) : dres (.ok (.nx t) h : Res (Out τ β)) = .ok .non h := (rfl)
theorem r_dret (d : D) : dres (.ok (.ret d) h : Res (Out τ β)) = .ok d h := (rfl)
theorem r_dexc (x : Str) : dres (.exc x h : Res (Out τ β)) = .exc x h := (rfl)
theorem r_lift (a : α) : (liftO (some a) : M α) h = .ok a h := (rfl)
theorem r_throw (x : Str) : (throwM x : M α) h = .exc x h := (rfl)
end
/-! ### ints, truths -/
section
variable {h : AH} {i j : Int}
theorem addM_int : addM (.int i) (.int j) h = .ok (.int (i + j)) h := (rfl)
theorem subM_int : subM (.int i) (.int j) h = .ok (.int (i - j)) h := (rfl)
theorem int2c_run {c : Int → Int → Bool} {f : Int → Int → D} (q : c i j = true) : int2c c f (.int i) (.int j) h = .ok (f i j) h := by
  show (if c i j = true then pure (f i j) else stuck : M D) h = _
  rw [if_pos q]
  rfl
theorem mulM_int (c : i.natAbs.log2 + j.natAbs.log2 < 1000000) : mulM (.int i) (.int j) h = .ok (.int (i * j)) h := int2c_run (decide_eq_true c)
theorem fdivM_int (c : 0 < j) (c2 : j.natAbs.log2 < 9000) : fdivM (.int i) (.int j) h = .ok (.int (i / j)) h := int2c_run (decide_eq_true ⟨c, c2⟩)
theorem modM_int (c : 0 < j) : modM (.int i) (.int j) h = .ok (.int (i % j)) h := int2c_run (decide_eq_true c)
theorem powM_int (c : 0 ≤ j ∧ j ≤ 1000000 ∧ i.natAbs < 2 ^ 64) : powM (.int i) (.int j) h = .ok (.int (i ^ j.toNat)) h := int2c_run (decide_eq_true c)
theorem negM_int : negM (.int i) h = .ok (.int (-i)) h := (rfl)
theorem ltM_int : ltM (.int i) (.int j) h = .ok (.bl (decide (i < j))) h := (rfl)
theorem leM_int : leM (.int i) (.int j) h = .ok (.bl (decide (i ≤ j))) h := (rfl)
theorem gtM_int : gtM (.int i) (.int j) h = .ok (.bl (decide (j < i))) h := (rfl)
theorem geM_int : geM (.int i) (.int j) h = .ok (.bl (decide (j ≤ i))) h := (rfl)
theorem maxM_int : maxM (.int i) (.int j) h = .ok (.int (max i j)) h := by
  show Res.ok (D.int (if j > i then j else i)) h = _
  congr 2
  by_cases q : j > i
  · rw [if_pos q]
    omega
  · rw [if_neg q]
    omega
theorem minM_int : minM (.int i) (.int j) h = .ok (.int (min i j)) h := by
  show Res.ok (D.int (if j < i then j else i)) h = _
  congr 2
  by_cases q : j < i
  · rw [if_pos q]
    omega
  · rw [if_neg q]
    omega
theorem asB_bl {b : Bool} : asB (.bl b) h = .ok b h := (rfl)
theorem asI_int : asI (.int i) h = .ok (some i) h := (rfl)
theorem notV_bl {b : Bool} : notV (.bl b) h = .ok (.bl (!b)) h := (rfl)
theorem truM_bl {b : Bool} : truM (.bl b) h = .ok b h := (rfl)
theorem andV_bl {b : Bool} {m : M D} : andV (.bl b) m h = if b = true then m h else .ok (.bl false) h := by cases b <;> rfl
theorem orV_bl {b : Bool} {m : M D} : orV (.bl b) m h = if b = true then .ok (.bl true) h else m h := by cases b <;> rfl
theorem chainM_lt {f g : D → D → M D} {x y : D} {b : Bool} {m : M D} (e : f x y h = .ok (.bl b) h) : chainM f g x y m h = if b = true then (m h).bd (fun z => g y z) else .ok (.bl false) h := by
  show ((f x y >>= fun z => match z with | .bl true => (do let z ← m; g y z) | .bl false => pure (.bl false) | _ => stuck) : M D) h = _
  rw [r_bind, e, r_ok]
  cases b
  · rfl
  · show (m >>= fun z => g y z) h = _
    rw [r_bind]
    rfl
end
/-! ### lists, tuples -/
section
variable {h : AH} {xs ys : List D} {n : Nat} {i : Int} {d e : D}
theorem tupM_run (l : xs.length ≤ 1000000) : tupM xs h = .ok (.tup xs) h := by
  unfold tupM lenOk
  rw [if_pos (decide_eq_true (Nat.le_trans l (by decide)))]
  rfl
theorem lstM_run (l : xs.length ≤ 1000000) : lstM xs h = .ok (.lst xs) h := by
  unfold lstM lenOk
  rw [if_pos (decide_eq_true (Nat.le_trans l (by decide)))]
  rfl
theorem lstH_nil : lstH [] h = .ok (.ref h.length) (h ++ [.lst []]) := (rfl)
theorem lstH_run (l : xs.length ≤ 1000000) : lstH xs h = .ok (.ref h.length) (h ++ [.lst xs]) := by
  unfold lstH lenOk
  rw [if_pos (decide_eq_true (Nat.le_trans l (by decide)))]
  rfl
theorem lenM_tup : lenM (.tup xs) h = .ok (.int xs.length) h := (rfl)
theorem lenM_lst : lenM (.lst xs) h = .ok (.int xs.length) h := (rfl)
theorem ixM_tup (e : atI xs i = some d) : ixM (.tup xs) (.int i) h = .ok d h := by
  unfold ixM
  simp only [e]
theorem ixM_lst (e : atI xs i = some d) : ixM (.lst xs) (.int i) h = .ok d h := by
  unfold ixM lstOf
  simp only [e]
theorem ixM_ref (q : h[n]? = some (.lst xs)) (e : atI xs i = some d) : ixM (.ref n) (.int i) h = .ok d h := by
  unfold ixM lstOf
  simp only [q, e]
theorem atI_nat {α : Type} {xs : List α} {i : Nat} {x : α} (e : xs[i]? = some x) : atI xs (i : Int) = some x := by
  have hl := (List.getElem?_eq_some_iff.mp e).1
  unfold atI ixN
  rw [if_pos (by omega), if_pos (by omega)]
  show xs[(i : Int).toNat]? = _
  rw [Int.toNat_natCast]
  exact e
theorem atI_pos {α : Type} {xs : List α} {i : Int} {x : α} (h0 : 0 ≤ i) (e : xs[i.toNat]? = some x) : atI xs i = some x := by
  obtain ⟨n, rfl⟩ := Int.eq_ofNat_of_zero_le h0
  exact atI_nat (by simpa using e)
theorem lchk_ref (e : h[n]? = some (.lst xs)) : lchk (.ref n) h = .ok () h := by
  unfold lchk lstOf
  simp only [e]
theorem appendM_ref (e : h[n]? = some (.lst xs)) (l : xs.length < 1000000) : appendM (.ref n) d h = .ok .non (h.set n (.lst (xs ++ [d]))) := by
  unfold appendM onLst lenOk
  simp only [e]
  rw [if_pos (decide_eq_true (Nat.le_trans (show xs.length + 1 ≤ 1000000 by omega) (by decide)))]
theorem setIxM_pos {v : D} {xs : List D} {i : Int} (q : h[n]? = some (.lst xs)) (h0 : 0 ≤ i) (h1 : i < xs.length) : setIxM (.ref n) (.int i) v h = .ok () (h.set n (.lst (xs.set i.toNat v))) := by
  unfold setIxM
  simp only [q]
  have z : ixN xs.length i = some i.toNat := by
    unfold ixN
    rw [if_pos h0, if_pos h1]
  rw [z]
theorem freezeM_ref (e : h[n]? = some (.lst xs)) : freezeM (.ref n) h = .ok (.lst xs) (h.set n .dead) := by
  unfold freezeM
  simp only [e]
theorem itemsM_tup : itemsM (.tup xs) h = .ok xs h := (rfl)
theorem itemsM_lst : itemsM (.lst xs) h = .ok xs h := (rfl)
theorem tupleM_tup : tupleM (.tup xs) h = .ok (.tup xs) h := (rfl)
theorem tupleM_lst : tupleM (.lst xs) h = .ok (.tup xs) h := (rfl)
theorem listM_tup : listM (.tup xs) h = .ok (.lst xs) h := (rfl)
theorem listM_lst : listM (.lst xs) h = .ok (.lst xs) h := (rfl)
theorem rng1M_run {j : Int} (a : -(2 ^ 62) ≤ j) (b : j < 2 ^ 62) : rng1M [.int j] h = .ok (rangeD 0 j.toNat) h := by
  show (if -(2 ^ 62) ≤ j ∧ j < 2 ^ 62 then pure (rangeD 0 j.toNat) else stuck : M (List D)) h = _
  rw [if_pos ⟨a, b⟩]
  rfl
theorem rng2M_run {i j : Int} (a : -(2 ^ 62) ≤ i) (b : i < 2 ^ 62) (c : -(2 ^ 62) ≤ j) (d : j < 2 ^ 62) : rng2M [.int i, .int j] h = .ok (rangeD i (j - i).toNat) h := by
  show (if -(2 ^ 62) ≤ i ∧ i < 2 ^ 62 ∧ -(2 ^ 62) ≤ j ∧ j < 2 ^ 62 then pure (rangeD i (j - i).toNat) else stuck : M (List D)) h = _
  rw [if_pos ⟨a, b, c, d⟩]
  rfl
theorem zipM_tup : zipM [.tup xs, .tup ys] h = .ok (zipD xs ys) h := (rfl)
theorem addM_tup (l : xs.length + ys.length ≤ 1000000) : addM (.tup xs) (.tup ys) h = .ok (.tup (xs ++ ys)) h := by
  unfold addM lenOk
  simp only []
  rw [if_pos (decide_eq_true (Nat.le_trans l (by decide)))]
theorem addM_lst (l : xs.length + ys.length ≤ 1000000) : addM (.lst xs) (.lst ys) h = .ok (.lst (xs ++ ys)) h := by
  unfold addM lenOk lstOf
  simp only []
  rw [if_pos (decide_eq_true (Nat.le_trans l (by decide)))]
theorem addM_str {x y : Str} (l : x.length + y.length ≤ 1000000) : addM (.str x) (.str y) h = .ok (.str (x ++ y)) h := by
  unfold addM lenOk
  simp only []
  rw [if_pos (decide_eq_true (Nat.le_trans l (by decide)))]
theorem allM_lst {ns : List Bool} : allM (.lst (ns.map D.bl)) h = .ok (.bl (ns.all id)) h := by
  unfold allM onBls lstOf
  simp only [blsOf_map]
theorem sliceM_tup {lo hi : Option Int} : sliceM (.tup xs) lo hi h = .ok (.tup (cutD xs lo hi)) h := (rfl)
theorem sliceM_lst {lo hi : Option Int} : sliceM (.lst xs) lo hi h = .ok (.lst (cutD xs lo hi)) h := (rfl)
theorem cutD_take {α : Type} {xs : List α} {n : Nat} : cutD xs none (some (n : Int)) = xs.take n := by
  unfold cutD
  rw [HT.sIx_none, HT.sIx_nat, List.drop_zero, Nat.sub_zero]
  by_cases q : n ≤ xs.length
  · rw [Nat.min_eq_left q]
  · rw [Nat.min_eq_right (by omega), List.take_of_length_le (Nat.le_refl _), List.take_of_length_le (by omega)]
theorem cutD_drop {α : Type} {xs : List α} {n : Nat} : cutD xs (some (n : Int)) none = xs.drop n := by
  unfold cutD
  rw [HT.sIx_none, HT.sIx_nat]
  by_cases q : n ≤ xs.length
  · rw [Nat.min_eq_left q, List.take_of_length_le (by rw [List.length_drop]; omega)]
  · rw [Nat.min_eq_right (by omega), List.drop_of_length_le (Nat.le_refl _), List.drop_of_length_le (by omega)]
    simp
/-! comprehensions -/
theorem compM_run {f : D → M (List D)} : ∀ (xs : List D) (g : D → List D), (∀ x ∈ xs, f x h = .ok (g x) h) → compM xs f h = .ok (xs.map g).flatten h
  | [], g, _ => rfl
  | x :: r, g, q => by
    show (f x >>= fun ys => compM r f >>= fun zs => pure (ys ++ zs)) h = _
    rw [r_bind, q x List.mem_cons_self, r_ok, r_bind, compM_run r g fun y hy => q y (List.mem_cons_of_mem _ hy)]
    rfl
theorem lcM_run {f : D → M (List D)} (g : D → List D) (l : xs.length ≤ 1000000) (q : ∀ x ∈ xs, f x h = .ok (g x) h) : lcM xs f h = .ok (.lst (xs.map g).flatten) h := by
  unfold lcM lenOk
  rw [if_pos (decide_eq_true (Nat.le_trans l (by decide))), r_bind]
  unfold noexM
  rw [compM_run xs g q]
  rfl
/-- each item one -/
theorem lcM_map {α : Type} {f : D → M (List D)} {u : α → D} {v : α → D} {zs : List α} (l : zs.length ≤ 1000000) (q : ∀ x ∈ zs, f (u x) h = .ok [v x] h) : lcM (zs.map u) f h = .ok (.lst (zs.map v)) h := by
  have z : ∀ zs : List α, (∀ x ∈ zs, f (u x) h = .ok [v x] h) → compM (zs.map u) f h = .ok (zs.map v) h := by
    intro zs
    induction zs with
    | nil => intro _; rfl
    | cons a r ih =>
      intro q
      show (f (u a) >>= fun ys => compM (r.map u) f >>= fun zs => pure (ys ++ zs)) h = _
      rw [r_bind, q a List.mem_cons_self, r_ok, r_bind, ih fun y hy => q y (List.mem_cons_of_mem _ hy)]
      rfl
  unfold lcM lenOk
  rw [if_pos (decide_eq_true (Nat.le_trans (by rw [List.length_map]; exact l) (by decide))), r_bind]
  unfold noexM
  rw [z zs q]
  rfl
/-! calls -/
theorem noRefs_map {α : Type} {u : α → D} {zs : List α} (q : ∀ x, noRef (u x) = true) : noRefs (zs.map u) = true := by
  induction zs with
  | nil => rfl
  | cons a r ih =>
    show (noRef (u a) && noRefs (r.map u)) = true
    rw [q a, ih]
    rfl
theorem noRef_tup : noRef (.tup xs) = noRefs xs := by rw [noRef]
theorem noRef_lst : noRef (.lst xs) = noRefs xs := by rw [noRef]
theorem noRef_int : noRef (.int i) = true := by simp [noRef]
theorem noRef_bl {b : Bool} : noRef (.bl b) = true := by simp [noRef]
theorem noRef_str {x : Str} : noRef (.str x) = true := by simp [noRef]
theorem noRef_non : noRef .non = true := by simp [noRef]
theorem noRefs_nil : noRefs [] = true := (rfl)
theorem noRefs_cons : noRefs (d :: xs) = (noRef d && noRefs xs) := (rfl)
theorem pcallM_run {g : List D → M D} {ds : List D} {r : D} {k : AH} (a : noRefs ds = true) (e : g ds [] = .ok r k) (b : noRef r = true) : pcallM g ds h = .ok r h := by
  unfold pcallM
  rw [if_pos a, e]
  simp only [if_pos b]
end
/-! ### == of data without truths -/
mutual
def nb : Nat → D → Bool
  | _, .non => true
  | _, .int _ => true
  | _, .str x => PyData.strOk x
  | n + 1, .tup xs => nbs n xs
  | n + 1, .lst xs => nbs n xs
  | _, _ => false
def nbs : Nat → List D → Bool
  | _, [] => true
  | n, d :: ds => nb n d && nbs n ds
end
mutual
theorem flat_nb : ∀ (n : Nat) (d : D), nb n d = true → flatD 0 d = true ∧ PyData.canLay0 (toP d) = true ∧ (toP d).depth ≤ n
  | n, .non, _ => ⟨rfl, rfl, Nat.zero_le _⟩
  | n, .int _, _ => ⟨rfl, rfl, Nat.zero_le _⟩
  | n, .str x, h => ⟨rfl, (by cases n <;> exact h), Nat.zero_le _⟩
  | 0, .tup xs, h => by
    unfold nb at h
    cases h
  | 0, .lst xs, h => by
    unfold nb at h
    cases h
  | n + 1, .tup xs, h => by
    unfold nb at h
    obtain ⟨a, b, c⟩ := flats_nb n xs h
    refine ⟨?_, ?_, ?_⟩
    · unfold flatD
      exact a
    · unfold toP PyData.canLay0
      exact b
    · unfold toP PyData.depth
      omega
  | n + 1, .lst xs, h => by
    unfold nb at h
    obtain ⟨a, b, c⟩ := flats_nb n xs h
    refine ⟨?_, ?_, ?_⟩
    · unfold flatD
      exact a
    · unfold toP PyData.canLay0
      exact b
    · unfold toP PyData.depth
      omega
  | n, .bl _, h => by
    cases n <;> (unfold nb at h; cases h)
  | n, .ref _, h => by
    cases n <;> (unfold nb at h; cases h)
  | n, .exn _ _, h => by
    cases n <;> (unfold nb at h; cases h)
  | n, .emp, h => by
    cases n <;> (unfold nb at h; cases h)
theorem flats_nb : ∀ (n : Nat) (ds : List D), nbs n ds = true → flatDs 0 ds = true ∧ PyData.canLayAll0 (toPs ds) = true ∧ PyData.depthAll (toPs ds) ≤ n
  | n, [], _ => ⟨rfl, rfl, Nat.zero_le _⟩
  | n, d :: ds, h => by
    unfold nbs at h
    rw [Bool.and_eq_true] at h
    obtain ⟨a, b, c⟩ := flat_nb n d h.1
    obtain ⟨a2, b2, c2⟩ := flats_nb n ds h.2
    refine ⟨?_, ?_, ?_⟩
    · unfold flatDs
      rw [a, a2]
      rfl
    · unfold toPs PyData.canLayAll0
      rw [b, b2]
      rfl
    · unfold toPs PyData.depthAll
      omega
end
theorem okD_nb {n : Nat} {d : D} (h : nb n d = true) (hn : n ≤ 64) : okD d = true := by
  obtain ⟨a, b, c⟩ := flat_nb n d h
  unfold okD SeqAt.shaped
  rw [a, b, decide_eq_true (by omega)]
  rfl
mutual
theorem eqv_nb : ∀ (n m : Nat) (a b : D), nb n a = true → nb m b = true → (PyData.eqv (toP a) (toP b) = true ↔ a = b)
  | n, m, a, b, h, k => by
    cases a with
    | non => cases b <;> simp [toP, PyData.eqv] <;> (cases m <;> (unfold nb at k; cases k))
    | int i => cases b <;> simp [toP, PyData.eqv] <;> (cases m <;> (unfold nb at k; cases k))
    | str i => cases b <;> simp [toP, PyData.eqv] <;> (cases m <;> (unfold nb at k; cases k))
    | bl _ => cases n <;> (unfold nb at h; cases h)
    | ref _ => cases n <;> (unfold nb at h; cases h)
    | exn _ _ => cases n <;> (unfold nb at h; cases h)
    | emp => cases n <;> (unfold nb at h; cases h)
    | tup xs =>
      cases b with
      | tup ys =>
        cases n with
        | zero => unfold nb at h; cases h
        | succ n =>
          cases m with
          | zero => unfold nb at k; cases k
          | succ m =>
            unfold nb at h k
            have z := eqvs_nb n m xs ys h k
            unfold toP PyData.eqv
            rw [z]
            exact ⟨fun e => by rw [e], fun e => by cases e; rfl⟩
      | non => simp [toP, PyData.eqv]
      | int _ => simp [toP, PyData.eqv]
      | str _ => simp [toP, PyData.eqv]
      | lst _ => simp [toP, PyData.eqv]
      | bl _ => cases m <;> (unfold nb at k; cases k)
      | ref _ => cases m <;> (unfold nb at k; cases k)
      | exn _ _ => cases m <;> (unfold nb at k; cases k)
      | emp => cases m <;> (unfold nb at k; cases k)
    | lst xs =>
      cases b with
      | lst ys =>
        cases n with
        | zero => unfold nb at h; cases h
        | succ n =>
          cases m with
          | zero => unfold nb at k; cases k
          | succ m =>
            unfold nb at h k
            have z := eqvs_nb n m xs ys h k
            unfold toP PyData.eqv
            rw [z]
            exact ⟨fun e => by rw [e], fun e => by cases e; rfl⟩
      | non => simp [toP, PyData.eqv]
      | int _ => simp [toP, PyData.eqv]
      | str _ => simp [toP, PyData.eqv]
      | tup _ => simp [toP, PyData.eqv]
      | bl _ => cases m <;> (unfold nb at k; cases k)
      | ref _ => cases m <;> (unfold nb at k; cases k)
      | exn _ _ => cases m <;> (unfold nb at k; cases k)
      | emp => cases m <;> (unfold nb at k; cases k)
theorem eqvs_nb : ∀ (n m : Nat) (a b : List D), nbs n a = true → nbs m b = true → (PyData.eqvAll (toPs a) (toPs b) = true ↔ a = b)
  | n, m, [], [], _, _ => by simp [toPs, PyData.eqvAll]
  | n, m, [], y :: ys, _, _ => by simp [toPs, PyData.eqvAll]
  | n, m, x :: xs, [], _, _ => by simp [toPs, PyData.eqvAll]
  | n, m, x :: xs, y :: ys, h, k => by
    unfold nbs at h k
    rw [Bool.and_eq_true] at h k
    have e1 := eqv_nb n m x y h.1 k.1
    have e2 := eqvs_nb n m xs ys h.2 k.2
    unfold toPs PyData.eqvAll
    rw [Bool.and_eq_true, e1, e2]
    exact ⟨fun ⟨a, b⟩ => by rw [a, b], fun e => by cases e; exact ⟨rfl, rfl⟩⟩
end
theorem lstOf_look {h : AH} {a : D} {xs : List D} (e : lstOf h a = some xs) : lookD h a = .lst xs := by
  cases a <;> try (cases e; done)
  · rename_i n
    unfold lstOf at e
    unfold lookD
    cases hc : h[n]? with
    | none =>
      simp only [hc] at e
      cases e
    | some c =>
      cases c <;> simp only [hc] at e ⊢ <;> try (cases e; done)
      cases e
      rfl
  · cases e
    rfl
theorem eqP_t {h : AH} {a b : D} {k : Bool} (e : lookD h a = lookD h b) (p : eqP h a b = some k) : k = true := by
  unfold eqP at p
  split at p
  · cases p
    exact decide_eq_true (D.str.inj e)
  · split at p
    · rename_i xs ys h1 h2
      rw [lstOf_look h1, lstOf_look h2] at e
      rw [if_pos (by rw [D.lst.inj e])] at p
      cases p
    · cases p
theorem eqP_f {h : AH} {a b : D} {k : Bool} (e : lookD h a ≠ lookD h b) (p : eqP h a b = some k) : k = false := by
  unfold eqP at p
  split at p
  · cases p
    exact decide_eq_false fun z => e (by rw [z])
  · split at p
    · rename_i xs ys h1 h2
      split at p
      · cases p
      · cases p
        rfl
    · cases p
theorem eqM_eq {a b : D} {h : AH} (ha : nb 60 (lookD h a) = true) (hb : nb 60 (lookD h b) = true) (e : lookD h a = lookD h b) : eqM a b h = .ok (.bl true) h := by
  unfold eqM
  cases hp : eqP h a b with
  | some k => simp only [eqP_t e hp]
  | none =>
    simp only
    rw [okD_nb ha (by decide), okD_nb hb (by decide), (eqv_nb 60 60 _ _ ha hb).mpr e]
    rfl
theorem eqM_ne {a b : D} {h : AH} (ha : nb 60 (lookD h a) = true) (hb : nb 60 (lookD h b) = true) (e : lookD h a ≠ lookD h b) : eqM a b h = .ok (.bl false) h := by
  unfold eqM
  have z : PyData.eqv (toP (lookD h a)) (toP (lookD h b)) = false := by
    cases q : PyData.eqv (toP (lookD h a)) (toP (lookD h b)) with
    | false => rfl
    | true => exact absurd ((eqv_nb 60 60 _ _ ha hb).mp q) e
  cases hp : eqP h a b with
  | some k => simp only [eqP_f e hp]
  | none =>
    simp only
    rw [okD_nb ha (by decide), okD_nb hb (by decide), z]
    rfl
theorem neM_eq {a b : D} {h : AH} (ha : nb 60 (lookD h a) = true) (hb : nb 60 (lookD h b) = true) (e : lookD h a = lookD h b) : neM a b h = .ok (.bl false) h := by
  unfold neM
  cases hp : eqP h a b with
  | some k => simp only [eqP_t e hp, Bool.not_true]
  | none =>
    simp only
    rw [okD_nb ha (by decide), okD_nb hb (by decide), (eqv_nb 60 60 _ _ ha hb).mpr e]
    rfl
theorem neM_ne {a b : D} {h : AH} (ha : nb 60 (lookD h a) = true) (hb : nb 60 (lookD h b) = true) (e : lookD h a ≠ lookD h b) : neM a b h = .ok (.bl true) h := by
  unfold neM
  have z : PyData.eqv (toP (lookD h a)) (toP (lookD h b)) = false := by
    cases q : PyData.eqv (toP (lookD h a)) (toP (lookD h b)) with
    | false => rfl
    | true => exact absurd ((eqv_nb 60 60 _ _ ha hb).mp q) e
  cases hp : eqP h a b with
  | some k => simp only [eqP_f e hp, Bool.not_false]
  | none =>
    simp only
    rw [okD_nb ha (by decide), okD_nb hb (by decide), z]
    rfl
/-- a list, seen whether it is the empty one -/
theorem eqM_nil {h : AH} {a : D} {xs : List D} (e : lstOf h a = some xs) : eqM a (.lst []) h = .ok (.bl xs.isEmpty) h := by
  cases xs with
  | nil => exact eqM_eq (by rw [lstOf_look e]; rfl) (by rfl) (by rw [lstOf_look e]; rfl)
  | cons x r =>
    unfold eqM
    have p : eqP h a (.lst []) = some false := by
      unfold eqP
      split
      · cases e
      · rw [e]
        rfl
    rw [p]
    rfl
theorem neM_nil {h : AH} {a : D} {xs : List D} (e : lstOf h a = some xs) : neM a (.lst []) h = .ok (.bl (!xs.isEmpty)) h := by
  cases xs with
  | nil => exact neM_eq (by rw [lstOf_look e]; rfl) (by rfl) (by rw [lstOf_look e]; rfl)
  | cons x r =>
    unfold neM
    have p : eqP h a (.lst []) = some false := by
      unfold eqP
      split
      · cases e
      · rw [e]
        rfl
    rw [p]
    rfl
theorem eqM_int {i j : Int} {h : AH} : eqM (.int i) (.int j) h = .ok (.bl (decide (i = j))) h := by
  by_cases e : i = j
  · rw [eqM_eq (by rfl) (by rfl) (by rw [e]), decide_eq_true e]
  · rw [eqM_ne (by rfl) (by rfl) (fun z => e (by cases z; rfl)), decide_eq_false e]
theorem neM_int {i j : Int} {h : AH} : neM (.int i) (.int j) h = .ok (.bl (decide (i ≠ j))) h := by
  by_cases e : i = j
  · rw [neM_eq (by rfl) (by rfl) (by rw [e]), decide_eq_false (by simpa using e)]
  · rw [neM_ne (by rfl) (by rfl) (fun z => e (by cases z; rfl)), decide_eq_true e]
end Lw
/-! SimK: isinstance, int, str, in, list(range), {}. -/
namespace Lw
open PySem L2
/-! ### isinstance of plain data -/
def tyD (h : AH) : D → Option String
  | .non => some "NoneType"
  | .bl _ => some "bool"
  | .int _ => some "int"
  | .str _ => some "str"
  | .tup _ => some "tuple"
  | .lst _ => some "list"
  | .emp => some "dict"
  | .ref n => match h[n]? with
    | some (.lst _) => some "list"
    | some (.dk _) => some "dict"
    | _ => none
  | .exn _ _ => none
def tyNames : List String := ["NoneType", "bool", "int", "str", "tuple", "list", "dict"]
def isiB (a T : String) : Bool := a == T || (a == "bool" && T == "int")
def isiM (T : String) (d : D) : M D := fun h => match tyD h d with
  | some a => .ok (.bl (isiB a T)) h
  | none => .stuck
section
variable {X : Cx} {fr : Fm} {W : WX} {σ : St} {F H : Hp} {m : List Addr} {ah : AH} {env : Env} {pos : Pos}
theorem rd_tup {a : Addr} {vs : List V} (h : SqT X.K H a vs) : TyX X.K H (.ref a) (.type "tuple") := by
  rcases h with (h | ⟨o, h⟩) | ⟨o, its, n, h1, h2, _⟩
  · exact .base (.tup h)
  · exact .fTuple h
  · exact .kTuple h1 h2
theorem rd_lst {a : Addr} {vs : List V} (h : SqL X.K H a vs) : TyX X.K H (.ref a) (.type "list") := by
  rcases h with (h | ⟨o, h⟩) | ⟨o, its, n, h1, h2, _⟩
  · exact .base (.lst h)
  · exact .base (.frz h)
  · exact .kList h1 h2
theorem ty_of {d : D} {v : V} {a : String} (S : Sim X.K X.mg fr F m ah H) (r : Rep X.K F m d v) (h : tyD ah d = some a) : TyX X.K H v (.type a) ∧ a ∈ tyNames := by
  cases d with
  | non =>
    cases h
    unfold Rep at r
    subst r
    exact ⟨.base .non, by decide⟩
  | bl b =>
    cases h
    unfold Rep at r
    subst r
    exact ⟨.base (.bl b), by decide⟩
  | int b =>
    cases h
    unfold Rep at r
    subst r
    exact ⟨.base (.int b), by decide⟩
  | str b =>
    cases h
    unfold Rep at r
    subst r
    exact ⟨.base (.str b), by decide⟩
  | tup xs =>
    cases h
    obtain ⟨p, vs, rfl, h2, h3⟩ := tup_of (xs := xs) r rfl
    exact ⟨rd_tup (SqT.up S.sub h2), by decide⟩
  | lst xs =>
    cases h
    unfold Rep at r
    obtain ⟨p, vs, rfl, h2, h3⟩ := r
    exact ⟨rd_lst (SqL.up S.sub h2), by decide⟩
  | emp =>
    cases h
    unfold Rep at r
    obtain ⟨p, h1, rfl⟩ := r
    exact ⟨.base (.dK (S.sub _ _ h1)), by decide⟩
  | exn c p => cases h
  | ref n =>
    unfold Rep at r
    obtain ⟨p, h1, rfl⟩ := r
    unfold tyD at h
    cases hc : ah[n]? with
    | none =>
      simp only [hc] at h
      cases h
    | some c =>
      obtain ⟨p', q, ok⟩ := S.cells n c hc
      rw [h1] at q
      cases q
      cases c <;> simp only [hc] at h <;> try (cases h; done)
      · cases h
        obtain ⟨_, vs, h3, _⟩ := ok
        exact ⟨.base (.lst h3), by decide⟩
      · cases h
        obtain ⟨_, vs, h3, _⟩ := ok
        exact ⟨.base (.dK h3), by decide⟩
theorem de_isi {T' : Str} (T : String) {e : Expr} {me : M D} {p p2 : Pos} (hm : X.mg "isinstance" = none) (hmT : X.mg T' = none) (hvT : bootBuiltins T' = some (.type T)) (hk : ∀ a ∈ tyNames, kitB a T = some (isiB a T)) (ha : DE X W env e me)
    (hg : Gl X "isinstance" := by rfl) (hgT : Gl X T' := by rfl) (hs : starEach [e, .Name T' p2] X.env = (false, eval e X.env) :: starEach [.Name T' p2] X.env := by rfl) (hs2 : starEach [.Name T' p2] X.env = (false, eval (.Name T' p2) X.env) :: starEach [] X.env := by rfl)
    (hpl : (backTo pos (starEach [.Name T' p2] X.env)).any (·.1) = false := by rfl) (hn : T' ≠ "__name__" := by decide) (hdb : (T' == ("__debug__" : Str)) = false := by decide) :
    DE X W env (.Call (.Name "isinstance" p) [e, .Name T' p2] [] pos) (do let x ← me; isiM T x) :=
  PE.from (pe_callB call_isi hg hm (by decide +kernel) (pa_cons ha (pa_cons (pe_bltn (v := .ty T) hgT hmT hvT rfl hn hdb) pa_nil hs2) hs) (by decide) (by decide) hs hpl) fun σ H Q ⟨fr, F, m, ah, s, er, k⟩ => TK.step s er k fun F1 m1 ah1 d v H1 e1 s1 er1 r1 k1 => by
    unfold isiM at k1
    cases ht : tyD ah1 d with
    | none =>
      simp only [ht] at k1
      exact k1.elim
    | some a =>
      simp only [ht] at k1
      obtain ⟨h1, h2⟩ := ty_of s1 r1 ht
      exact ⟨v, .ty T, .type a, .type T, isiB a T, rfl, .ty T, h1, kit_ty (hk a h2), TK.val k1 s1 Rep.bl⟩
/-! ### int(x), str(x) -/
theorem callR_or {X : Cx} {f : Value} {r r' : List V → Hp → VK → Prop} (h : CallR X f r) (h' : CallR X f r') : CallR X f (fun xs H Q => r xs H Q ∨ r' xs H Q) := by
  intro pins s σ H xs us Q I rr q
  rcases q with q | q
  · exact h pins s σ H xs us Q I rr q
  · exact h' pins s σ H xs us Q I rr q
def intM (d : D) : M D := fun h => match d with
  | .int i => .ok (.int i) h
  | .bl b => .ok (.int (if b = true then 1 else 0)) h
  | .str z => (match PySem.intText? z with
    | some n => if z.length ≤ 640 then .ok (.int n) h else .stuck
    | none => .stuck)
  | _ => .stuck
theorem int1_ok : ClD X (fun xs H Q => ((∃ i, xs = [.int i] ∧ Q (.int i) H) ∨ ∃ k, xs = [.bl k] ∧ Q (.int (if k then 1 else 0)) H) ∨ ∃ a n, xs = [.str a] ∧ PySem.intText? a = some n ∧ a.length ≤ 640 ∧ Q (.int n) H) (ap1 intM) := ap1_ok fun fr W σ F m ah H d v Q s r k => by
  unfold intM at k
  cases d <;> try exact k.elim
  · unfold Rep at r
    subst r
    exact .inl (.inr ⟨_, rfl, TK.val k s Rep.int⟩)
  · unfold Rep at r
    subst r
    exact .inl (.inl ⟨_, rfl, TK.val k s Rep.int⟩)
  · rename_i z
    unfold Rep at r
    subst r
    cases hz : PySem.intText? z with
    | none =>
      simp only [hz] at k
      exact k.elim
    | some n =>
      simp only [hz] at k
      by_cases c : z.length ≤ 640
      · rw [if_pos c] at k
        exact .inr ⟨z, n, rfl, hz, c, TK.val k s Rep.int⟩
      · rw [if_neg c] at k
        exact k.elim
theorem de_intf {e : Expr} {me : M D} {p : Pos} (hm : X.mg "int" = none) (ha : DE X W env e me) (hg : Gl X "int" := by rfl) (he : starEach [e] X.env = [(false, eval e X.env)] := by rfl) (hpl : (backTo pos (starEach [] X.env)).any (·.1) = false := by rfl) :
    DE X W env (.Call (.Name "int" p) [e] [] pos) (do let x ← me; intM x) := de_t1 (callR_or call_int1 call_int_str) int1_ok hm (by decide +kernel) ha hg (by decide) (by decide) he hpl
def strM (d : D) : M D := fun h => match d with
  | .int i => if i.natAbs.log2 < 1920 then .ok (.str (toString i)) h else .stuck
  | .str z => .ok (.str z) h
  | _ => .stuck
theorem str1_ok : ClD X (fun xs H Q => (∃ i, xs = [.int i] ∧ i.natAbs.log2 < 1920 ∧ Q (.str (toString i)) H) ∨ ∃ a, xs = [.str a] ∧ Q (.str a) H) (ap1 strM) := ap1_ok fun fr W σ F m ah H d v Q s r k => by
  unfold strM at k
  cases d <;> try exact k.elim
  · rename_i i
    unfold Rep at r
    subst r
    by_cases c : i.natAbs.log2 < 1920
    · simp only [if_pos c] at k
      exact .inl ⟨_, rfl, c, TK.val k s Rep.str⟩
    · simp only [if_neg c] at k
      exact k.elim
  · unfold Rep at r
    subst r
    exact .inr ⟨_, rfl, TK.val k s Rep.str⟩
theorem de_strf {e : Expr} {me : M D} {p : Pos} (hm : X.mg "str" = none) (ha : DE X W env e me) (hg : Gl X "str" := by rfl) (he : starEach [e] X.env = [(false, eval e X.env)] := by rfl) (hpl : (backTo pos (starEach [] X.env)).any (·.1) = false := by rfl) :
    DE X W env (.Call (.Name "str" p) [e] [] pos) (do let x ← me; strM x) := de_t1 (callR_or call_str_int SkE.call_str_str) str1_ok hm (by decide +kernel) ha hg (by decide) (by decide) he hpl
/-! ### in -/
def fltD : D → Bool
  | .non => true
  | .bl _ => true
  | .int _ => true
  | .str _ => true
  | _ => false
def fltV : D → V
  | .bl b => .bl b
  | .int i => .int i
  | .str x => .str x
  | _ => .non
def inD (x : D) (xs : List D) : Bool := inV (fltV x) (xs.map fltV)
def inM (neg : Bool) (x y : D) : M D := fun h => match seqOf h y with
  | some xs => if (fltD x && xs.all fltD) = true then .ok (.bl (if neg = true then !inD x xs else inD x xs)) h else .stuck
  | none => .stuck
theorem rep_flt {K : Fg} {F : Hp} {m : List Addr} {d : D} {v : V} (r : Rep K F m d v) (h : fltD d = true) : v = fltV d ∧ flatV v = true := by
  cases d <;> try (cases h; done)
  all_goals (unfold Rep at r; subst r; exact ⟨rfl, rfl⟩)
theorem reps_flt {K : Fg} {F : Hp} {m : List Addr} : ∀ {ds : List D} {vs : List V}, RepL K F m ds vs → ds.all fltD = true → vs = ds.map fltV ∧ vs.all flatV = true
  | [], vs, r, _ => by
    unfold RepL at r
    rw [r]
    exact ⟨rfl, rfl⟩
  | d :: ds, vs, r, h => by
    rw [List.all_cons, Bool.and_eq_true] at h
    unfold RepL at r
    obtain ⟨v, u, rfl, h2, h3⟩ := r
    obtain ⟨e1, f1⟩ := rep_flt h2 h.1
    obtain ⟨e2, f2⟩ := reps_flt h3 h.2
    exact ⟨by rw [List.map_cons, ← e1, ← e2], by rw [List.all_cons, f1, f2]; rfl⟩
theorem in_ok {neg : Bool} : OpD X (rIn X.K neg) (inM neg) := by
  intro fr W σ F m ah H d e x y Q s rx ry k
  unfold inM at k
  cases hq : seqOf ah e with
  | none =>
    simp only [hq] at k
    exact k.elim
  | some xs =>
    simp only [hq] at k
    by_cases c : (fltD d && xs.all fltD) = true
    · rw [if_pos c] at k
      rw [Bool.and_eq_true] at c
      obtain ⟨e1, f1⟩ := rep_flt rx c.1
      have z : ∃ p vs, y = .ref p ∧ (SqL X.K H p vs ∨ SqT X.K H p vs) ∧ RepL X.K F m xs vs := by
        by_cases ht : ∃ ys, e = .tup ys
        · obtain ⟨ys, rfl⟩ := ht
          cases hq
          obtain ⟨a, vs, h1, h2, h3⟩ := tup_of (xs := xs) ry rfl
          exact ⟨a, vs, h1, .inr (SqT.up s.sub h2), h3⟩
        · have hq' : lstOf ah e = some xs := by
            cases e <;> first | exact hq | exact absurd ⟨_, rfl⟩ ht
          obtain ⟨a, vs, h1, h2, h3⟩ := lst_of s ry hq'
          exact ⟨a, vs, h1, .inl h2, h3⟩
      obtain ⟨p, vs, h1, h2, h3⟩ := z
      obtain ⟨e2, f2⟩ := reps_flt h3 c.2
      refine ⟨p, vs, h1, h2, f1, f2, ?_⟩
      have q := k.val s Rep.bl
      unfold inD at q
      rw [← e1, ← e2] at q
      exact q
    · rw [if_neg c] at k
      exact k.elim
theorem de_notin {a b : Expr} {ma mb : M D} (ha : DE X W env a ma) (hb : DE X W env b mb) (hm : behindInMarks .NotIn b = false := by rfl) : DE X W env (.Compare a [.NotIn] [b] pos) (do let x ← ma; let y ← mb; inM true x y) := de_cmp op_notIn_seq in_ok ha hb hm
/-! ### list(range(a, b)), tuple(range(a, b)) -/
/-! ### {} -/
end
end Lw
/-! SimL: errors that are caught. -/
namespace Lw
open PySem L2
/-- what the name T of a class stands for -/
def TVal (mg : Str → Option Value) (T : Str) (cv : Value) : Prop := mg T = some cv ∨ (mg T = none ∧ bootBuiltins T = some cv ∧ T ≠ ("__name__" : Str))
theorem TVal.fn {mg : Str → Option Value} {T : Str} {a b : Value} (h : TVal mg T a) (k : TVal mg T b) : a = b := by
  rcases h with h | ⟨h, h2, _⟩ <;> rcases k with k | ⟨k, k2, _⟩
  · exact Option.some.inj (h.symm.trans k)
  · rw [h] at k
    cases k
  · rw [h] at k
    cases k
  · exact Option.some.inj (h2.symm.trans k2)
section
end
/-! ### what stands of the classes of errors -/
structure ClF (K : Fg) (mg : Str → Option Value) (z : Str) (C : Addr) : Prop where
  x : XcF K mg z C
  e : ExcC K C
theorem cl_mk {K : Fg} {h : Heap} {mg : Str → Option Value} {z : Str} {C : Addr} (X : K.In h) (G : h.Ns mainGlobals mg) (hn : PySem.W.specialIn K (.builtin "object.__class__") "__get__" = some (some (.builtin "getset_descriptor.__get__"))) (ht : PySem.W.takesIn K (.builtin "object.__class__") = some true)
    (a : PySem.W.nsIn K mainGlobals z = some (some (.ref C))) (q : PySem.W.excIn K C [.type "ValueError", .type "Exception", .type "BaseException", .type "object"] "ValueError.__new__" = true) (k : PySem.W.keepIn K (.ref C) = true) (t : PySem.W.typeIn K (.ref C) = some (.type "type"))
    (b : PySem.W.subIn K (.ref C) (.type "BaseException") = some true) (f1 : PySem.W.findIn K (.ref C) "__getattribute__" = some (some (.builtin "BaseException.__getattribute__"))) (f2 : PySem.W.findIn K (.ref C) "__getattr__" = some none)
    (f3 : PySem.W.findIn K (.ref C) "__class__" = some (some (.builtin "object.__class__"))) (d : PySem.W.hasDictIn K C = true) (m : PySem.W.mroIn K C (.type "object") = some true) : ClF K mg z C :=
  ⟨⟨PySem.W.mg_of X G a, q, k, b, t⟩, f1, f2, b, d, f3, hn, ht, m⟩
section
variable {X : Cx} {W : WX} {ex env : Env} {pos : Pos} {τ β : Type} {mk : τ → Env} {lp : β → Env} {rest : List Stmt}
theorem ds_raiseE {x msg : Str} {j : Nat} {p p2 p3 : Pos} (T : ∃ C, ClF X.K X.mg x C) (hc : X.calm = true) (tk : L2N.Takes X W) (hx : EnvLe ex env) (hg : Gl X x := by rfl) (hdb : (x == ("__debug__" : Str)) = false := by decide) :
    DS X W ex env mk lp (.Raise (some (.Call (.Name x p) [.Constant (.str msg) j p2] [] p3)) none pos :: rest) (throwM x) := by
  obtain ⟨C, T⟩ := T
  exact ds_raise T.x hc tk hx hg hdb
end
end Lw
/-! SimM: an empty dict is no tuple. -/
namespace PySem.SeqAt
open PySem PyProof.Rows
end PySem.SeqAt
namespace Lw
open PySem L2
section
end
end Lw
/-! SimN: objects: fields, methods, making. -/
namespace Lw
open PySem L2
/-! ### the classes' fields -/
section
variable {K : Fg} {F : Hp} {m : List Addr}
theorem RepK.lookup {f : Str} {d : D} : ∀ {fs : List (Str × D)} {vs : List (Str × V)}, RepK K F m fs vs → fs.lookup f = some d → ∃ v, vs.lookup f = some v ∧ Rep K F m d v
  | _, _, .nil, h => by cases h
  | (g, x) :: r, (g', y) :: t, .cons ⟨e, q⟩ u, h => by
    have e : g = g' := e
    subst e
    rw [List.lookup_cons] at h ⊢
    cases c : f == g with
    | true =>
      rw [c] at h
      cases h
      exact ⟨y, rfl, q⟩
    | false =>
      rw [c] at h
      exact RepK.lookup u h
theorem RepK.length {κ : Type} : ∀ {fs : List (κ × D)} {vs : List (κ × V)}, RepK K F m fs vs → vs.length = fs.length
  | _, _, .nil => rfl
  | _ :: r, _ :: t, .cons _ u => by rw [List.length_cons, List.length_cons, RepK.length u]
end
section
end
/-! ### methods -/
section
end
/-! ### methods and making, of plain data -/
section
end
/-! ### what stands of methods -/
/-! how many arguments -/
end Lw
/-! SimO: dicts. -/
namespace Lw
open PySem L2
def valD (kvs : List (Key × D)) (k : Key) : Option D := (kvs.find? fun kv => decide (kv.1 = k)).map (·.2)
def dropKD (kvs : List (Key × D)) (k : Key) : List (Key × D) := kvs.filter fun kv => decide (kv.1 ≠ k)
section
variable {K : Fg} {F : Hp} {m : List Addr}
theorem RepK.val {k : Key} : ∀ {kvs : List (Key × D)} {vs : List (Key × V)}, RepK K F m kvs vs → (∀ d, valD kvs k = some d → ∃ v, valV vs k = some v ∧ Rep K F m d v) ∧ (valD kvs k = none → valV vs k = none)
  | _, _, .nil => ⟨(fun d h => nomatch h), fun _ => rfl⟩
  | (g, x) :: r, (g', y) :: t, .cons ⟨e, q⟩ u => by
    have e : g = g' := e
    subst e
    obtain ⟨i1, i2⟩ := RepK.val (k := k) u
    by_cases c : g = k
    · have a : valD ((g, x) :: r) k = some x := by simp [valD, List.find?_cons, c]
      rw [a, valV_pos (p := (g, y)) c]
      exact ⟨(fun d h => by cases h; exact ⟨y, rfl, q⟩), (fun h => nomatch h)⟩
    · have a : valD ((g, x) :: r) k = valD r k := by simp [valD, List.find?_cons, c]
      rw [a, valV_neg (p := (g, y)) c]
      exact ⟨i1, i2⟩
theorem RepK.any {k : Key} : ∀ {kvs : List (Key × D)} {vs : List (Key × V)}, RepK K F m kvs vs → (vs.any fun kv => decide (kv.1 = k)) = (kvs.any fun kv => decide (kv.1 = k))
  | _, _, .nil => rfl
  | (g, x) :: r, (g', y) :: t, .cons ⟨e, q⟩ u => by
    have e : g = g' := e
    subst e
    rw [List.any_cons, List.any_cons, RepK.any u]
theorem RepK.drop {k : Key} : ∀ {kvs : List (Key × D)} {vs : List (Key × V)}, RepK K F m kvs vs → RepK K F m (dropKD kvs k) (dropK vs k)
  | _, _, .nil => .nil
  | (g, x) :: r, (g', y) :: t, .cons ⟨e, q⟩ u => by
    have e : g = g' := e
    subst e
    have ih := RepK.drop (k := k) u
    unfold dropKD dropK at ih ⊢
    by_cases c : g ≠ k
    · rw [List.filter_cons_of_pos (by simpa using c), List.filter_cons_of_pos (by simpa using c)]
      exact .cons ⟨rfl, q⟩ ih
    · rw [List.filter_cons_of_neg (by simpa using c), List.filter_cons_of_neg (by simpa using c)]
      exact ih
end
section
end
end Lw
/-! SimP: extend, in a dict. -/
namespace PySem.AutoSeq1
theorem lwExt (l : Addr) (xs : Array Value) (n : Nat) (b : Addr) (ys : Array Value) (n2 : Nat) (dd2 : Option Addr) (sl2 : Array (Option Value)) (hc0 : ¬(!xs.isEmpty && Builtin.List.listTooLong (xs.size + ys.size)) = true) (hc1 : xs.size ≤ sizeLine) (hs2 : xs.size + ys.size ≤ sizeLine + 1) :
    Meets (Builtin.«list.extend» ⟨[.ref l, .ref b], []⟩) (fun _ R s => s.heap.get? l = some { cls := .type "list", dict := none, data := .seq xs n, slots := #[] } ∧ s.heap.get? b = some { cls := .type "list", dict := dd2, data := .seq ys n2, slots := sl2 } ∧ R (.ok (.ret Value.none)) { s with heap := s.heap.update l (Obj.mapSeq fun x => x ++ ys), toks := s.toks }) :=
  .of_wp fun prog w A R s h => by
    obtain ⟨hp, g, d, tk, os⟩ := s
    obtain ⟨hl, hb, h⟩ := h
    have f1 := idx_int
    have f2 := sub_tuple_tuple
    have f3 := sub_list_list
    have f4 := sub_tuple_list
    have f5 := sub_list_tuple
    have hz' : (xs ++ ys).size ≤ sizeLine + 1 := by rw [Array.size_append] <;> exact hs2
    wp_walk using (wpAny_updateSeq hl rfl (hz := hc1) (_hz' := hz')), wpAny_loadPart' hl, wpAny_loadPart' hb
    exact ⟨_, rfl, h⟩
end PySem.AutoSeq1
namespace Lw
open PySem L2
/-- xs.extend(a list) -/
def rExtS (K : Fg) : V → List V → Hp → VK → Prop := fun x vs H Q => ∃ l b xs zs, x = .ref l ∧ vs = [.ref b] ∧ H l = some (.lst xs) ∧ SqL K H b zs ∧ xs.length + zs.length ≤ sizeLine ∧ Q .non (upd H l (.lst (xs ++ zs)))
section
variable {X : Cx}
theorem notLong {n : Nat} (h : n ≤ sizeLine) : ¬ Builtin.List.listTooLong n = true := by
  unfold Builtin.List.listTooLong
  simp only [decide_eq_true_eq]
  have : sizeLine ≤ (2 ^ 63 - 1) / 8 := by decide
  first
    | omega
    | (intro z; simp at z; omega)
theorem mt_extS : MtR X "list.extend" (rExtS X.K) := by
  intro pins s σ H x vs v us Q I rx rv h
  obtain ⟨l, b, xs, zs, rfl, rfl, hH, hB, hz, q⟩ := h
  cases rx
  obtain ⟨u, rfl, ru⟩ := rv.one
  cases ru
  obtain ⟨z, its, n, r, hl, e⟩ := I.lstM hH
  obtain ⟨its2, r2, pl, hz2⟩ := I.list hB
  have e1 := r.length
  have e2 := r2.length
  obtain ⟨⟨cls2, dd2, data2, sl2⟩, ho2, hc2, n2, hd2⟩ := pl.isList
  simp only at hc2 hd2
  subst hc2 hd2
  have hsz : its.toArray.size + its2.toArray.size ≤ sizeLine := by rw [List.size_toArray, List.size_toArray]; omega
  have hlong : ¬ (!its.toArray.isEmpty && Builtin.List.listTooLong (its.toArray.size + its2.toArray.size)) = true := by
    intro q
    rw [Bool.and_eq_true] at q
    exact notLong hsz q.2
  refine call_meets F.slot_list_extend ⟨_, e, rfl⟩ F.entry_list_extend (F.args_list_extend_2 _ _)
    (PySem.AutoSeq1.lwExt l its.toArray n b its2.toArray n2 dd2 sl2 hlong (by rw [List.size_toArray]; omega) (by omega)) ⟨e, ho2, ?_⟩
  refine ⟨.non, _, I.lset (its' := its ++ its2) hH e (by simp) (r.append r2) ?_, rfl, q⟩
  rw [List.length_append]
  omega
def extendM (x y : D) : M D := fun h => match lstOf h y with
  | some ys => onLst x (fun xs => if lenOk (xs.length + ys.length) = true then some (.non, xs ++ ys) else none) h
  | none => .stuck
theorem de_extend {W : WX} {env : Env} {pos : Pos} {o e : Expr} {mo me : M D} {apos : Pos} (ho : DE X W env o mo) (he : DE X W env e me) (hbase : attributeBase o "extend" X.env (eval o X.env) = eval o X.env := by rfl)
    (hfew : ((backTo pos (starEach [e] X.env)).all (fun x => !x.1) && (backToKw pos (keywordEach [] X.env)).all (fun x => x.1.isSome)
      && decide ([e].length + ([] : List Keyword).length + (if ([] : List Keyword).isEmpty then 0 else 1) < 30)) = true := by rfl)
    (hline : (apos.endLine == pos.line) = true := by rfl) (hs : starEach [e] X.env = (false, eval e X.env) :: starEach [] X.env := by rfl) (hplain : (backTo pos (starEach [] X.env)).any (·.1) = false := by rfl) :
    DE X W env (.Call (.Attribute o "extend" apos) [e] [] pos) (do let x ← mo; lchk x; let y ← me; extendM x y) :=
  de_lm1 F.slot_list_extend F.type_list_extend mt_extS (fun fr W σ F m ah H d e v w Q S r r2 k => by
    unfold extendM at k
    cases hy : lstOf ah e with
    | none =>
      simp only [hy] at k
      exact k.elim
    | some ys =>
      simp only [hy] at k
      obtain ⟨a, xs, vs, z, zs, rfl, h1, h2, h3, h4⟩ := onLst_of S r k
      obtain ⟨b, us, rfl, g1, g2⟩ := lst_of S r2 hy
      by_cases hl : lenOk (xs.length + ys.length) = true
      · rw [if_pos hl] at h3
        cases h3
        exact ⟨a, b, vs, us, rfl, rfl, h1, g1, by rw [RepL.length h2, RepL.length g2]; exact of_decide_eq_true hl, h4 _ (RepL.append h2 g2) _ Rep.non⟩
      · rw [if_neg hl] at h3
        cases h3) ho he hbase hfew hline hs hplain
/-! k in d -/
end
end Lw
/-! SimQ: a dict that is walked stands locked. -/
namespace Lw
open PySem L2
section
end
section
end
/-! ### a statement that runs while a dict stands locked -/
section
end
/-! ### the keys, the values of a locked dict -/
theorem RepK.at {κ : Type} {K : Fg} {F : Hp} {m : List Addr} : ∀ {ks : List (κ × D)} {vs : List (κ × V)} (i : Nat) {k : κ} {v : V}, RepK K F m ks vs → vs[i]? = some (k, v) → ∃ d, ks[i]? = some (k, d) ∧ Rep K F m d v
  | _, _, _, _, _, .nil, e => by simp at e
  | (g, x) :: r, (g', y) :: t, 0, k, v, .cons ⟨e, q⟩ u, h => by
    have e : g = g' := e
    subst e
    simp at h
    obtain ⟨rfl, rfl⟩ := h
    exact ⟨x, rfl, q⟩
  | _ :: r, _ :: t, i + 1, k, v, .cons q u, h => by
    obtain ⟨d, h1, h2⟩ := RepK.at i u (by simpa using h)
    exact ⟨d, by simpa using h1, h2⟩
section
end
/-! ### expressions that run while a dict stands locked -/
section
end
section
end
end Lw
/-! SimR: enumerate of lists and tuples. -/
namespace PySem
open Sem (wp)
open AutoSeq1 (wpAny_loadPart')
section
end
end PySem
namespace Lw
open PySem PySem.Spec PyProof.Rows L2
theorem takes0N {X : Cx} : L2N.Takes X W0 := fun _ _ x => by
  obtain ⟨_, _, _, _, _, _, _, _, _, _, _, _, _, _, _, _, z⟩ := x
  exact z.elim
/-- each with its number -/
def enumD (lo : Int) (xs : List D) : List D := (List.range xs.length).zipWith (fun k x => D.tup [.int (lo + (k : Nat)), x]) xs
def enumM : D → M (List D)
  | .tup xs => pure (enumD 0 xs)
  | .lst xs => pure (enumD 0 xs)
  | _ => stuck
section
end
section
end
end Lw
/-! SimT: dict displays, pop; texts' methods; a list times a number. -/
namespace Lw
open PySem L2
section
variable {X : Cx} {W : WX} {ex env : Env} {pos apos : Pos}
/-! d.pop(k) -/
/-! ### texts' methods -/
def schk (x : D) : M Unit := fun h => match x with
  | .str _ => .ok () h
  | _ => .stuck
theorem de_sm1 {o e : Expr} {mo me : M D} {name : Str} {id : String} {r : V → List V → Hp → VK → Prop} {f : D → D → M D} (slot : Slot "str" name id) (hty : typeOf (.builtin id) = pure (.type "method_descriptor")) (hm : MtR X id r)
    (hr : ∀ (fr : Fm) (W : WX) (σ : St) (F : Hp) (m : List Addr) (ah : AH) (H : Hp) (d e : D) (v w : V) (Q : VK), Sim X.K X.mg fr F m ah H → Rep X.K F m d v → Rep X.K F m e w → TK X.K X.mg fr W (Rep X.K) σ F m (f d e ah) Q → r v [w] H Q)
    (ho : DE X W env o mo) (he : DE X W env e me) (hbase : attributeBase o name X.env (eval o X.env) = eval o X.env := by rfl)
    (hline : (apos.endLine == pos.line) = true := by rfl) (hs : starEach [e] X.env = [(false, eval e X.env)] := by rfl) :
    DE X W env (.Call (.Attribute o name apos) [e] [] pos) (do let x ← mo; let _ ← schk x; let y ← me; f x y) :=
  PE.from (pe_m1 slot hty hm ho he hs hbase hline) fun σ H Q ⟨fr, F, m, ah, s, er, q⟩ => TK.step s er q fun F1 m1 ah1 d v H1 e1 s1 er1 r1 k1 => by
    rw [bind_def] at k1
    unfold schk at k1
    cases d <;> try exact k1.elim
    rename_i x
    refine ⟨⟨x, by unfold Rep at r1; exact r1⟩, TK.step s1 er1 k1 fun F2 m2 ah2 d2 v2 H2 e2 s2 er2 r2 k2 => ?_⟩
    exact hr fr W σ F2 m2 ah2 H2 _ _ _ _ Q s2 (Rep.ext e2 _ _ r1) r2 k2
/-- texts in a row -/
def strsOf : List D → Option (List Str)
  | [] => some []
  | .str x :: r => (match strsOf r with
    | some ys => some (x :: ys)
    | none => none)
  | _ => none
theorem strs_rep {K : Fg} {F : Hp} {m : List Addr} : ∀ {ds : List D} {vs : List V} {ys : List Str}, RepL K F m ds vs → strsOf ds = some ys → vs = ys.map V.str
  | [], vs, ys, r, h => by
    cases h
    unfold RepL at r
    exact r
  | d :: ds, vs, ys, r, h => by
    unfold RepL at r
    obtain ⟨v, t, rfl, h1, h2⟩ := r
    cases d <;> try (cases h; done)
    rename_i x
    unfold strsOf at h
    cases hr : strsOf ds with
    | none =>
      rw [hr] at h
      cases h
    | some zs =>
      rw [hr] at h
      cases h
      unfold Rep at h1
      rw [h1, strs_rep h2 hr]
      rfl
def joinM (x y : D) : M D := fun h => match x, seqOf h y with
  | .str a, some ds => (match strsOf ds with
    | some ys => if (ys.map (·.length)).sum + ys.length * a.length ≤ 16777216 then .ok (.str (Txt.join a ys)) h else .stuck
    | none => .stuck)
  | _, _ => .stuck
theorem de_join {o e : Expr} {mo me : M D} (ho : DE X W env o mo) (he : DE X W env e me) (hbase : attributeBase o "join" X.env (eval o X.env) = eval o X.env := by rfl)
    (hline : (apos.endLine == pos.line) = true := by rfl) (hs : starEach [e] X.env = [(false, eval e X.env)] := by rfl) :
    DE X W env (.Call (.Attribute o "join" apos) [e] [] pos) (do let x ← mo; let _ ← schk x; let y ← me; joinM x y) :=
  de_sm1 PySem.F.slot_str_join PySem.F.type_str_join mt_join (fun fr W σ F m ah H d e v w Q S r1 r2 k => by
    unfold joinM at k
    cases d <;> try exact k.elim
    rename_i a
    unfold Rep at r1
    cases hy : seqOf ah e with
    | none =>
      simp only [hy] at k
      exact k.elim
    | some ds =>
      simp only [hy] at k
      cases hs : strsOf ds with
      | none =>
        simp only [hs] at k
        exact k.elim
      | some ys =>
        simp only [hs] at k
        by_cases hl : (ys.map (·.length)).sum + ys.length * a.length ≤ 16777216
        · rw [if_pos hl] at k
          have key : ∃ p, w = .ref p ∧ (SqL X.K H p (ys.map V.str) ∨ SqT X.K H p (ys.map V.str)) := by
            cases e <;> try (cases hy; done)
            · obtain ⟨p, us, g1, g2, g3⟩ := lst_of S r2 (show lstOf ah _ = some ds from hy)
              exact ⟨p, g1, .inl (by rw [← strs_rep g3 hs]; exact g2)⟩
            · cases hy
              obtain ⟨p, us, g1, g2, g3⟩ := tup_of r2 rfl
              exact ⟨p, g1, .inr (by rw [← strs_rep g3 hs]; exact SqT.up S.sub g2)⟩
            · obtain ⟨p, us, g1, g2, g3⟩ := lst_of S r2 (show lstOf ah _ = some ds from hy)
              exact ⟨p, g1, .inl (by rw [← strs_rep g3 hs]; exact g2)⟩
          obtain ⟨p, e1, e2⟩ := key
          exact ⟨a, p, ys, r1, by rw [e1], e2, hl, TK.val k S Rep.str⟩
        · rw [if_neg hl] at k
          exact k.elim) ho he hbase hline hs
/-! ### a list times a number -/
/-! ### {k: v, ..} -/
abbrev RepP (K : Fg) (F : Hp) (m : List Addr) : List (D × D) → List (V × V) → Prop := Paired fun p q => Rep K F m p.1 q.1 ∧ Rep K F m p.2 q.2
theorem RepP.ext {K : Fg} {F F' : Hp} {m m' : List Addr} {xs : List (D × D)} {ys : List (V × V)} (e : Ext F m F' m') (h : RepP K F m xs ys) : RepP K F' m' xs ys :=
  Paired.imp (fun _ _ r => ⟨Rep.ext e _ _ r.1, Rep.ext e _ _ r.2⟩) h
end
end Lw
/-! SimU: zip of a list and a tuple. -/
namespace Lw
open PySem PySem.Spec PyProof.Rows L2
def zipLTM : List D → M (List D)
  | [.lst xs, .tup ys] => pure (zipD xs ys)
  | _ => stuck
section
end
end Lw
/-! SimV: texts sign by sign, global constants, dict(list), sorted(dict), tuples compared. -/
namespace Lw
open PySem L2
section
variable {X : Cx} {W : WX} {ex env : Env} {pos apos : Pos}
/-! ### a text sign by sign -/
def signsD (x : Str) : List D := x.cps.toList.map fun c => D.str ⟨#[c]⟩
theorem yl_str {K : Fg} {mg : Str → Option Value} {F : Hp} {m : List Addr} (x : Str) : Yl K mg F m (signsD x) (Its x) where
  go := fun i fr F1 m1 ah1 H1 e s hi => by
    unfold signsD at hi
    rw [List.length_map, Array.length_toList] at hi
    exact hi
  stop := fun fr F1 m1 ah1 H1 e s => by
    unfold signsD
    rw [List.length_map, Array.length_toList]
    exact Nat.le_refl _
  yld := fun i fr F1 m1 ah1 H1 v H2 e s hi y => by
    obtain ⟨e2, c, hc, rfl⟩ := y
    subst e2
    refine ⟨F1, .str ⟨#[c]⟩, ?_, Ext.refl, s, Rep.str⟩
    unfold signsD
    rw [List.getElem?_map, Array.getElem?_toList, hc]
    rfl
def strItM : D → M (List D)
  | .str x => pure (signsD x)
  | _ => stuck
theorem di_str {tg e : Expr} {me : M D} (he : DE X W env e me) : DI X W env tg e (do let x ← me; strItM x) :=
  PI.from (pi_str he) fun σ H Q ⟨fr, F, m, ah, s, er, k⟩ => TK.step s er k fun F1 m1 ah1 d v H1 e1 s1 er1 r1 k1 => by
    cases d <;> try exact (TK.stuck_of k1).elim
    rename_i x
    unfold Rep at r1
    exact ⟨x, r1, k1 F1 m1 _ H1 Ext.refl s1 (yl_str x)⟩
/-- one sign in a text -/
def signInM (neg : Bool) (x y : D) : M D := match x, y with
  | .str ⟨⟨[c]⟩⟩, .str z => pure (.bl (xor neg (decide (c ∈ z.cps.toList))))
  | _, _ => stuck
theorem sign_ok {X : Cx} : OpD X (fun x y H Q => ∃ (c : Nat) (z : Str), x = .str ⟨#[c]⟩ ∧ y = .str z ∧ Q (.bl (decide (c ∈ z.cps.toList))) H) (signInM false) := by
  intro fr W σ F m ah H d e x y Q S rx ry k
  unfold signInM at k
  split at k
  · unfold Rep at rx ry
    rw [Bool.false_xor] at k
    exact ⟨_, _, rx, ry, TK.val k S Rep.bl⟩
  · exact k.elim
theorem de_signin {a b : Expr} {ma mb : M D} (ha : DE X W env a ma) (hb : DE X W env b mb) (hm : behindInMarks .In b = false := by rfl) : DE X W env (.Compare a [.In] [b] pos) (do let x ← ma; let y ← mb; signInM false x y) := de_cmp op_in_sign sign_ok ha hb hm
/-! ### tests: k in d -/
/-! ### constants of the module -/
/-- the name stands for d, whatever else is -/
structure GvF (K : Fg) (mg : Str → Option Value) (x : Str) (d : D) : Prop where
  ok : ∃ v u, mg x = some u ∧ RelV v u ∧ ∀ F m, Rep K F m d v
theorem de_glob {x : Str} {d : D} (G : GvF X.K X.mg x d) (hg : Gl X x := by rfl) (hdb : (x == ("__debug__" : Str)) = false := by decide) : DE X W env (.Name x pos) (pure d) := by
  obtain ⟨v, u, h1, h2, h3⟩ := G.ok
  exact PE.from (pe_glob hg h1 h2 hdb) fun σ H Q ⟨fr, F, m, ah, s, er, k⟩ => k F m _ H Ext.refl s (h3 F m)
theorem gv_str {K : Fg} {h : Heap} {mg : Str → Option Value} {x z : Str} {t : Tok} (X : K.In h) (G : h.Ns mainGlobals mg) (a : PySem.W.nsIn K mainGlobals x = some (some (.str z t))) : GvF K mg x (.str z) :=
  ⟨.str z, .str z t, PySem.W.mg_of X G a, ⟨t, rfl⟩, fun _ _ => Rep.str⟩
theorem gv_int {K : Fg} {h : Heap} {mg : Str → Option Value} {x : Str} {z : Int} {t : Tok} (X : K.In h) (G : h.Ns mainGlobals mg) (a : PySem.W.nsIn K mainGlobals x = some (some (.int z t))) : GvF K mg x (.int z) :=
  ⟨.int z, .int z t, PySem.W.mg_of X G a, ⟨t, rfl⟩, fun _ _ => Rep.int⟩
/-! ### tuples of numbers compared -/
/-! ### dict(a list of pairs) -/
end
end Lw
/-! SimW: insert, reverse. -/
namespace Lw
open PySem L2
section
/-! ### in a list, by data -/
end
section
end
end Lw
/-! SimX: comprehensions whose list is written. -/
namespace Lw
open PySem L2
section
end
end Lw
/-! ### calls without arguments -/
namespace Lw
open PySem L2
section
end
end Lw
/-! SimY: lists walked within an except suite. -/
namespace HotX
open PySem PySem.Spec PyProof.Rows
section
end
end HotX
namespace L2H
open PySem PySem.Spec PyProof.Rows L2 HotX
end L2H
namespace Lw
open PySem PySem.Spec PyProof.Rows L2 L2H HotX
section
end
end Lw
/-! SimZ: isinstance by a tuple of classes in a suite; count and index of lists; an object == a number. -/
namespace L2
open PySem PySem.Spec PyProof.Rows
section
end
end L2
namespace HN2
open PySem PySem.Spec PyProof.Rows PySem.SeqAt HN
section
end
end HN2
namespace Lw
open PySem L2
/-! ### a name that may not stand yet -/
def optM : Option D → M D
  | some d => pure d
  | none => stuck
theorem de_varO {X : Cx} {W : WX} {env : Env} {pos : Pos} (i : Nat) {x : Str} {o : Option D} (he : env[i]? = some o := by rfl) (hN : X.N[i]? = some x := by rfl) (hv : Vis X.env.scope x := by first | exact Or.inl rfl | exact Or.inr (Or.inl rfl) | exact Or.inr (Or.inr rfl)) (hd : (x == ("__debug__" : Str)) = false := by decide)
    (hcd : (x == ("__classdict__" : Str)) = false := by decide) : DE X W env (.Name x pos) (optM o) := by
  cases o with
  | none => exact ⟨fun pins s σ H Q I ⟨fr, F, m, ah, S, er, k⟩ => k.elim⟩
  | some d => exact de_var i he hN hv hd hcd
/-! ### isinstance(e, (A, B, ..)) -/
section
/-! ### count, index of lists of truths -/
/-! ### an object == a number -/
/-! ### x + y, a list that will be written -/
end
end Lw
/-! SimYp: a def that is called in a suite and told the error that the suite holds. -/
namespace L2H
open PySem PySem.Spec PyProof.Rows L2 HotX
section
end
end L2H
namespace Lw
open PySem L2 L2H
section
/-! ### such a def -/
end
end Lw
/-! SimYd: dicts of the module's own top (texts to numbers), read; upper. -/
namespace Lw
open PySem L2 PySem.Spec PyProof.Rows
def kval (kvs : List (Str × Int)) (z : Str) : Option Int := (kvs.find? fun p => decide (p.1 = z)).map (·.2)
theorem kval_val (z : Str) : ∀ kvs : List (Str × Int), valV (kvs.map fun p => ((Sum.inr p.1 : Key), V.int p.2)) (.inr z) = (kval kvs z).map V.int
  | [] => rfl
  | (y, i) :: r => by
    have ih := kval_val z r
    unfold valV kval at ih ⊢
    rw [List.map_cons, List.find?_cons, List.find?_cons]
    by_cases h : y = z
    · subst h
      simp
    · rw [decide_eq_false (show ¬(Sum.inr y : Key) = .inr z from fun e => h (Sum.inr.inj e)), decide_eq_false h]
      exact ih
/-- the name stands for a dict of texts to numbers -/
structure KdF (w : World) (K : Fg) (mg : Str → Option Value) (x : Str) (kvs : List (Str × Int)) : Prop where
  ok : ∃ a vs, mg x = some (.ref a) ∧ (a == sysModules) = false ∧ KV (kvs.map fun p => ((Sum.inr p.1 : Key), V.int p.2)) vs ∧ ∀ (P : Program) (h : Heap), K.In h → h.DictOf (mixKind P w) a vs
section
variable {X : Cx} {i : Expr} {p pos : Pos} {ti : TE} {x : Str} {kvs : List (Str × Int)}
theorem pe_kget (G : KdF X.w X.K X.mg x kvs) (hg : Gl X x) (hi : PE X i ti) (hs : NoSl i) (hdb : (x == ("__debug__" : Str)) = false := by decide) :
    PE X (.Subscript (.Name x p) i pos) (fun σ H Q => ti σ H fun y H1 => ∃ z j, y = .str z ∧ kval kvs z = some j ∧ Q (.int j) H1) := by
  obtain ⟨a, vs, hm, hd, rel, dk⟩ := G.ok
  refine ⟨fun pins s σ H Q I h => ?_⟩
  refine subD_of PySem.F.slot_dict_getitem.lookup hs (thn ((pe_glob hg hm (show RelV (.ref a) (.ref a) from rfl) hdb).run pins s σ H (fun v H' => v = .ref a ∧ H' = H) I ⟨rfl, rfl⟩) fun u s1 ⟨x', H1, I1, rx, ex, eH⟩ => ?_)
  subst ex eH
  obtain rfl : u = Value.ref a := rx
  refine thn (hi.run pins s1 σ H1 _ I1 h) fun iv s2 ⟨y, H2, I2, ry, z, j, ey, hv, q2⟩ => ?_
  have dd := dk X.prog s2.heap I2.kIn
  refine ⟨dd.typeIs, ?_⟩
  subst ey
  obtain ⟨w', hw, rw'⟩ := RelO.some_of (v := .int j) (o := valueAt vs (.inr z)) (by
    have r := rel.val (.inr z)
    rw [kval_val, hv] at r
    exact r)
  exact wpAny_getItem_of (kV_is (k := .inr z) ry) dd.mapOf hw ⟨_, H2, I2.tok _, rw', q2⟩
theorem pc_kin (G : KdF X.w X.K X.mg x kvs) (hg : Gl X x) (hi : PE X i ti) (hdb : (x == ("__debug__" : Str)) = false := by decide) :
    PC X .In i (.Name x p) (fun σ H Q => ti σ H fun y H1 => ∃ z, y = .str z ∧ Q (.bl (kval kvs z).isSome) H1) := by
  obtain ⟨a, vs, hm, hd, rel, dk⟩ := G.ok
  refine ⟨fun pins s σ H Q I h => ?_⟩
  refine thn (hi.run pins s σ H _ I h) fun iv s1 ⟨y, H1, I1, ry, z, ey, q1⟩ => thn ((pe_glob hg hm (show RelV (.ref a) (.ref a) from rfl) hdb).run pins s1 σ H1 (fun v H' => v = .ref a ∧ H' = H1) I1 ⟨rfl, rfl⟩) fun u s2 ⟨x', H2, I2, rx, ex, eH⟩ => ?_
  subst ex eH ey
  obtain rfl : u = Value.ref a := rx
  have dd := dk X.prog s2.heap I2.kIn
  refine wpAny_in_of (kV_is (k := .inr z) ry) hd dd.mapOf ?_
  have r := (rel.val (.inr z)).isSome_eq
  rw [kval_val, Option.isSome_map] at r
  rw [← r]
  exact ⟨.bl _, H2, I2.tok _, rfl, q1⟩
end
/-- the entries of such a dict -/
inductive EsOf (P : Params) : List DictEntry → List (Str × Int) → Prop
  | nil : EsOf P [] []
  | cons {z : Str} {t u : Tok} {i : Int} {es : List DictEntry} {kvs : List (Str × Int)} : EsOf P es kvs → EsOf P (⟨PyData.keyHash P z, .str z t, .int i u⟩ :: es) ((z, i) :: kvs)
theorem kdf_mk {w : World} {K : Fg} {h : Heap} {mg : Str → Option Value} {x : Str} {kvs : List (Str × Int)} {a : Addr} {es : Array DictEntry} {ep : Nat} (X : K.In h) (G : h.Ns mainGlobals mg)
    (q : PySem.W.nsIn K mainGlobals x = some (some (.ref a))) (l : K.lookup a = some { cls := .type "dict", data := .dict es ep }) (s : (a == sysModules) = false) (nd : (kvs.map fun p => p.1).Nodup) (e : EsOf w.params es.toList kvs) : KdF w K mg x kvs := by
  have vs0 : ∃ vs : List (Key × Value), KV (kvs.map fun p => ((Sum.inr p.1 : Key), V.int p.2)) vs ∧ ∀ P : Program, Pairs (mixKind P w) es.toList vs ∧ vs.map (·.1) = kvs.map (fun p => (Sum.inr p.1 : Key)) ∧ ∀ e ∈ es.toList, ∃ k : Key, (mixKind P w).is k e.key = true ∧ e.hash = (mixKind P w).hash k := by
    generalize es.toList = el at e
    clear l nd
    induction e with
    | nil => exact ⟨[], .nil, fun P => ⟨.nil, rfl, fun _ h => nomatch h⟩⟩
    | @cons z t u i es kvs _ ih =>
      obtain ⟨vs, h1, h2⟩ := ih
      refine ⟨(.inr z, .int i u) :: vs, .cons ⟨rfl, u, rfl⟩ h1, fun P => ⟨.cons (mixKind_str P w z t) rfl (h2 P).1, ?_, ?_⟩⟩
      · rw [List.map_cons, List.map_cons, (h2 P).2.1]
      · intro e he
        rcases List.mem_cons.mp he with rfl | he
        · exact ⟨.inr z, mixKind_str P w z t, rfl⟩
        · exact (h2 P).2.2 e he
  obtain ⟨vs, h1, h2⟩ := vs0
  refine ⟨a, vs, PySem.W.mg_of X G q, s, h1, fun P h' X' => ?_⟩
  obtain ⟨h3, h4, h5⟩ := h2 P
  refine ⟨_, es, ep, X' _ _ l, ⟨rfl, rfl, rfl⟩, rfl, fun e he => h5 e (Array.mem_toList_iff.mpr he), h3, ?_⟩
  rw [h4]
  refine List.pairwise_map.mpr ((List.pairwise_map.mp nd).imp fun hn he => hn (Sum.inr.inj he))
def kgetM (kvs : List (Str × Int)) (y : D) : M D := fun h => match y with
  | .str z => (match kval kvs z with
    | some j => .ok (.int j) h
    | none => .stuck)
  | _ => .stuck
def kinM (neg : Bool) (kvs : List (Str × Int)) (y : D) : M D := fun h => match y with
  | .str z => .ok (.bl (xor neg (kval kvs z).isSome)) h
  | _ => .stuck
section
variable {X : Cx} {W : WX} {env : Env} {p pos apos : Pos} {i o : Expr} {mi mo : M D} {x : Str} {kvs : List (Str × Int)}
theorem de_kget (G : KdF X.w X.K X.mg x kvs) (hi : DE X W env i mi) (hg : Gl X x := by rfl) (hs : NoSl i := by intro _ _; rfl) (hdb : (x == ("__debug__" : Str)) = false := by decide) :
    DE X W env (.Subscript (.Name x p) i pos) (do let y ← mi; kgetM kvs y) :=
  PE.from (pe_kget G hg hi hs hdb) fun σ H Q ⟨fr, F, m, ah, s, er, q⟩ => TK.step s er q fun F1 m1 ah1 d v H1 e1 s1 er1 r1 k1 => by
    unfold kgetM at k1
    cases d <;> try exact k1.elim
    rename_i z
    unfold Rep at r1
    cases hv : kval kvs z with
    | none =>
      simp only [hv] at k1
      exact k1.elim
    | some j =>
      simp only [hv] at k1
      exact ⟨z, j, r1, hv, TK.val k1 s1 Rep.int⟩
theorem kin_from {neg : Bool} : ∀ σ H Q, TC X.K X.mg W (Rep X.K) env (do let y ← mi; kinM neg kvs y) σ H Q →
    TC X.K X.mg W (Rep X.K) env mi σ H fun y H1 => ∃ z, y = .str z ∧ Q (.bl (xor neg (kval kvs z).isSome)) H1 := fun σ H Q ⟨fr, F, m, ah, s, er, q⟩ => TK.step s er q fun F1 m1 ah1 d v H1 e1 s1 er1 r1 k1 => by
    unfold kinM at k1
    cases d <;> try exact k1.elim
    rename_i z
    unfold Rep at r1
    exact ⟨z, r1, TK.val k1 s1 Rep.bl⟩
theorem de_kin (G : KdF X.w X.K X.mg x kvs) (hi : DE X W env i mi) (hg : Gl X x := by rfl) (hdb : (x == ("__debug__" : Str)) = false := by decide) (hm : behindInMarks .In (.Name x p) = false := by rfl) :
    DE X W env (.Compare i [.In] [.Name x p] pos) (do let y ← mi; kinM false kvs y) :=
  PE.from (pe_cmp (pc_kin G hg hi hdb) hm) fun σ H Q q => by
    have z := kin_from σ H Q q
    simp only [Bool.false_xor] at z
    exact z
end
end Lw
/-! SimYg: for over a list that lies on the heap; it shall stand at each turn. -/
namespace Lw
open PySem PySem.Spec PyProof PyProof.Rows L2
section
end
end Lw
/-! SimYx: texts taken apart; slices by steps; range of three; tuples of the module's top; isinstance of two. -/
namespace Lw
open PySem L2 PySem.Spec PyProof.Rows
section
variable {X : Cx} {W : WX} {env : Env} {p p1 p2 p3 pos apos : Pos}
theorem rep_strs {K : Fg} {F : Hp} {m : List Addr} : ∀ ys : List Str, RepL K F m (ys.map D.str) (ys.map V.str)
  | [] => RepL.nil
  | y :: ys => RepL.cons Rep.str (rep_strs ys)
/-! x.split(y), x.strip(y), x.rfind(y) -/
def splitM (x y : D) : M D := fun h => match x, y with
  | .str a, .str b => if (lenOk (a.length + 2) && !(b.length == 0)) = true then .ok (.lst ((Txt.split a b).map D.str)) h else .stuck
  | _, _ => .stuck
theorem de_split {o e : Expr} {mo me : M D} (ho : DE X W env o mo) (he : DE X W env e me) (hbase : attributeBase o "split" X.env (eval o X.env) = eval o X.env := by rfl)
    (hline : (apos.endLine == pos.line) = true := by rfl) (hs : starEach [e] X.env = [(false, eval e X.env)] := by rfl) :
    DE X W env (.Call (.Attribute o "split" apos) [e] [] pos) (do let x ← mo; let _ ← schk x; let y ← me; splitM x y) :=
  de_sm1 PySem.F.slot_str_split PySem.F.type_str_split mt_split (fun fr W σ F m ah H d e v w Q S r1 r2 k => by
    unfold splitM at k
    cases d <;> try exact k.elim
    cases e <;> try exact k.elim
    rename_i a b
    unfold Rep at r1 r2
    subst r1 r2
    by_cases hc : (lenOk (a.length + 2) && !(b.length == 0)) = true
    · simp only [hc, if_true] at k
      rw [Bool.and_eq_true] at hc
      exact ⟨a, b, rfl, rfl, by simpa using hc.2, of_decide_eq_true hc.1, fun p hp => TK.newL k S (rep_strs _) hp⟩
    · simp only [hc] at k
      exact k.elim) ho he hbase hline hs
/-! xs[lo::k] of a list -/
def stepD {α : Type} (xs : List α) (lo : Option Int) (k : Int) : List α := (sliceRange (sliceBounds lo none (some k) xs.length).1 (sliceBounds lo none (some k) xs.length).2.1 (sliceBounds lo none (some k) xs.length).2.2).filterMap (xs[·]?)
theorem stepD_le {α : Type} (xs : List α) (lo : Option Int) (k : Int) (hk : 0 < k) : (stepD xs lo k).length ≤ xs.length := by
  unfold stepD
  refine Nat.le_trans (List.length_filterMap_le _ _) (sliceRange_length_le _ _ _ _ (fun _ => ?_) fun h => absurd (show (sliceBounds lo none (some k) xs.length).2.2 > 0 from hk) h)
  unfold sliceBounds
  simp only [Option.getD_some, show k > 0 from hk, if_true]
  refine ⟨?_, Int.le_refl _⟩
  cases lo with
  | none => exact Int.le_refl _
  | some i => exact Int.le_max_left _ _
theorem RepL.pick {K : Fg} {F : Hp} {m : List Addr} {ds : List D} {vs : List V} (r : RepL K F m ds vs) : ∀ is : List Nat, RepL K F m (is.filterMap (ds[·]?)) (is.filterMap (vs[·]?))
  | [] => RepL.nil
  | i :: is => by
    rw [List.filterMap_cons, List.filterMap_cons]
    have ih := RepL.pick r is
    cases h : ds[i]? with
    | none =>
      have h2 : vs[i]? = none := by
        rw [List.getElem?_eq_none_iff] at h ⊢
        rw [RepL.length r]
        exact h
      rw [h2]
      exact ih
    | some d =>
      obtain ⟨v, h2, h3⟩ := RepL.get r h
      rw [h2]
      exact RepL.cons h3 ih
theorem RepL.step {K : Fg} {F : Hp} {m : List Addr} {ds : List D} {vs : List V} {lo : Option Int} {k : Int} (r : RepL K F m ds vs) : RepL K F m (stepD ds lo k) (stepD vs lo k) := by
  unfold stepD
  rw [RepL.length r]
  exact RepL.pick r _
theorem Vals.pick {xs : List V} {ys : List Value} (r : Vals xs ys) : ∀ is : List Nat, Vals (is.filterMap (xs[·]?)) (is.filterMap (ys[·]?))
  | [] => .nil
  | i :: is => by
    rw [List.filterMap_cons, List.filterMap_cons]
    have ih := Vals.pick r is
    have hl := Paired.length r
    have key : ∀ (i : Nat), (xs[i]? = none ∧ ys[i]? = none) ∨ ∃ x y, xs[i]? = some x ∧ ys[i]? = some y ∧ RelV x y := by
      clear ih hl
      induction r with
      | nil => intro i; left; simp
      | cons h t ih =>
        intro i
        cases i with
        | zero => right; exact ⟨_, _, rfl, rfl, h⟩
        | succ i => simpa using ih i
    rcases key i with ⟨h1, h2⟩ | ⟨x, y, h1, h2, h3⟩
    · rw [h1, h2]
      exact ih
    · rw [h1, h2]
      exact .cons h3 ih
def tStep (K : PySem.W.Frag) (k : Int) (te : TE) (tl : L2.TO) : TE := fun σ H Q => te σ H fun x H1 => tl σ H1 fun l H2 => ∃ a xs, x = .ref a ∧ SqL K H2 a xs ∧ ∀ p, H2 p = none → Q (.ref p) (upd H2 p (.lst (stepD xs l k)))
theorem pe_step {e : Expr} {lo : Option Expr} {te : TE} {tl : L2.TO} {j} {k : Int} (hk : 0 < k) (he : PE X e te) (hl : PO X lo tl) : PE X (.Subscript e (.Slice lo none (some (.Constant (.int k) j p1)) p3) pos) (tStep X.K k te tl) := by
  refine ⟨fun pins s σ H Q I h => ?_⟩
  refine Subscript_ (thn (he.run pins s σ H _ I h) fun v s1 ⟨x, H1, I1, r1, q1⟩ => ?_)
  have hst : PO X (some (.Constant (.int k) j p1)) (tPart (tC (.int k))) := po_some pe_int
  refine wpAny_Slice (thn (hl.run pins s1 σ H1 _ I1 q1) fun vl s2 ⟨l, H2, I2, pl, q2⟩ => ?_)
  refine thn (po_none.run pins s2 σ H2 (fun o H3 => o = none ∧ H3 = H2) I2 ⟨rfl, rfl⟩) fun vu s3 ⟨u, H3, I3, pu, eu, e3⟩ => ?_
  subst eu e3
  refine thn (hst.run pins s3 σ H3 (fun o H4 => o = some k ∧ H4 = H3) I3 ⟨k, rfl, rfl, rfl⟩) fun vs s4 ⟨o, H4, I4, ps, eo, e4⟩ => ?_
  subst eo e4
  obtain ⟨a, xs, ex, hx, q⟩ := q2
  subst ex
  cases r1
  have I5 : Inv X pins σ H4 { s4 with heap := s4.heap.push { cls := .type "slice", data := .fields #[vl, vu, vs] } } := I4.kept (t' := s4.toks) fun b ob q => Heap.get?_push_of_some _ q
  obtain ⟨its, r, ht, hz⟩ := I5.list hx
  have hlen := r.length
  show wpAny (model X.prog X.w) X.A (subscriptTail e (.Slice lo none (some (.Constant (.int k) j p1)) p3) (.ref a) (.ref s4.heap.objs.size)) (EP X pins σ Q) X.xe { s4 with heap := s4.heap.push { cls := .type "slice", data := .fields #[vl, vu, vs] } }
  refine tail_any (ops := [.ref a, .ref s4.heap.objs.size]) ht.isList.typeIs (PySem.slot_list_getitem.lookup) ?_ (by with_unfolding_all rfl)
  refine wpAny_getItem_list_slice ht.isList (Heap.IsSliceOf.new _ vl vu vs) pl pu ps (by simp; omega) ?_ (by rw [List.size_toArray]; omega)
  have e : slicePick its.toArray l none (some k) = (stepD its l k).toArray := by
    unfold slicePick stepD
    simp
  rw [e]
  refine ⟨.ref _, _, I5.laid (t' := s4.toks) (o := .lst (stepD xs l k)) (fun b ob q => Heap.get?_push_of_some _ q) (Nat.le_refl _) ?_, rfl, q _ (I5.hok.fresh (Nat.le_refl _))⟩
  refine ⟨Nat.le_trans (stepD_le xs l k hk) hz, _, 0, ?_, Heap.get?_push_size _ rfl⟩
  show Vals (stepD xs l k) (stepD its l k)
  unfold stepD
  rw [hlen]
  exact Vals.pick r _
def stepM (k : Int) (x : D) (lo : Option Int) : M D := fun h => match lstOf h x with
  | some xs => .ok (.lst (stepD xs lo k)) h
  | none => .stuck
theorem de_step {e : Expr} {lo : Option Expr} {me : M D} {ml : M (Option Int)} {j} {k : Int} (hk : (0 < k) := by decide) (he : DE X W env e me) (hl : DO X W env lo ml) : DE X W env (.Subscript e (.Slice lo none (some (.Constant (.int k) j p1)) p3) pos) (do let x ← me; let l ← ml; stepM k x l) :=
  PE.from (pe_step hk he hl) fun σ H Q ⟨fr, F, m, ah, s, er, q⟩ => TK.step s er q fun F1 m1 ah1 d v H1 e1 s1 er1 r1 k1 => TK.step s1 er1 k1 fun F2 m2 ah2 d2 v2 H2 e2 s2 er2 r2 k2 => by
    cases r2
    unfold stepM at k2
    cases hx : lstOf ah2 d with
    | none =>
      simp only [hx] at k2
      exact k2.elim
    | some xs =>
      simp only [hx] at k2
      obtain ⟨a, us, h1, h2, h3⟩ := lst_of s2 (Rep.ext e2 _ _ r1) hx
      exact ⟨a, us, h1, h2, fun p hp => TK.newL k2 s2 (RepL.step h3) hp⟩
/-! range(a, b, c) -/
def rangeC (lo c : Int) (n : Nat) : List D := (List.range n).map fun k => D.int (lo + (k : Nat) * c)
theorem yl_rangeC {K : Fg} {mg : Str → Option Value} {F : Hp} {m : List Addr} (lo c : Int) (n : Nat) : Yl K mg F m (rangeC lo c n) (Itc lo c n) where
  go := fun i fr F1 m1 ah1 H1 e s hi => by
    unfold rangeC at hi
    rw [List.length_map, List.length_range] at hi
    exact hi
  stop := fun fr F1 m1 ah1 H1 e s => by
    unfold rangeC
    rw [List.length_map, List.length_range]
    exact Nat.le_refl _
  yld := fun i fr F1 m1 ah1 H1 x H2 e s hi y => by
    obtain ⟨e2, y⟩ := y
    subst e2 y
    unfold rangeC at hi
    rw [List.length_map, List.length_range] at hi
    exact ⟨F1, .int (lo + (i : Nat) * c), by unfold rangeC; rw [List.getElem?_map, List.getElem?_range hi]; rfl, Ext.refl, s, Rep.int⟩
def rng3M : List D → M (List D)
  | [.int i, .int j, .int c] => if (!decide (c = 0) && decide (c.natAbs < 1073741824) && (Builtin.Range.small i j c && decide (0 ≤ Builtin.Range.rangeSize i j c))) = true then pure (rangeC i c (Builtin.Range.rangeSize i j c).toNat) else stuck
  | _ => stuck
theorem di_range3 {tg a b c : Expr} {ma mb mc : M D} (hm : X.mg "range" = none) (ha : DE X W env a ma) (hb : DE X W env b mb) (hc : DE X W env c mc) (hg : Gl X "range" := by rfl) (hs : starEach [a, b, c] X.env = (false, eval a X.env) :: starEach [b, c] X.env := by rfl)
    (hs1 : starEach [b, c] X.env = (false, eval b X.env) :: starEach [c] X.env := by rfl) (hs2 : starEach [c] X.env = [(false, eval c X.env)] := by rfl) (hpl : (backTo pos (starEach [b, c] X.env)).any (·.1) = false := by rfl) :
    DI X W env tg (.Call (.Name "range" p) [a, b, c] [] pos) (do let x ← ma; let y ← mb; let z ← mc; rng3M [x, y, z]) :=
  PI.from (pi_range3 (pos := pos) (p := p) hg hm (da_cons ha (da_two hb hc hs1 hs2) hs) hs hpl) fun σ H Q ⟨fr, F, m, ah, s, er, k⟩ => by
    have e : ((do let x ← ma; let xs ← (do let x ← mb; let y ← mc; pure [x, y]); pure (x :: xs)) >>= rng3M) = (do let x ← ma; let y ← mb; let z ← mc; rng3M [x, y, z]) := by
      rw [bind_assoc]
      congr 1
      funext x
      rw [bind_assoc, bind_assoc]
      congr 1
      funext y
      rw [bind_assoc]
      rfl
    have k' : TK X.K X.mg fr W (Yl X.K X.mg) σ F m (((do let x ← ma; let xs ← (do let x ← mb; let y ← mc; pure [x, y]); pure (x :: xs)) >>= rng3M) ah) (fun J H' => Q J H') := by
      rw [e]
      exact k
    refine TK.step (R := RepL X.K) s er k' fun F1 m1 ah1 d v H1 e1 s1 er1 r1 k1 => ?_
    unfold rng3M at k1
    split at k1
    · rename_i i j c
      by_cases h : (!decide (c = 0) && decide (c.natAbs < 1073741824) && (Builtin.Range.small i j c && decide (0 ≤ Builtin.Range.rangeSize i j c))) = true
      · rw [if_pos h] at k1
        unfold RepL at r1
        obtain ⟨v1, u1, rfl, q1, r1⟩ := r1
        obtain ⟨v2, v3, rfl, q2, q3⟩ := RepL.two r1
        unfold Rep at q1 q2 q3
        subst q1 q2 q3
        rw [Bool.and_eq_true, Bool.and_eq_true, Bool.and_eq_true] at h
        refine ⟨i, j, c, _, rfl, ⟨by simpa using h.1.1, of_decide_eq_true h.1.2, h.2.1, (Int.toNat_of_nonneg (of_decide_eq_true h.2.2)).symm⟩, k1 F1 m1 _ H1 Ext.refl s1 (yl_rangeC i c _)⟩
      · rw [if_neg h] at k1
        exact (TK.stuck_of k1).elim
    · exact (TK.stuck_of k1).elim
end
/-! a tuple of texts of the module's top -/
theorem gv_tups {K : Fg} {h : Heap} {mg : Str → Option Value} {x : Str} {zs : List Str} {a : Addr} {its : Array Value} {n : Nat} (X : K.In h) (G : h.Ns mainGlobals mg) (q : PySem.W.nsIn K mainGlobals x = some (some (.ref a)))
    (l : K.lookup a = some { cls := .type "tuple", data := .seq its n }) (hl : its.size ≤ sizeLine) (hv : Vals (zs.map V.str) its.toList) : GvF K mg x (.tup (zs.map D.str)) :=
  ⟨.ref a, .ref a, PySem.W.mg_of X G q, rfl, fun F m => by
    unfold Rep
    exact ⟨a, zs.map V.str, rfl, .inr ⟨_, its, n, l, rfl, rfl, hl, hv⟩, rep_strs zs⟩⟩
/-! isinstance(x, (S, T)) -/
def isi2M (S T : String) (d : D) : M D := fun h => match tyD h d with
  | some a => .ok (.bl (isiB a S || isiB a T)) h
  | none => .stuck
section
variable {X : Cx} {W : WX} {env : Env} {p p2 p3 p4 pos : Pos}
theorem de_isi2 {S' T' : Str} (S T : String) {e : Expr} {me : M D} {j} (hm : X.mg "isinstance" = none) (hmS : X.mg S' = none) (hmT : X.mg T' = none) (hvS : bootBuiltins S' = some (.type S)) (hvT : bootBuiltins T' = some (.type T))
    (hkS : ∀ a ∈ tyNames, kitB a S = some (isiB a S)) (hkT : ∀ a ∈ tyNames, kitB a T = some (isiB a T)) (ha : DE X W env e me)
    (hg : Gl X "isinstance" := by rfl) (hgS : Gl X S' := by rfl) (hgT : Gl X T' := by rfl) (hs : starEach [e, .Tuple [.Name S' p2, .Name T' p3] j p4] X.env = (false, eval e X.env) :: starEach [.Tuple [.Name S' p2, .Name T' p3] j p4] X.env := by rfl)
    (hs2 : starEach [.Tuple [.Name S' p2, .Name T' p3] j p4] X.env = (false, eval (.Tuple [.Name S' p2, .Name T' p3] j p4) X.env) :: starEach [] X.env := by rfl)
    (hs3 : starEach [.Name S' p2, .Name T' p3] X.env = (false, eval (.Name S' p2) X.env) :: starEach [.Name T' p3] X.env := by rfl) (hs4 : starEach [.Name T' p3] X.env = (false, eval (.Name T' p3) X.env) :: starEach [] X.env := by rfl)
    (hpl : (backTo pos (starEach [.Tuple [.Name S' p2, .Name T' p3] j p4] X.env)).any (·.1) = false := by rfl) (hnS : S' ≠ "__name__" := by decide) (hnT : T' ≠ "__name__" := by decide) (hdbS : (S' == ("__debug__" : Str)) = false := by decide) (hdbT : (T' == ("__debug__" : Str)) = false := by decide) :
    DE X W env (.Call (.Name "isinstance" p) [e, .Tuple [.Name S' p2, .Name T' p3] j p4] [] pos) (do let x ← me; isi2M S T x) :=
  PE.from (pe_callB call_isiT hg hm (by decide +kernel) (pa_cons ha (pa_cons (pe_tup (pa_cons (pe_bltn (v := .ty S) hgS hmS hvS rfl hnS hdbS) (pa_cons (pe_bltn (v := .ty T) hgT hmT hvT rfl hnT hdbT) pa_nil hs4) hs3)) pa_nil hs2) hs) (by decide) (by decide) hs hpl) fun σ H Q ⟨fr, F, m, ah, s, er, k⟩ => TK.step s er k fun F1 m1 ah1 d v H1 e1 s1 er1 r1 k1 => by
    unfold isi2M at k1
    cases ht : tyD ah1 d with
    | none =>
      simp only [ht] at k1
      exact k1.elim
    | some a =>
      simp only [ht] at k1
      refine ⟨(show 2 ≤ sizeLine by decide), fun q hq => ?_⟩
      obtain ⟨s2, e2⟩ := s1.frozen (o := .tup [.ty S, .ty T]) hq
      obtain ⟨h1, h2⟩ := ty_of s2 (Rep.ext e2 _ _ r1) ht
      refine ⟨v, q, [.ty S, .ty T], .type a, [.type S, .type T], isiB a S || isiB a T, rfl, upd_same, .cons (.ty S) (.cons (.ty T) .nil), h1, kitAny_cons (kit_ty (hkS a h2)) (fun n => ?_) (fun y => by rw [y]; rfl), k1 _ _ _ _ e2 s2 Rep.bl⟩
      rw [n, Bool.false_or]
      exact kitAny_cons (kit_ty (hkT a h2)) (fun n => by rw [n]; rfl) fun y => y
end
/-- nothing is said of it -/
theorem ds_stuck {X : Cx} {W : WX} {τ β : Type} {ex env : Env} {mk : τ → Env} {lp : β → Env} {sts : List Stmt} : DS X W ex env mk lp sts (stuck : M (Out τ β)) := ⟨fun pins s σ H D I ⟨fr, F, m, ah, S, er, k⟩ => k.elim⟩
end Lw
/-! SetQ: what a plain computation ends in, wished for: Wp. -/
namespace Lw
open PySem L2
def Wp {α : Type} (r : Res α) (P : α → AH → Prop) (E : Str → AH → Prop) : Prop := match r with
  | .ok a h => P a h
  | .exc x h => E x h
  | .stuck => False
/-- no error -/
abbrev NoE : Str → AH → Prop := fun _ _ => False
section
variable {α β γ τ τ' : Type} {h : AH} {P : α → AH → Prop} {Q : β → AH → Prop} {E : Str → AH → Prop}
theorem Wp.mono {r : Res α} {P' : α → AH → Prop} {E' : Str → AH → Prop} (w : Wp r P E) (hp : ∀ a h, P a h → P' a h) (he : ∀ x h, E x h → E' x h) : Wp r P' E' := by
  cases r with
  | ok a h => exact hp a h w
  | exc x h => exact he x h w
  | stuck => exact w
theorem Wp.imp {r : Res α} {P' : α → AH → Prop} (w : Wp r P E) (hp : ∀ a h, P a h → P' a h) : Wp r P' E := w.mono hp fun _ _ z => z
theorem Wp.get {r : Res α} (w : Wp r P NoE) : ∃ a h, r = .ok a h ∧ P a h := by
  cases r with
  | ok a h => exact ⟨a, h, rfl, w⟩
  | exc x h => exact w.elim
  | stuck => exact w.elim
theorem Wp.of_eq {r : Res α} {a : α} {h' : AH} (e : r = .ok a h') (p : P a h') : Wp r P E := by
  rw [e]
  exact p
theorem w_ok {a : α} : Wp (.ok a h) P E ↔ P a h := Iff.rfl
theorem w_bind {x : M β} {f : β → M α} : Wp ((x >>= f) h) P E ↔ Wp (x h) (fun a h' => Wp (f a h') P E) E := by
  rw [bind_def]
  cases x h <;> exact Iff.rfl
theorem w_pure {a : α} : Wp ((pure a : M α) h) P E ↔ P a h := Iff.rfl
theorem w_throw {x : Str} : Wp ((throwM x : M α) h) P E ↔ E x h := Iff.rfl
theorem w_ite {c : Bool} {a b : M α} : Wp ((if c = true then a else b) h) P E ↔ if c = true then Wp (a h) P E else Wp (b h) P E := by
  cases c <;> exact Iff.rfl
theorem w_iteP {c : Prop} [Decidable c] {a b : M α} : Wp ((if c then a else b) h) P E ↔ if c then Wp (a h) P E else Wp (b h) P E := by
  by_cases q : c
  · rw [if_pos q, if_pos q]
  · rw [if_neg q, if_neg q]
def oK (k : τ' → M (Out τ β)) (P : Out τ β → AH → Prop) (E : Str → AH → Prop) : Out τ' β → AH → Prop := fun o h => match o with
  | .nx t => Wp (k t h) P E
  | .ret d => P (.ret d) h
  | .bk b => P (.bk b) h
  | .ct b => P (.ct b) h
section
variable {k : τ' → M (Out τ β)} {O : Out τ β → AH → Prop}
theorem w_obind {x : M (Out τ' β)} : Wp (obind x k h) O E ↔ Wp (x h) (oK k O E) E := by
  show Wp (ores k (x h)) O E ↔ _
  cases x h with
  | ok o h' => cases o <;> exact Iff.rfl
  | exc _ _ => exact Iff.rfl
  | stuck => exact Iff.rfl
theorem oK_nx {t : τ'} : oK k O E (.nx t) h ↔ Wp (k t h) O E := Iff.rfl
theorem oK_ret {d : D} : oK k O E (.ret d) h ↔ O (.ret d) h := Iff.rfl
theorem oK_bk {d : β} : oK k O E (.bk d) h ↔ O (.bk d) h := Iff.rfl
theorem oK_ct {d : β} : oK k O E (.ct d) h ↔ O (.ct d) h := Iff.rfl
end
def dK (P : D → AH → Prop) : Out τ β → AH → Prop := fun o h => match o with
  | .nx _ => P .non h
  | .ret d => P d h
  | _ => False
section
variable {P : D → AH → Prop}
theorem w_def {x : M (Out τ β)} : Wp (defM x h) P E ↔ Wp (x h) (dK P) E := by
  show Wp (dres (x h)) P E ↔ _
  cases x h with
  | ok o h' => cases o <;> exact Iff.rfl
  | exc _ _ => exact Iff.rfl
  | stuck => exact Iff.rfl
theorem dK_nx {t : τ} : (dK P : Out τ β → AH → Prop) (.nx t) h ↔ P .non h := Iff.rfl
theorem dK_ret {d : D} : (dK P : Out τ β → AH → Prop) (.ret d) h ↔ P d h := Iff.rfl
end
def lK (k : τ → M (Out τ β)) (P : Out τ β → AH → Prop) (E : Str → AH → Prop) : Out τ τ → AH → Prop := fun o h => match o with
  | .nx t => Wp (k t h) P E
  | .ct t => Wp (k t h) P E
  | .bk t => P (.nx t) h
  | .ret d => P (.ret d) h
section
variable {k : τ → M (Out τ β)} {O : Out τ β → AH → Prop}
theorem w_lbind {x : M (Out τ τ)} : Wp (lbind x k h) O E ↔ Wp (x h) (lK k O E) E := by
  show Wp (lres k (x h)) O E ↔ _
  cases x h with
  | ok o h' => cases o <;> exact Iff.rfl
  | exc _ _ => exact Iff.rfl
  | stuck => exact Iff.rfl
theorem lK_nx {t : τ} : lK k O E (.nx t) h ↔ Wp (k t h) O E := Iff.rfl
theorem lK_ct {t : τ} : lK k O E (.ct t) h ↔ Wp (k t h) O E := Iff.rfl
theorem lK_bk {t : τ} : lK k O E (.bk t) h ↔ O (.nx t) h := Iff.rfl
theorem lK_ret {d : D} : lK k O E (.ret d) h ↔ O (.ret d) h := Iff.rfl
theorem w_for0 {t : τ} {f : D → τ → M (Out τ τ)} : Wp ((forM [] t f : M (Out τ β)) h) O E ↔ O (.nx t) h := Iff.rfl
theorem w_for1 {x : D} {r : List D} {t : τ} {f : D → τ → M (Out τ τ)} : Wp ((forM (x :: r) t f : M (Out τ β)) h) O E ↔ Wp (f x t h) (lK (fun t' => forM r t' f) O E) E := w_lbind
/-- what a loop's turn ends in -/
def tK (N : τ → AH → Prop) (O : Out τ β → AH → Prop) : Out τ τ → AH → Prop := fun o h => match o with
  | .nx t => N t h
  | .ct t => N t h
  | .bk t => O (.nx t) h
  | .ret d => O (.ret d) h
theorem tK_nx {N : τ → AH → Prop} {t : τ} : tK N O (.nx t) h ↔ N t h := Iff.rfl
theorem tK_ct {N : τ → AH → Prop} {t : τ} : tK N O (.ct t) h ↔ N t h := Iff.rfl
theorem tK_bk {N : τ → AH → Prop} {t : τ} : tK N O (.bk t) h ↔ O (.nx t) h := Iff.rfl
theorem tK_ret {N : τ → AH → Prop} {d : D} : tK N O (.ret d) h ↔ O (.ret d) h := Iff.rfl
theorem lK_of {N : τ → AH → Prop} {o : Out τ τ} {h : AH} (q : tK N O o h) (n : ∀ t h, N t h → Wp (k t h) O E) : lK k O E o h := by
  cases o with
  | nx t => exact n t h q
  | ct t => exact n t h q
  | bk t => exact q
  | ret d => exact q
/-- a loop by what stays true: I k t h ahead of item k -/
theorem w_for_at {f : D → τ → M (Out τ τ)} (I : Nat → τ → AH → Prop) {xs : List D} (hs : ∀ (k : Nat) x t h, xs[k]? = some x → I k t h → Wp (f x t h) (tK (I (k + 1)) O) E) (he : ∀ t h, I xs.length t h → O (.nx t) h) :
    ∀ (r : List D) (n : Nat) (t : τ) (h : AH), xs.drop n = r → n ≤ xs.length → I n t h → Wp ((forM r t f : M (Out τ β)) h) O E
  | [], n, t, h, e, l, i => by
    have : n = xs.length := by
      have z := congrArg List.length e
      rw [List.length_drop, List.length_nil] at z
      omega
    subst this
    exact he t h i
  | x :: r, n, t, h, e, l, i => by
    have hx : xs[n]? = some x := by
      have z : (xs.drop n)[0]? = some x := by rw [e]; rfl
      rw [List.getElem?_drop] at z
      simpa using z
    have hl := (List.getElem?_eq_some_iff.mp hx).1
    refine w_for1.mpr ((hs n x t h hx i).imp fun o h' q => lK_of q fun t' h' q' => w_for_at I hs he r (n + 1) t' h' ?_ (by omega) q')
    rw [← List.drop_drop, e]
    rfl
theorem w_for {f : D → τ → M (Out τ τ)} (I : Nat → τ → AH → Prop) {xs : List D} {t : τ} (h0 : I 0 t h) (hs : ∀ (k : Nat) x t h, xs[k]? = some x → I k t h → Wp (f x t h) (tK (I (k + 1)) O) E) (he : ∀ t h, I xs.length t h → O (.nx t) h) :
    Wp ((forM xs t f : M (Out τ β)) h) O E := w_for_at I hs he xs 0 t h rfl (Nat.zero_le _) h0
end
theorem w_lift {a : α} : Wp ((liftO (some a) : M α) h) P E ↔ P a h := Iff.rfl
theorem w_noex {x : M α} : Wp (noexM x h) P E ↔ Wp (x h) P NoE := by
  show Wp (nores (x h)) P E ↔ _
  cases x h <;> exact Iff.rfl
theorem w_pcall {P : D → AH → Prop} {g : List D → M D} {ds : List D} : Wp (pcallM g ds h) P E ↔ noRefs ds = true ∧ Wp (g ds []) (fun d _ => noRef d = true ∧ P d h) (fun x _ => E x h) := by
  unfold pcallM
  by_cases n : noRefs ds = true
  · simp only [n, if_true, true_and]
    cases g ds [] with
    | ok d h' =>
      by_cases m : noRef d = true
      · simp only [m, if_true]
        exact ⟨fun z => ⟨m, z⟩, fun z => z.2⟩
      · simp only [m]
        exact ⟨fun z => z.elim, fun z => absurd z.1 m⟩
    | exc x h' => exact Iff.rfl
    | stuck => exact Iff.rfl
  · simp only [n]
    exact ⟨fun z => z.elim, fun z => nomatch z.1⟩
/-! comprehensions -/
theorem w_comp {f : D → M (List D)} {P : List D → AH → Prop} (I : Nat → List D → AH → Prop) {xs : List D} (hs : ∀ (k : Nat) x acc h, xs[k]? = some x → I k acc h → Wp (f x h) (fun ys h' => I (k + 1) (acc ++ ys) h') E) :
    ∀ (r : List D) (n : Nat) (acc : List D) (h : AH), xs.drop n = r → n ≤ xs.length → I n acc h → (∀ ys h', I xs.length (acc ++ ys) h' → P ys h') → Wp (compM r f h) P E
  | [], n, acc, h, e, l, i, he => by
    have : n = xs.length := by
      have z := congrArg List.length e
      rw [List.length_drop, List.length_nil] at z
      omega
    subst this
    exact he [] h (by rw [List.append_nil]; exact i)
  | x :: r, n, acc, h, e, l, i, he => by
    have hx : xs[n]? = some x := by
      have z : (xs.drop n)[0]? = some x := by rw [e]; rfl
      rw [List.getElem?_drop] at z
      simpa using z
    have hl := (List.getElem?_eq_some_iff.mp hx).1
    show Wp ((f x >>= fun ys => compM r f >>= fun zs => pure (ys ++ zs)) h) P E
    rw [w_bind]
    refine (hs n x acc h hx i).imp fun ys h' q => ?_
    rw [w_bind]
    exact w_comp (P := fun zs h' => P (ys ++ zs) h') I hs r (n + 1) (acc ++ ys) h' (by rw [← List.drop_drop, e]; rfl) (by omega) q fun zs h2 z => he (ys ++ zs) h2 (by rw [← List.append_assoc]; exact z)
theorem w_lc {f : D → M (List D)} {P : D → AH → Prop} (I : Nat → List D → AH → Prop) {xs : List D} (l : xs.length ≤ 1000000) (h0 : I 0 [] h) (hs : ∀ (k : Nat) x acc h, xs[k]? = some x → I k acc h → Wp (f x h) (fun ys h' => I (k + 1) (acc ++ ys) h') NoE)
    (he : ∀ ys h', I xs.length ys h' → P (.lst ys) h') : Wp (lcM xs f h) P E := by
  unfold lcM
  rw [if_pos (show lenOk xs.length = true from decide_eq_true (Nat.le_trans l (by decide))), w_bind, w_noex]
  exact w_comp I hs xs 0 [] h rfl (Nat.zero_le _) h0 fun ys h' q => he ys h' q
/-- each item by itself, the heap stays -/
theorem w_lc_map {f : D → M (List D)} {P : D → AH → Prop} (g : D → List D) {xs : List D} (l : xs.length ≤ 1000000) (hs : ∀ x ∈ xs, f x h = .ok (g x) h) (he : P (.lst (xs.map g).flatten) h) : Wp (lcM xs f h) P E :=
  Wp.of_eq (lcM_run g l hs) he
/-! locked dicts -/
end
/-! ### operations -/
section
variable {h : AH} {E : Str → AH → Prop} {P : D → AH → Prop} {i j : Int} {n : Nat} {xs ys : List D} {x y z : D}
theorem w_add : Wp (addM (.int i) (.int j) h) P E ↔ P (.int (i + j)) h := Iff.rfl
theorem w_sub : Wp (subM (.int i) (.int j) h) P E ↔ P (.int (i - j)) h := Iff.rfl
theorem w_neg : Wp (negM (.int i) h) P E ↔ P (.int (-i)) h := Iff.rfl
theorem w_lt : Wp (ltM (.int i) (.int j) h) P E ↔ P (.bl (decide (i < j))) h := Iff.rfl
theorem w_le : Wp (leM (.int i) (.int j) h) P E ↔ P (.bl (decide (i ≤ j))) h := Iff.rfl
theorem w_gt : Wp (gtM (.int i) (.int j) h) P E ↔ P (.bl (decide (j < i))) h := Iff.rfl
theorem w_ge : Wp (geM (.int i) (.int j) h) P E ↔ P (.bl (decide (j ≤ i))) h := Iff.rfl
theorem w_max : Wp (maxM (.int i) (.int j) h) P E ↔ P (.int (max i j)) h := by rw [maxM_int] <;> exact Iff.rfl
theorem w_min : Wp (minM (.int i) (.int j) h) P E ↔ P (.int (min i j)) h := by rw [minM_int] <;> exact Iff.rfl
theorem w_eqi : Wp (eqM (.int i) (.int j) h) P E ↔ P (.bl (decide (i = j))) h := by rw [eqM_int] <;> exact Iff.rfl
theorem w_nei : Wp (neM (.int i) (.int j) h) P E ↔ P (.bl (decide (i ≠ j))) h := by rw [neM_int] <;> exact Iff.rfl
theorem w_eqs {a b : Str} : Wp (eqM (.str a) (.str b) h) P E ↔ P (.bl (decide (a = b))) h := Iff.rfl
theorem w_nes {a b : Str} : Wp (neM (.str a) (.str b) h) P E ↔ P (.bl (!decide (a = b))) h := Iff.rfl
theorem w_eqn (e : lstOf h x = some xs) : Wp (eqM x (.lst []) h) P E ↔ P (.bl xs.isEmpty) h := by rw [eqM_nil e] <;> exact Iff.rfl
theorem w_nen (e : lstOf h x = some xs) : Wp (neM x (.lst []) h) P E ↔ P (.bl (!xs.isEmpty)) h := by rw [neM_nil e] <;> exact Iff.rfl
theorem w_mul (c : i.natAbs.log2 + j.natAbs.log2 < 1000000) : Wp (mulM (.int i) (.int j) h) P E ↔ P (.int (i * j)) h := by rw [mulM_int c] <;> exact Iff.rfl
theorem w_fdiv (c : 0 < j) (c2 : j.natAbs.log2 < 9000) : Wp (fdivM (.int i) (.int j) h) P E ↔ P (.int (i / j)) h := by rw [fdivM_int c c2] <;> exact Iff.rfl
theorem w_mod (c : 0 < j) : Wp (modM (.int i) (.int j) h) P E ↔ P (.int (i % j)) h := by rw [modM_int c] <;> exact Iff.rfl
theorem w_pow (c : 0 ≤ j ∧ j ≤ 1000000 ∧ i.natAbs < 2 ^ 64) : Wp (powM (.int i) (.int j) h) P E ↔ P (.int (i ^ j.toNat)) h := by rw [powM_int c] <;> exact Iff.rfl
theorem w_asB {b : Bool} {P : Bool → AH → Prop} : Wp (asB (.bl b) h) P E ↔ P b h := Iff.rfl
theorem w_asI {P : Option Int → AH → Prop} : Wp (asI (.int i) h) P E ↔ P (some i) h := Iff.rfl
theorem w_not {b : Bool} : Wp (notV (.bl b) h) P E ↔ P (.bl (!b)) h := Iff.rfl
theorem w_tru {b : Bool} {P : Bool → AH → Prop} : Wp (truM (.bl b) h) P E ↔ P b h := Iff.rfl
theorem w_and {b : Bool} {m : M D} : Wp (andV (.bl b) m h) P E ↔ if b = true then Wp (m h) P E else P (.bl false) h := by cases b <;> exact Iff.rfl
theorem w_or {b : Bool} {m : M D} : Wp (orV (.bl b) m h) P E ↔ if b = true then P (.bl true) h else Wp (m h) P E := by cases b <;> exact Iff.rfl
theorem w_chlt {b : Bool} {f g : D → D → M D} {m : M D} (e : f x y h = .ok (.bl b) h) : Wp (chainM f g x y m h) P E ↔ if b = true then Wp (m h) (fun z h' => Wp (g y z h') P E) E else P (.bl false) h := by
  rw [chainM_lt e]
  cases b with
  | true =>
    simp only [if_true]
    cases m h <;> exact Iff.rfl
  | false => exact Iff.rfl
theorem w_tup (l : xs.length ≤ 1000000) : Wp (tupM xs h) P E ↔ P (.tup xs) h := by rw [tupM_run l] <;> exact Iff.rfl
theorem w_lst (l : xs.length ≤ 1000000) : Wp (lstM xs h) P E ↔ P (.lst xs) h := by rw [lstM_run l] <;> exact Iff.rfl
theorem w_lstH (l : xs.length ≤ 1000000) : Wp (lstH xs h) P E ↔ P (.ref h.length) (h ++ [.lst xs]) := by rw [lstH_run l] <;> exact Iff.rfl
theorem w_tup0 : Wp (tupM [] h) P E ↔ P (.tup []) h := w_tup (Nat.le_of_ble_eq_true rfl)
theorem w_lst0 : Wp (lstM [] h) P E ↔ P (.lst []) h := w_lst (Nat.le_of_ble_eq_true rfl)
theorem w_lsH0 : Wp (lstH [] h) P E ↔ P (.ref h.length) (h ++ [.lst []]) := w_lstH (Nat.le_of_ble_eq_true rfl)
theorem w_tup1 {x0 : D} : Wp (tupM [x0] h) P E ↔ P (.tup [x0]) h := w_tup (Nat.le_of_ble_eq_true rfl)
theorem w_lst1 {x0 : D} : Wp (lstM [x0] h) P E ↔ P (.lst [x0]) h := w_lst (Nat.le_of_ble_eq_true rfl)
theorem w_lsH1 {x0 : D} : Wp (lstH [x0] h) P E ↔ P (.ref h.length) (h ++ [.lst [x0]]) := w_lstH (Nat.le_of_ble_eq_true rfl)
theorem w_tup2 {x0 x1 : D} : Wp (tupM [x0, x1] h) P E ↔ P (.tup [x0, x1]) h := w_tup (Nat.le_of_ble_eq_true rfl)
theorem w_lst2 {x0 x1 : D} : Wp (lstM [x0, x1] h) P E ↔ P (.lst [x0, x1]) h := w_lst (Nat.le_of_ble_eq_true rfl)
theorem w_lsH2 {x0 x1 : D} : Wp (lstH [x0, x1] h) P E ↔ P (.ref h.length) (h ++ [.lst [x0, x1]]) := w_lstH (Nat.le_of_ble_eq_true rfl)
theorem w_tup3 {x0 x1 x2 : D} : Wp (tupM [x0, x1, x2] h) P E ↔ P (.tup [x0, x1, x2]) h := w_tup (Nat.le_of_ble_eq_true rfl)
theorem w_lst3 {x0 x1 x2 : D} : Wp (lstM [x0, x1, x2] h) P E ↔ P (.lst [x0, x1, x2]) h := w_lst (Nat.le_of_ble_eq_true rfl)
theorem w_lsH3 {x0 x1 x2 : D} : Wp (lstH [x0, x1, x2] h) P E ↔ P (.ref h.length) (h ++ [.lst [x0, x1, x2]]) := w_lstH (Nat.le_of_ble_eq_true rfl)
theorem w_tup4 {x0 x1 x2 x3 : D} : Wp (tupM [x0, x1, x2, x3] h) P E ↔ P (.tup [x0, x1, x2, x3]) h := w_tup (Nat.le_of_ble_eq_true rfl)
theorem w_lst4 {x0 x1 x2 x3 : D} : Wp (lstM [x0, x1, x2, x3] h) P E ↔ P (.lst [x0, x1, x2, x3]) h := w_lst (Nat.le_of_ble_eq_true rfl)
theorem w_lsH4 {x0 x1 x2 x3 : D} : Wp (lstH [x0, x1, x2, x3] h) P E ↔ P (.ref h.length) (h ++ [.lst [x0, x1, x2, x3]]) := w_lstH (Nat.le_of_ble_eq_true rfl)
theorem w_tup5 {x0 x1 x2 x3 x4 : D} : Wp (tupM [x0, x1, x2, x3, x4] h) P E ↔ P (.tup [x0, x1, x2, x3, x4]) h := w_tup (Nat.le_of_ble_eq_true rfl)
theorem w_lst5 {x0 x1 x2 x3 x4 : D} : Wp (lstM [x0, x1, x2, x3, x4] h) P E ↔ P (.lst [x0, x1, x2, x3, x4]) h := w_lst (Nat.le_of_ble_eq_true rfl)
theorem w_lsH5 {x0 x1 x2 x3 x4 : D} : Wp (lstH [x0, x1, x2, x3, x4] h) P E ↔ P (.ref h.length) (h ++ [.lst [x0, x1, x2, x3, x4]]) := w_lstH (Nat.le_of_ble_eq_true rfl)
theorem w_tup6 {x0 x1 x2 x3 x4 x5 : D} : Wp (tupM [x0, x1, x2, x3, x4, x5] h) P E ↔ P (.tup [x0, x1, x2, x3, x4, x5]) h := w_tup (Nat.le_of_ble_eq_true rfl)
theorem w_lst6 {x0 x1 x2 x3 x4 x5 : D} : Wp (lstM [x0, x1, x2, x3, x4, x5] h) P E ↔ P (.lst [x0, x1, x2, x3, x4, x5]) h := w_lst (Nat.le_of_ble_eq_true rfl)
theorem w_lsH6 {x0 x1 x2 x3 x4 x5 : D} : Wp (lstH [x0, x1, x2, x3, x4, x5] h) P E ↔ P (.ref h.length) (h ++ [.lst [x0, x1, x2, x3, x4, x5]]) := w_lstH (Nat.le_of_ble_eq_true rfl)
theorem w_tup7 {x0 x1 x2 x3 x4 x5 x6 : D} : Wp (tupM [x0, x1, x2, x3, x4, x5, x6] h) P E ↔ P (.tup [x0, x1, x2, x3, x4, x5, x6]) h := w_tup (Nat.le_of_ble_eq_true rfl)
theorem w_lst7 {x0 x1 x2 x3 x4 x5 x6 : D} : Wp (lstM [x0, x1, x2, x3, x4, x5, x6] h) P E ↔ P (.lst [x0, x1, x2, x3, x4, x5, x6]) h := w_lst (Nat.le_of_ble_eq_true rfl)
theorem w_lsH7 {x0 x1 x2 x3 x4 x5 x6 : D} : Wp (lstH [x0, x1, x2, x3, x4, x5, x6] h) P E ↔ P (.ref h.length) (h ++ [.lst [x0, x1, x2, x3, x4, x5, x6]]) := w_lstH (Nat.le_of_ble_eq_true rfl)
theorem w_tup8 {x0 x1 x2 x3 x4 x5 x6 x7 : D} : Wp (tupM [x0, x1, x2, x3, x4, x5, x6, x7] h) P E ↔ P (.tup [x0, x1, x2, x3, x4, x5, x6, x7]) h := w_tup (Nat.le_of_ble_eq_true rfl)
theorem w_lst8 {x0 x1 x2 x3 x4 x5 x6 x7 : D} : Wp (lstM [x0, x1, x2, x3, x4, x5, x6, x7] h) P E ↔ P (.lst [x0, x1, x2, x3, x4, x5, x6, x7]) h := w_lst (Nat.le_of_ble_eq_true rfl)
theorem w_lsH8 {x0 x1 x2 x3 x4 x5 x6 x7 : D} : Wp (lstH [x0, x1, x2, x3, x4, x5, x6, x7] h) P E ↔ P (.ref h.length) (h ++ [.lst [x0, x1, x2, x3, x4, x5, x6, x7]]) := w_lstH (Nat.le_of_ble_eq_true rfl)
theorem w_new {c : Cell} : Wp (newM c h) P E ↔ P (.ref h.length) (h ++ [c]) := Iff.rfl
theorem w_lenT : Wp (lenM (.tup xs) h) P E ↔ P (.int xs.length) h := Iff.rfl
theorem w_lenL : Wp (lenM (.lst xs) h) P E ↔ P (.int xs.length) h := Iff.rfl
theorem w_ixT (e : atI xs i = some x) : Wp (ixM (.tup xs) (.int i) h) P E ↔ P x h := by rw [ixM_tup e] <;> exact Iff.rfl
theorem w_ixL (e : atI xs i = some x) : Wp (ixM (.lst xs) (.int i) h) P E ↔ P x h := by rw [ixM_lst e] <;> exact Iff.rfl
theorem w_ixR (q : h[n]? = some (.lst xs)) (e : atI xs i = some x) : Wp (ixM (.ref n) (.int i) h) P E ↔ P x h := by rw [ixM_ref q e] <;> exact Iff.rfl
theorem w_lchk {P : Unit → AH → Prop} (e : h[n]? = some (.lst xs)) : Wp (lchk (.ref n) h) P E ↔ P () h := by rw [lchk_ref e] <;> exact Iff.rfl
theorem w_append (e : h[n]? = some (.lst xs)) (l : xs.length < 1000000) : Wp (appendM (.ref n) x h) P E ↔ P .non (h.set n (.lst (xs ++ [x]))) := by rw [appendM_ref e l] <;> exact Iff.rfl
theorem w_setix {P : Unit → AH → Prop} (q : h[n]? = some (.lst xs)) (h0 : 0 ≤ i) (h1 : i < xs.length) : Wp (setIxM (.ref n) (.int i) x h) P E ↔ P () (h.set n (.lst (xs.set i.toNat x))) := by rw [setIxM_pos q h0 h1] <;> exact Iff.rfl
theorem w_freeze (e : h[n]? = some (.lst xs)) : Wp (freezeM (.ref n) h) P E ↔ P (.lst xs) (h.set n .dead) := by rw [freezeM_ref e] <;> exact Iff.rfl
theorem w_itT {P : List D → AH → Prop} : Wp (itemsM (.tup xs) h) P E ↔ P xs h := Iff.rfl
theorem w_itL {P : List D → AH → Prop} : Wp (itemsM (.lst xs) h) P E ↔ P xs h := Iff.rfl
theorem w_tupT : Wp (tupleM (.tup xs) h) P E ↔ P (.tup xs) h := Iff.rfl
theorem w_tupL : Wp (tupleM (.lst xs) h) P E ↔ P (.tup xs) h := Iff.rfl
theorem w_listT : Wp (listM (.tup xs) h) P E ↔ P (.lst xs) h := Iff.rfl
theorem w_listL : Wp (listM (.lst xs) h) P E ↔ P (.lst xs) h := Iff.rfl
theorem w_rng1 {P : List D → AH → Prop} (a : -(2 ^ 62) ≤ j) (b : j < 2 ^ 62) : Wp (rng1M [.int j] h) P E ↔ P (rangeD 0 j.toNat) h := by rw [rng1M_run a b] <;> exact Iff.rfl
theorem w_rng2 {P : List D → AH → Prop} (a : -(2 ^ 62) ≤ i) (b : i < 2 ^ 62) (c : -(2 ^ 62) ≤ j) (d : j < 2 ^ 62) : Wp (rng2M [.int i, .int j] h) P E ↔ P (rangeD i (j - i).toNat) h := by rw [rng2M_run a b c d] <;> exact Iff.rfl
theorem w_addT (l : xs.length + ys.length ≤ 1000000) : Wp (addM (.tup xs) (.tup ys) h) P E ↔ P (.tup (xs ++ ys)) h := by rw [addM_tup l] <;> exact Iff.rfl
theorem w_addL (l : xs.length + ys.length ≤ 1000000) : Wp (addM (.lst xs) (.lst ys) h) P E ↔ P (.lst (xs ++ ys)) h := by rw [addM_lst l] <;> exact Iff.rfl
theorem w_addS {a b : Str} (l : a.length + b.length ≤ 1000000) : Wp (addM (.str a) (.str b) h) P E ↔ P (.str (a ++ b)) h := by rw [addM_str l] <;> exact Iff.rfl
theorem w_all {ns : List Bool} : Wp (allM (.lst (ns.map D.bl)) h) P E ↔ P (.bl (ns.all id)) h := by rw [allM_lst] <;> exact Iff.rfl
theorem w_slT {lo hi : Option Int} : Wp (sliceM (.tup xs) lo hi h) P E ↔ P (.tup (cutD xs lo hi)) h := Iff.rfl
theorem w_slL {lo hi : Option Int} : Wp (sliceM (.lst xs) lo hi h) P E ↔ P (.lst (cutD xs lo hi)) h := Iff.rfl
theorem w_isn : Wp (isM false x .non h) P E ↔ P (.bl (isC x .non)) h := by
  show P (.bl (xor false (isC x .non))) h ↔ _
  rw [Bool.false_xor]
theorem w_isnn : Wp (isM true x .non h) P E ↔ P (.bl (!isC x .non)) h := by
  show P (.bl (xor true (isC x .non))) h ↔ _
  rw [Bool.true_xor]
theorem w_inti : Wp (intM (.int i) h) P E ↔ P (.int i) h := Iff.rfl
theorem w_intb {b : Bool} : Wp (intM (.bl b) h) P E ↔ P (.int (if b = true then 1 else 0)) h := Iff.rfl
theorem w_strs {a : Str} : Wp (strM (.str a) h) P E ↔ P (.str a) h := Iff.rfl
theorem w_schk {a : Str} {P : Unit → AH → Prop} : Wp (schk (.str a) h) P E ↔ P () h := Iff.rfl
theorem w_zipT {P : List D → AH → Prop} : Wp (zipM [.tup xs, .tup ys] h) P E ↔ P (zipD xs ys) h := Iff.rfl
theorem w_zipL {P : List D → AH → Prop} : Wp (zipM [.lst xs, .lst ys] h) P E ↔ P (zipD xs ys) h := Iff.rfl
theorem w_zipLT {P : List D → AH → Prop} : Wp (zipLTM [.lst xs, .tup ys] h) P E ↔ P (zipD xs ys) h := Iff.rfl
theorem w_enumT {P : List D → AH → Prop} : Wp (enumM (.tup xs) h) P E ↔ P (enumD 0 xs) h := Iff.rfl
theorem w_enumL {P : List D → AH → Prop} : Wp (enumM (.lst xs) h) P E ↔ P (enumD 0 xs) h := Iff.rfl
theorem w_app1 {g : D → M D} : Wp (app1 g [x] h) P E ↔ Wp (g x h) P E := Iff.rfl
theorem w_app2 {g : D → D → M D} : Wp (app2 g [x, y] h) P E ↔ Wp (g x y h) P E := Iff.rfl
theorem w_app3 {g : D → D → D → M D} : Wp (app3 g [x, y, z] h) P E ↔ Wp (g x y z h) P E := Iff.rfl
theorem w_app4 {g : D → D → D → D → M D} {u : D} : Wp (app4 g [x, y, z, u] h) P E ↔ Wp (g x y z u h) P E := Iff.rfl
theorem w_app5 {g : D → D → D → D → D → M D} {u v : D} : Wp (app5 g [x, y, z, u, v] h) P E ↔ Wp (g x y z u v h) P E := Iff.rfl
theorem w_eq_t {a b : D} (ha : nb 60 (lookD h a) = true) (hb : nb 60 (lookD h b) = true) (e : lookD h a = lookD h b) : Wp (eqM a b h) P E ↔ P (.bl true) h := by rw [eqM_eq ha hb e] <;> exact Iff.rfl
theorem w_ne_f {a b : D} (ha : nb 60 (lookD h a) = true) (hb : nb 60 (lookD h b) = true) (e : lookD h a = lookD h b) : Wp (neM a b h) P E ↔ P (.bl false) h := by rw [neM_eq ha hb e] <;> exact Iff.rfl
end
/-! ### objects, dicts -/
section
end
/-! the rows that a plain reading is simplified by, all in one; WQS: but w_obind -/
def WPS := And.intro @w_bind (And.intro @w_pure (And.intro @w_throw (And.intro @w_tup0 (And.intro @w_lst0 (And.intro @w_lsH0 (And.intro @w_tup1 (And.intro @w_lst1 (And.intro @w_lsH1 (And.intro @w_tup2 (And.intro @w_lst2 (And.intro @w_lsH2 (And.intro @w_tup3 (And.intro @w_lst3 (And.intro @w_lsH3 (And.intro @w_tup4 (And.intro @w_lst4 (And.intro @w_lsH4 (And.intro @w_tup5 (And.intro @w_lst5 (And.intro @w_lsH5 (And.intro @w_tup6 (And.intro @w_lst6 (And.intro @w_lsH6 (And.intro @w_tup7 (And.intro @w_lst7 (And.intro @w_lsH7 (And.intro @w_tup8 (And.intro @w_lst8 (And.intro @w_lsH8 (And.intro @w_ite (And.intro @w_iteP (And.intro @w_obind (And.intro @oK_nx (And.intro @oK_ret (And.intro @oK_bk (And.intro @oK_ct (And.intro @w_def (And.intro @dK_nx (And.intro @dK_ret (And.intro @w_lift (And.intro @w_noex (And.intro @w_add (And.intro @w_sub (And.intro @w_neg (And.intro @w_lt (And.intro @w_le (And.intro @w_gt (And.intro @w_ge (And.intro @w_max (And.intro @w_min (And.intro @w_eqi (And.intro @w_nei (And.intro @w_eqs (And.intro @w_nes (And.intro @w_asB (And.intro @w_asI (And.intro @w_not (And.intro @w_tru (And.intro @w_and (And.intro @w_or (And.intro @w_new (And.intro @w_lenT (And.intro @w_lenL (And.intro @w_itT (And.intro @w_itL (And.intro @w_tupT (And.intro @w_tupL (And.intro @w_listT (And.intro @w_listL (And.intro @w_slT (And.intro @w_slL (And.intro @w_isn (And.intro @w_isnn (And.intro @w_inti (And.intro @w_intb (And.intro @w_strs (And.intro @w_schk (And.intro @w_zipT (And.intro @w_zipL (And.intro @w_zipLT (And.intro @w_enumT (And.intro @w_enumL (And.intro @w_app1 (And.intro @w_app2 (And.intro @w_app3 (And.intro @w_app4 (And.intro @w_app5 (And.intro @tK_nx (And.intro @tK_ct (And.intro @tK_bk (And.intro @tK_ret (And.intro @lK_nx (And.intro @lK_ct (And.intro @lK_bk (And.intro @lK_ret (And.intro @decide_eq_true_eq (And.intro @if_true.{1} (And.intro @if_false.{1} (And.intro @Bool.false_eq_true (And.intro @Bool.not_true (And.intro @Bool.not_false (And.intro @List.length_cons.{0} @List.length_nil.{0}))))))))))))))))))))))))))))))))))))))))))))))))))))))))))))))))))))))))))))))))))))))))))))))))))))))
end Lw
/-! the plain reading of the text (printed by gen.py) -/
noncomputable section
namespace Lw
open PySem L2
def kd_COUNTS : List (Str × Int) := [("lent", 5), ("back", 3), ("cut", 3), ("join", 2)]
def b_law_well (script1 : D) (k2 : D) : M (Out Unit Empty) := ((pure (.int 0)) >>= fun cell3 => ((((pure k2) >>= fun x5 => ((pure script1) >>= fun x4 => lenM x4) >>= fun y6 => ltM x5 y6) >>= fun b7 => asB b7) >>= fun t8 => obind ((if t8 = true then (((pure script1) >>= fun x10 => (pure k2) >>= fun y11 => ixM x10 y11) >>= fun cell9 => (pure (Out.nx cell9) : M (Out (D) (Empty)))) else (pure (Out.nx cell3) : M (Out (D) (Empty)))) : M (Out (D) (Empty))) (fun s12 => ((((((pure s12) >>= fun x13 => (pure (.int 2147483647)) >>= fun y14 => modM x13 y14) >>= fun x17 => ((pure (.int 48271)) >>= fun x15 => (pure k2) >>= fun y16 => mulM x15 y16) >>= fun y18 => addM x17 y18) >>= fun a31 => (((((pure (.int 0)) >>= fun a19 => (pure s12) >>= fun a20 => pure [a19, a20]) >>= fun xs21 => lstM xs21) >>= fun x27 => (((pure s12) >>= fun x24 => ((pure (.int 10)) >>= fun x22 => (pure (.int 18)) >>= fun y23 => powM x22 y23) >>= fun y25 => geM x24 y25) >>= fun x26 => intM x26) >>= fun y28 => ixM x27 y28) >>= fun a29 => (pure (.int 0)) >>= fun a30 => pure [a29, a30]) >>= fun as32 => pure (a31 :: as32)) >>= fun xs33 => lstH xs33) >>= fun d34 => (pure (Out.ret d34) : M (Out (Unit) (Empty)))))))
def f_law_well (script1 : D) (k2 : D) : M D := defM (b_law_well script1 k2)
def b_law_draw (well_here35 : D) (most36 : D) : M (Out Unit Empty) := (((((pure well_here35) >>= fun x37 => (pure (.int 1)) >>= fun y38 => ixM x37 y38) >>= fun x39 => (pure (.int 0)) >>= fun y40 => gtM x39 y40) >>= fun b41 => asB b41) >>= fun t42 => if t42 = true then obind ((((pure well_here35) >>= fun x44 => (pure (.int 1)) >>= fun y45 => ixM x44 y45) >>= fun x46 => (pure most36) >>= fun y47 => modM x46 y47) >>= fun number43 => ((((pure well_here35) >>= fun x48 => (pure (.int 1)) >>= fun y49 => ixM x48 y49) >>= fun x50 => (pure most36) >>= fun y51 => fdivM x50 y51) >>= fun v52 => (pure well_here35) >>= fun x53 => (pure (.int 1)) >>= fun y54 => setIxM x53 y54 v52 >>= fun _ => ((pure number43) >>= fun d55 => (pure (Out.ret d55) : M (Out (Empty) (Empty)))))) (fun e => e.elim) else ((((pure well_here35) >>= fun x56 => (pure (.int 2)) >>= fun y57 => ixM x56 y57) >>= fun x58 => (pure (.int 1)) >>= fun y59 => addM x58 y59) >>= fun v60 => (pure well_here35) >>= fun x61 => (pure (.int 2)) >>= fun y62 => setIxM x61 y62 v60 >>= fun _ => (((((((pure well_here35) >>= fun x64 => (pure (.int 0)) >>= fun y65 => ixM x64 y65) >>= fun x70 => ((pure (.int 7919)) >>= fun x68 => ((pure well_here35) >>= fun x66 => (pure (.int 2)) >>= fun y67 => ixM x66 y67) >>= fun y69 => mulM x68 y69) >>= fun y71 => addM x70 y71) >>= fun x72 => (pure (.int 1)) >>= fun y73 => addM x72 y73) >>= fun x74 => (pure (.int 48271)) >>= fun y75 => mulM x74 y75) >>= fun x76 => (pure (.int 2147483647)) >>= fun y77 => modM x76 y77) >>= fun number63 => ((((pure number63) >>= fun x83 => (((pure number63) >>= fun x79 => (pure (.int 1009)) >>= fun y80 => fdivM x79 y80) >>= fun x81 => (pure (.int 69621)) >>= fun y82 => addM x81 y82) >>= fun y84 => mulM x83 y84) >>= fun x85 => (pure (.int 2147483647)) >>= fun y86 => modM x85 y86) >>= fun number78 => (((((pure number78) >>= fun x91 => (((pure number78) >>= fun x87 => (pure (.int 2003)) >>= fun y88 => fdivM x87 y88) >>= fun x89 => (pure (.int 40692)) >>= fun y90 => addM x89 y90) >>= fun y92 => mulM x91 y92) >>= fun x93 => (pure (.int 2147483399)) >>= fun y94 => modM x93 y94) >>= fun x95 => (pure most36) >>= fun y96 => modM x95 y96) >>= fun d97 => (pure (Out.ret d97) : M (Out (Unit) (Empty))))))))
def f_law_draw (well_here35 : D) (most36 : D) : M D := defM (b_law_draw well_here35 most36)
def l_law_free_work_1 (well_here98 : D) (found128 : D) : D → (D) → M (Out (D) (D)) := fun x136 t130 => liftO (some x136) >>= fun p137 => (((pure t130) >>= fun x154 => ((((pure (.int 0)) >>= fun a147 => (((pure well_here98) >>= fun a139 => (pure (.int 9)) >>= fun a140 => f_law_draw a139 a140) >>= fun a145 => ((pure well_here98) >>= fun a141 => ((pure (.int 10)) >>= fun x142 => (pure (.int 9)) >>= fun y143 => powM x142 y143) >>= fun a144 => f_law_draw a141 a144) >>= fun a146 => pure [a145, a146]) >>= fun as148 => pure (a147 :: as148)) >>= fun xs149 => lstM xs149) >>= fun x152 => ((pure well_here98) >>= fun a150 => (pure (.int 3)) >>= fun a151 => f_law_draw a150 a151) >>= fun y153 => ixM x152 y153) >>= fun y155 => addM x154 y155) >>= fun at138 => ((((pure at138) >>= fun x157 => (pure (.int 1)) >>= fun y158 => addM x157 y158) >>= fun x170 => (((((pure well_here98) >>= fun a159 => (pure (.int 9)) >>= fun a160 => f_law_draw a159 a160) >>= fun a163 => ((pure well_here98) >>= fun a161 => (pure (.int 150)) >>= fun a162 => f_law_draw a161 a162) >>= fun a164 => pure [a163, a164]) >>= fun xs165 => lstM xs165) >>= fun x168 => ((pure well_here98) >>= fun a166 => (pure (.int 2)) >>= fun a167 => f_law_draw a166 a167) >>= fun y169 => ixM x168 y169) >>= fun y171 => addM x170 y171) >>= fun high156 => (((pure found128) >>= fun x175 => lchk x175 >>= fun _ => (((pure at138) >>= fun a172 => (pure high156) >>= fun a173 => pure [a172, a173]) >>= fun xs174 => tupM xs174) >>= fun y176 => appendM x175 y176) >>= fun _ => ((pure high156) >>= fun at177 => (pure (Out.nx at177) : M (Out (D) (D)))))))
def b_law_free_work (well_here98 : D) : M (Out Unit Empty) := ((((pure (.int 0)) >>= fun x102 => ((pure (.int 10)) >>= fun x100 => (pure (.int 17)) >>= fun y101 => powM x100 y101) >>= fun y103 => subM x102 y103) >>= fun x108 => ((pure well_here98) >>= fun a104 => ((pure (.int 10)) >>= fun x105 => (pure (.int 6)) >>= fun y106 => powM x105 y106) >>= fun a107 => f_law_draw a104 a107) >>= fun y109 => subM x108 y109) >>= fun far_here99 => (((((((pure well_here98) >>= fun a111 => (pure (.int 100)) >>= fun a112 => f_law_draw a111 a112) >>= fun x113 => (pure (.int 50)) >>= fun y114 => subM x113 y114) >>= fun a121 => ((pure far_here99) >>= fun a119 => ((pure well_here98) >>= fun a115 => ((pure (.int 10)) >>= fun x116 => (pure (.int 17)) >>= fun y117 => powM x116 y117) >>= fun a118 => f_law_draw a115 a118) >>= fun a120 => pure [a119, a120]) >>= fun as122 => pure (a121 :: as122)) >>= fun xs123 => lstM xs123) >>= fun x126 => ((pure well_here98) >>= fun a124 => (pure (.int 3)) >>= fun a125 => f_law_draw a124 a125) >>= fun y127 => ixM x126 y127) >>= fun at110 => (((pure []) >>= fun xs129 => lstH xs129) >>= fun found128 => ((((pure well_here98) >>= fun a132 => (pure (.int 7)) >>= fun a133 => f_law_draw a132 a133) >>= fun x134 => rng1M [x134]) >>= fun xs135 => obind (forM xs135 (at110 : D) (l_law_free_work_1 well_here98 found128)) (fun s131 => (freezeM found128 >>= fun found178 => (((pure found178) >>= fun x179 => tupleM x179) >>= fun d180 => (pure (Out.ret d180) : M (Out (Unit) (Empty))))))))))
def f_law_free_work (well_here98 : D) : M D := defM (b_law_free_work well_here98)
def b_law_free_limits (well_here181 : D) : M (Out Unit Empty) := (((pure (.int 1)) >>= fun x196 => (((((pure well_here181) >>= fun a183 => (pure (.int 9)) >>= fun a184 => f_law_draw a183 a184) >>= fun a189 => ((pure well_here181) >>= fun a185 => ((pure (.int 10)) >>= fun x186 => (pure (.int 17)) >>= fun y187 => powM x186 y187) >>= fun a188 => f_law_draw a185 a188) >>= fun a190 => pure [a189, a190]) >>= fun xs191 => lstM xs191) >>= fun x194 => ((pure well_here181) >>= fun a192 => (pure (.int 2)) >>= fun a193 => f_law_draw a192 a193) >>= fun y195 => ixM x194 y195) >>= fun y197 => addM x196 y197) >>= fun every182 => (((pure (.int 1)) >>= fun x212 => (((((pure well_here181) >>= fun a199 => (pure (.int 9)) >>= fun a200 => f_law_draw a199 a200) >>= fun a205 => ((pure well_here181) >>= fun a201 => ((pure (.int 10)) >>= fun x202 => (pure (.int 17)) >>= fun y203 => powM x202 y203) >>= fun a204 => f_law_draw a201 a204) >>= fun a206 => pure [a205, a206]) >>= fun xs207 => lstM xs207) >>= fun x210 => ((pure well_here181) >>= fun a208 => (pure (.int 2)) >>= fun a209 => f_law_draw a208 a209) >>= fun y211 => ixM x210 y211) >>= fun y213 => addM x212 y213) >>= fun span198 => ((((pure span198) >>= fun a233 => ((pure every182) >>= fun a231 => ((pure every182) >>= fun x229 => ((((pure (.int 0)) >>= fun a222 => (((pure well_here181) >>= fun a214 => (pure (.int 9)) >>= fun a215 => f_law_draw a214 a215) >>= fun a220 => ((pure well_here181) >>= fun a216 => ((pure (.int 10)) >>= fun x217 => (pure (.int 9)) >>= fun y218 => powM x217 y218) >>= fun a219 => f_law_draw a216 a219) >>= fun a221 => pure [a220, a221]) >>= fun as223 => pure (a222 :: as223)) >>= fun xs224 => lstM xs224) >>= fun x227 => ((pure well_here181) >>= fun a225 => (pure (.int 3)) >>= fun a226 => f_law_draw a225 a226) >>= fun y228 => ixM x227 y228) >>= fun y230 => addM x229 y230) >>= fun a232 => pure [a231, a232]) >>= fun as234 => pure (a233 :: as234)) >>= fun xs235 => tupM xs235) >>= fun d236 => (pure (Out.ret d236) : M (Out (Unit) (Empty))))))
def f_law_free_limits (well_here181 : D) : M D := defM (b_law_free_limits well_here181)
def b_law_far (well_here237 : D) : M (Out Unit Empty) := (((((pure well_here237) >>= fun a239 => ((pure (.int 10)) >>= fun x240 => (pure (.int 9)) >>= fun y241 => powM x240 y241) >>= fun a242 => f_law_draw a239 a242) >>= fun x245 => ((pure (.int 10)) >>= fun x243 => (pure (.int 9)) >>= fun y244 => powM x243 y244) >>= fun y246 => mulM x245 y246) >>= fun x251 => ((pure well_here237) >>= fun a247 => ((pure (.int 10)) >>= fun x248 => (pure (.int 9)) >>= fun y249 => powM x248 y249) >>= fun a250 => f_law_draw a247 a250) >>= fun y252 => addM x251 y252) >>= fun far_here238 => (((((pure well_here237) >>= fun a254 => (pure (.int 20)) >>= fun a255 => f_law_draw a254 a255) >>= fun a278 => ((((pure well_here237) >>= fun a256 => (pure (.int 20)) >>= fun a257 => f_law_draw a256 a257) >>= fun x258 => (pure (.int 10)) >>= fun y259 => subM x258 y259) >>= fun a276 => ((pure far_here238) >>= fun a274 => (((pure (.int 0)) >>= fun x260 => (pure far_here238) >>= fun y261 => subM x260 y261) >>= fun a272 => ((((pure (.int 10)) >>= fun x262 => (pure (.int 18)) >>= fun y263 => powM x262 y263) >>= fun x264 => (pure (.int 1)) >>= fun y265 => subM x264 y265) >>= fun a270 => ((pure (.int 1)) >>= fun x268 => ((pure (.int 10)) >>= fun x266 => (pure (.int 18)) >>= fun y267 => powM x266 y267) >>= fun y269 => subM x268 y269) >>= fun a271 => pure [a270, a271]) >>= fun as273 => pure (a272 :: as273)) >>= fun as275 => pure (a274 :: as275)) >>= fun as277 => pure (a276 :: as277)) >>= fun as279 => pure (a278 :: as279)) >>= fun xs280 => lstM xs280) >>= fun some253 => (((pure some253) >>= fun x283 => ((pure well_here237) >>= fun a281 => (pure (.int 6)) >>= fun a282 => f_law_draw a281 a282) >>= fun y284 => ixM x283 y284) >>= fun d285 => (pure (Out.ret d285) : M (Out (Unit) (Empty))))))
def f_law_far (well_here237 : D) : M D := defM (b_law_far well_here237)
def c_law_any_word_1 (signs287 : D) (well_here286 : D) : D → M (List D) := fun x294 => liftO (some x294) >>= fun p295 => (pure true) >>= fun t296 => if t296 = true then (((pure signs287) >>= fun x300 => ((pure well_here286) >>= fun a298 => (pure (.int 93)) >>= fun a299 => f_law_draw a298 a299) >>= fun y301 => ixM x300 y301) >>= fun y297 => pure [y297]) else pure []
def b_law_any_word (well_here286 : D) : M (Out Unit Empty) := ((pure (.str "!\"#$&'()*+,-./0123456789:;<=>?@ABCDEFGHIJKLMNOPQRSTUVWXYZ[\\]^_`abcdefghijklmnopqrstuvwxyz{|}~")) >>= fun signs287 => (((pure (.str "")) >>= fun x302 => schk x302 >>= fun _ => ((((pure (.int 1)) >>= fun x290 => ((pure well_here286) >>= fun a288 => (pure (.int 12)) >>= fun a289 => f_law_draw a288 a289) >>= fun y291 => addM x290 y291) >>= fun x292 => rng1M [x292]) >>= fun xs293 => lcM xs293 (c_law_any_word_1 signs287 well_here286)) >>= fun y303 => joinM x302 y303) >>= fun d304 => (pure (Out.ret d304) : M (Out (Unit) (Empty)))))
def f_law_any_word (well_here286 : D) : M D := defM (b_law_any_word well_here286)
def c_law_free_line_1 (well_here305 : D) : D → M (List D) := fun x371 => liftO (some x371) >>= fun p372 => (pure true) >>= fun t373 => if t373 = true then (((pure well_here305) >>= fun a375 => f_law_far a375) >>= fun y374 => pure [y374]) else pure []
def b_law_free_line (well_here305 : D) : M (Out Unit Empty) := (((pure well_here305) >>= fun a307 => (pure (.int 6)) >>= fun a308 => f_law_draw a307 a308) >>= fun way306 => (((pure well_here305) >>= fun a310 => f_law_far a310) >>= fun one309 => (((pure well_here305) >>= fun a312 => f_law_far a312) >>= fun other311 => ((((pure way306) >>= fun x313 => (pure (.int 0)) >>= fun y314 => eqM x313 y314) >>= fun b315 => asB b315) >>= fun t316 => if t316 = true then obind (((((pure (.str "lent")) >>= fun a318 => (pure (.str "0")) >>= fun a319 => pure [a318, a319]) >>= fun xs320 => lstM xs320) >>= fun x323 => ((pure well_here305) >>= fun a321 => (pure (.int 2)) >>= fun a322 => f_law_draw a321 a322) >>= fun y324 => ixM x323 y324) >>= fun odd317 => ((((((pure well_here305) >>= fun a326 => f_law_any_word a326) >>= fun a332 => (((pure well_here305) >>= fun a327 => f_law_any_word a327) >>= fun a330 => ((pure (.str "ann")) >>= fun a328 => (pure odd317) >>= fun a329 => pure [a328, a329]) >>= fun as331 => pure (a330 :: as331)) >>= fun as333 => pure (a332 :: as333)) >>= fun xs334 => lstM xs334) >>= fun x337 => ((pure well_here305) >>= fun a335 => (pure (.int 4)) >>= fun a336 => f_law_draw a335 a336) >>= fun y338 => ixM x337 y338) >>= fun worker325 => ((((pure (.str "lent")) >>= fun a346 => ((pure one309) >>= fun a344 => ((pure worker325) >>= fun a342 => ((pure other311) >>= fun a340 => ((pure well_here305) >>= fun a339 => f_law_far a339) >>= fun a341 => pure [a340, a341]) >>= fun as343 => pure (a342 :: as343)) >>= fun as345 => pure (a344 :: as345)) >>= fun as347 => pure (a346 :: as347)) >>= fun xs348 => tupM xs348) >>= fun d349 => (pure (Out.ret d349) : M (Out (Empty) (Empty)))))) (fun e => e.elim) else ((((pure way306) >>= fun x350 => (pure (.int 3)) >>= fun y351 => ltM x350 y351) >>= fun b352 => asB b352) >>= fun t353 => if t353 = true then obind (((((pure (.int 0)) >>= fun a361 => (((pure well_here305) >>= fun a355 => (pure (.int 4)) >>= fun a356 => f_law_draw a355 a356) >>= fun a359 => ((pure well_here305) >>= fun a357 => (pure (.int 40)) >>= fun a358 => f_law_draw a357 a358) >>= fun a360 => pure [a359, a360]) >>= fun as362 => pure (a361 :: as362)) >>= fun xs363 => lstM xs363) >>= fun x366 => ((pure well_here305) >>= fun a364 => (pure (.int 3)) >>= fun a365 => f_law_draw a364 a365) >>= fun y367 => ixM x366 y367) >>= fun many354 => ((((pure (.str "told")) >>= fun a383 => ((pure one309) >>= fun a381 => ((pure other311) >>= fun a379 => (((pure well_here305) >>= fun a368 => f_law_far a368) >>= fun a377 => ((((pure many354) >>= fun x369 => rng1M [x369]) >>= fun xs370 => lcM xs370 (c_law_free_line_1 well_here305)) >>= fun x376 => tupleM x376) >>= fun a378 => pure [a377, a378]) >>= fun as380 => pure (a379 :: as380)) >>= fun as382 => pure (a381 :: as382)) >>= fun as384 => pure (a383 :: as384)) >>= fun xs385 => tupM xs385) >>= fun d386 => (pure (Out.ret d386) : M (Out (Empty) (Empty))))) (fun e => e.elim) else ((((pure way306) >>= fun x387 => (pure (.int 3)) >>= fun y388 => eqM x387 y388) >>= fun b389 => asB b389) >>= fun t390 => if t390 = true then obind ((((pure (.str "back")) >>= fun a393 => ((pure one309) >>= fun a391 => (pure other311) >>= fun a392 => pure [a391, a392]) >>= fun as394 => pure (a393 :: as394)) >>= fun xs395 => tupM xs395) >>= fun d396 => (pure (Out.ret d396) : M (Out (Empty) (Empty)))) (fun e => e.elim) else ((((pure way306) >>= fun x397 => (pure (.int 4)) >>= fun y398 => eqM x397 y398) >>= fun b399 => asB b399) >>= fun t400 => if t400 = true then obind ((((pure (.str "cut")) >>= fun a403 => ((pure one309) >>= fun a401 => (pure other311) >>= fun a402 => pure [a401, a402]) >>= fun as404 => pure (a403 :: as404)) >>= fun xs405 => tupM xs405) >>= fun d406 => (pure (Out.ret d406) : M (Out (Empty) (Empty)))) (fun e => e.elim) else ((((pure (.str "join")) >>= fun a407 => (pure one309) >>= fun a408 => pure [a407, a408]) >>= fun xs409 => tupM xs409) >>= fun d410 => (pure (Out.ret d410) : M (Out (Unit) (Empty)))))))))))
def f_law_free_line (well_here305 : D) : M D := defM (b_law_free_line well_here305)
def c_law_row_1 : D → M (List D) := fun x414 => liftO (some x414) >>= fun p415 => (pure true) >>= fun t416 => if t416 = true then (((pure p415) >>= fun x418 => strM x418) >>= fun y417 => pure [y417]) else pure []
def b_law_row (parts411 : D) : M (Out Unit Empty) := ((((pure (.str " ")) >>= fun x419 => schk x419 >>= fun _ => (((pure parts411) >>= fun x412 => itemsM x412) >>= fun xs413 => lcM xs413 c_law_row_1) >>= fun y420 => joinM x419 y420) >>= fun x421 => (pure (.str "\n")) >>= fun y422 => addM x421 y422) >>= fun d423 => (pure (Out.ret d423) : M (Out (Unit) (Empty))))
def f_law_row (parts411 : D) : M D := defM (b_law_row parts411)
def b_law_line_text (line424 : D) : M (Out Unit Empty) := (((((pure line424) >>= fun x425 => (pure (.int 0)) >>= fun y426 => ixM x425 y426) >>= fun x427 => (pure (.str "told")) >>= fun y428 => eqM x427 y428) >>= fun b429 => asB b429) >>= fun t430 => if t430 = true then obind (((((pure line424) >>= fun x432 => (pure none) >>= fun l433 => ((pure (.int 4)) >>= fun x431 => asI x431) >>= fun u434 => sliceM x432 l433 u434) >>= fun x437 => ((pure line424) >>= fun x435 => (pure (.int 4)) >>= fun y436 => ixM x435 y436) >>= fun y438 => addM x437 y438) >>= fun a439 => pcallM (app1 f_law_row) [a439]) >>= fun d440 => (pure (Out.ret d440) : M (Out (Empty) (Empty)))) (fun e => e.elim) else (((pure line424) >>= fun a441 => pcallM (app1 f_law_row) [a441]) >>= fun d442 => (pure (Out.ret d442) : M (Out (Unit) (Empty)))))
def f_law_line_text (line424 : D) : M D := defM (b_law_line_text line424)
def c_row_of_1 : D → M (List D) := fun x446 => liftO (some x446) >>= fun p447 => (pure true) >>= fun t448 => if t448 = true then (((pure p447) >>= fun x450 => strM x450) >>= fun y449 => pure [y449]) else pure []
def b_row_of (parts443 : D) : M (Out Unit Empty) := ((((pure (.str " ")) >>= fun x451 => schk x451 >>= fun _ => (((pure parts443) >>= fun x444 => itemsM x444) >>= fun xs445 => lcM xs445 c_row_of_1) >>= fun y452 => joinM x451 y452) >>= fun x453 => (pure (.str "\n")) >>= fun y454 => addM x453 y454) >>= fun d455 => (pure (Out.ret d455) : M (Out (Unit) (Empty))))
def f_row_of (parts443 : D) : M D := defM (b_row_of parts443)
def l_head_text_1 (found460 : D) : D → (Unit) → M (Out (Unit) (Unit)) := fun x467 t463 => liftO ((unpT (uCons some (uCons some uNil))) x467) >>= fun p468 => (((pure found460) >>= fun x472 => lchk x472 >>= fun _ => (((pure p468.1) >>= fun a469 => (pure p468.2.1) >>= fun a470 => pure [a469, a470]) >>= fun xs471 => lstM xs471) >>= fun y473 => extendM x472 y473) >>= fun _ => (pure (Out.nx ()) : M (Out (Unit) (Unit))))
def b_head_text (work456 : D) (span457 : D) (every458 : D) (least459 : D) : M (Out Unit Empty) := ((((pure (.str "work")) >>= fun a461 => pure [a461]) >>= fun xs462 => lstH xs462) >>= fun found460 => (((pure work456) >>= fun x465 => itemsM x465) >>= fun xs466 => obind (forM xs466 (() : Unit) (l_head_text_1 found460)) (fun s464 => (freezeM found460 >>= fun found474 => ((((pure found474) >>= fun x486 => (((pure (.str "span")) >>= fun a483 => ((pure span457) >>= fun a481 => ((pure (.str "every")) >>= fun a479 => ((pure every458) >>= fun a477 => ((pure (.str "least")) >>= fun a475 => (pure least459) >>= fun a476 => pure [a475, a476]) >>= fun as478 => pure (a477 :: as478)) >>= fun as480 => pure (a479 :: as480)) >>= fun as482 => pure (a481 :: as482)) >>= fun as484 => pure (a483 :: as484)) >>= fun xs485 => lstM xs485) >>= fun y487 => addM x486 y487) >>= fun a488 => pcallM (app1 f_row_of) [a488]) >>= fun d489 => (pure (Out.ret d489) : M (Out (Unit) (Empty))))))))
def f_head_text (work456 : D) (span457 : D) (every458 : D) (least459 : D) : M D := defM (b_head_text work456 span457 every458 least459)
def l_law_head_1 : D → (D) → M (Out (D) (D)) := fun x499 t495 => liftO ((unpT (uCons some (uCons some uNil))) x499) >>= fun p500 => (((pure t495) >>= fun x505 => (((pure p500.1) >>= fun a502 => (pure p500.2.1) >>= fun a503 => pure [a502, a503]) >>= fun xs504 => lstM xs504) >>= fun y506 => addM x505 y506) >>= fun parts501 => (pure (Out.nx parts501) : M (Out (D) (D))))
def b_law_head (work490 : D) (limits491 : D) : M (Out Unit Empty) := ((((pure (.str "work")) >>= fun a493 => pure [a493]) >>= fun xs494 => lstM xs494) >>= fun parts492 => (((pure work490) >>= fun x497 => itemsM x497) >>= fun xs498 => obind (forM xs498 (parts492 : D) l_law_head_1) (fun s496 => ((((pure s496) >>= fun x524 => (((pure (.str "span")) >>= fun a521 => (((pure limits491) >>= fun x507 => (pure (.int 0)) >>= fun y508 => ixM x507 y508) >>= fun a519 => ((pure (.str "every")) >>= fun a517 => (((pure limits491) >>= fun x509 => (pure (.int 1)) >>= fun y510 => ixM x509 y510) >>= fun a515 => ((pure (.str "least")) >>= fun a513 => ((pure limits491) >>= fun x511 => (pure (.int 2)) >>= fun y512 => ixM x511 y512) >>= fun a514 => pure [a513, a514]) >>= fun as516 => pure (a515 :: as516)) >>= fun as518 => pure (a517 :: as518)) >>= fun as520 => pure (a519 :: as520)) >>= fun as522 => pure (a521 :: as522)) >>= fun xs523 => lstM xs523) >>= fun y525 => addM x524 y525) >>= fun a526 => pcallM (app1 f_law_row) [a526]) >>= fun d527 => (pure (Out.ret d527) : M (Out (Unit) (Empty)))))))
def f_law_head (work490 : D) (limits491 : D) : M D := defM (b_law_head work490 limits491)
def b_need (good528 : D) : M (Out Unit Empty) := ((((pure good528) >>= fun x529 => truM x529) >>= fun t530 => pure (!t530)) >>= fun t531 => if t531 = true then obind (throwM "NoText" : M (Out (Empty) (Empty))) (fun e => e.elim) else (pure (Out.nx ()) : M (Out (Unit) (Empty))))
def f_need (good528 : D) : M D := defM (b_need good528)
def b_whole_rows (text532 : D) : M (Out Unit Empty) := ((((pure text532) >>= fun x533 => isiM "str" x533) >>= fun a534 => pcallM (app1 f_need) [a534]) >>= fun _ => ((((pure text532) >>= fun x536 => schk x536 >>= fun _ => (pure (.str "\n")) >>= fun y537 => splitM x536 y537) >>= fun x540 => (pure none) >>= fun l541 => (((pure (.int 1)) >>= fun x538 => negM x538) >>= fun x539 => asI x539) >>= fun u542 => sliceM x540 l541 u542) >>= fun rows535 => ((((pure rows535) >>= fun x544 => ((pure []) >>= fun xs543 => lstM xs543) >>= fun y545 => neM x544 y545) >>= fun a546 => pcallM (app1 f_need) [a546]) >>= fun _ => ((pure rows535) >>= fun d547 => (pure (Out.ret d547) : M (Out (Unit) (Empty)))))))
def f_whole_rows (text532 : D) : M D := defM (b_whole_rows text532)
def b_words_in (row548 : D) : M (Out Unit Empty) := (((pure row548) >>= fun x550 => schk x550 >>= fun _ => (pure (.str " ")) >>= fun y551 => splitM x550 y551) >>= fun words549 => ((((pure (.str "")) >>= fun x552 => (pure words549) >>= fun y553 => inM true x552 y553) >>= fun a554 => pcallM (app1 f_need) [a554]) >>= fun _ => ((pure words549) >>= fun d555 => (pure (Out.ret d555) : M (Out (Unit) (Empty))))))
def f_words_in (row548 : D) : M D := defM (b_words_in row548)
def c_is_number_1 : D → M (List D) := fun x579 => liftO (some x579) >>= fun p580 => (pure true) >>= fun t581 => if t581 = true then (((pure p580) >>= fun x583 => (pure (.str "0123456789")) >>= fun y584 => signInM false x583 y584) >>= fun y582 => pure [y582]) else pure []
def b_is_number (word556 : D) : M (Out Unit Empty) := ((pure word556) >>= fun figures557 => (((((pure word556) >>= fun x559 => (pure none) >>= fun l560 => ((pure (.int 1)) >>= fun x558 => asI x558) >>= fun u561 => sliceM x559 l560 u561) >>= fun x562 => (pure (.str "-")) >>= fun y563 => eqM x562 y563) >>= fun b564 => asB b564) >>= fun t565 => obind ((if t565 = true then (((pure word556) >>= fun x568 => ((pure (.int 1)) >>= fun x567 => asI x567) >>= fun l569 => (pure none) >>= fun u570 => sliceM x568 l569 u570) >>= fun figures566 => (pure (Out.nx figures566) : M (Out (D) (Empty)))) else (pure (Out.nx figures557) : M (Out (D) (Empty)))) : M (Out (D) (Empty))) (fun s571 => ((((((pure (.int 1)) >>= fun x573 => ((pure s571) >>= fun x572 => lenM x572) >>= fun y574 => chainM leM leM x573 y574 (pure (.int 18))) >>= fun b575 => asB b575) >>= fun t576 => pure (!t576)) >>= fun t588 => if t588 = true then pure true else ((((((pure s571) >>= fun x577 => strItM x577) >>= fun xs578 => lcM xs578 c_is_number_1) >>= fun x585 => allM x585) >>= fun x586 => truM x586) >>= fun t587 => pure (!t587))) >>= fun t589 => if t589 = true then obind ((pure (.bl false)) >>= fun d590 => (pure (Out.ret d590) : M (Out (Empty) (Empty)))) (fun e => e.elim) else (((((pure s571) >>= fun x591 => (pure (.int 0)) >>= fun y592 => ixM x591 y592) >>= fun x593 => (pure (.str "0")) >>= fun y594 => neM x593 y594) >>= fun x597 => orV x597 ((pure word556) >>= fun x595 => (pure (.str "0")) >>= fun y596 => eqM x595 y596)) >>= fun d598 => (pure (Out.ret d598) : M (Out (Unit) (Empty))))))))
def f_is_number (word556 : D) : M D := defM (b_is_number word556)
def b_number_in (word599 : D) : M (Out Unit Empty) := ((((pure word599) >>= fun a600 => pcallM (app1 f_is_number) [a600]) >>= fun a601 => pcallM (app1 f_need) [a601]) >>= fun _ => (((pure word599) >>= fun x602 => intM x602) >>= fun d603 => (pure (Out.ret d603) : M (Out (Unit) (Empty)))))
def f_number_in (word599 : D) : M D := defM (b_number_in word599)
def c_numbers_in_1 : D → M (List D) := fun x607 => liftO (some x607) >>= fun p608 => (pure true) >>= fun t609 => if t609 = true then (((pure p608) >>= fun a611 => pcallM (app1 f_number_in) [a611]) >>= fun y610 => pure [y610]) else pure []
def b_numbers_in (words604 : D) : M (Out Unit Empty) := (((((pure words604) >>= fun x605 => itemsM x605) >>= fun xs606 => lcM xs606 c_numbers_in_1) >>= fun x612 => tupleM x612) >>= fun d613 => (pure (Out.ret d613) : M (Out (Unit) (Empty))))
def f_numbers_in (words604 : D) : M D := defM (b_numbers_in words604)
def c_head_in_1 (places640 : D) : D → M (List D) := fun x654 => liftO (some x654) >>= fun p655 => (pure true) >>= fun t656 => if t656 = true then (((((pure places640) >>= fun x658 => (pure p655) >>= fun y659 => ixM x658 y659) >>= fun a664 => ((pure places640) >>= fun x662 => ((pure p655) >>= fun x660 => (pure (.int 1)) >>= fun y661 => addM x660 y661) >>= fun y663 => ixM x662 y663) >>= fun a665 => pure [a664, a665]) >>= fun xs666 => tupM xs666) >>= fun y657 => pure [y657]) else pure []
def b_head_in (row614 : D) : M (Out Unit Empty) := (((pure row614) >>= fun a616 => pcallM (app1 f_words_in) [a616]) >>= fun words615 => ((((((pure words615) >>= fun x617 => lenM x617) >>= fun x618 => (pure (.int 7)) >>= fun y619 => geM x618 y619) >>= fun x630 => andV x630 (((((pure words615) >>= fun x620 => lenM x620) >>= fun x621 => (pure (.int 2)) >>= fun y622 => modM x621 y622) >>= fun x623 => (pure (.int 1)) >>= fun y624 => eqM x623 y624) >>= fun x629 => andV x629 (((pure words615) >>= fun x625 => (pure (.int 0)) >>= fun y626 => ixM x625 y626) >>= fun x627 => (pure (.str "work")) >>= fun y628 => eqM x627 y628))) >>= fun a631 => pcallM (app1 f_need) [a631]) >>= fun _ => ((((((pure words615) >>= fun x634 => (((pure (.int 6)) >>= fun x632 => negM x632) >>= fun x633 => asI x633) >>= fun l635 => stepM 2 x634 l635) >>= fun x636 => tupleM x636) >>= fun x637 => (pure (.tup [.str "span", .str "every", .str "least"])) >>= fun y638 => eqM x637 y638) >>= fun a639 => pcallM (app1 f_need) [a639]) >>= fun _ => ((((pure words615) >>= fun x644 => ((pure (.int 1)) >>= fun x641 => asI x641) >>= fun l645 => (((pure (.int 6)) >>= fun x642 => negM x642) >>= fun x643 => asI x643) >>= fun u646 => sliceM x644 l645 u646) >>= fun a647 => pcallM (app1 f_numbers_in) [a647]) >>= fun places640 => (((((pure (.int 0)) >>= fun x650 => ((pure places640) >>= fun x649 => lenM x649) >>= fun y651 => (pure (.int 2)) >>= fun z652 => rng3M [x650, y651, z652]) >>= fun xs653 => lcM xs653 (c_head_in_1 places640)) >>= fun x667 => tupleM x667) >>= fun work648 => (((((pure work648) >>= fun a668 => pure [a668]) >>= fun xs669 => tupM xs669) >>= fun x675 => (((pure words615) >>= fun x672 => (((pure (.int 5)) >>= fun x670 => negM x670) >>= fun x671 => asI x671) >>= fun l673 => stepM 2 x672 l673) >>= fun a674 => pcallM (app1 f_numbers_in) [a674]) >>= fun y676 => addM x675 y676) >>= fun d677 => (pure (Out.ret d677) : M (Out (Unit) (Empty)))))))))
def f_head_in (row614 : D) : M D := defM (b_head_in row614)
def b_is_whole (thing678 : D) : M (Out Unit Empty) := ((((pure thing678) >>= fun x679 => isiM "int" x679) >>= fun x685 => andV x685 (((pure thing678) >>= fun x680 => (pure (.bl true)) >>= fun y681 => isM true x680 y681) >>= fun x684 => andV x684 ((pure thing678) >>= fun x682 => (pure (.bl false)) >>= fun y683 => isM true x682 y683))) >>= fun d686 => (pure (Out.ret d686) : M (Out (Unit) (Empty))))
def f_is_whole (thing678 : D) : M D := defM (b_is_whole thing678)
def b_is_stretch (thing687 : D) : M (Out Unit Empty) := ((((((pure thing687) >>= fun x688 => isiM "tuple" x688) >>= fun x689 => truM x689) >>= fun t690 => pure (!t690)) >>= fun t695 => if t695 = true then pure true else ((((pure thing687) >>= fun x691 => lenM x691) >>= fun x692 => (pure (.int 2)) >>= fun y693 => neM x692 y693) >>= fun b694 => asB b694)) >>= fun t696 => if t696 = true then obind ((pure (.bl false)) >>= fun d697 => (pure (Out.ret d697) : M (Out (Empty) (Empty)))) (fun e => e.elim) else (((((pure thing687) >>= fun x698 => (pure (.int 0)) >>= fun y699 => ixM x698 y699) >>= fun a700 => pcallM (app1 f_is_whole) [a700]) >>= fun x711 => andV x711 ((((pure thing687) >>= fun x701 => (pure (.int 1)) >>= fun y702 => ixM x701 y702) >>= fun a703 => pcallM (app1 f_is_whole) [a703]) >>= fun x710 => andV x710 (((pure thing687) >>= fun x704 => (pure (.int 0)) >>= fun y705 => ixM x704 y705) >>= fun x708 => ((pure thing687) >>= fun x706 => (pure (.int 1)) >>= fun y707 => ixM x706 y707) >>= fun y709 => ltM x708 y709))) >>= fun d712 => (pure (Out.ret d712) : M (Out (Unit) (Empty)))))
def f_is_stretch (thing687 : D) : M D := defM (b_is_stretch thing687)
def c_check_work_1 : D → M (List D) := fun x719 => liftO (some x719) >>= fun p720 => (pure true) >>= fun t721 => if t721 = true then (((pure p720) >>= fun a723 => pcallM (app1 f_is_stretch) [a723]) >>= fun y722 => pure [y722]) else pure []
def l_check_work_2 : D → (Unit) → M (Out (Unit) (Unit)) := fun x738 t729 => liftO ((unpT (uCons some (uCons some uNil))) x738) >>= fun p739 => (((((pure p739.2.1) >>= fun x740 => (pure (.int 0)) >>= fun y741 => ixM x740 y741) >>= fun x744 => ((pure p739.1) >>= fun x742 => (pure (.int 1)) >>= fun y743 => ixM x742 y743) >>= fun y745 => ltM x744 y745) >>= fun b746 => asB b746) >>= fun t747 => if t747 = true then obind (throwM "BadWork" : M (Out (Empty) (Unit))) (fun e => e.elim) else (pure (Out.nx ()) : M (Out (Unit) (Unit))))
def b_check_work (work713 : D) : M (Out Unit Empty) := ((((((pure work713) >>= fun x714 => isiM "tuple" x714) >>= fun x715 => truM x715) >>= fun t716 => pure (!t716)) >>= fun t727 => if t727 = true then pure true else ((((((pure work713) >>= fun x717 => itemsM x717) >>= fun xs718 => lcM xs718 c_check_work_1) >>= fun x724 => allM x724) >>= fun x725 => truM x725) >>= fun t726 => pure (!t726))) >>= fun t728 => if t728 = true then obind (throwM "BadWork" : M (Out (Empty) (Empty))) (fun e => e.elim) else (((pure work713) >>= fun x735 => ((pure work713) >>= fun x732 => ((pure (.int 1)) >>= fun x731 => asI x731) >>= fun l733 => (pure none) >>= fun u734 => sliceM x732 l733 u734) >>= fun y736 => zipM [x735, y736]) >>= fun xs737 => obind (forM xs737 (() : Unit) l_check_work_2) (fun s730 => (pure (Out.nx ()) : M (Out (Unit) (Empty))))))
def f_check_work (work713 : D) : M D := defM (b_check_work work713)
def l_check_bounds_1 : D → (Unit) → M (Out (Unit) (Unit)) := fun x760 t751 => liftO (some x760) >>= fun p761 => ((((((pure p761) >>= fun a762 => pcallM (app1 f_is_whole) [a762]) >>= fun x763 => truM x763) >>= fun t764 => pure (!t764)) >>= fun t768 => if t768 = true then pure true else (((pure p761) >>= fun x765 => (pure (.int 1)) >>= fun y766 => ltM x765 y766) >>= fun b767 => asB b767)) >>= fun t769 => if t769 = true then obind (throwM "BadBound" : M (Out (Empty) (Unit))) (fun e => e.elim) else (pure (Out.nx ()) : M (Out (Unit) (Unit))))
def b_check_bounds (span748 : D) (every749 : D) (least750 : D) : M (Out Unit Empty) := (((((pure span748) >>= fun a755 => ((pure every749) >>= fun a753 => (pure least750) >>= fun a754 => pure [a753, a754]) >>= fun as756 => pure (a755 :: as756)) >>= fun xs757 => tupM xs757) >>= fun x758 => itemsM x758) >>= fun xs759 => obind (forM xs759 (() : Unit) l_check_bounds_1) (fun s752 => ((((pure least750) >>= fun x770 => (pure every749) >>= fun y771 => ltM x770 y771) >>= fun b772 => asB b772) >>= fun t773 => if t773 = true then obind (throwM "BadBound" : M (Out (Empty) (Empty))) (fun e => e.elim) else (pure (Out.nx ()) : M (Out (Unit) (Empty))))))
def f_check_bounds (span748 : D) (every749 : D) (least750 : D) : M D := defM (b_check_bounds span748 every749 least750)
def b_line_in (row774 : D) : M (Out Unit Empty) := (((pure row774) >>= fun a776 => pcallM (app1 f_words_in) [a776]) >>= fun words775 => (((((pure words775) >>= fun x777 => (pure (.int 0)) >>= fun y778 => ixM x777 y778) >>= fun x779 => (pure (.str "told")) >>= fun y780 => eqM x779 y780) >>= fun b781 => asB b781) >>= fun t782 => if t782 = true then obind (((((pure words775) >>= fun x783 => lenM x783) >>= fun x784 => (pure (.int 4)) >>= fun y785 => geM x784 y785) >>= fun a786 => pcallM (app1 f_need) [a786]) >>= fun _ => ((((pure words775) >>= fun x789 => ((pure (.int 1)) >>= fun x788 => asI x788) >>= fun l790 => (pure none) >>= fun u791 => sliceM x789 l790 u791) >>= fun a792 => pcallM (app1 f_numbers_in) [a792]) >>= fun numbers787 => ((((((pure (.str "told")) >>= fun a793 => pure [a793]) >>= fun xs794 => tupM xs794) >>= fun x799 => ((pure numbers787) >>= fun x796 => (pure none) >>= fun l797 => ((pure (.int 3)) >>= fun x795 => asI x795) >>= fun u798 => sliceM x796 l797 u798) >>= fun y800 => addM x799 y800) >>= fun x807 => ((((pure numbers787) >>= fun x802 => ((pure (.int 3)) >>= fun x801 => asI x801) >>= fun l803 => (pure none) >>= fun u804 => sliceM x802 l803 u804) >>= fun a805 => pure [a805]) >>= fun xs806 => tupM xs806) >>= fun y808 => addM x807 y808) >>= fun d809 => (pure (Out.ret d809) : M (Out (Empty) (Empty)))))) (fun e => e.elim) else ((((((pure words775) >>= fun x810 => (pure (.int 0)) >>= fun y811 => ixM x810 y811) >>= fun x812 => kinM false kd_COUNTS x812) >>= fun x819 => andV x819 (((pure words775) >>= fun x813 => lenM x813) >>= fun x817 => (((pure words775) >>= fun x814 => (pure (.int 0)) >>= fun y815 => ixM x814 y815) >>= fun x816 => kgetM kd_COUNTS x816) >>= fun y818 => eqM x817 y818)) >>= fun a820 => pcallM (app1 f_need) [a820]) >>= fun _ => (((((pure words775) >>= fun x821 => (pure (.int 0)) >>= fun y822 => ixM x821 y822) >>= fun x823 => (pure (.str "lent")) >>= fun y824 => eqM x823 y824) >>= fun b825 => asB b825) >>= fun t826 => if t826 = true then obind (((((pure (.str "lent")) >>= fun a834 => ((((pure words775) >>= fun x827 => (pure (.int 1)) >>= fun y828 => ixM x827 y828) >>= fun a829 => pcallM (app1 f_number_in) [a829]) >>= fun a832 => ((pure words775) >>= fun x830 => (pure (.int 2)) >>= fun y831 => ixM x830 y831) >>= fun a833 => pure [a832, a833]) >>= fun as835 => pure (a834 :: as835)) >>= fun xs836 => tupM xs836) >>= fun x842 => (((pure words775) >>= fun x838 => ((pure (.int 3)) >>= fun x837 => asI x837) >>= fun l839 => (pure none) >>= fun u840 => sliceM x838 l839 u840) >>= fun a841 => pcallM (app1 f_numbers_in) [a841]) >>= fun y843 => addM x842 y843) >>= fun d844 => (pure (Out.ret d844) : M (Out (Empty) (Empty)))) (fun e => e.elim) else ((((((pure words775) >>= fun x845 => (pure (.int 0)) >>= fun y846 => ixM x845 y846) >>= fun a847 => pure [a847]) >>= fun xs848 => tupM xs848) >>= fun x854 => (((pure words775) >>= fun x850 => ((pure (.int 1)) >>= fun x849 => asI x849) >>= fun l851 => (pure none) >>= fun u852 => sliceM x850 l851 u852) >>= fun a853 => pcallM (app1 f_numbers_in) [a853]) >>= fun y855 => addM x854 y855) >>= fun d856 => (pure (Out.ret d856) : M (Out (Unit) (Empty))))))))
def f_line_in (row774 : D) : M D := defM (b_line_in row774)
def c_read_text_1 : D → M (List D) := fun x872 => liftO (some x872) >>= fun p873 => (pure true) >>= fun t874 => if t874 = true then (((pure p873) >>= fun a876 => pcallM (app1 f_line_in) [a876]) >>= fun y875 => pure [y875]) else pure []
def b_read_text (text857 : D) : M (Out Unit Empty) := (((pure text857) >>= fun a859 => pcallM (app1 f_whole_rows) [a859]) >>= fun rows858 => ((((pure rows858) >>= fun x860 => (pure (.int 0)) >>= fun y861 => ixM x860 y861) >>= fun a862 => pcallM (app1 f_head_in) [a862]) >>= fun d863 => liftO ((unpT (uCons some (uCons some (uCons some (uCons some uNil))))) d863) >>= fun p864 => ((((((pure rows858) >>= fun x867 => ((pure (.int 1)) >>= fun x866 => asI x866) >>= fun l868 => (pure none) >>= fun u869 => sliceM x867 l868 u869) >>= fun x870 => itemsM x870) >>= fun xs871 => lcM xs871 c_read_text_1) >>= fun x877 => tupleM x877) >>= fun lines865 => (((pure p864.1) >>= fun a878 => pcallM (app1 f_check_work) [a878]) >>= fun _ => (((pure p864.2.1) >>= fun a879 => (pure p864.2.2.1) >>= fun a880 => (pure p864.2.2.2.1) >>= fun a881 => pcallM (app3 f_check_bounds) [a879, a880, a881]) >>= fun _ => ((((pure p864.1) >>= fun a888 => ((pure p864.2.1) >>= fun a886 => ((pure p864.2.2.1) >>= fun a884 => ((pure p864.2.2.2.1) >>= fun a882 => (pure lines865) >>= fun a883 => pure [a882, a883]) >>= fun as885 => pure (a884 :: as885)) >>= fun as887 => pure (a886 :: as887)) >>= fun as889 => pure (a888 :: as889)) >>= fun xs890 => tupM xs890) >>= fun d891 => (pure (Out.ret d891) : M (Out (Unit) (Empty)))))))))
def f_read_text (text857 : D) : M D := defM (b_read_text text857)
def c_law_whole_through_1 (self_law_whole_through : D → M D) : D → M (List D) := fun x898 => liftO (some x898) >>= fun p899 => ((((pure p899) >>= fun a902 => pcallM (app1 self_law_whole_through) [a902]) >>= fun x903 => truM x903) >>= fun t904 => pure (!t904)) >>= fun t900 => if t900 = true then ((pure p899) >>= fun y901 => pure [y901]) else pure []
def b_law_whole_through (self_law_whole_through : D → M D) (thing892 : D) : M (Out Unit Empty) := ((((pure thing892) >>= fun x893 => isiM "tuple" x893) >>= fun x894 => truM x894) >>= fun t895 => if t895 = true then obind (((((pure thing892) >>= fun x896 => itemsM x896) >>= fun xs897 => lcM xs897 (c_law_whole_through_1 self_law_whole_through)) >>= fun x906 => ((pure []) >>= fun xs905 => lstM xs905) >>= fun y907 => eqM x906 y907) >>= fun d908 => (pure (Out.ret d908) : M (Out (Empty) (Empty)))) (fun e => e.elim) else ((((pure thing892) >>= fun x909 => isi2M "int" "str" x909) >>= fun x912 => andV x912 (((pure thing892) >>= fun x910 => isiM "bool" x910) >>= fun x911 => notV x911)) >>= fun d913 => (pure (Out.ret d913) : M (Out (Unit) (Empty)))))
def f_law_whole_through : Nat → D → M D
  | 0 => fun _ => defM (stuck : M (Out Unit Empty))
  | n + 1 => fun thing892 => defM (b_law_whole_through (f_law_whole_through n) thing892)
def b_line_text (line914 : D) : M (Out Unit Empty) := (((((pure line914) >>= fun x915 => (pure (.int 0)) >>= fun y916 => ixM x915 y916) >>= fun x917 => (pure (.str "told")) >>= fun y918 => eqM x917 y918) >>= fun b919 => asB b919) >>= fun t920 => if t920 = true then obind (((((pure line914) >>= fun x922 => (pure none) >>= fun l923 => ((pure (.int 4)) >>= fun x921 => asI x921) >>= fun u924 => sliceM x922 l923 u924) >>= fun x927 => ((pure line914) >>= fun x925 => (pure (.int 4)) >>= fun y926 => ixM x925 y926) >>= fun y928 => addM x927 y928) >>= fun a929 => pcallM (app1 f_row_of) [a929]) >>= fun d930 => (pure (Out.ret d930) : M (Out (Empty) (Empty)))) (fun e => e.elim) else (((pure line914) >>= fun a931 => pcallM (app1 f_row_of) [a931]) >>= fun d932 => (pure (Out.ret d932) : M (Out (Unit) (Empty)))))
def f_line_text (line914 : D) : M D := defM (b_line_text line914)
def c_law_1 (script933 : D) : D → M (List D) := fun x949 => liftO (some x949) >>= fun p950 => (pure true) >>= fun t951 => if t951 = true then ((((pure script933) >>= fun a953 => (pure p950) >>= fun a954 => f_law_well a953 a954) >>= fun a955 => f_law_free_line a955) >>= fun y952 => pure [y952]) else pure []
def c_law_2 : D → M (List D) := fun x959 => liftO (some x959) >>= fun p960 => (pure true) >>= fun t961 => if t961 = true then (((pure p960) >>= fun a963 => pcallM (app1 f_law_line_text) [a963]) >>= fun y962 => pure [y962]) else pure []
def c_law_3 : D → M (List D) := fun x1077 => liftO (some x1077) >>= fun p1078 => (pure true) >>= fun t1079 => if t1079 = true then (((pure p1078) >>= fun a1081 => pcallM (app1 f_line_text) [a1081]) >>= fun y1080 => pure [y1080]) else pure []
def l_law_4 (text979 : D) (work937 : D) (limits939 : D) (lines941 : D) (p978 : D) : D → (Option D) → M (Out (Option D) (Option D)) := fun x1026 t997 => liftO (some x1026) >>= fun p1027 => ((((pure text979) >>= fun x1029 => (pure p1027) >>= fun y1030 => addM x1029 y1030) >>= fun a1031 => pcallM (app1 f_read_text) [a1031]) >>= fun found1028 => (((((pure found1028) >>= fun x1045 => (((((pure work937) >>= fun a1032 => pure [a1032]) >>= fun xs1033 => tupM xs1033) >>= fun x1034 => (pure limits939) >>= fun y1035 => addM x1034 y1035) >>= fun x1043 => (((((pure lines941) >>= fun x1037 => (pure none) >>= fun l1038 => ((pure p978) >>= fun x1036 => asI x1036) >>= fun u1039 => sliceM x1037 l1038 u1039) >>= fun x1040 => tupleM x1040) >>= fun a1041 => pure [a1041]) >>= fun xs1042 => tupM xs1042) >>= fun y1044 => addM x1043 y1044) >>= fun y1046 => neM x1045 y1046) >>= fun b1047 => asB b1047) >>= fun t1051 => if t1051 = true then pure true else ((((pure found1028) >>= fun a1048 => pcallM (app1 (f_law_whole_through 8)) [a1048]) >>= fun x1049 => truM x1049) >>= fun t1050 => pure (!t1050))) >>= fun t1052 => if t1052 = true then obind ((pure (.bl false)) >>= fun d1053 => (pure (Out.ret d1053) : M (Out (Empty) (Option D)))) (fun e => e.elim) else (pure (Out.nx (some found1028)) : M (Out (Option D) (Option D)))))
def l_law_5 (work937 : D) (limits939 : D) (rows956 : D) (well_here934 : D) (lines941 : D) : D → (Option D) → M (Out (Option D) (Option D)) := fun x977 t964 => liftO (some x977) >>= fun p978 => ((((pure work937) >>= fun a980 => (pure limits939) >>= fun a981 => pcallM (app2 f_law_head) [a980, a981]) >>= fun x988 => ((pure (.str "")) >>= fun x986 => schk x986 >>= fun _ => ((pure rows956) >>= fun x983 => (pure none) >>= fun l984 => ((pure p978) >>= fun x982 => asI x982) >>= fun u985 => sliceM x983 l984 u985) >>= fun y987 => joinM x986 y987) >>= fun y989 => addM x988 y989) >>= fun text979 => ((((pure rows956) >>= fun x993 => (((pure (.str "join 0\n")) >>= fun a991 => pure [a991]) >>= fun xs992 => lstM xs992) >>= fun y994 => addM x993 y994) >>= fun x995 => (pure p978) >>= fun y996 => ixM x995 y996) >>= fun row_here990 => (((((pure (.str "")) >>= fun a1021 => (((pure row_here990) >>= fun x1001 => (pure none) >>= fun l1002 => (((pure (.int 1)) >>= fun x999 => negM x999) >>= fun x1000 => asI x1000) >>= fun u1003 => sliceM x1001 l1002 u1003) >>= fun a1019 => (((pure row_here990) >>= fun x1008 => (pure none) >>= fun l1009 => (((pure well_here934) >>= fun a1004 => ((pure row_here990) >>= fun x1005 => lenM x1005) >>= fun a1006 => f_law_draw a1004 a1006) >>= fun x1007 => asI x1007) >>= fun u1010 => sliceM x1008 l1009 u1010) >>= fun a1017 => ((pure (.str " ")) >>= fun a1015 => ((pure (.str "work")) >>= fun a1013 => ((pure (.str "  told 05 x")) >>= fun a1011 => (pure (.str "-")) >>= fun a1012 => pure [a1011, a1012]) >>= fun as1014 => pure (a1013 :: as1014)) >>= fun as1016 => pure (a1015 :: as1016)) >>= fun as1018 => pure (a1017 :: as1018)) >>= fun as1020 => pure (a1019 :: as1020)) >>= fun as1022 => pure (a1021 :: as1022)) >>= fun xs1023 => lstM xs1023) >>= fun x1024 => itemsM x1024) >>= fun xs1025 => obind (forM xs1025 (t964 : Option D) (l_law_4 text979 work937 limits939 lines941 p978)) (fun s998 => (((((pure text979) >>= fun a1054 => pcallM (app1 f_read_text) [a1054]) >>= fun x1055 => (optM s998) >>= fun y1056 => neM x1055 y1056) >>= fun b1057 => asB b1057) >>= fun t1058 => if t1058 = true then obind ((pure (.bl false)) >>= fun d1059 => (pure (Out.ret d1059) : M (Out (Empty) (Option D)))) (fun e => e.elim) else ((((optM s998) >>= fun x1061 => (pure (.int 0)) >>= fun y1062 => ixM x1061 y1062) >>= fun a1063 => ((optM s998) >>= fun x1064 => (pure (.int 1)) >>= fun y1065 => ixM x1064 y1065) >>= fun a1066 => ((optM s998) >>= fun x1067 => (pure (.int 2)) >>= fun y1068 => ixM x1067 y1068) >>= fun a1069 => ((optM s998) >>= fun x1070 => (pure (.int 3)) >>= fun y1071 => ixM x1070 y1071) >>= fun a1072 => pcallM (app4 f_head_text) [a1063, a1066, a1069, a1072]) >>= fun again1060 => (((((pure again1060) >>= fun x1084 => ((pure (.str "")) >>= fun x1082 => schk x1082 >>= fun _ => ((((optM s998) >>= fun x1073 => (pure (.int 4)) >>= fun y1074 => ixM x1073 y1074) >>= fun x1075 => itemsM x1075) >>= fun xs1076 => lcM xs1076 c_law_3) >>= fun y1083 => joinM x1082 y1083) >>= fun y1085 => addM x1084 y1085) >>= fun x1086 => (pure text979) >>= fun y1087 => neM x1086 y1087) >>= fun b1088 => asB b1088) >>= fun t1089 => if t1089 = true then obind ((pure (.bl false)) >>= fun d1090 => (pure (Out.ret d1090) : M (Out (Empty) (Option D)))) (fun e => e.elim) else (pure (Out.nx s998) : M (Out (Option D) (Option D))))))))))
def b_law (script933 : D) : M (Out Unit Empty) := (((pure script933) >>= fun a935 => (pure (.int 0)) >>= fun a936 => f_law_well a935 a936) >>= fun well_here934 => (((pure well_here934) >>= fun a938 => f_law_free_work a938) >>= fun work937 => (((pure well_here934) >>= fun a940 => f_law_free_limits a940) >>= fun limits939 => ((((pure (.int 1)) >>= fun x946 => ((pure (.int 1)) >>= fun x944 => ((pure well_here934) >>= fun a942 => (pure (.int 41)) >>= fun a943 => f_law_draw a942 a943) >>= fun y945 => addM x944 y945) >>= fun y947 => rng2M [x946, y947]) >>= fun xs948 => lcM xs948 (c_law_1 script933)) >>= fun lines941 => ((((pure lines941) >>= fun x957 => itemsM x957) >>= fun xs958 => lcM xs958 c_law_2) >>= fun rows956 => (((((pure (.int 0)) >>= fun a972 => ((((pure rows956) >>= fun x966 => lenM x966) >>= fun x967 => (pure (.int 2)) >>= fun y968 => fdivM x967 y968) >>= fun a970 => ((pure rows956) >>= fun x969 => lenM x969) >>= fun a971 => pure [a970, a971]) >>= fun as973 => pure (a972 :: as973)) >>= fun xs974 => lstM xs974) >>= fun x975 => itemsM x975) >>= fun xs976 => obind (forM xs976 (none : Option D) (l_law_5 work937 limits939 rows956 well_here934 lines941)) (fun s965 => ((pure (.bl true)) >>= fun d1091 => (pure (Out.ret d1091) : M (Out (Unit) (Empty)))))))))))
def f_law (script933 : D) : M D := defM (b_law script933)
end Lw
/-! SetG: small facts. -/
namespace Lw
open PySem L2
/-- all but the cell n is as it was -/
def Fr (n : Nat) (h h' : AH) : Prop := h'.length = h.length ∧ ∀ i, i ≠ n → h'[i]? = h[i]?
theorem Fr.set {n : Nat} {h : AH} {c : Cell} : Fr n h (h.set n c) := ⟨List.length_set .., fun i q => List.getElem?_set_ne (Ne.symm q)⟩
theorem Fr.refl {n : Nat} {h : AH} : Fr n h h := ⟨rfl, fun _ _ => rfl⟩
theorem Fr.trans {n : Nat} {a b c : AH} (x : Fr n a b) (y : Fr n b c) : Fr n a c := ⟨y.1.trans x.1, fun i q => (y.2 i q).trans (x.2 i q)⟩
theorem log_small {i : Int} {k : Nat} (h : i.natAbs < 2 ^ k) (h0 : 0 < k) : i.natAbs.log2 < k := by
  by_cases z : i.natAbs = 0
  · rw [z]
    simpa using h0
  · exact (Nat.log2_lt z).mpr h
theorem mulOk {i j : Int} (a : i.natAbs < 2 ^ 1000) (b : j.natAbs < 2 ^ 1000) : i.natAbs.log2 + j.natAbs.log2 < 1000000 := by
  have := log_small a (by decide)
  have := log_small b (by decide)
  omega
theorem small {i : Int} (a : -(2 ^ 100) < i) (b : i < 2 ^ 100) : i.natAbs < 2 ^ 1000 := by
  have : i.natAbs < 2 ^ 100 := by omega
  exact Nat.lt_of_lt_of_le this (Nat.pow_le_pow_right (by decide) (by decide))
theorem getElem?_lt {α : Type} {l : List α} {n : Nat} {x : α} (e : l[n]? = some x) : n < l.length := (List.getElem?_eq_some_iff.mp e).1
theorem rangeD_get {lo : Int} {n k : Nat} {x : D} (hx : (rangeD lo n)[k]? = some x) : k < n ∧ x = .int (lo + (k : Nat)) := by
  unfold rangeD at hx
  rw [List.getElem?_map] at hx
  by_cases hk : k < n
  · rw [List.getElem?_range hk] at hx
    exact ⟨hk, (Option.some.inj hx).symm⟩
  · rw [List.getElem?_eq_none (by rw [List.length_range]; omega)] at hx
    cases hx
theorem rangeD_len {lo : Int} {n : Nat} : (rangeD lo n).length = n := by simp [rangeD]
theorem atI_in {α : Type} {xs : List α} {i : Int} (h0 : 0 ≤ i) (h1 : i < xs.length) : ∃ x, atI xs i = some x ∧ x ∈ xs := by
  have hn : i.toNat < xs.length := by omega
  exact ⟨xs[i.toNat], atI_pos h0 (List.getElem?_eq_getElem hn), List.getElem_mem hn⟩
section
variable {h : AH} {E : Str → AH → Prop} {P : D → AH → Prop}
theorem w_pick {xs : List D} {i : Int} (h0 : 0 ≤ i) (h1 : i < xs.length) (p : ∀ x ∈ xs, P x h) : Wp (ixM (.lst xs) (.int i) h) P E := by
  obtain ⟨x, e, m⟩ := atI_in h0 h1
  exact (w_ixL e).mpr (p x m)
end
end Lw
/-! SetL: wells. -/
namespace Lw
open PySem L2
/-- a well at n, that m draws are still taken of -/
structure Well (h : AH) (n m : Nat) : Prop where
  ex : ∃ a b c : Int, h[n]? = some (.lst [.int a, .int b, .int c]) ∧ 0 ≤ a ∧ a < 2 ^ 40 ∧ 0 ≤ b ∧ 0 ≤ c ∧ c + m < 2 ^ 40
theorem Well.less {h : AH} {n m m' : Nat} (w : Well h n m) (l : m' ≤ m) : Well h n m' := by
  obtain ⟨a, b, c, e, a0, a1, b0, c0, c1⟩ := w.ex
  exact ⟨a, b, c, e, a0, a1, b0, c0, by omega⟩
section
variable {h : AH} {n m : Nat} {E : Str → AH → Prop} {P : D → AH → Prop}
theorem draw_w {k : Int} (w : Well h n (m + 1)) (k0 : 0 < k) (kb : k < 2 ^ 100) (p : ∀ r h', 0 ≤ r → r < k → Well h' n m → Fr n h h' → P (.int r) h') : Wp (f_law_draw (.ref n) (.int k) h) P E := by
  obtain ⟨a, b, c, e, a0, a1, b0, c0, c1⟩ := w.ex
  have hn := getElem?_lt e
  have l1 : (1 : Int) < (([D.int a, .int b, .int c] : List D).length : Int) := by simp
  have l2 : (2 : Int) < (([D.int a, .int b, .int c] : List D).length : Int) := by simp
  unfold f_law_draw b_law_draw
  simp only [WPS, reduceIte, w_ixR e (show atI [D.int a, .int b, .int c] 0 = some (.int a) from rfl), w_ixR e (show atI [D.int a, .int b, .int c] 1 = some (.int b) from rfl), w_ixR e (show atI [D.int a, .int b, .int c] 2 = some (.int c) from rfl),
    w_mod k0, w_fdiv k0 (Nat.lt_trans (log_small (k := 100) (by omega) (by decide)) (by decide)), w_setix e (show (0 : Int) ≤ 1 by decide) l1,
    w_setix e (show (0 : Int) ≤ 2 by decide) l2]
  by_cases hb : 0 < b
  · rw [if_pos hb]
    refine p _ _ (Int.emod_nonneg _ (by omega)) (Int.emod_lt_of_pos _ k0) ⟨a, b / k, c, by rw [List.getElem?_set_self hn]; rfl, a0, a1, Int.ediv_nonneg b0 (by omega), c0, by omega⟩ Fr.set
  · rw [if_neg hb]
    have e2 : (h.set n (.lst [.int a, .int b, .int (c + 1)]))[n]? = some (.lst [.int a, .int b, .int (c + 1)]) := List.getElem?_set_self hn
    rw [show ([D.int a, .int b, .int c].set (2 : Int).toNat (.int (c + 1))) = [.int a, .int b, .int (c + 1)] from rfl]
    have q1 := Int.emod_nonneg ((a + 7919 * (c + 1) + 1) * 48271) (show (2147483647 : Int) ≠ 0 by decide)
    have q2 := Int.emod_lt_of_pos ((a + 7919 * (c + 1) + 1) * 48271) (show (0 : Int) < 2147483647 by decide)
    generalize hu : (a + 7919 * (c + 1) + 1) * 48271 % 2147483647 = u at q1 q2
    have d1 : 0 ≤ u / 1009 := Int.ediv_nonneg q1 (by decide)
    have d2 : u / 1009 ≤ u := Int.ediv_le_self _ q1
    have q3 := Int.emod_nonneg (u * (u / 1009 + 69621)) (show (2147483647 : Int) ≠ 0 by decide)
    have q4 := Int.emod_lt_of_pos (u * (u / 1009 + 69621)) (show (0 : Int) < 2147483647 by decide)
    generalize hv : u * (u / 1009 + 69621) % 2147483647 = v at q3 q4
    have d3 : 0 ≤ v / 2003 := Int.ediv_nonneg q3 (by decide)
    have d4 : v / 2003 ≤ v := Int.ediv_le_self _ q3
    simp only [WPS, reduceIte, w_ixR e2 (show atI [D.int a, .int b, .int (c + 1)] 0 = some (.int a) from rfl), w_ixR e2 (show atI [D.int a, .int b, .int (c + 1)] 2 = some (.int (c + 1)) from rfl),
      w_mul (mulOk (small (i := 7919) (by omega) (by omega)) (small (i := c + 1) (by omega) (by omega))), w_mul (mulOk (small (i := a + 7919 * (c + 1) + 1) (by omega) (by omega)) (small (i := 48271) (by omega) (by omega))),
      w_mod (show (0 : Int) < 2147483647 by decide), hu, w_fdiv (show (0 : Int) < 1009 by decide) (by decide), w_mul (mulOk (small (i := u) (by omega) (by omega)) (small (i := u / 1009 + 69621) (by omega) (by omega))), hv,
      w_fdiv (show (0 : Int) < 2003 by decide) (by decide), w_mul (mulOk (small (i := v) (by omega) (by omega)) (small (i := v / 2003 + 40692) (by omega) (by omega))), w_mod (show (0 : Int) < 2147483399 by decide), w_mod k0]
    exact p _ _ (Int.emod_nonneg _ (by omega)) (Int.emod_lt_of_pos _ k0) ⟨a, b, c + 1, e2, a0, a1, b0, by omega, by omega⟩ Fr.set
/-- a new well -/
theorem well_w {ns : List Int} {k : Nat} (hk : k < 1000) (p : ∀ h', Well h' h.length 1000000 → h'.length = h.length + 1 → (∀ i, i < h.length → h'[i]? = h[i]?) → P (.ref h.length) h') : Wp (f_law_well (.lst (ns.map D.int)) (.int k) h) P E := by
  have fin : ∀ x : Int, P (.ref h.length) (h ++ [.lst [.int (x % 2147483647 + 48271 * k), .int (if 10 ^ 18 ≤ x then x else 0), .int 0]]) := by
    intro x
    have q1 := Int.emod_nonneg x (show (2147483647 : Int) ≠ 0 by decide)
    have q2 := Int.emod_lt_of_pos x (show (0 : Int) < 2147483647 by decide)
    have q3 : (0 : Int) ≤ if 10 ^ 18 ≤ x then x else 0 := by split <;> omega
    exact p _ ⟨x % 2147483647 + 48271 * k, if 10 ^ 18 ≤ x then x else 0, 0, List.getElem?_append_right (Nat.le_refl _) |>.trans (by simp), by omega, by omega, q3, by decide, by decide⟩ (by simp) fun i hi => List.getElem?_append_left hi
  have e18 : ((10 : Int) ^ ((18 : Int)).toNat) = 10 ^ 18 := rfl
  have tail : ∀ x : Int, Wp (ixM (.lst [.int 0, .int x]) (.int (if 10 ^ 18 ≤ x then 1 else 0)) h) (fun y h' => Wp (lstH [.int (x % 2147483647 + 48271 * k), y, .int 0] h') P E) E := by
    intro x
    have f := fin x
    by_cases c : 10 ^ 18 ≤ x
    · rw [if_pos c, w_ixL (show atI [D.int 0, .int x] 1 = some (.int x) from rfl), w_lstH (Nat.le_of_ble_eq_true rfl)]
      rw [if_pos c] at f
      exact f
    · rw [if_neg c, w_ixL (show atI [D.int 0, .int x] 0 = some (.int 0) from rfl), w_lstH (Nat.le_of_ble_eq_true rfl)]
      rw [if_neg c] at f
      exact f
  unfold f_law_well b_law_well
  by_cases hkl : (k : Int) < ns.length
  · have hk2 : k < ns.length := by omega
    simp only [WPS, reduceIte, List.length_map, hkl, w_ixL (show atI (ns.map D.int) k = some (.int ns[k]) from atI_nat (by rw [List.getElem?_map, List.getElem?_eq_getElem hk2]; rfl)),
      w_mod (show (0 : Int) < 2147483647 by decide), w_pow (show (0 : Int) ≤ 18 ∧ (18 : Int) ≤ 1000000 ∧ (10 : Int).natAbs < 2 ^ 64 by decide), e18, w_mul (mulOk (small (i := 48271) (by omega) (by omega)) (small (i := (k : Int)) (by omega) (by omega))),
      w_lst (show ([D.int 0, .int ns[k]] : List D).length ≤ 1000000 by exact Nat.le_of_ble_eq_true rfl)]
    exact tail ns[k]
  · simp only [WPS, reduceIte, List.length_map, hkl,
      w_mod (show (0 : Int) < 2147483647 by decide), w_pow (show (0 : Int) ≤ 18 ∧ (18 : Int) ≤ 1000000 ∧ (10 : Int).natAbs < 2 ^ 64 by decide), e18, w_mul (mulOk (small (i := 48271) (by omega) (by omega)) (small (i := (k : Int)) (by omega) (by omega))),
      w_lst (show ([D.int 0, .int 0] : List D).length ≤ 1000000 by exact Nat.le_of_ble_eq_true rfl)]
    exact tail 0
end
end Lw
/-! SetM: picks, rows of words. -/
namespace Lw
open PySem L2
/-- a number that is far from long -/
def gd (i : Int) : Prop := -(2 ^ 66) < i ∧ i < 2 ^ 66
theorem gd_log {i : Int} (g : gd i) : i.natAbs.log2 < 1920 := by
  unfold gd at g
  exact Nat.lt_trans (log_small (k := 100) (by omega) (by decide)) (by decide)
theorem str_len {i : Int} (g : gd i) : (Str.ofString (toString i)).length ≤ 22 := by
  unfold gd at g
  by_cases h0 : 0 ≤ i
  · exact Nat.le_trans (PyProof.Rows.toString_length_le (k := 20) h0 (by decide) (by omega)) (by decide)
  · obtain ⟨n, rfl⟩ : ∃ n : Nat, i = Int.negSucc n := by
      cases i with
      | ofNat n => exact absurd (Int.natCast_nonneg n) h0
      | negSucc n => exact ⟨n, rfl⟩
    have e : toString (Int.negSucc n) = "-" ++ toString ((n + 1 : Nat) : Int) := rfl
    have l := PyProof.Rows.toString_length_le (v := ((n + 1 : Nat) : Int)) (k := 20) (by omega) (by decide) (by omega)
    rw [PyProof.Rows.ofString_length] at l ⊢
    have q : (toString (Int.negSucc n)).toList = '-' :: (toString ((n + 1 : Nat) : Int)).toList := by
      rw [e, String.toList_append]
      rfl
    rw [q, List.length_cons]
    omega
/-- a word that is written -/
def Wd (d : D) : Prop := (∃ i, d = .int i ∧ gd i) ∨ ∃ z : Str, d = .str z ∧ z.length ≤ 22
def wrt : D → Str
  | .int i => Str.ofString (toString i)
  | .str z => z
  | _ => ⟨#[]⟩
theorem wrt_len {d : D} (w : Wd d) : (wrt d).length ≤ 22 := by
  rcases w with ⟨i, rfl, g⟩ | ⟨z, rfl, g⟩
  · exact str_len g
  · exact g
theorem str_run {d : D} {h : AH} (w : Wd d) : strM d h = .ok (.str (wrt d)) h := by
  rcases w with ⟨i, rfl, g⟩ | ⟨z, rfl, g⟩
  · show (if i.natAbs.log2 < 1920 then _ else _) = _
    rw [if_pos (gd_log g)]
    rfl
  · rfl
theorem strsOf_map (ys : List Str) : strsOf (ys.map D.str) = some ys := by
  induction ys with
  | nil => rfl
  | cons y r ih =>
    show (match strsOf (r.map D.str) with | some ys => some (y :: ys) | none => none) = _
    rw [ih]
theorem joinLen (sep : Str) : ∀ ys : List Str, (Txt.join sep ys).length ≤ (ys.map (·.length)).sum + ys.length * sep.length := by
  intro ys
  rw [TL.join_eq]
  induction ys with
  | nil => exact Nat.zero_le _
  | cons y r ih =>
    cases r with
    | nil =>
      show y.length ≤ _
      simp only [List.map_cons, List.sum_cons, List.length_cons]
      omega
    | cons z t =>
      have e : Str.join sep (y :: z :: t) = y ++ sep ++ Str.join sep (z :: t) := rfl
      have la : ∀ a b : Str, (a ++ b).length = a.length + b.length := fun a b => by
        show (a.cps ++ b.cps).size = _
        rw [Array.size_append]
        rfl
      rw [e, la, la]
      simp only [List.map_cons, List.sum_cons, List.length_cons] at ih ⊢
      rw [Nat.add_mul]
      omega
theorem sum22 {ys : List Str} (h : ∀ y ∈ ys, y.length ≤ 22) : (ys.map (·.length)).sum ≤ ys.length * 22 := by
  induction ys with
  | nil => exact Nat.zero_le _
  | cons y r ih =>
    have := h y (by simp)
    have := ih fun z hz => h z (List.mem_cons_of_mem _ hz)
    simp only [List.map_cons, List.sum_cons, List.length_cons]
    omega
/-- the row of some words -/
def rowS (ds : List D) : Str := Txt.join " " (ds.map wrt) ++ "\n"
theorem join_w {h : AH} {E : Str → AH → Prop} {P : D → AH → Prop} {sep : Str} {ys : List Str} (l : ys.length ≤ 1000) (h22 : ∀ y ∈ ys, y.length ≤ 22) (hs : sep.length ≤ 1) : Wp (joinM (.str sep) (.lst (ys.map D.str)) h) P E ↔ P (.str (Txt.join sep ys)) h := by
  have s := sum22 h22
  have m : ys.length * sep.length ≤ ys.length * 1 := Nat.mul_le_mul_left _ hs
  unfold joinM
  rw [show seqOf h (.lst (ys.map D.str)) = some (ys.map D.str) from rfl]
  simp only [strsOf_map]
  rw [if_pos (by omega)]
  exact Iff.rfl
end Lw
/-! SetW: stretches of places as sets, in plain Lean. -/
namespace Lw
abbrev P2 := Int × Int
def mem (n : Int) (w : List P2) : Prop := ∃ p, p ∈ w ∧ p.1 ≤ n ∧ n < p.2
/-- stretches one behind the other -/
def Wk (w : List P2) : Prop := w.Pairwise (fun p q => p.2 ≤ q.1) ∧ ∀ p, p ∈ w → p.1 < p.2
/-- none touches the next -/
def Can (w : List P2) : Prop := w.Pairwise (fun p q => p.2 < q.1) ∧ ∀ p, p ∈ w → p.1 < p.2
theorem Wk.nil : Wk [] := ⟨List.Pairwise.nil, fun _ h => nomatch h⟩
theorem Can.nil : Can [] := ⟨List.Pairwise.nil, fun _ h => nomatch h⟩
theorem mem_cons {n : Int} {p : P2} {w : List P2} : mem n (p :: w) ↔ (p.1 ≤ n ∧ n < p.2) ∨ mem n w := by
  unfold mem
  constructor
  · rintro ⟨q, hq, a, b⟩
    rcases List.mem_cons.mp hq with rfl | hq
    · exact .inl ⟨a, b⟩
    · exact .inr ⟨q, hq, a, b⟩
  · rintro (⟨a, b⟩ | ⟨q, hq, a, b⟩)
    · exact ⟨p, List.mem_cons_self, a, b⟩
    · exact ⟨q, List.mem_cons_of_mem _ hq, a, b⟩
theorem mem_append {n : Int} {w u : List P2} : mem n (w ++ u) ↔ mem n w ∨ mem n u := by
  unfold mem
  constructor
  · rintro ⟨q, hq, a, b⟩
    rcases List.mem_append.mp hq with hq | hq
    · exact .inl ⟨q, hq, a, b⟩
    · exact .inr ⟨q, hq, a, b⟩
  · rintro (⟨q, hq, a, b⟩ | ⟨q, hq, a, b⟩)
    · exact ⟨q, List.mem_append_left _ hq, a, b⟩
    · exact ⟨q, List.mem_append_right _ hq, a, b⟩
/-! ### laid together -/
def lstep (acc : List P2) (p : P2) : List P2 := match acc.getLast? with
  | some q => if p.1 ≤ q.2 then acc.dropLast ++ [(q.1, max q.2 p.2)] else acc ++ [p]
  | none => acc ++ [p]
def laid (xs : List P2) : List P2 := xs.foldl lstep []
/-! ### one set, one row of stretches -/
/-! ### what both hold -/
/-! ### the one without the other -/
/-! ### what either holds -/
/-! ### the facts of the three -/
section
end
/-! ### how many places -/
def size (w : List P2) : Int := (w.map fun p => p.2 - p.1).sum
def S (f : Int → Int) (L : Int) : Nat → Int
  | 0 => 0
  | k + 1 => S f L k + f (L + k)
end Lw
/-! SetLt: lines and heads as they are drawn and written. -/
namespace Lw
open PySem L2
/-- a number of eighteen figures at most -/
def gn (i : Int) : Prop := -(10 ^ 18) < i ∧ i < 10 ^ 18
theorem gn.gd {i : Int} (g : gn i) : gd i := by
  unfold gn at g
  unfold Lw.gd
  omega
def wsign (c : Nat) : Bool := c != 32 && (c != 10 && decide (c < 0x110000))
/-- a word that is written as it is -/
structure Word (z : Str) : Prop where
  pos : 1 ≤ z.length
  len : z.length ≤ 22
  signs : ∀ c ∈ z.cps.toList, wsign c = true
def signs93 : Str := "!\"#$&'()*+,-./0123456789:;<=>?@ABCDEFGHIJKLMNOPQRSTUVWXYZ[\\]^_`abcdefghijklmnopqrstuvwxyz{|}~"
theorem signs_ok : ∀ c ∈ signs93.cps.toList, wsign c = true := by decide +kernel
theorem str_app (a b : Str) : (a ++ b).cps.toList = a.cps.toList ++ b.cps.toList := by
  show (a.cps ++ b.cps).toList = _
  exact Array.toList_append
theorem join0 : ∀ ys : List Str, (Txt.join "" ys).cps.toList = (ys.map fun y => y.cps.toList).flatten := by
  intro ys
  rw [TL.join_eq]
  induction ys with
  | nil => rfl
  | cons y r ih =>
    cases r with
    | nil =>
      show y.cps.toList = _
      simp
    | cons z t =>
      have e : Str.join "" (y :: z :: t) = y ++ "" ++ Str.join "" (z :: t) := rfl
      rw [e, str_app, str_app, ih]
      show y.cps.toList ++ [] ++ _ = _
      rw [List.append_nil]
      rfl
theorem word_of {ys : List Str} (l1 : 1 ≤ ys.length) (l2 : ys.length ≤ 22) (h : ∀ y ∈ ys, y.length = 1 ∧ ∀ c ∈ y.cps.toList, wsign c = true) : Word (Txt.join "" ys) := by
  have len : (Txt.join "" ys).length = ys.length := by
    show (Txt.join "" ys).cps.size = _
    rw [← Array.length_toList, join0]
    clear l1 l2
    induction ys with
    | nil => rfl
    | cons y r ih =>
      rw [List.map_cons, List.flatten_cons, List.length_append, ih fun z hz => h z (List.mem_cons_of_mem _ hz), List.length_cons, show y.cps.toList.length = 1 from (by rw [Array.length_toList]; exact (h y List.mem_cons_self).1)]
      omega
  refine ⟨by omega, by omega, fun c hc => ?_⟩
  rw [join0] at hc
  obtain ⟨l, hl, hm⟩ := List.mem_flatten.mp hc
  obtain ⟨y, hy, rfl⟩ := List.mem_map.mp hl
  exact (h y hy).2 c hm
theorem flat_one {α β : Type} (f : α → β) : ∀ xs : List α, (xs.map fun x => [f x]).flatten = xs.map f
  | [] => rfl
  | x :: r => by
    rw [List.map_cons, List.flatten_cons, flat_one f r]
    rfl
section
variable {h : AH} {n m : Nat} {E : Str → AH → Prop} {P : D → AH → Prop}
theorem row_go {ds : List D} (x : D) (hx : itemsM x h = .ok ds h) (hw : ∀ d ∈ ds, Wd d) (l : ds.length ≤ 200) (p : P (.str (rowS ds)) h) : Wp (f_law_row x h) P E := by
  unfold f_law_row b_law_row
  have l1 : (Txt.join " " (ds.map wrt)).length + (("\n" : Str)).length ≤ 1000000 := by
    have a := joinLen " " (ds.map wrt)
    have b := sum22 (ys := ds.map wrt) fun y hy => by
      obtain ⟨d, hd, rfl⟩ := List.mem_map.mp hy
      exact wrt_len (hw d hd)
    have c : ((" " : Str)).length = 1 := rfl
    have d : (("\n" : Str)).length = 1 := rfl
    rw [c] at a
    rw [d]
    rw [List.length_map] at a b
    omega
  simp only [WPS, reduceIte]
  refine Wp.of_eq hx (w_lc_map (fun d => [D.str (wrt d)]) (by omega) (fun d hd => ?_) ?_)
  · have e := str_run (h := h) (hw d hd)
    unfold c_law_row_1
    simp only [r_bind, r_pure, r_ok, r_lift, e, if_true]
  · rw [flat_one (fun d => D.str (wrt d)), show ds.map (fun d => D.str (wrt d)) = (ds.map wrt).map D.str by rw [List.map_map]; rfl]
    refine (join_w (by rw [List.length_map]; omega) (fun y hy => ?_) (show ((" " : Str)).length ≤ 1 from Nat.le_refl _)).mpr ?_
    · obtain ⟨d, hd, rfl⟩ := List.mem_map.mp hy
      exact wrt_len (hw d hd)
    · simp only [WPS, reduceIte, w_addS l1]
      exact p
theorem nr_wd {ds : List D} (hw : ∀ d ∈ ds, Wd d) : noRefs ds = true := by
  induction ds with
  | nil => rfl
  | cons d r ih =>
    rw [noRefs_cons, ih fun x hx => hw x (List.mem_cons_of_mem _ hx), Bool.and_true]
    rcases hw d (by simp) with ⟨i, rfl, _⟩ | ⟨z, rfl, _⟩
    · exact noRef_int
    · exact noRef_str
/-- the parts of a head -/
def headD (ps : List (Int × Int)) (a b c : Int) : List D := (.str "work" :: (ps.map fun p => [D.int p.1, .int p.2]).flatten) ++ [.str "span", .int a, .str "every", .int b, .str "least", .int c]
def prD (ps : List (Int × Int)) : D := .tup (ps.map fun p => D.tup [.int p.1, .int p.2])
theorem nr_prD (ps : List (Int × Int)) : noRef (prD ps) = true := by
  unfold prD
  rw [noRef_tup]
  exact noRefs_map fun x => by simp [noRef, noRefs]
theorem flat_len (ps : List (Int × Int)) : ((ps.map fun p => [D.int p.1, .int p.2]).flatten).length = 2 * ps.length := by
  induction ps with
  | nil => rfl
  | cons p r ih =>
    rw [List.map_cons, List.flatten_cons, List.length_append, ih]
    simp only [List.length_cons, List.length_nil]
    omega
theorem head_wd {ps : List (Int × Int)} {a b c : Int} (hp : ∀ p ∈ ps, gd p.1 ∧ gd p.2) (ha : gd a) (hb : gd b) (hc : gd c) : ∀ d ∈ headD ps a b c, Wd d := by
  intro d hd
  unfold headD at hd
  rcases List.mem_append.mp hd with hd | hd
  · rcases List.mem_cons.mp hd with rfl | hd
    · exact .inr ⟨_, rfl, by decide⟩
    · obtain ⟨l, hl, hm⟩ := List.mem_flatten.mp hd
      obtain ⟨p, hpm, rfl⟩ := List.mem_map.mp hl
      obtain ⟨g1, g2⟩ := hp p hpm
      simp only [List.mem_cons, List.not_mem_nil, or_false] at hm
      rcases hm with rfl | rfl
      · exact .inl ⟨_, rfl, g1⟩
      · exact .inl ⟨_, rfl, g2⟩
  · simp only [List.mem_cons, List.not_mem_nil, or_false] at hd
    rcases hd with rfl | rfl | rfl | rfl | rfl | rfl
    · exact .inr ⟨_, rfl, by decide⟩
    · exact .inl ⟨_, rfl, ha⟩
    · exact .inr ⟨_, rfl, by decide⟩
    · exact .inl ⟨_, rfl, hb⟩
    · exact .inr ⟨_, rfl, by decide⟩
    · exact .inl ⟨_, rfl, hc⟩
theorem head_len {ps : List (Int × Int)} {a b c : Int} (l : ps.length ≤ 6) : (headD ps a b c).length ≤ 200 := by
  unfold headD
  rw [List.length_append, List.length_cons, flat_len]
  simp only [List.length_cons, List.length_nil]
  omega
theorem take_succ_get {α : Type} {xs : List α} {k : Nat} {x : α} (e : xs[k]? = some x) : xs.take (k + 1) = xs.take k ++ [x] := by
  rw [List.take_add_one, e]
  rfl
theorem law_head_w {ps : List (Int × Int)} {a b c : Int} (l : ps.length ≤ 6) (hp : ∀ p ∈ ps, gd p.1 ∧ gd p.2) (ha : gd a) (hb : gd b) (hc : gd c) (p : P (.str (rowS (headD ps a b c))) h) : Wp (f_law_head (prD ps) (.tup [.int a, .int b, .int c]) h) P E := by
  unfold f_law_head b_law_head
  simp only [WPS, reduceIte, w_lst (show ([D.str "work"] : List D).length ≤ 1000000 by exact Nat.le_of_ble_eq_true rfl), prD]
  refine w_for (fun k t h' => h' = h ∧ t = .lst (.str "work" :: ((ps.take k).map fun p => [D.int p.1, .int p.2]).flatten)) ⟨rfl, rfl⟩ (fun k x t h' hx i => ?_) fun t h' i => ?_
  · obtain ⟨rfl, rfl⟩ := i
    rw [List.getElem?_map] at hx
    cases hk : ps[k]? with
    | none => rw [hk] at hx; cases hx
    | some q =>
      rw [hk] at hx
      cases hx
      have hkl := getElem?_lt hk
      unfold l_law_head_1
      simp only [WPS, reduceIte, w_lst (show ([D.int q.1, .int q.2] : List D).length ≤ 1000000 by exact Nat.le_of_ble_eq_true rfl), unpT, items?, uCons, uNil]
      have e := flat_len (ps.take k)
      rw [w_addL (by simp only [List.length_cons, List.length_nil, e, List.length_take]; omega)]
      refine ⟨rfl, ?_⟩
      rw [take_succ_get hk, List.map_append, List.flatten_append]
      rfl
  · obtain ⟨rfl, rfl⟩ := i
    rw [List.length_map, List.take_length]
    simp only [WPS, reduceIte, w_ixT (show atI [D.int a, .int b, .int c] 0 = some (.int a) from rfl), w_ixT (show atI [D.int a, .int b, .int c] 1 = some (.int b) from rfl), w_ixT (show atI [D.int a, .int b, .int c] 2 = some (.int c) from rfl),
      w_lst (show ([D.str "span", .int a, .str "every", .int b, .str "least", .int c] : List D).length ≤ 1000000 by exact Nat.le_of_ble_eq_true rfl)]
    have e := flat_len ps
    rw [w_addL (by simp only [List.length_cons, List.length_nil, e]; omega), w_pcall]
    refine ⟨?_, ?_⟩
    · rw [noRefs_cons, noRefs_nil, Bool.and_true, noRef_lst]
      exact nr_wd (head_wd hp ha hb hc)
    · rw [w_app1]
      refine row_go _ rfl (head_wd hp ha hb hc) (head_len l) ⟨noRef_str, p⟩
theorem head_text_w {ps : List (Int × Int)} {a b c : Int} (l : ps.length ≤ 6) (hp : ∀ p ∈ ps, gd p.1 ∧ gd p.2) (ha : gd a) (hb : gd b) (hc : gd c) (p : ∀ h', P (.str (rowS (headD ps a b c))) h') : Wp (f_head_text (prD ps) (.int a) (.int b) (.int c) h) P E := by
  unfold f_head_text b_head_text
  simp only [WPS, reduceIte, w_lstH (show ([D.str "work"] : List D).length ≤ 1000000 by exact Nat.le_of_ble_eq_true rfl), prD]
  refine w_for (fun k t h' => h'[h.length]? = some (.lst (.str "work" :: ((ps.take k).map fun p => [D.int p.1, .int p.2]).flatten))) (by simp) (fun k x t h' hx i => ?_) fun t h' i => ?_
  · rw [List.getElem?_map] at hx
    cases hk : ps[k]? with
    | none => rw [hk] at hx; cases hx
    | some q =>
      rw [hk] at hx
      cases hx
      have hkl := getElem?_lt hk
      have e := flat_len (ps.take k)
      have ex : extendM (.ref h.length) (.lst [.int q.1, .int q.2]) h' = .ok .non (h'.set h.length (.lst ((.str "work" :: ((ps.take k).map fun p => [D.int p.1, .int p.2]).flatten) ++ [.int q.1, .int q.2]))) := by
        unfold extendM onLst
        simp only [show lstOf h' (.lst [.int q.1, .int q.2]) = some [.int q.1, .int q.2] from rfl, i]
        rw [if_pos (show lenOk _ = true from decide_eq_true (Nat.le_trans (show _ ≤ 1000000 by simp only [List.length_cons, List.length_nil, e, List.length_take]; omega) (by decide)))]
      unfold l_head_text_1
      simp only [WPS, reduceIte, w_lst (show ([D.int q.1, .int q.2] : List D).length ≤ 1000000 by exact Nat.le_of_ble_eq_true rfl), unpT, items?, uCons, uNil, w_lchk i]
      rw [ex, w_ok, List.getElem?_set_self (getElem?_lt i), take_succ_get hk, List.map_append, List.flatten_append]
      rfl
  · rw [List.length_map, List.take_length] at i
    have e := flat_len ps
    simp only [WPS, reduceIte, w_freeze i, w_lst (show ([D.str "span", .int a, .str "every", .int b, .str "least", .int c] : List D).length ≤ 1000000 by exact Nat.le_of_ble_eq_true rfl)]
    rw [w_addL (by simp only [List.length_cons, List.length_nil, e]; omega), w_pcall]
    refine ⟨?_, ?_⟩
    · rw [noRefs_cons, noRefs_nil, Bool.and_true, noRef_lst]
      exact nr_wd (head_wd hp ha hb hc)
    · rw [w_app1, show f_row_of = f_law_row from rfl]
      refine row_go _ rfl (head_wd hp ha hb hc) (head_len l) ⟨noRef_str, p _⟩
/-! ### what is drawn -/
theorem far_w (w : Well h n (m + 10)) (p : ∀ r h', gn r → Well h' n m → Fr n h h' → P (.int r) h') : Wp (f_law_far (.ref n) h) P E := by
  have p9 : (0 : Int) ≤ 9 ∧ (9 : Int) ≤ 1000000 ∧ (10 : Int).natAbs < 2 ^ 64 := by decide
  have p18 : (0 : Int) ≤ 18 ∧ (18 : Int) ≤ 1000000 ∧ (10 : Int).natAbs < 2 ^ 64 := by decide
  have e9 : (10 : Int) ^ (9 : Int).toNat = 1000000000 := rfl
  have e18 : (10 : Int) ^ (18 : Int).toNat = 1000000000000000000 := rfl
  unfold f_law_far b_law_far
  simp only [WPS, reduceIte, w_pow p9, e9]
  refine draw_w (m := m + 9) w (by decide) (by decide) fun r1 h1 a1 b1 w1 f1 => ?_
  try simp only [WPS, reduceIte, w_pow p9, e9, w_mul (mulOk (small (i := r1) (by omega) (by omega)) (small (i := 1000000000) (by decide) (by decide)))]
  refine draw_w (m := m + 8) w1 (by decide) (by decide) fun r2 h2 a2 b2 w2 f2 => ?_
  try simp only [WPS, reduceIte]
  refine draw_w (m := m + 7) w2 (by decide) (by decide) fun r3 h3 a3 b3 w3 f3 => ?_
  try simp only [WPS, reduceIte]
  refine draw_w (m := m + 6) w3 (by decide) (by decide) fun r4 h4 a4 b4 w4 f4 => ?_
  try simp only [WPS, reduceIte, w_pow p18, e18, w_lst (show ([_, _, _, _, _, _] : List D).length ≤ 1000000 from Nat.le_of_ble_eq_true rfl)]
  refine draw_w (m := m + 5) w4 (by decide) (by decide) fun r5 h5 a5 b5 w5 f5 => ?_
  refine w_pick a5 (by simpa using b5) fun x hx => ?_
  have fr := (((f1.trans f2).trans f3).trans f4).trans f5
  simp only [List.mem_cons, List.not_mem_nil, or_false] at hx
  have w6 := w5.less (m' := m) (by omega)
  rcases hx with rfl | rfl | rfl | rfl | rfl | rfl
  all_goals exact p _ h5 (by unfold gn; omega) w6 fr
theorem append_keep {h : AH} {c : Cell} {n m : Nat} (w : Well h n m) : Well (h ++ [c]) n m := by
  obtain ⟨x, y, z, e, q⟩ := w.ex
  exact ⟨x, y, z, by rw [List.getElem?_append_left (getElem?_lt e)]; exact e, q⟩
/-- a drawn work -/
theorem work_w (w : Well h n (m + 100)) (p : ∀ ps h', ps.length ≤ 6 → (∀ q ∈ ps, gn q.1 ∧ gn q.2) → Wk ps → Well h' n m → P (prD ps) h') : Wp (f_law_free_work (.ref n) h) P E := by
  unfold f_law_free_work b_law_free_work
  have p6 : (0 : Int) ≤ 6 ∧ (6 : Int) ≤ 1000000 ∧ (10 : Int).natAbs < 2 ^ 64 := by decide
  have p17 : (0 : Int) ≤ 17 ∧ (17 : Int) ≤ 1000000 ∧ (10 : Int).natAbs < 2 ^ 64 := by decide
  have p9 : (0 : Int) ≤ 9 ∧ (9 : Int) ≤ 1000000 ∧ (10 : Int).natAbs < 2 ^ 64 := by decide
  have e6 : (10 : Int) ^ (6 : Int).toNat = 1000000 := rfl
  have e9 : (10 : Int) ^ (9 : Int).toNat = 1000000000 := rfl
  have e17 : (10 : Int) ^ (17 : Int).toNat = 100000000000000000 := rfl
  simp only [WPS, reduceIte, w_pow p6, w_pow p17, e6, e17]
  refine draw_w (m := m + 99) w (by decide) (by decide) fun r1 h1 a1 b1 w1 f1 => ?_
  try simp only [WPS, reduceIte, w_pow p17, e17]
  refine draw_w (m := m + 98) w1 (by decide) (by decide) fun r2 h2 a2 b2 w2 f2 => ?_
  try simp only [WPS, reduceIte, w_pow p17, e17]
  refine draw_w (m := m + 97) w2 (by decide) (by decide) fun r3 h3 a3 b3 w3 f3 => ?_
  try simp only [WPS, reduceIte, w_lst (show ([_, _, _] : List D).length ≤ 1000000 from Nat.le_of_ble_eq_true rfl)]
  refine draw_w (m := m + 96) w3 (by decide) (by decide) fun r4 h4 a4 b4 w4 f4 => ?_
  have key : ∀ at0 : Int, -200000000000000000 < at0 → at0 < 200000000000000000 → Wp ((lstH [] h4)) (fun found128 h5 => Wp (f_law_draw (.ref n) (.int 7) h5) (fun x134 h6 => Wp (rng1M [x134] h6) (fun xs135 h7 => Wp ((forM xs135 (D.int at0 : D) (l_law_free_work_1 (.ref n) found128) : M (Out D Empty)) h7) (oK (fun s131 => (freezeM found128 >>= fun found178 => (((pure found178) >>= fun x179 => tupleM x179) >>= fun d180 => (pure (Out.ret d180) : M (Out (Unit) (Empty)))))) (dK P) E) E) E) E) E := by
    intro at0 l0 l1
    rw [lstH_nil, w_ok]
    have hn4 : n < h4.length := by obtain ⟨_, _, _, e, _⟩ := w4.ex; exact getElem?_lt e
    have w5 : Well (h4 ++ [.lst []]) n (m + 96) := append_keep w4
    have q5 : (h4 ++ [Cell.lst []])[h4.length]? = some (.lst []) := by simp
    generalize h4 ++ [Cell.lst []] = h5 at w5 q5
    refine draw_w (m := m + 95) w5 (by decide) (by decide) fun r6 h6 a6 b6 w6 f6 => ?_
    rw [w_rng1 (by omega) (by omega)]
    have q6 := (f6.2 h4.length (by omega)).trans q5
    refine w_for (fun k t hh => k ≤ 7 ∧ ∃ (at1 : Int) (ps : List (Int × Int)), t = .int at1 ∧ -300000000000000000 < at1 ∧ at1 < 200000000000000000 + k * 2000000000 ∧ ps.length = k ∧ (∀ q ∈ ps, gn q.1 ∧ gn q.2) ∧ (Wk ps ∧ ∀ q ∈ ps, q.2 ≤ at1) ∧ Well hh n (m + 95 - 10 * k) ∧ hh[h4.length]? = some (.lst (ps.map fun p => D.tup [.int p.1, .int p.2])))
      ⟨by decide, at0, [], rfl, by omega, by omega, rfl, (fun _ h => nomatch h), ⟨Wk.nil, fun _ h => nomatch h⟩, w6, q6⟩ (fun k x t hh hx i => ?_) fun t hh i => ?_
    · obtain ⟨hk7, at1, ps, rfl, g0, g1, gl, gp, gk, gw, gq⟩ := i
      have hk : k < r6.toNat := by
        have := getElem?_lt hx
        simpa [rangeD] using this
      have hk6 : k < 6 := by omega
      unfold l_law_free_work_1
      simp only [WPS, reduceIte]
      refine draw_w (m := m + 95 - 10 * k - 1) (gw.less (by omega)) (by decide) (by decide) fun s1 g1h c1 d1 v1 t1 => ?_
      try simp only [WPS, reduceIte, w_pow p9, e9]
      refine draw_w (m := m + 95 - 10 * k - 2) (v1.less (by omega)) (by decide) (by decide) fun s2 g2h c2 d2 v2 t2 => ?_
      try simp only [WPS, reduceIte, w_lst (show ([_, _, _] : List D).length ≤ 1000000 from Nat.le_of_ble_eq_true rfl)]
      refine draw_w (m := m + 95 - 10 * k - 3) (v2.less (by omega)) (by decide) (by decide) fun s3 g3h c3 d3 v3 t3 => ?_
      have pick1 : ∀ y ∈ [D.int 0, .int s1, .int s2], ∃ u : Int, y = .int u ∧ 0 ≤ u ∧ u < 1000000000 := by
        intro y hy
        simp only [List.mem_cons, List.not_mem_nil, or_false] at hy
        rcases hy with rfl | rfl | rfl
        · exact ⟨_, rfl, by decide, by decide⟩
        · exact ⟨_, rfl, by omega, by omega⟩
        · exact ⟨_, rfl, by omega, by omega⟩
      refine w_pick c3 (by simpa using d3) fun y hy => ?_
      obtain ⟨u, rfl, u0, u1⟩ := pick1 y hy
      try simp only [WPS, reduceIte]
      refine draw_w (m := m + 95 - 10 * k - 4) (v3.less (by omega)) (by decide) (by decide) fun s4 g4h c4 d4 v4 t4 => ?_
      try simp only [WPS, reduceIte]
      refine draw_w (m := m + 95 - 10 * k - 5) (v4.less (by omega)) (by decide) (by decide) fun s5 g5h c5 d5 v5 t5 => ?_
      try simp only [WPS, reduceIte, w_lst (show ([_, _] : List D).length ≤ 1000000 from Nat.le_of_ble_eq_true rfl)]
      refine draw_w (m := m + 95 - 10 * k - 6) (v5.less (by omega)) (by decide) (by decide) fun s6 g6h c6 d6 v6 t6 => ?_
      have pick2 : ∀ y ∈ [D.int s4, .int s5], ∃ u : Int, y = .int u ∧ 0 ≤ u ∧ u < 1000 := by
        intro y hy
        simp only [List.mem_cons, List.not_mem_nil, or_false] at hy
        rcases hy with rfl | rfl
        · exact ⟨_, rfl, by omega, by omega⟩
        · exact ⟨_, rfl, by omega, by omega⟩
      refine w_pick c6 (by simpa using d6) fun y hy => ?_
      obtain ⟨u2, rfl, u3, u4⟩ := pick2 y hy
      have fr := ((((t1.trans t2).trans t3).trans t4).trans t5).trans t6
      have q := (fr.2 h4.length (by omega)).trans gq
      have lq := getElem?_lt q
      try simp only [WPS, reduceIte, w_lchk q, w_tup (show ([D.int (at1 + u), .int (at1 + u + 1 + u2)] : List D).length ≤ 1000000 from Nat.le_of_ble_eq_true rfl), w_append q (show (ps.map fun p => D.tup [.int p.1, .int p.2]).length < 1000000 by rw [List.length_map]; omega)]
      refine ⟨by omega, at1 + u + 1 + u2, ps ++ [(at1 + u, at1 + u + 1 + u2)], rfl, by omega, by omega, by simp [gl], fun z hz => ?_, ⟨⟨List.pairwise_append.mpr ⟨gk.1.1, List.pairwise_singleton _ _, fun y hy z hz => by
        rw [List.mem_singleton.mp hz]
        have := gk.2 y hy
        show y.2 ≤ at1 + u
        omega⟩, fun z hz => by
        rcases List.mem_append.mp hz with hz | hz
        · exact gk.1.2 z hz
        · rw [List.mem_singleton.mp hz]
          show at1 + u < at1 + u + 1 + u2
          omega⟩, fun z hz => by
        rcases List.mem_append.mp hz with hz | hz
        · have := gk.2 z hz
          omega
        · rw [List.mem_singleton.mp hz]
          exact Int.le_refl _⟩, ?_, by rw [List.getElem?_set_self lq, List.map_append]; rfl⟩
      · rcases List.mem_append.mp hz with hz | hz
        · exact gp z hz
        · simp only [List.mem_cons, List.not_mem_nil, or_false] at hz
          subst hz
          unfold gn
          constructor <;> constructor <;> simp only <;> omega
      · obtain ⟨x1, x2, x3, x4, x5⟩ := (v6.less (m' := m + 95 - 10 * (k + 1)) (by omega)).ex
        exact ⟨x1, x2, x3, by rw [List.getElem?_set_ne (by omega)]; exact x4, x5⟩
    · obtain ⟨hk7, at1, ps, rfl, g0, g1, gl, gp, gk, gw, gq⟩ := i
      have hl : (rangeD 0 r6.toNat).length = r6.toNat := by simp [rangeD]
      rw [hl] at gl
      rw [oK_nx]
      simp only [WPS, reduceIte, w_freeze gq]
      refine p ps _ (by omega) gp gk.1 ?_
      obtain ⟨x1, x2, x3, x4, x5⟩ := (gw.less (m' := m) (by omega)).ex
      exact ⟨x1, x2, x3, by rw [List.getElem?_set_ne (by omega)]; exact x4, x5⟩
  refine w_pick a4 (by simpa using b4) fun x hx => ?_
  simp only [List.mem_cons, List.not_mem_nil, or_false] at hx
  rcases hx with rfl | rfl | rfl
  · exact key _ (by omega) (by omega)
  · exact key _ (by omega) (by omega)
  · exact key _ (by omega) (by omega)
theorem limits_w (w : Well h n (m + 10)) (p : ∀ a b c h', 1 ≤ a → a < 10 ^ 18 → 1 ≤ b → b ≤ c → c < 10 ^ 18 → Well h' n m → P (.tup [.int a, .int b, .int c]) h') : Wp (f_law_free_limits (.ref n) h) P E := by
  have p17 : (0 : Int) ≤ 17 ∧ (17 : Int) ≤ 1000000 ∧ (10 : Int).natAbs < 2 ^ 64 := by decide
  have p9 : (0 : Int) ≤ 9 ∧ (9 : Int) ≤ 1000000 ∧ (10 : Int).natAbs < 2 ^ 64 := by decide
  have e9 : (10 : Int) ^ (9 : Int).toNat = 1000000000 := rfl
  have e17 : (10 : Int) ^ (17 : Int).toNat = 100000000000000000 := rfl
  have two : ∀ {r s b c : Int}, 0 ≤ r → r < b → 0 ≤ s → s < c → b ≤ 100000000000000000 → c ≤ 100000000000000000 → ∀ y ∈ [D.int r, .int s], ∃ u : Int, y = .int u ∧ 0 ≤ u ∧ u < 100000000000000000 := by
    intro r s b c h1 h2 h3 h4 h5 h6 y hy
    simp only [List.mem_cons, List.not_mem_nil, or_false] at hy
    rcases hy with rfl | rfl
    · exact ⟨_, rfl, h1, by omega⟩
    · exact ⟨_, rfl, h3, by omega⟩
  unfold f_law_free_limits b_law_free_limits
  simp only [WPS, reduceIte]
  refine draw_w (m := m + 9) w (by decide) (by decide) fun r1 h1 a1 b1 w1 f1 => ?_
  try simp only [WPS, reduceIte, w_pow p17, e17]
  refine draw_w (m := m + 8) w1 (by decide) (by decide) fun r2 h2 a2 b2 w2 f2 => ?_
  try simp only [WPS, reduceIte, w_lst (show ([_, _] : List D).length ≤ 1000000 from Nat.le_of_ble_eq_true rfl)]
  refine draw_w (m := m + 7) w2 (by decide) (by decide) fun r3 h3 a3 b3 w3 f3 => ?_
  refine w_pick a3 (by simpa using b3) fun x hx => ?_
  obtain ⟨u, rfl, u0, u1⟩ := two a1 b1 a2 b2 (by decide) (by decide) x hx
  try simp only [WPS, reduceIte]
  refine draw_w (m := m + 6) w3 (by decide) (by decide) fun r4 h4 a4 b4 w4 f4 => ?_
  try simp only [WPS, reduceIte, w_pow p17, e17]
  refine draw_w (m := m + 5) w4 (by decide) (by decide) fun r5 h5 a5 b5 w5 f5 => ?_
  try simp only [WPS, reduceIte, w_lst (show ([_, _] : List D).length ≤ 1000000 from Nat.le_of_ble_eq_true rfl)]
  refine draw_w (m := m + 4) w5 (by decide) (by decide) fun r6 h6 a6 b6 w6 f6 => ?_
  refine w_pick a6 (by simpa using b6) fun x hx => ?_
  obtain ⟨v, rfl, v0, v1⟩ := two a4 b4 a5 b5 (by decide) (by decide) x hx
  try simp only [WPS, reduceIte]
  refine draw_w (m := m + 3) w6 (by decide) (by decide) fun r7 h7 a7 b7 w7 f7 => ?_
  try simp only [WPS, reduceIte, w_pow p9, e9]
  refine draw_w (m := m + 2) w7 (by decide) (by decide) fun r8 h8 a8 b8 w8 f8 => ?_
  try simp only [WPS, reduceIte, w_lst (show ([_, _, _] : List D).length ≤ 1000000 from Nat.le_of_ble_eq_true rfl)]
  refine draw_w (m := m + 1) w8 (by decide) (by decide) fun r9 h9 a9 b9 w9 f9 => ?_
  have three : ∀ y ∈ [D.int 0, .int r7, .int r8], ∃ u : Int, y = .int u ∧ 0 ≤ u ∧ u < 100000000000000000 := by
    intro y hy
    simp only [List.mem_cons, List.not_mem_nil, or_false] at hy
    rcases hy with rfl | rfl | rfl
    · exact ⟨_, rfl, by decide, by decide⟩
    · exact ⟨_, rfl, by omega, by omega⟩
    · exact ⟨_, rfl, by omega, by omega⟩
  refine w_pick a9 (by simpa using b9) fun x hx => ?_
  obtain ⟨t, rfl, t0, t1⟩ := three x hx
  try simp only [WPS, reduceIte, w_tup (show ([_, _, _] : List D).length ≤ 1000000 from Nat.le_of_ble_eq_true rfl)]
  exact p _ _ _ _ (by omega) (by omega) (by omega) (by omega) (by omega) (w9.less (by omega))
/-- a sign of a text by its place -/
theorem w_sign {z : Str} {i : Int} (h0 : 0 ≤ i) (h1 : i < z.length) (hz : z.length ≤ 1000000) (p : ∀ c ∈ z.cps.toList, P (.str ⟨#[c]⟩) h) : Wp (ixM (.str z) (.int i) h) P E := by
  obtain ⟨c, e, hc⟩ := atI_in (xs := z.cps.toList) h0 (by simpa [Str.length] using h1)
  unfold ixM
  simp only
  rw [if_pos (show lenOk z.length = true from decide_eq_true (Nat.le_trans hz (by decide))), e]
  exact p c hc
theorem word_w (w : Well h n (m + 20)) (p : ∀ z h', Word z → Well h' n m → Fr n h h' → P (.str z) h') : Wp (f_law_any_word (.ref n) h) P E := by
  unfold f_law_any_word b_law_any_word
  simp only [WPS, reduceIte]
  refine draw_w (m := m + 19) w (by decide) (by decide) fun r1 h1 a1 b1 w1 f1 => ?_
  try simp only [WPS, reduceIte]
  rw [w_rng1 (by omega) (by omega)]
  have hl : (rangeD 0 (1 + r1).toNat).length = (1 + r1).toNat := by simp [rangeD]
  refine w_lc (fun k acc hh => k ≤ 12 ∧ Fr n h hh ∧ Well hh n (m + 19 - k) ∧ ∃ ys : List Str, acc = ys.map D.str ∧ ys.length = k ∧ ∀ y ∈ ys, y.length = 1 ∧ ∀ c ∈ y.cps.toList, wsign c = true) (by omega) ⟨by decide, f1, w1, [], rfl, rfl, fun _ h => nomatch h⟩ (fun k x acc hh hx i => ?_) fun ys hh i => ?_
  · obtain ⟨k12, F, v, ys, rfl, yl, yy⟩ := i
    have hk := getElem?_lt hx
    rw [hl] at hk
    unfold c_law_any_word_1
    simp only [WPS, reduceIte]
    refine draw_w (m := m + 19 - k - 1) (v.less (by omega)) (by decide) (by decide) fun s g c d v1 t => ?_
    refine w_sign c (by exact d) (by decide) fun ch hch => ?_
    try simp only [WPS, reduceIte]
    refine ⟨by omega, F.trans t, v1.less (by omega), ys ++ [⟨#[ch]⟩], by rw [List.map_append]; rfl, by simp [yl], fun y hy => ?_⟩
    rcases List.mem_append.mp hy with hy | hy
    · exact yy y hy
    · rw [List.mem_singleton.mp hy]
      exact ⟨rfl, fun c hc => by rw [List.mem_singleton.mp hc]; exact signs_ok ch hch⟩
  · obtain ⟨k12, F, v, ys, rfl, yl, yy⟩ := i
    rw [hl] at yl
    refine (join_w (by omega) (fun y hy => by rw [(yy y hy).1]; decide) (show (("" : Str)).length ≤ 1 from Nat.zero_le _)).mpr ?_
    try simp only [WPS, reduceIte]
    exact p _ _ (word_of (by omega) (by omega) yy) (v.less (by omega)) F
/-- a line as it is drawn -/
inductive LnR : D → Prop where
  | lent {a b c : Int} {z : Str} : gn a → Word z → gn b → gn c → LnR (.tup [.str "lent", .int a, .str z, .int b, .int c])
  | told {a b c : Int} {ns : List Int} : gn a → gn b → gn c → ns.length ≤ 40 → (∀ i ∈ ns, gn i) → LnR (.tup [.str "told", .int a, .int b, .int c, .tup (ns.map D.int)])
  | back {a b : Int} : gn a → gn b → LnR (.tup [.str "back", .int a, .int b])
  | cut {a b : Int} : gn a → gn b → LnR (.tup [.str "cut", .int a, .int b])
  | join {a : Int} : gn a → LnR (.tup [.str "join", .int a])
def Ln (d : D) : Prop := (∃ (x : Str) (ds : List D), d = .tup (.str x :: ds) ∧ x ≠ "told" ∧ x.length ≤ 22 ∧ (∀ y ∈ ds, Wd y) ∧ ds.length ≤ 4) ∨
  ∃ (a b c : Int) (ns : List Int), d = .tup [.str "told", .int a, .int b, .int c, .tup (ns.map D.int)] ∧ gd a ∧ gd b ∧ gd c ∧ ns.length ≤ 40 ∧ ∀ i ∈ ns, gd i
theorem LnR.ln {d : D} (l : LnR d) : Ln d := by
  cases l with
  | lent g1 lz g2 g3 => exact .inl ⟨_, _, rfl, by decide, by decide, fun y hy => by
      simp only [List.mem_cons, List.not_mem_nil, or_false] at hy
      rcases hy with rfl | rfl | rfl | rfl
      · exact .inl ⟨_, rfl, g1.gd⟩
      · exact .inr ⟨_, rfl, lz.len⟩
      · exact .inl ⟨_, rfl, g2.gd⟩
      · exact .inl ⟨_, rfl, g3.gd⟩, Nat.le_of_ble_eq_true rfl⟩
  | told g1 g2 g3 l g => exact .inr ⟨_, _, _, _, rfl, g1.gd, g2.gd, g3.gd, l, fun i hi => (g i hi).gd⟩
  | back g1 g2 => exact .inl ⟨_, _, rfl, by decide, by decide, fun y hy => by
      simp only [List.mem_cons, List.not_mem_nil, or_false] at hy
      rcases hy with rfl | rfl
      · exact .inl ⟨_, rfl, g1.gd⟩
      · exact .inl ⟨_, rfl, g2.gd⟩, Nat.le_of_ble_eq_true rfl⟩
  | cut g1 g2 => exact .inl ⟨_, _, rfl, by decide, by decide, fun y hy => by
      simp only [List.mem_cons, List.not_mem_nil, or_false] at hy
      rcases hy with rfl | rfl
      · exact .inl ⟨_, rfl, g1.gd⟩
      · exact .inl ⟨_, rfl, g2.gd⟩, Nat.le_of_ble_eq_true rfl⟩
  | join g1 => exact .inl ⟨_, _, rfl, by decide, by decide, fun y hy => by
      simp only [List.mem_cons, List.not_mem_nil, or_false] at hy
      subst hy
      exact .inl ⟨_, rfl, g1.gd⟩, Nat.le_of_ble_eq_true rfl⟩
theorem line_w (w : Well h n (m + 1000)) (p : ∀ d h', LnR d → Well h' n m → Fr n h h' → P d h') : Wp (f_law_free_line (.ref n) h) P E := by
  have F : Fr n h h := Fr.refl
  unfold f_law_free_line b_law_free_line
  simp only [WPS, reduceIte]
  refine draw_w (m := m + 999) w (by decide) (by decide) fun r1 h1 a1 b1 w1 f1 => ?_
  have F := F.trans f1
  try simp only [WPS, reduceIte]
  refine far_w (m := m + 989) w1 fun x1 h2 g1 w2 ff => ?_
  have F := F.trans ff
  try simp only [WPS, reduceIte]
  refine far_w (m := m + 979) w2 fun x2 h3 g2 w3 ff => ?_
  have F := F.trans ff
  try simp only [WPS, reduceIte]
  by_cases q0 : r1 = 0
  · simp only [WPS, reduceIte, q0]
    try rw [w_lst (Nat.le_of_ble_eq_true rfl)]
    refine draw_w (m := m + 978) w3 (by decide) (by decide) fun r4 h4 a4 b4 w4 f4 => ?_
    have F := F.trans f4
    refine w_pick a4 (by simpa using b4) fun od hod => ?_
    have god : ∃ z : Str, od = .str z ∧ Word z := by
      simp only [List.mem_cons, List.not_mem_nil, or_false] at hod
      rcases hod with rfl | rfl
      · exact ⟨_, rfl, ⟨by decide, by decide, by decide⟩⟩
      · exact ⟨_, rfl, ⟨by decide, by decide, by decide⟩⟩
    try simp only [WPS, reduceIte]
    refine word_w (m := m + 958) w4 fun z1 h5 l1 w5 ff => ?_
    have F := F.trans ff
    try simp only [WPS, reduceIte]
    refine word_w (m := m + 938) w5 fun z2 h6 l2 w6 ff => ?_
    have F := F.trans ff
    try simp only [WPS, reduceIte]
    try rw [w_lst (Nat.le_of_ble_eq_true rfl)]
    refine draw_w (m := m + 937) w6 (by decide) (by decide) fun r7 h7 a7 b7 w7 f7 => ?_
    have F := F.trans f7
    refine w_pick a7 (by simpa using b7) fun wo hwo => ?_
    have gwo : ∃ z : Str, wo = .str z ∧ Word z := by
      simp only [List.mem_cons, List.not_mem_nil, or_false] at hwo
      rcases hwo with rfl | rfl | rfl | rfl
      · exact ⟨_, rfl, l1⟩
      · exact ⟨_, rfl, l2⟩
      · exact ⟨_, rfl, ⟨by decide, by decide, by decide⟩⟩
      · exact god
    obtain ⟨z, rfl, lz⟩ := gwo
    try simp only [WPS, reduceIte]
    refine far_w (m := m + 927) w7 fun x3 h8 g3 w8 ff => ?_
    have F := F.trans ff
    try simp only [WPS, reduceIte]
    try rw [w_tup (Nat.le_of_ble_eq_true rfl)]
    try simp only [WPS, reduceIte]
    exact p _ _ (.lent g1 lz g2 g3) (w8.less (by omega)) F
  · by_cases q3 : r1 < 3
    · simp only [WPS, reduceIte, q0, q3]
      refine draw_w (m := m + 978) w3 (by decide) (by decide) fun r4 h4 a4 b4 w4 f4 => ?_
      have F := F.trans f4
      try simp only [WPS, reduceIte]
      refine draw_w (m := m + 977) w4 (by decide) (by decide) fun r5 h5 a5 b5 w5 f5 => ?_
      have F := F.trans f5
      try simp only [WPS, reduceIte]
      try rw [w_lst (Nat.le_of_ble_eq_true rfl)]
      refine draw_w (m := m + 976) w5 (by decide) (by decide) fun r6 h6 a6 b6 w6 f6 => ?_
      have F := F.trans f6
      refine w_pick a6 (by simpa using b6) fun mn hmn => ?_
      have gmn : ∃ u : Int, mn = .int u ∧ 0 ≤ u ∧ u < 41 := by
        simp only [List.mem_cons, List.not_mem_nil, or_false] at hmn
        rcases hmn with rfl | rfl | rfl
        · exact ⟨_, rfl, by decide, by decide⟩
        · exact ⟨_, rfl, by omega, by omega⟩
        · exact ⟨_, rfl, by omega, by omega⟩
      obtain ⟨u, rfl, u0, u1⟩ := gmn
      try simp only [WPS, reduceIte]
      refine far_w (m := m + 966) w6 fun x3 h7 g3 w7 ff => ?_
      have F := F.trans ff
      try simp only [WPS, reduceIte]
      rw [w_rng1 (by omega) (by omega)]
      have hl : (rangeD 0 u.toNat).length = u.toNat := by simp [rangeD]
      refine w_lc (fun k acc hh => k ≤ 41 ∧ Fr n h hh ∧ Well hh n (m + 966 - 20 * k) ∧ ∃ ns : List Int, acc = ns.map D.int ∧ ns.length = k ∧ ∀ y ∈ ns, gn y) (by omega) ⟨by decide, F, w7, [], rfl, rfl, fun _ h => nomatch h⟩ (fun k x acc hh hx i => ?_) fun ys hh i => ?_
      · obtain ⟨k12, F, v, ns, rfl, yl, yy⟩ := i
        have hk := getElem?_lt hx
        rw [hl] at hk
        unfold c_law_free_line_1
        simp only [WPS, reduceIte]
        refine far_w (m := m + 966 - 20 * k - 10) (v.less (by omega)) fun s g c d v1 => ?_
        have F := F.trans v1
        try simp only [WPS, reduceIte]
        refine ⟨by omega, F, d.less (by omega), ns ++ [s], by rw [List.map_append]; rfl, by simp [yl], fun y hy => ?_⟩
        rcases List.mem_append.mp hy with hy | hy
        · exact yy y hy
        · rw [List.mem_singleton.mp hy]
          exact c
      · obtain ⟨k12, F, v, ns, rfl, yl, yy⟩ := i
        rw [hl] at yl
        try simp only [WPS, reduceIte]
        try rw [w_tup (Nat.le_of_ble_eq_true rfl)]
        try simp only [WPS, reduceIte]
        exact p _ _ (.told g1 g2 g3 (by omega) yy) (v.less (by omega)) F
    · by_cases q4 : r1 = 3
      · simp only [WPS, reduceIte, q0, q3, q4]
        try simp only [WPS, reduceIte, show ¬ ((3 : Int) < 3) by decide, show ¬ ((3 : Int) = 0) by decide]
        try rw [w_tup (Nat.le_of_ble_eq_true rfl)]
        try simp only [WPS, reduceIte]
        exact p _ _ (.back g1 g2) (w3.less (by omega)) F
      · by_cases q5 : r1 = 4
        · simp only [WPS, reduceIte, q0, q3, q4, q5]
          try simp only [WPS, reduceIte, show ¬ ((4 : Int) < 3) by decide, show ¬ ((4 : Int) = 0) by decide, show ¬ ((4 : Int) = 3) by decide]
          try rw [w_tup (Nat.le_of_ble_eq_true rfl)]
          try simp only [WPS, reduceIte]
          exact p _ _ (.cut g1 g2) (w3.less (by omega)) F
        · simp only [WPS, reduceIte, q0, q3, q4, q5]
          try rw [w_tup (Nat.le_of_ble_eq_true rfl)]
          try simp only [WPS, reduceIte]
          exact p _ _ (.join g1) (w3.less (by omega)) F
/-- the parts of a line, one by one -/
def lnP : D → List D
  | .tup [.str "told", a, b, c, .tup ns] => [.str "told", a, b, c] ++ ns
  | .tup ds => ds
  | _ => []
theorem ne_str {a b : Str} (e : a ≠ b) : decide (a = b) = false := decide_eq_false e
theorem text_w {d : D} (l : Ln d) (p : ∀ z : Str, z = rowS (lnP d) → P (.str z) h) : Wp (f_law_line_text d h) P E := by
  unfold f_law_line_text b_law_line_text
  rcases l with ⟨x, ds, rfl, nx, lx, hw, hl⟩ | ⟨a, b, c, ns, rfl, ga, gb, gc, nl, gn⟩
  · have wd : ∀ y ∈ (D.str x :: ds), Wd y := fun y hy => by
      rcases List.mem_cons.mp hy with rfl | hy
      · exact .inr ⟨_, rfl, lx⟩
      · exact hw y hy
    have e : lnP (.tup (.str x :: ds)) = .str x :: ds := by
      unfold lnP
      split
      · rename_i heq
        cases heq
        exact absurd rfl nx
      · rename_i heq
        cases heq
        rfl
      · rename_i z1 z2
        exact absurd rfl (z2 _)
    simp only [WPS, reduceIte, w_ixT (show atI (D.str x :: ds) 0 = some (.str x) from atI_pos (by decide) rfl), nx, ne_str nx]
    rw [w_pcall]
    refine ⟨by rw [noRefs_cons, noRefs_nil, Bool.and_true, noRef_tup]; exact nr_wd wd, ?_⟩
    rw [w_app1]
    refine row_go _ rfl wd (by simp only [List.length_cons]; omega) ⟨noRef_str, ?_⟩
    try simp only [WPS, reduceIte]
    exact p _ (by rw [e])
  · have wd : ∀ y ∈ ([D.str "told", .int a, .int b, .int c] ++ ns.map D.int), Wd y := fun y hy => by
      rcases List.mem_append.mp hy with hy | hy
      · simp only [List.mem_cons, List.not_mem_nil, or_false] at hy
        rcases hy with rfl | rfl | rfl | rfl
        · exact .inr ⟨_, rfl, by decide⟩
        · exact .inl ⟨_, rfl, ga⟩
        · exact .inl ⟨_, rfl, gb⟩
        · exact .inl ⟨_, rfl, gc⟩
      · obtain ⟨i, hi, rfl⟩ := List.mem_map.mp hy
        exact .inl ⟨_, rfl, gn i hi⟩
    simp only [WPS, reduceIte, w_ixT (show atI [D.str "told", .int a, .int b, .int c, .tup (ns.map D.int)] 0 = some (.str "told") from rfl), w_ixT (show atI [D.str "told", .int a, .int b, .int c, .tup (ns.map D.int)] 4 = some (.tup (ns.map D.int)) from rfl),
      show cutD [D.str "told", .int a, .int b, .int c, .tup (ns.map D.int)] none (some 4) = [D.str "told", .int a, .int b, .int c] from rfl]
    rw [w_addT (by simp only [List.length_cons, List.length_nil, List.length_map]; omega), w_pcall]
    refine ⟨by rw [noRefs_cons, noRefs_nil, Bool.and_true, noRef_tup]; exact nr_wd wd, ?_⟩
    rw [w_app1]
    refine row_go _ rfl wd (by simp only [List.length_append, List.length_cons, List.length_nil, List.length_map]; omega) ⟨noRef_str, ?_⟩
    try simp only [WPS, reduceIte]
    exact p _ rfl
theorem ln_nr {d : D} (l : Ln d) : noRef d = true := by
  rcases l with ⟨x, ds, rfl, nx, lx, hw, hl⟩ | ⟨a, b, c, ns, rfl, ga, gb, gc, nl, gn⟩
  · rw [noRef_tup, noRefs_cons, noRef_str, nr_wd hw]
    rfl
  · simp only [noRef_tup, noRefs_cons, noRef_str, noRef_int, noRefs_nil, Bool.true_and, Bool.and_true]
    exact noRefs_map fun _ => noRef_int
end
end Lw
/-! SetFg: a loop over a list on the heap, by what stays true. -/
namespace Lw
open PySem L2
section
end
end Lw
/-! SetTx: texts are taken apart; words are numbers. -/
namespace Lw
open PySem L2
abbrev sg (z : Str) : List Nat := z.cps.toList
theorem str_ext {a b : Str} (h : sg a = sg b) : a = b := by
  cases a with | mk a =>
  cases b with | mk b =>
  congr 1
  exact Array.toList_inj.mp h
theorem sg_len (z : Str) : (sg z).length = z.length := Array.length_toList
def chS (c : Nat) : Str := ⟨#[c]⟩
/-! what is joined by a sign and taken apart by it -/
theorem cut_c {c : Nat} : ∀ {a b r s : List Nat}, c ∉ a → c ∉ b → a ++ c :: r = b ++ c :: s → a = b ∧ r = s
  | [], [], r, s, _, _, e => ⟨rfl, (List.cons.inj e).2⟩
  | [], y :: b, r, s, _, h, e => absurd (List.mem_cons.mpr (.inl (List.cons.inj e).1)) h
  | x :: a, [], r, s, h, _, e => absurd (List.mem_cons.mpr (.inl (List.cons.inj e).1.symm)) h
  | x :: a, y :: b, r, s, h, k, e => by
    obtain ⟨e1, e2⟩ := List.cons.inj e
    obtain ⟨e3, e4⟩ := cut_c (fun m => h (List.mem_cons_of_mem _ m)) (fun m => k (List.mem_cons_of_mem _ m)) e2
    exact ⟨by rw [e1, e3], e4⟩
theorem sg_join2 (c : Nat) (y z : Str) (t : List Str) : sg (Str.join (chS c) (y :: z :: t)) = sg y ++ c :: sg (Str.join (chS c) (z :: t)) := by
  have e : Str.join (chS c) (y :: z :: t) = y ++ chS c ++ Str.join (chS c) (z :: t) := rfl
  rw [e]
  show (y ++ chS c ++ Str.join (chS c) (z :: t)).cps.toList = _
  rw [str_app, str_app]
  show sg y ++ [c] ++ _ = _
  rw [List.append_assoc]
  rfl
theorem join_uniq {c : Nat} : ∀ {ys zs : List Str}, (∀ y ∈ ys, c ∉ sg y) → (∀ y ∈ zs, c ∉ sg y) → ys ≠ [] → zs ≠ [] → Str.join (chS c) ys = Str.join (chS c) zs → ys = zs
  | [], _, _, _, h, _, _ => absurd rfl h
  | _, [], _, _, _, h, _ => absurd rfl h
  | [y], [z], _, _, _, _, e => by
    have e : y = z := e
    rw [e]
  | [y], z :: w :: t, h, k, _, _, e => by
    have e2 := congrArg sg e
    rw [sg_join2] at e2
    have e2 : sg y = sg z ++ c :: _ := e2
    exact absurd (by rw [e2]; simp) (h y List.mem_cons_self)
  | y :: w :: t, [z], h, k, _, _, e => by
    have e2 := congrArg sg e
    rw [sg_join2] at e2
    have e2 : sg y ++ c :: _ = sg z := e2
    exact absurd (by rw [← e2]; simp) (k z List.mem_cons_self)
  | y :: w :: t, z :: v :: u, h, k, _, _, e => by
    have e2 := congrArg sg e
    rw [sg_join2, sg_join2] at e2
    obtain ⟨e3, e4⟩ := cut_c (h y List.mem_cons_self) (k z List.mem_cons_self) e2
    rw [str_ext e3, join_uniq (ys := w :: t) (zs := v :: u) (fun x hx => h x (List.mem_cons_of_mem _ hx)) (fun x hx => k x (List.mem_cons_of_mem _ hx)) (List.cons_ne_nil _ _) (List.cons_ne_nil _ _) (str_ext e4)]
theorem split_join {c : Nat} {ys : List Str} (h : ∀ y ∈ ys, c ∉ sg y) (n : ys ≠ []) : Txt.split (Str.join (chS c) ys) (chS c) = ys :=
  join_uniq (StrLaws.split_free _ c) h (fun e => by
    have := PyProof.Rows.split_pos (Str.join (chS c) ys) (chS c)
    rw [e] at this
    exact absurd this (by decide)) n (StrLaws.join_split _ _)
theorem split_free (x : Str) (c : Nat) : ∀ y ∈ Txt.split x (chS c), c ∉ sg y := StrLaws.split_free x c
theorem join_split (x : Str) (c : Nat) : Str.join (chS c) (Txt.split x (chS c)) = x := StrLaws.join_split x (chS c)
/-- rows, each with its feed -/
def feeds (rs : List Str) : Str := Txt.join "" (rs.map fun r => r ++ "\n")
theorem sg_feeds (rs : List Str) : sg (feeds rs) = (rs.map fun r => sg r ++ [10]).flatten := by
  unfold feeds
  show (Txt.join "" _).cps.toList = _
  rw [join0, List.map_map]
  congr 1
  refine List.map_congr_left fun r _ => ?_
  show (r ++ "\n").cps.toList = _
  rw [str_app]
  rfl
theorem feeds_rest (rs : List Str) (rest : Str) : feeds rs ++ rest = Str.join (chS 10) (rs ++ [rest]) := by
  refine str_ext ?_
  show (feeds rs ++ rest).cps.toList = _
  rw [str_app]
  show sg (feeds rs) ++ sg rest = _
  rw [sg_feeds]
  induction rs with
  | nil => rfl
  | cons r t ih =>
    have e : ∃ v u, t ++ [rest] = v :: u := by
      cases t with
      | nil => exact ⟨_, _, rfl⟩
      | cons a b => exact ⟨_, _, rfl⟩
    obtain ⟨v, u, e⟩ := e
    rw [List.cons_append, e, sg_join2, ← e, ← ih, List.map_cons, List.flatten_cons]
    simp
theorem rows_of {rs : List Str} {rest : Str} (h : ∀ r ∈ rs, 10 ∉ sg r) (k : 10 ∉ sg rest) : Txt.split (feeds rs ++ rest) "\n" = rs ++ [rest] := by
  rw [feeds_rest]
  exact split_join (c := 10) (fun y hy => by
    rcases List.mem_append.mp hy with hy | hy
    · exact h y hy
    · rw [List.mem_singleton.mp hy]
      exact k) (by simp)
/-! numbers, as they are written -/
abbrev numS (i : Int) : Str := Str.ofString (toString i)
def figs (n : Nat) : List Nat := (Nat.toDigits 10 n).map Char.toNat
theorem sg_nat (n : Nat) : sg (numS (n : Int)) = figs n := PySem.W.KIN.signs_num n
theorem sg_neg (n : Nat) : sg (numS (Int.negSucc n)) = 45 :: figs (n + 1) := by
  have e : toString (Int.negSucc n) = "-" ++ toString ((n + 1 : Nat) : Int) := rfl
  have q : (toString (Int.negSucc n)).toList = '-' :: (toString ((n + 1 : Nat) : Int)).toList := by
    rw [e, String.toList_append]
    rfl
  have s := sg_nat (n + 1)
  show (Str.ofString (toString (Int.negSucc n))).cps.toList = _
  rw [show (Str.ofString (toString (Int.negSucc n))).cps.toList = (toString (Int.negSucc n)).toList.map Char.toNat from PyProof.Rows.signs_ofString _, q, List.map_cons]
  rw [← s]
  show 45 :: _ = _
  rw [show sg (numS ((n + 1 : Nat) : Int)) = (toString ((n + 1 : Nat) : Int)).toList.map Char.toNat from PyProof.Rows.signs_ofString _]
open PySem.NumText in
theorem figs_ok (n : Nat) : AllDigits (figs n) := fun c hc => by
  obtain ⟨ch, hch, e⟩ := List.mem_map.mp hc
  have r := PyProof.Rows.digit_range (Nat.isDigit_of_mem_toDigits (by decide) (by decide) hch)
  rw [← e]
  exact r
theorem figs_pos (n : Nat) : 1 ≤ (figs n).length := by
  unfold figs
  rw [List.length_map]
  exact PyProof.Rows.tDigits_len_ge 10 n
theorem figs_le {n k : Nat} (hk : 1 ≤ k) (hn : n < 10 ^ k) : (figs n).length ≤ k := by
  unfold figs
  rw [List.length_map]
  exact PyProof.Rows.digits10_le hk hn
open PySem.NumText in
theorem figs_val (n : Nat) : digitsVal (figs n) = n := PySem.W.KIN.val_back n
/-- a number without a nought ahead -/
theorem figs_head : ∀ (n : Nat), n ≠ 0 → ∀ c r, figs n = c :: r → c ≠ 48 := by
  intro n
  induction n using Nat.strongRecOn with
  | _ n ih =>
    intro hn c r e
    by_cases h : n < 10
    · unfold figs at e
      rw [Nat.toDigits_of_lt_base h] at e
      have all : ∀ m, m < 10 → m ≠ 0 → (Nat.digitChar m).toNat ≠ 48 := by decide
      rw [← (List.cons.inj e).1]
      exact all n h hn
    · have hm : n % 10 < 10 := Nat.mod_lt n (by decide)
      have t : Nat.toDigits 10 (n / 10) ++ Nat.toDigits 10 (n % 10) = Nat.toDigits 10 (10 * (n / 10) + n % 10) := Nat.toDigits_append_toDigits (by decide) (by omega) hm
      rw [Nat.div_add_mod] at t
      have e2 : figs n = figs (n / 10) ++ figs (n % 10) := by
        unfold figs
        rw [← List.map_append, t]
      have pos := figs_pos (n / 10)
      cases hf : figs (n / 10) with
      | nil => rw [hf] at pos; exact absurd pos (by decide)
      | cons c' r' =>
        have := ih (n / 10) (by omega) (by omega) c' r' hf
        rw [e2, hf] at e
        rw [← (List.cons.inj e).1]
        exact this
/-- whether a word is a number as it is written; the number -/
def figOf (z : Str) : List Nat := if (sg z).head? = some 45 then (sg z).tail else sg z
def isNmb (z : Str) : Bool := decide (1 ≤ (figOf z).length) && (decide ((figOf z).length ≤ 18) && ((figOf z).all fun c => decide (48 ≤ c) && decide (c ≤ 57))) && (decide ((figOf z).head? ≠ some 48) || decide (sg z = [48]))
open PySem.NumText in
def numV (z : Str) : Int := if (sg z).head? = some 45 then -((digitsVal (figOf z) : Nat) : Int) else ((digitsVal (figOf z) : Nat) : Int)
open PySem.NumText in
theorem all_dig {l : List Nat} : (l.all fun c => decide (48 ≤ c) && decide (c ≤ 57)) = true ↔ AllDigits l := by
  rw [List.all_eq_true]
  refine ⟨fun h c hc => ?_, fun h c hc => ?_⟩
  · have := h c hc
    rw [Bool.and_eq_true] at this
    exact ⟨of_decide_eq_true this.1, of_decide_eq_true this.2⟩
  · have := h c hc
    rw [Bool.and_eq_true]
    exact ⟨decide_eq_true this.1, decide_eq_true this.2⟩
theorem num_text {z : Str} (h : isNmb z = true) : PySem.intText? z = some (numV z) ∧ z.length ≤ 19 := by
  unfold isNmb at h
  rw [Bool.and_eq_true, Bool.and_eq_true, Bool.and_eq_true, all_dig] at h
  obtain ⟨⟨h1, h2, h3⟩, _⟩ := h
  have h1 := of_decide_eq_true h1
  have h2 := of_decide_eq_true h2
  unfold numV figOf at *
  by_cases c : (sg z).head? = some 45
  · rw [if_pos c] at h1 h2 h3 ⊢
    have e : sg z = 45 :: (sg z).tail := by
      cases hz : sg z with
      | nil => rw [hz] at c; cases c
      | cons x r => rw [hz] at c; cases c; rfl
    have l : z.length ≤ 19 := by
      rw [← sg_len, e, List.length_cons]
      omega
    rw [if_pos c]
    exact ⟨PySem.intText_neg e h3 (List.length_pos_iff.mp h1) (by omega), l⟩
  · rw [if_neg c] at h1 h2 h3 ⊢
    have l : z.length ≤ 19 := by
      rw [← sg_len]
      omega
    rw [if_neg c]
    exact ⟨PySem.intText_digits h3 (List.length_pos_iff.mp h1) (by omega), l⟩
theorem head_figs (n : Nat) : (figs n).head? ≠ some 45 := fun e => by
  cases h : figs n with
  | nil => rw [h] at e; cases e
  | cons c r =>
    rw [h] at e
    cases e
    have := figs_ok n 45 (by rw [h]; exact List.mem_cons_self)
    omega
theorem num_of {i : Int} (g : gn i) : isNmb (numS i) = true ∧ numV (numS i) = i := by
  cases i with
  | ofNat n =>
    have e : sg (numS (Int.ofNat n)) = figs n := sg_nat n
    have f : figOf (numS (Int.ofNat n)) = figs n := by
      unfold figOf
      rw [e, if_neg (head_figs n)]
    have ln : n < 10 ^ 18 := by
      have := g.2
      have t : (Int.ofNat n : Int) = (n : Int) := rfl
      rw [t] at this
      omega
    refine ⟨?_, ?_⟩
    · unfold isNmb
      rw [f, e, decide_eq_true (figs_pos n), decide_eq_true (figs_le (by decide) ln), all_dig.mpr (figs_ok n)]
      by_cases z : n = 0
      · subst z
        rfl
      · rw [decide_eq_true (show (figs n).head? ≠ some 48 from fun h => by
          cases hf : figs n with
          | nil => rw [hf] at h; cases h
          | cons c r =>
            rw [hf] at h
            cases h
            exact figs_head n z 48 r hf rfl)]
        rfl
    · unfold numV
      rw [f, e, if_neg (head_figs n), figs_val]
      rfl
  | negSucc n =>
    have e : sg (numS (Int.negSucc n)) = 45 :: figs (n + 1) := sg_neg n
    have f : figOf (numS (Int.negSucc n)) = figs (n + 1) := by
      unfold figOf
      rw [e]
      rfl
    have ln : n + 1 < 10 ^ 18 := by
      have := g.1
      omega
    refine ⟨?_, ?_⟩
    · unfold isNmb
      rw [f, decide_eq_true (figs_pos _), decide_eq_true (figs_le (by decide) ln), all_dig.mpr (figs_ok _), decide_eq_true (show (figs (n + 1)).head? ≠ some 48 from fun h => by
          cases hf : figs (n + 1) with
          | nil => rw [hf] at h; cases h
          | cons c r =>
            rw [hf] at h
            cases h
            exact figs_head (n + 1) (by omega) 48 r hf rfl)]
      rfl
    · unfold numV
      rw [f, e, figs_val]
      rfl
theorem num_sign {i : Int} : ∀ c ∈ sg (numS i), c = 45 ∨ (48 ≤ c ∧ c ≤ 57) := fun c hc => by
  cases i with
  | ofNat n =>
    rw [show sg (numS (Int.ofNat n)) = figs n from sg_nat n] at hc
    exact .inr (figs_ok n c hc)
  | negSucc n =>
    rw [sg_neg n] at hc
    rcases List.mem_cons.mp hc with rfl | hc
    · exact .inl rfl
    · exact .inr (figs_ok _ c hc)
theorem num_word {i : Int} (g : gn i) : Word (numS i) := ⟨by
  have h := (num_of g).1
  unfold isNmb at h
  rw [Bool.and_eq_true, Bool.and_eq_true] at h
  have h1 := of_decide_eq_true h.1.1
  rw [← sg_len]
  unfold figOf at h1
  split at h1
  · rw [List.length_tail] at h1
    omega
  · exact h1, str_len g.gd, fun c hc => by
  have := num_sign c hc
  unfold wsign
  simp
  omega⟩
end Lw
/-! SetTr: words read. -/
namespace Lw
open PySem L2
theorem Wp.rn {α : Type} {r : Res α} {a : α} {h' : AH} {P : α → AH → Prop} {E : Str → AH → Prop} (e : r = .ok a h') : Wp r P E ↔ P a h' := by rw [e] <;> exact Iff.rfl
theorem cutD_init {α : Type} (xs : List α) (x : α) : cutD (xs ++ [x]) none (some (-1)) = xs := by
  have sI : ∀ n : Nat, HT.sIx (n + 1) (n + 1) (some (-1)) = n := fun n => by
    show (if (-1 : Int) < 0 then ((-1 : Int) + ((n + 1 : Nat) : Int)).toNat else min (-1 : Int).toNat (n + 1)) = n
    rw [if_pos (by decide)]
    omega
  unfold cutD
  have hl : (xs ++ [x]).length = xs.length + 1 := by simp
  rw [hl, sI, show HT.sIx (xs.length + 1) 0 none = 0 from rfl, List.drop_zero, Nat.sub_zero, List.take_append_of_le_length (Nat.le_refl _), List.take_of_length_le (Nat.le_refl _)]
section
variable {h : AH} {E : Str → AH → Prop} {P : D → AH → Prop}
theorem need_t (k : P .non h) : Wp (pcallM (app1 f_need) [.bl true] h) P E := by
  rw [w_pcall]
  refine ⟨rfl, ?_⟩
  rw [w_app1]
  unfold f_need b_need
  simp only [WPS, reduceIte]
  exact ⟨rfl, k⟩
theorem need_f (k : E "NoText" h) : Wp (pcallM (app1 f_need) [.bl false] h) P E := by
  rw [w_pcall]
  refine ⟨rfl, ?_⟩
  rw [w_app1]
  unfold f_need b_need
  simp only [WPS, reduceIte]
  exact k
theorem need_w {b : Bool} (k0 : b = false → E "NoText" h) (k1 : b = true → P .non h) : Wp (pcallM (app1 f_need) [.bl b] h) P E := by
  cases b with
  | false => exact need_f (k0 rfl)
  | true => exact need_t (k1 rfl)
theorem w_lenS {z : Str} (l : z.length ≤ 1000000) : Wp (lenM (.str z) h) P E ↔ P (.int z.length) h := by
  unfold lenM
  simp only [show lenOk z.length = true from decide_eq_true (Nat.le_trans l (by decide)), if_true]
  exact Iff.rfl
theorem w_slS {z : Str} {lo hi : Option Int} (l : z.length ≤ 1000000) : Wp (sliceM (.str z) lo hi h) P E ↔ P (.str (cutS z lo hi)) h := by
  unfold sliceM
  simp only [show lenOk z.length = true from decide_eq_true (Nat.le_trans l (by decide)), if_true]
  exact Iff.rfl
theorem cutS_1 (z : Str) : sg (cutS z none (some 1)) = (sg z).take 1 := by
  unfold cutS
  rw [show HT.sIx z.length 0 none = 0 from rfl, show HT.sIx z.length z.length (some 1) = min 1 z.length from HT.sIx_nat _ _ 1, List.drop_zero, ← sg_len]
  show List.take _ _ = _
  rw [Nat.sub_zero, Nat.min_def]
  split
  · rfl
  · rw [List.take_of_length_le (Nat.le_refl _), List.take_of_length_le (by omega)]
theorem cutS_t (z : Str) : sg (cutS z (some 1) none) = (sg z).tail := by
  unfold cutS
  rw [show HT.sIx z.length z.length none = z.length from rfl, show HT.sIx z.length 0 (some 1) = min 1 z.length from HT.sIx_nat _ _ 1, ← sg_len]
  show List.take ((sg z).length - min 1 (sg z).length) (List.drop (min 1 (sg z).length) (sg z)) = (sg z).tail
  generalize sg z = l
  cases l with
  | nil => rfl
  | cons c r =>
    rw [List.length_cons, show min 1 (r.length + 1) = 1 by omega, List.drop_one, List.tail_cons, List.take_of_length_le (by omega)]
theorem dash_iff (z : Str) : (cutS z none (some 1) = "-") ↔ (sg z).head? = some 45 := by
  constructor
  · intro e
    have e2 := cutS_1 z
    rw [e] at e2
    have e2 : [45] = (sg z).take 1 := e2
    cases hz : sg z with
    | nil => rw [hz] at e2; cases e2
    | cons c r => rw [hz] at e2; cases e2; rfl
  · intro e
    refine str_ext ?_
    rw [cutS_1]
    cases hz : sg z with
    | nil => rw [hz] at e; cases e
    | cons c r => rw [hz] at e; cases e; rfl
def figS : Str := "0123456789"
theorem fig_run (x : Str) (l : x.length ≤ 1000000) : lcM (signsD x) c_is_number_1 h = .ok (.lst ((x.cps.toList.map fun c => decide (c ∈ figS.cps.toList)).map D.bl)) h := by
  unfold signsD
  rw [List.map_map]
  refine lcM_map (by rw [Array.length_toList]; exact l) fun c _ => ?_
  unfold c_is_number_1
  have e : signInM false (.str ⟨#[c]⟩) (.str figS) = pure (.bl (decide (c ∈ figS.cps.toList))) := by
    show pure (D.bl (xor false (decide (c ∈ figS.cps.toList)))) = _
    rw [Bool.false_xor]
  have e2 : ("0123456789" : Str) = figS := rfl
  simp only [r_bind, r_pure, r_ok, r_lift, if_true, e2, e]
  rfl
theorem fig_mem (c : Nat) : decide (c ∈ figS.cps.toList) = (decide (48 ≤ c) && decide (c ≤ 57)) := by
  have e : figS.cps.toList = [48, 49, 50, 51, 52, 53, 54, 55, 56, 57] := by decide +kernel
  rw [e, ← Bool.decide_and]
  refine decide_eq_decide.mpr ?_
  simp only [List.mem_cons, List.not_mem_nil, or_false]
  omega
theorem isnum_w {z : Str} (l : z.length ≤ 1000000) (k : P (.bl (isNmb z)) h) : Wp (pcallM (app1 f_is_number) [.str z] h) P E := by
  rw [w_pcall]
  refine ⟨by rw [noRefs_cons, noRefs_nil, noRef_str]; rfl, ?_⟩
  rw [w_app1]
  unfold f_is_number b_is_number
  have tail : ∀ f : Str, sg f = figOf z → Wp ((((((((pure (.int 1)) >>= fun x573 => ((pure (D.str f)) >>= fun x572 => lenM x572) >>= fun y574 => chainM leM leM x573 y574 (pure (.int 18))) >>= fun b575 => asB b575) >>= fun t576 => pure (!t576)) >>= fun t588 => if t588 = true then pure true else ((((((pure (D.str f)) >>= fun x577 => strItM x577) >>= fun xs578 => lcM xs578 c_is_number_1) >>= fun x585 => allM x585) >>= fun x586 => truM x586) >>= fun t587 => pure (!t587))) >>= fun t589 => if t589 = true then obind ((pure (.bl false)) >>= fun d590 => (pure (Out.ret d590) : M (Out (Empty) (Empty)))) (fun e => e.elim) else (((((pure (D.str f)) >>= fun x591 => (pure (.int 0)) >>= fun y592 => ixM x591 y592) >>= fun x593 => (pure (.str "0")) >>= fun y594 => neM x593 y594) >>= fun x597 => orV x597 ((pure (D.str z)) >>= fun x595 => (pure (.str "0")) >>= fun y596 => eqM x595 y596)) >>= fun d598 => (pure (Out.ret d598) : M (Out (Unit) (Empty))))) : M (Out Unit Empty)) ([] : AH)) (dK fun d _ => noRef d = true ∧ P d h) (fun x _ => E x h) := by
    intro f ef
    have lf : f.length ≤ z.length := by
      rw [← sg_len, ef, ← sg_len]
      unfold figOf
      split
      · rw [List.length_tail]; omega
      · exact Nat.le_refl _
    have lfm : f.length ≤ 1000000 := by omega
    have c1 : leM (.int 1) (.int (f.length : Int)) ([] : AH) = .ok (.bl (decide ((1 : Int) ≤ f.length))) [] := rfl
    have it : ∀ {Q : List D → AH → Prop} {E : Str → AH → Prop}, Wp (strItM (.str f) ([] : AH)) Q E ↔ Q (signsD f) [] := Iff.rfl
    simp only [WPS, reduceIte, w_lenS lfm]
    rw [w_chlt c1]
    have i1 : decide ((1 : Int) ≤ f.length) = decide (1 ≤ (figOf z).length) := decide_eq_decide.mpr (by rw [← ef, sg_len]; omega)
    have i2 : decide ((f.length : Int) ≤ 18) = decide ((figOf z).length ≤ 18) := decide_eq_decide.mpr (by rw [← ef, sg_len]; omega)
    rw [i1]
    have bad : isNmb z = false → noRef (.bl false) = true ∧ P (.bl false) h := fun e => ⟨noRef_bl, by rw [e] at k; exact k⟩
    by_cases h1 : 1 ≤ (figOf z).length
    · rw [decide_eq_true h1]
      simp only [WPS, reduceIte, i2]
      by_cases h2 : (figOf z).length ≤ 18
      · rw [decide_eq_true h2]
        simp only [WPS, reduceIte, it, Wp.rn (fig_run (h := []) f lfm), w_all]
        have ea : (List.map (fun c => decide (c ∈ figS.cps.toList)) f.cps.toList).all id = ((figOf z).all fun c => decide (48 ≤ c) && decide (c ≤ 57)) := by
          rw [← ef, List.all_map]
          congr 1
          funext c
          exact fig_mem c
        rw [ea]
        cases h3 : ((figOf z).all fun c => decide (48 ≤ c) && decide (c ≤ 57)) with
        | false =>
          simp only [WPS, reduceIte]
          refine bad ?_
          unfold isNmb
          rw [h3]
          simp
        | true =>
          simp only [WPS, reduceIte]
          cases hf : figOf z with
          | nil => rw [hf] at h1; exact absurd h1 (by decide)
          | cons c r =>
            have ix : ∀ {Q : D → AH → Prop} {E : Str → AH → Prop}, Wp (ixM (.str f) (.int 0) ([] : AH)) Q E ↔ Q (.str (chS c)) [] := fun {Q E} => by
              unfold ixM
              simp only [show lenOk f.length = true from decide_eq_true (Nat.le_trans lfm (by decide)), if_true]
              rw [show f.cps.toList = c :: r from ef.trans hf, show atI (c :: r) 0 = some c from (by
                unfold atI ixN
                simp)]
              exact Iff.rfl
            simp only [WPS, reduceIte, ix]
            have n1 : (chS c = "0") ↔ c = 48 := ⟨fun e => by
              have e2 := congrArg sg e
              have e2 : [c] = [48] := e2
              exact (List.cons.inj e2).1, fun e => by rw [e]; rfl⟩
            have n2 : (z = "0") ↔ sg z = [48] := ⟨fun e => by rw [e]; rfl, fun e => str_ext e⟩
            have val : isNmb z = (decide (c ≠ 48) || decide (sg z = [48])) := by
              unfold isNmb
              rw [h3, decide_eq_true h1, decide_eq_true h2, hf]
              simp
            rw [val] at k
            by_cases c48 : c = 48
            · have e1 : decide (chS c = "0") = true := decide_eq_true (n1.mpr c48)
              have e2 : decide (c ≠ 48) = false := decide_eq_false fun z => z c48
              have e3 : decide (z = "0") = decide (sg z = [48]) := decide_eq_decide.mpr n2
              rw [e2, Bool.false_or] at k
              simp only [e1, Bool.not_true, Bool.false_eq_true, if_false, e3]
              exact ⟨noRef_bl, k⟩
            · have e1 : decide (chS c = "0") = false := decide_eq_false fun z => c48 (n1.mp z)
              have e2 : decide (c ≠ 48) = true := decide_eq_true c48
              rw [e2, Bool.true_or] at k
              simp only [e1, Bool.not_false, if_true]
              exact ⟨noRef_bl, k⟩
      · rw [decide_eq_false h2]
        simp only [WPS, reduceIte]
        refine bad ?_
        unfold isNmb
        rw [decide_eq_false h2]
        simp
    · rw [decide_eq_false h1]
      simp only [WPS, reduceIte]
      refine bad ?_
      unfold isNmb
      rw [decide_eq_false h1]
      simp
  rw [w_def, w_bind, w_pure]
  simp only [WPS, reduceIte, w_slS l]
  by_cases c : (sg z).head? = some 45
  · rw [if_pos ((dash_iff z).mpr c)]
    try simp only [WPS, reduceIte, w_slS l]
    have t := tail (cutS z (some 1) none) (by rw [cutS_t]; unfold figOf; rw [if_pos c])
    simp only [WPS, reduceIte] at t
    exact t
  · rw [if_neg fun e => c ((dash_iff z).mp e)]
    try simp only [WPS, reduceIte]
    have t := tail z (by unfold figOf; rw [if_neg c])
    simp only [WPS, reduceIte] at t
    exact t
theorem number_w {z : Str} (l : z.length ≤ 1000000) (k0 : isNmb z = false → E "NoText" h) (k1 : isNmb z = true → P (.int (numV z)) h) : Wp (pcallM (app1 f_number_in) [.str z] h) P E := by
  rw [w_pcall]
  refine ⟨by rw [noRefs_cons, noRefs_nil, noRef_str]; rfl, ?_⟩
  rw [w_app1]
  unfold f_number_in b_number_in
  simp only [WPS, reduceIte]
  refine isnum_w l ?_
  try simp only [WPS, reduceIte]
  refine need_w k0 fun e => ?_
  obtain ⟨t1, t2⟩ := num_text e
  have im : ∀ {Q : D → AH → Prop} {E : Str → AH → Prop}, Wp (intM (.str z) ([] : AH)) Q E ↔ Q (.int (numV z)) [] := fun {Q E} => by
    unfold intM
    simp only [t1]
    rw [if_pos (show z.length ≤ 640 by omega)]
    exact Iff.rfl
  simp only [WPS, reduceIte, im]
  exact ⟨noRef_int, k1 e⟩
theorem numbers_w {x : D} {zs : List Str} (hx : x = .lst (zs.map D.str) ∨ x = .tup (zs.map D.str)) (l : zs.length ≤ 100000) (g : ∀ z ∈ zs, z.length ≤ 1000000 ∧ isNmb z = true) (k : P (.tup ((zs.map numV).map D.int)) h) : Wp (pcallM (app1 f_numbers_in) [x] h) P E := by
  rw [w_pcall]
  refine ⟨?_, ?_⟩
  · rw [noRefs_cons, noRefs_nil, Bool.and_true]
    rcases hx with rfl | rfl
    · rw [noRef_lst]
      exact noRefs_map fun _ => noRef_str
    · rw [noRef_tup]
      exact noRefs_map fun _ => noRef_str
  rw [w_app1]
  unfold f_numbers_in b_numbers_in
  have run : lcM (zs.map D.str) c_numbers_in_1 ([] : AH) = .ok (.lst (zs.map fun z => D.int (numV z))) [] := lcM_map (by omega) fun z hz => by
    have w : Wp (c_numbers_in_1 (.str z) ([] : AH)) (fun ys hh => ys = [D.int (numV z)] ∧ hh = []) NoE := by
      unfold c_numbers_in_1
      simp only [WPS, reduceIte]
      refine number_w (g z hz).1 (fun e => by rw [(g z hz).2] at e; cases e) fun _ => ?_
      try simp only [WPS, reduceIte]
      exact ⟨trivial, trivial⟩
    obtain ⟨ys, hh, e, e1, e2⟩ := w.get
    rw [e, e1, e2]
  have it : Wp (itemsM x ([] : AH)) (fun xs hh => xs = zs.map D.str ∧ hh = []) NoE := by
    rcases hx with rfl | rfl <;> exact ⟨rfl, rfl⟩
  obtain ⟨xs, hh, e, rfl, rfl⟩ := it.get
  simp only [WPS, reduceIte, Wp.rn e, Wp.rn run]
  rw [List.map_map] at k
  exact ⟨by rw [noRef_tup]; exact noRefs_map fun _ => noRef_int, k⟩
theorem inD_str {y : Str} {ws : List Str} : inD (.str y) (ws.map D.str) = decide (y ∈ ws) := by
  unfold inD inV
  rw [List.map_map, List.any_map]
  induction ws with
  | nil => rfl
  | cons w r ih =>
    rw [List.any_cons, ih]
    show ((w == y) || decide (y ∈ r)) = decide (y ∈ w :: r)
    rw [List.decide_mem_cons]
    congr 1
    by_cases e : w = y
    · subst e
      simp
    · rw [beq_eq_false_iff_ne.mpr e, beq_eq_false_iff_ne.mpr (Ne.symm e)]
theorem w_inS {neg : Bool} {y : Str} {ws : List Str} : Wp (inM neg (.str y) (.lst (ws.map D.str)) h) P E ↔ P (.bl (if neg = true then !decide (y ∈ ws) else decide (y ∈ ws))) h := by
  unfold inM
  rw [show seqOf h (.lst (ws.map D.str)) = some (ws.map D.str) from rfl]
  simp only
  rw [if_pos (by
    rw [Bool.and_eq_true]
    refine ⟨rfl, ?_⟩
    rw [List.all_map]
    exact List.all_eq_true.mpr fun _ _ => rfl), inD_str]
  exact Iff.rfl
theorem w_split {a b : Str} (l : a.length + 2 ≤ 1000000) (n : (b.length == 0) = false) : Wp (splitM (.str a) (.str b) h) P E ↔ P (.lst ((Txt.split a b).map D.str)) h := by
  unfold splitM
  simp only [n, show lenOk (a.length + 2) = true from decide_eq_true (Nat.le_trans l (by decide)), Bool.not_false, Bool.and_true, if_true]
  exact Iff.rfl
/-- the words of a row -/
theorem words_w {z : Str} (l : z.length + 2 ≤ 1000000) (k0 : (⟨#[]⟩ : Str) ∈ Txt.split z " " → E "NoText" h) (k1 : (⟨#[]⟩ : Str) ∉ Txt.split z " " → P (.lst ((Txt.split z " ").map D.str)) h) : Wp (pcallM (app1 f_words_in) [.str z] h) P E := by
  rw [w_pcall]
  refine ⟨by rw [noRefs_cons, noRefs_nil, noRef_str]; rfl, ?_⟩
  rw [w_app1]
  unfold f_words_in b_words_in
  have sk : ∀ {Q : Unit → AH → Prop} {E : Str → AH → Prop}, Wp (schk (.str z) ([] : AH)) Q E ↔ Q () [] := Iff.rfl
  simp only [WPS, reduceIte, sk, w_split (h := []) (a := z) (b := " ") l rfl, w_inS]
  have e0 : ("" : Str) = ⟨#[]⟩ := rfl
  rw [e0]
  refine need_w (fun e => k0 (by simpa using e)) fun e => ?_
  try simp only [WPS, reduceIte]
  exact ⟨by rw [noRef_lst]; exact noRefs_map fun _ => noRef_str, k1 (by simpa using e)⟩
theorem words_ok {ws : List Str} (w : ∀ x ∈ ws, Word x) (n : ws ≠ []) : Txt.split (Txt.join " " ws) " " = ws ∧ (⟨#[]⟩ : Str) ∉ ws := by
  refine ⟨?_, fun m => absurd (w _ m).pos (by decide)⟩
  rw [TL.join_eq]
  exact split_join (c := 32) (fun y hy m => by
    have := (w y hy).signs 32 m
    exact absurd this (by decide)) n
/-- rows of a text -/
theorem rows_w {rs : List Str} {rest : Str} (hr : ∀ r ∈ rs, 10 ∉ sg r) (k : 10 ∉ sg rest) (n : rs ≠ []) (l : (feeds rs ++ rest).length + 2 ≤ 1000000) (kk : P (.lst (rs.map D.str)) h) : Wp (pcallM (app1 f_whole_rows) [.str (feeds rs ++ rest)] h) P E := by
  rw [w_pcall]
  refine ⟨by rw [noRefs_cons, noRefs_nil, noRef_str]; rfl, ?_⟩
  rw [w_app1]
  unfold f_whole_rows b_whole_rows
  have ty : isiM "str" (.str (feeds rs ++ rest)) ([] : AH) = .ok (.bl true) [] := rfl
  have sk : ∀ {Q : Unit → AH → Prop} {E : Str → AH → Prop}, Wp (schk (.str (feeds rs ++ rest)) ([] : AH)) Q E ↔ Q () [] := Iff.rfl
  simp only [WPS, reduceIte, Wp.rn ty]
  refine need_t ?_
  have cut : cutD ((rs ++ [rest]).map D.str) none (some (-1)) = rs.map D.str := by
    rw [List.map_append]
    exact cutD_init _ _
  simp only [WPS, reduceIte, sk, w_split (h := []) (a := feeds rs ++ rest) (b := "\n") l rfl, rows_of hr k, cut]
  rw [w_nen (xs := rs.map D.str) rfl]
  refine need_w (fun e => absurd (by
    cases rs with
    | nil => rfl
    | cons x r => cases e) n) fun _ => ?_
  try simp only [WPS, reduceIte]
  exact ⟨by rw [noRef_lst]; exact noRefs_map fun _ => noRef_str, kk⟩
/-- the words of a line; its row without the feed -/
def lnS (d : D) : Str := Txt.join " " ((lnP d).map wrt)
theorem join_len {ws : List Str} (w : ∀ x ∈ ws, Word x) (l : ws.length ≤ 200) : (Txt.join " " ws).length ≤ 4600 := by
  have a := joinLen " " ws
  have b := sum22 (ys := ws) fun y hy => (w y hy).len
  have c : ((" " : Str)).length = 1 := rfl
  rw [c] at a
  omega
theorem inwords_w {ws : List Str} (w : ∀ x ∈ ws, Word x) (n : ws ≠ []) (l : ws.length ≤ 200) (k : P (.lst (ws.map D.str)) h) : Wp (pcallM (app1 f_words_in) [.str (Txt.join " " ws)] h) P E := by
  obtain ⟨e1, e2⟩ := words_ok w n
  refine words_w (by have := join_len w l; omega) (fun m => ?_) fun _ => ?_
  · rw [e1] at m
    exact absurd m e2
  · rw [e1]
    exact k
theorem nums_w {x : D} {is : List Int} (hx : x = .lst ((is.map numS).map D.str) ∨ x = .tup ((is.map numS).map D.str)) (l : is.length ≤ 100000) (g : ∀ i ∈ is, gn i) (k : P (.tup (is.map D.int)) h) : Wp (pcallM (app1 f_numbers_in) [x] h) P E := by
  refine numbers_w hx (by rw [List.length_map]; exact l) (fun z hz => ?_) ?_
  · obtain ⟨i, hi, rfl⟩ := List.mem_map.mp hz
    exact ⟨Nat.le_trans (str_len (g i hi).gd) (by decide), (num_of (g i hi)).1⟩
  · have e : (is.map numS).map numV = is := by
      rw [List.map_map]
      conv => rhs; rw [← List.map_id is]
      exact List.map_congr_left fun i hi => (num_of (g i hi)).2
    rw [e]
    exact k
theorem num_w {i : Int} (g : gn i) (k : P (.int i) h) : Wp (pcallM (app1 f_number_in) [.str (numS i)] h) P E := by
  refine number_w (Nat.le_trans (str_len g.gd) (by decide)) (fun e => by rw [(num_of g).1] at e; cases e) fun _ => ?_
  rw [(num_of g).2]
  exact k
theorem linein_w {d : D} (l : LnR d) (k : P d h) : Wp (pcallM (app1 f_line_in) [.str (lnS d)] h) P E := by
  rw [w_pcall]
  refine ⟨by rw [noRefs_cons, noRefs_nil, noRef_str]; rfl, ?_⟩
  rw [w_app1]
  have nr : noRef d = true := ln_nr l.ln
  unfold f_line_in b_line_in
  cases l with
  | @lent a b c z ga gz gb gc =>
    have e : lnS (.tup [.str "lent", .int a, .str z, .int b, .int c]) = Txt.join " " ["lent", numS a, z, numS b, numS c] := rfl
    rw [e]
    simp only [WPS, reduceIte]
    refine inwords_w (fun x hx => ?_) (List.cons_ne_nil _ _) (Nat.le_of_ble_eq_true rfl) ?_
    · simp only [List.mem_cons, List.not_mem_nil, or_false] at hx
      rcases hx with rfl | rfl | rfl | rfl | rfl
      · exact ⟨by decide, by decide, by decide⟩
      · exact num_word ga
      · exact gz
      · exact num_word gb
      · exact num_word gc
    · have i0 : ∀ {g : AH} {Q : D → AH → Prop} {F : Str → AH → Prop}, Wp (ixM (.lst (List.map D.str ["lent", numS a, z, numS b, numS c])) (.int 0) g) Q F ↔ Q (.str "lent") g := w_ixL rfl
      have i1 : ∀ {g : AH} {Q : D → AH → Prop} {F : Str → AH → Prop}, Wp (ixM (.lst (List.map D.str ["lent", numS a, z, numS b, numS c])) (.int 1) g) Q F ↔ Q (.str (numS a)) g := w_ixL rfl
      have i2 : ∀ {g : AH} {Q : D → AH → Prop} {F : Str → AH → Prop}, Wp (ixM (.lst (List.map D.str ["lent", numS a, z, numS b, numS c])) (.int 2) g) Q F ↔ Q (.str z) g := w_ixL rfl
      have kin : ∀ {g : AH} {Q : D → AH → Prop} {F : Str → AH → Prop}, Wp (kinM false kd_COUNTS (.str "lent") g) Q F ↔ Q (.bl true) g := Iff.rfl
      have kget : ∀ {g : AH} {Q : D → AH → Prop} {F : Str → AH → Prop}, Wp (kgetM kd_COUNTS (.str "lent") g) Q F ↔ Q (.int 5) g := Iff.rfl
      have ln : ∀ {g : AH} {Q : D → AH → Prop} {F : Str → AH → Prop}, Wp (lenM (.lst (List.map D.str ["lent", numS a, z, numS b, numS c])) g) Q F ↔ Q (.int 5) g := Iff.rfl
      have sl : ∀ {g : AH} {Q : D → AH → Prop} {F : Str → AH → Prop}, Wp (sliceM (.lst (List.map D.str ["lent", numS a, z, numS b, numS c])) (some 3) none g) Q F ↔ Q (.lst (([b, c].map numS).map D.str)) g := Iff.rfl
      simp only [WPS, reduceIte, i0, i1, i2, kin, kget, ln, show (("lent" : Str) = "told") ↔ False from ⟨fun z => absurd z (by decide), False.elim⟩, decide_true]
      refine need_t ?_
      try simp only [WPS, reduceIte, i0, i1, i2]
      refine num_w ga ?_
      try simp only [WPS, reduceIte, i2, sl]
      refine nums_w (is := [b, c]) (.inl rfl) (Nat.le_of_ble_eq_true rfl) (fun i hi => ?_) ?_
      · simp only [List.mem_cons, List.not_mem_nil, or_false] at hi
        rcases hi with rfl | rfl <;> assumption
      · have ad : ∀ {g : AH} {Q : D → AH → Prop} {F : Str → AH → Prop}, Wp (addM (.tup [.str "lent", .int a, .str z]) (.tup ([b, c].map D.int)) g) Q F ↔ Q (.tup [.str "lent", .int a, .str z, .int b, .int c]) g := w_addT (Nat.le_of_ble_eq_true rfl)
        simp only [WPS, reduceIte, ad]
        exact ⟨nr, k⟩
  | @told a b c ns ga gb gc ln gns =>
    have e : lnS (.tup [.str "told", .int a, .int b, .int c, .tup (ns.map D.int)]) = Txt.join " " ("told" :: (a :: b :: c :: ns).map numS) := by
      show Txt.join " " (List.map wrt ([D.str "told", .int a, .int b, .int c] ++ ns.map D.int)) = _
      rw [List.map_append, List.map_map]
      rfl
    have gall : ∀ i ∈ a :: b :: c :: ns, gn i := fun i hi => by
      rcases List.mem_cons.mp hi with rfl | hi
      · exact ga
      · rcases List.mem_cons.mp hi with rfl | hi
        · exact gb
        · rcases List.mem_cons.mp hi with rfl | hi
          · exact gc
          · exact gns i hi
    rw [e]
    simp only [WPS, reduceIte]
    refine inwords_w (fun x hx => ?_) (List.cons_ne_nil _ _) (by rw [List.length_cons, List.length_map]; show ns.length + 1 + 1 + 1 + 1 ≤ 200; omega) ?_
    · rcases List.mem_cons.mp hx with rfl | hx
      · exact ⟨by decide, by decide, by decide⟩
      · obtain ⟨i, hi, rfl⟩ := List.mem_map.mp hx
        exact num_word (gall i hi)
    · have i0 : ∀ {g : AH} {Q : D → AH → Prop} {F : Str → AH → Prop}, Wp (ixM (.lst (List.map D.str ("told" :: (a :: b :: c :: ns).map numS))) (.int 0) g) Q F ↔ Q (.str "told") g := w_ixL (atI_pos (by decide) rfl)
      have sl : cutD (List.map D.str ("told" :: (a :: b :: c :: ns).map numS)) (some 1) none = List.map D.str ((a :: b :: c :: ns).map numS) := by
        rw [show (some (1 : Int)) = some ((1 : Nat) : Int) from rfl, cutD_drop]
        rfl
      have lw : ∀ {g : AH} {Q : D → AH → Prop} {F : Str → AH → Prop}, Wp (lenM (.lst (List.map D.str ("told" :: (a :: b :: c :: ns).map numS))) g) Q F ↔ Q (.int ((ns.length : Int) + 4)) g := fun {g Q F} => by
        rw [w_lenL, List.length_map, List.length_cons, List.length_map]
        show Q (.int ((ns.length + 1 + 1 + 1 + 1 : Nat) : Int)) g ↔ _
        rw [show ((ns.length + 1 + 1 + 1 + 1 : Nat) : Int) = (ns.length : Int) + 4 by omega]
      simp only [WPS, reduceIte, i0, lw]
      simp only [WPS, reduceIte, decide_true, show (4 : Int) ≤ (ns.length : Int) + 4 from by omega]
      refine need_t ?_
      try simp only [WPS, reduceIte, sl]
      refine nums_w (is := a :: b :: c :: ns) (.inl rfl) (by simp; omega) gall ?_
      have c3 : cutD ((a :: b :: c :: ns).map D.int) none (some 3) = [.int a, .int b, .int c] := by
        rw [show (some (3 : Int)) = some ((3 : Nat) : Int) from rfl, cutD_take]
        rfl
      have c4 : cutD ((a :: b :: c :: ns).map D.int) (some 3) none = ns.map D.int := by
        rw [show (some (3 : Int)) = some ((3 : Nat) : Int) from rfl, cutD_drop]
        rfl
      have ad : ∀ {g : AH} {Q : D → AH → Prop} {F : Str → AH → Prop}, Wp (addM (.tup [.str "told"]) (.tup [.int a, .int b, .int c]) g) Q F ↔ Q (.tup [.str "told", .int a, .int b, .int c]) g := w_addT (Nat.le_of_ble_eq_true rfl)
      have ad2 : ∀ {g : AH} {Q : D → AH → Prop} {F : Str → AH → Prop}, Wp (addM (.tup [.str "told", .int a, .int b, .int c]) (.tup [.tup (ns.map D.int)]) g) Q F ↔ Q (.tup [.str "told", .int a, .int b, .int c, .tup (ns.map D.int)]) g := w_addT (Nat.le_of_ble_eq_true rfl)
      simp only [WPS, reduceIte, c3, c4, ad, ad2]
      exact ⟨nr, k⟩
  | @back a b ga gb =>
    have e : lnS (.tup [.str "back", .int a, .int b]) = Txt.join " " ["back", numS a, numS b] := rfl
    rw [e]
    simp only [WPS, reduceIte]
    refine inwords_w (fun x hx => ?_) (List.cons_ne_nil _ _) (Nat.le_of_ble_eq_true rfl) ?_
    · simp only [List.mem_cons, List.not_mem_nil, or_false] at hx
      rcases hx with rfl | rfl | rfl
      · exact ⟨by decide, by decide, by decide⟩
      · exact num_word ga
      · exact num_word gb
    · have i0 : ∀ {g : AH} {Q : D → AH → Prop} {F : Str → AH → Prop}, Wp (ixM (.lst (List.map D.str ["back", numS a, numS b])) (.int 0) g) Q F ↔ Q (.str "back") g := w_ixL rfl
      have kin : ∀ {g : AH} {Q : D → AH → Prop} {F : Str → AH → Prop}, Wp (kinM false kd_COUNTS (.str "back") g) Q F ↔ Q (.bl true) g := Iff.rfl
      have kget : ∀ {g : AH} {Q : D → AH → Prop} {F : Str → AH → Prop}, Wp (kgetM kd_COUNTS (.str "back") g) Q F ↔ Q (.int 3) g := Iff.rfl
      have ln : ∀ {g : AH} {Q : D → AH → Prop} {F : Str → AH → Prop}, Wp (lenM (.lst (List.map D.str ["back", numS a, numS b])) g) Q F ↔ Q (.int 3) g := Iff.rfl
      have sl : ∀ {g : AH} {Q : D → AH → Prop} {F : Str → AH → Prop}, Wp (sliceM (.lst (List.map D.str ["back", numS a, numS b])) (some 1) none g) Q F ↔ Q (.lst (([a, b].map numS).map D.str)) g := Iff.rfl
      simp only [WPS, reduceIte, i0, kin, kget, ln, show (("back" : Str) = "told") ↔ False from ⟨fun z => absurd z (by decide), False.elim⟩, show (("back" : Str) = "lent") ↔ False from ⟨fun z => absurd z (by decide), False.elim⟩, decide_true]
      refine need_t ?_
      try simp only [WPS, reduceIte, i0, sl, show (("back" : Str) = "lent") ↔ False from ⟨fun z => absurd z (by decide), False.elim⟩]
      refine nums_w (is := [a, b]) (.inl rfl) (Nat.le_of_ble_eq_true rfl) (fun i hi => ?_) ?_
      · simp only [List.mem_cons, List.not_mem_nil, or_false] at hi
        rcases hi with rfl | rfl <;> assumption
      · have ad : ∀ {g : AH} {Q : D → AH → Prop} {F : Str → AH → Prop}, Wp (addM (.tup [.str "back"]) (.tup ([a, b].map D.int)) g) Q F ↔ Q (.tup [.str "back", .int a, .int b]) g := w_addT (Nat.le_of_ble_eq_true rfl)
        simp only [WPS, reduceIte, ad]
        exact ⟨nr, k⟩
  | @cut a b ga gb =>
    have e : lnS (.tup [.str "cut", .int a, .int b]) = Txt.join " " ["cut", numS a, numS b] := rfl
    rw [e]
    simp only [WPS, reduceIte]
    refine inwords_w (fun x hx => ?_) (List.cons_ne_nil _ _) (Nat.le_of_ble_eq_true rfl) ?_
    · simp only [List.mem_cons, List.not_mem_nil, or_false] at hx
      rcases hx with rfl | rfl | rfl
      · exact ⟨by decide, by decide, by decide⟩
      · exact num_word ga
      · exact num_word gb
    · have i0 : ∀ {g : AH} {Q : D → AH → Prop} {F : Str → AH → Prop}, Wp (ixM (.lst (List.map D.str ["cut", numS a, numS b])) (.int 0) g) Q F ↔ Q (.str "cut") g := w_ixL rfl
      have kin : ∀ {g : AH} {Q : D → AH → Prop} {F : Str → AH → Prop}, Wp (kinM false kd_COUNTS (.str "cut") g) Q F ↔ Q (.bl true) g := Iff.rfl
      have kget : ∀ {g : AH} {Q : D → AH → Prop} {F : Str → AH → Prop}, Wp (kgetM kd_COUNTS (.str "cut") g) Q F ↔ Q (.int 3) g := Iff.rfl
      have ln : ∀ {g : AH} {Q : D → AH → Prop} {F : Str → AH → Prop}, Wp (lenM (.lst (List.map D.str ["cut", numS a, numS b])) g) Q F ↔ Q (.int 3) g := Iff.rfl
      have sl : ∀ {g : AH} {Q : D → AH → Prop} {F : Str → AH → Prop}, Wp (sliceM (.lst (List.map D.str ["cut", numS a, numS b])) (some 1) none g) Q F ↔ Q (.lst (([a, b].map numS).map D.str)) g := Iff.rfl
      simp only [WPS, reduceIte, i0, kin, kget, ln, show (("cut" : Str) = "told") ↔ False from ⟨fun z => absurd z (by decide), False.elim⟩, show (("cut" : Str) = "lent") ↔ False from ⟨fun z => absurd z (by decide), False.elim⟩, decide_true]
      refine need_t ?_
      try simp only [WPS, reduceIte, i0, sl, show (("cut" : Str) = "lent") ↔ False from ⟨fun z => absurd z (by decide), False.elim⟩]
      refine nums_w (is := [a, b]) (.inl rfl) (Nat.le_of_ble_eq_true rfl) (fun i hi => ?_) ?_
      · simp only [List.mem_cons, List.not_mem_nil, or_false] at hi
        rcases hi with rfl | rfl <;> assumption
      · have ad : ∀ {g : AH} {Q : D → AH → Prop} {F : Str → AH → Prop}, Wp (addM (.tup [.str "cut"]) (.tup ([a, b].map D.int)) g) Q F ↔ Q (.tup [.str "cut", .int a, .int b]) g := w_addT (Nat.le_of_ble_eq_true rfl)
        simp only [WPS, reduceIte, ad]
        exact ⟨nr, k⟩
  | @join a ga =>
    have e : lnS (.tup [.str "join", .int a]) = Txt.join " " ["join", numS a] := rfl
    rw [e]
    simp only [WPS, reduceIte]
    refine inwords_w (fun x hx => ?_) (List.cons_ne_nil _ _) (Nat.le_of_ble_eq_true rfl) ?_
    · simp only [List.mem_cons, List.not_mem_nil, or_false] at hx
      rcases hx with rfl | rfl
      · exact ⟨by decide, by decide, by decide⟩
      · exact num_word ga
    · have i0 : ∀ {g : AH} {Q : D → AH → Prop} {F : Str → AH → Prop}, Wp (ixM (.lst (List.map D.str ["join", numS a])) (.int 0) g) Q F ↔ Q (.str "join") g := w_ixL rfl
      have kin : ∀ {g : AH} {Q : D → AH → Prop} {F : Str → AH → Prop}, Wp (kinM false kd_COUNTS (.str "join") g) Q F ↔ Q (.bl true) g := Iff.rfl
      have kget : ∀ {g : AH} {Q : D → AH → Prop} {F : Str → AH → Prop}, Wp (kgetM kd_COUNTS (.str "join") g) Q F ↔ Q (.int 2) g := Iff.rfl
      have ln : ∀ {g : AH} {Q : D → AH → Prop} {F : Str → AH → Prop}, Wp (lenM (.lst (List.map D.str ["join", numS a])) g) Q F ↔ Q (.int 2) g := Iff.rfl
      have sl : ∀ {g : AH} {Q : D → AH → Prop} {F : Str → AH → Prop}, Wp (sliceM (.lst (List.map D.str ["join", numS a])) (some 1) none g) Q F ↔ Q (.lst (([a].map numS).map D.str)) g := Iff.rfl
      simp only [WPS, reduceIte, i0, kin, kget, ln, show (("join" : Str) = "told") ↔ False from ⟨fun z => absurd z (by decide), False.elim⟩, show (("join" : Str) = "lent") ↔ False from ⟨fun z => absurd z (by decide), False.elim⟩, decide_true]
      refine need_t ?_
      try simp only [WPS, reduceIte, i0, sl, show (("join" : Str) = "lent") ↔ False from ⟨fun z => absurd z (by decide), False.elim⟩]
      refine nums_w (is := [a]) (.inl rfl) (Nat.le_of_ble_eq_true rfl) (fun i hi => ?_) ?_
      · rw [List.mem_singleton.mp hi]
        exact ga
      · have ad : ∀ {g : AH} {Q : D → AH → Prop} {F : Str → AH → Prop}, Wp (addM (.tup [.str "join"]) (.tup ([a].map D.int)) g) Q F ↔ Q (.tup [.str "join", .int a]) g := w_addT (Nat.le_of_ble_eq_true rfl)
        simp only [WPS, reduceIte, ad]
        exact ⟨nr, k⟩
end
end Lw
/-! SetP: stretches as data. -/
namespace Lw
open PySem L2
def pd (p : P2) : D := .tup [.int p.1, .int p.2]
def wk (w : List P2) : D := .tup (w.map pd)
theorem pd_inj {p q : P2} (h : pd p = pd q) : p = q := by
  unfold pd at h
  cases p
  cases q
  simp at h
  exact Prod.ext h.1 h.2
theorem map_pd_inj : ∀ {w u : List P2}, w.map pd = u.map pd → w = u
  | [], [], _ => rfl
  | [], _ :: _, h => by cases h
  | _ :: _, [], h => by cases h
  | p :: w, q :: u, h => by
    rw [List.map_cons, List.map_cons] at h
    rw [pd_inj (List.cons.inj h).1, map_pd_inj (List.cons.inj h).2]
section
end
/-! ### a row of stretches in the heap -/
theorem frz (xs : List D) : freezeM (.ref 0) [.lst xs] = .ok (.lst xs) [.dead] := freezeM_ref rfl
theorem noRefs_one {d : D} (a : noRef d = true) : noRefs [d] = true := by
  rw [noRefs_cons, a]
  rfl
end Lw
/-! SetTh: heads read. -/
namespace Lw
open PySem L2
/-- every second one of the last six, of the last five -/
theorem step6 {α : Type} (xs : List α) (a b c d e f : α) : stepD (xs ++ [a, b, c, d, e, f]) (some (-6)) 2 = [a, c, e] := by
  have hl : (xs ++ [a, b, c, d, e, f]).length = xs.length + 6 := by simp
  unfold stepD
  rw [hl]
  have sb : sliceBounds (some (-6)) none (some 2) (xs.length + 6) = ((xs.length : Int), ((xs.length + 6 : Nat) : Int), 2) := by
    unfold sliceBounds
    simp only [Option.getD_some, show (2 : Int) > 0 by decide, if_true, show (-6 : Int) < 0 by decide]
    congr 1
    omega
  rw [sb]
  have sr : sliceRange (xs.length : Int) ((xs.length + 6 : Nat) : Int) 2 = [xs.length, xs.length + 2, xs.length + 4] := by
    unfold sliceRange
    simp only [show (2 : Int) > 0 by decide, if_true, show (xs.length : Int) < ((xs.length + 6 : Nat) : Int) by omega]
    rw [show (((xs.length + 6 : Nat) : Int) - (xs.length : Int) + 2 - 1) / 2 = 3 by omega]
    show [((xs.length : Int) + 2 * ((0 : Nat) : Int)).toNat, ((xs.length : Int) + 2 * ((1 : Nat) : Int)).toNat, ((xs.length : Int) + 2 * ((2 : Nat) : Int)).toNat] = _
    rw [show ((xs.length : Int) + 2 * ((0 : Nat) : Int)).toNat = xs.length by omega, show ((xs.length : Int) + 2 * ((1 : Nat) : Int)).toNat = xs.length + 2 by omega, show ((xs.length : Int) + 2 * ((2 : Nat) : Int)).toNat = xs.length + 4 by omega]
  rw [sr]
  have g : ∀ (k : Nat) (y : α), [a, b, c, d, e, f][k]? = some y → (xs ++ [a, b, c, d, e, f])[xs.length + k]? = some y := fun k y h => by
    rw [List.getElem?_append_right (by omega), Nat.add_sub_cancel_left]
    exact h
  have g0 := g 0 a rfl
  rw [Nat.add_zero] at g0
  simp only [List.filterMap_cons, g0, g 2 c rfl, g 4 e rfl, List.filterMap_nil]
theorem step5 {α : Type} (xs : List α) (a b c d e f : α) : stepD (xs ++ [a, b, c, d, e, f]) (some (-5)) 2 = [b, d, f] := by
  have hl : (xs ++ [a, b, c, d, e, f]).length = xs.length + 6 := by simp
  unfold stepD
  rw [hl]
  have sb : sliceBounds (some (-5)) none (some 2) (xs.length + 6) = (((xs.length + 1 : Nat) : Int), ((xs.length + 6 : Nat) : Int), 2) := by
    unfold sliceBounds
    simp only [Option.getD_some, show (2 : Int) > 0 by decide, if_true, show (-5 : Int) < 0 by decide]
    congr 1
    omega
  rw [sb]
  have sr : sliceRange ((xs.length + 1 : Nat) : Int) ((xs.length + 6 : Nat) : Int) 2 = [xs.length + 1, xs.length + 3, xs.length + 5] := by
    unfold sliceRange
    simp only [show (2 : Int) > 0 by decide, if_true, show ((xs.length + 1 : Nat) : Int) < ((xs.length + 6 : Nat) : Int) by omega]
    rw [show (((xs.length + 6 : Nat) : Int) - ((xs.length + 1 : Nat) : Int) + 2 - 1) / 2 = 3 by omega]
    show [(((xs.length + 1 : Nat) : Int) + 2 * ((0 : Nat) : Int)).toNat, (((xs.length + 1 : Nat) : Int) + 2 * ((1 : Nat) : Int)).toNat, (((xs.length + 1 : Nat) : Int) + 2 * ((2 : Nat) : Int)).toNat] = _
    rw [show (((xs.length + 1 : Nat) : Int) + 2 * ((0 : Nat) : Int)).toNat = xs.length + 1 by omega, show (((xs.length + 1 : Nat) : Int) + 2 * ((1 : Nat) : Int)).toNat = xs.length + 3 by omega, show (((xs.length + 1 : Nat) : Int) + 2 * ((2 : Nat) : Int)).toNat = xs.length + 5 by omega]
  rw [sr]
  have g : ∀ (k : Nat) (y : α), [a, b, c, d, e, f][k]? = some y → (xs ++ [a, b, c, d, e, f])[xs.length + k]? = some y := fun k y h => by
    rw [List.getElem?_append_right (by omega), Nat.add_sub_cancel_left]
    exact h
  simp only [List.filterMap_cons, g 1 b rfl, g 3 d rfl, g 5 f rfl, List.filterMap_nil]
theorem cut16 {α : Type} (w : α) (xs six : List α) (h6 : six.length = 6) : cutD (w :: (xs ++ six)) (some 1) (some (-6)) = xs := by
  unfold cutD
  have hl : (w :: (xs ++ six)).length = xs.length + 7 := by simp [h6]
  rw [hl, show HT.sIx (xs.length + 7) 0 (some 1) = min 1 (xs.length + 7) from HT.sIx_nat _ _ 1, show min 1 (xs.length + 7) = 1 by omega, show HT.sIx (xs.length + 7) (xs.length + 7) (some (-6)) = xs.length + 1 from (by
    show (if (-6 : Int) < 0 then ((-6 : Int) + ((xs.length + 7 : Nat) : Int)).toNat else min (-6 : Int).toNat (xs.length + 7)) = _
    rw [if_pos (by decide)]
    omega), List.drop_one, List.tail_cons, Nat.add_sub_cancel, List.take_append_of_le_length (Nat.le_refl _), List.take_of_length_le (Nat.le_refl _)]
theorem rng_two (m : Nat) (hm : m ≤ 100000) : rng3M [.int 0, .int ((2 * m : Nat) : Int), .int 2] = (pure (rangeC 0 2 m) : M (List D)) := by
  have sz : Builtin.Range.rangeSize 0 ((2 * m : Nat) : Int) 2 = (m : Int) := by
    unfold Builtin.Range.rangeSize
    simp
    omega
  have sm : Builtin.Range.small 0 ((2 * m : Nat) : Int) 2 = true := by
    unfold Builtin.Range.small
    rw [sz]
    unfold Builtin.Range.rangeFitsLong
    simp
    omega
  unfold rng3M
  simp only [sz, sm]
  rw [if_pos (by simp), Int.toNat_natCast]
section
variable {h : AH} {E : Str → AH → Prop} {P : D → AH → Prop}
/-- the numbers of a work, one by one -/
def fl (ps : List P2) : List Int := (ps.map fun p => [p.1, p.2]).flatten
theorem fl_len (ps : List P2) : (fl ps).length = 2 * ps.length := by
  unfold fl
  induction ps with
  | nil => rfl
  | cons p r ih =>
    rw [List.map_cons, List.flatten_cons, List.length_append, ih]
    simp only [List.length_cons, List.length_nil]
    omega
theorem fl_get : ∀ (ps : List P2) (k : Nat) (p : P2), ps[k]? = some p → (fl ps)[2 * k]? = some p.1 ∧ (fl ps)[2 * k + 1]? = some p.2
  | [], _, _, h => by cases h
  | q :: r, 0, p, h => by
    cases h
    exact ⟨rfl, rfl⟩
  | q :: r, k + 1, p, h => by
    have ih := fl_get r k p h
    have e : fl (q :: r) = q.1 :: q.2 :: fl r := rfl
    rw [e, show 2 * (k + 1) = 2 * k + 1 + 1 by omega]
    exact ⟨by rw [List.getElem?_cons_succ, List.getElem?_cons_succ]; exact ih.1, by rw [List.getElem?_cons_succ, List.getElem?_cons_succ]; exact ih.2⟩
theorem head_words (ps : List P2) (a b c : Int) : (headD ps a b c).map wrt = ("work" : Str) :: ((fl ps).map numS ++ (["span", numS a, "every", numS b, "least", numS c] : List Str)) := by
  unfold headD fl
  rw [List.map_append, List.map_cons, List.map_flatten, List.map_flatten, List.map_map, List.map_map, List.cons_append]
  rfl
/-- the row of a head without the feed -/
def hdS (ps : List P2) (a b c : Int) : Str := Txt.join " " ((headD ps a b c).map wrt)
theorem head_word {ps : List P2} {a b c : Int} (gp : ∀ p ∈ ps, gn p.1 ∧ gn p.2) (ga : gn a) (gb : gn b) (gc : gn c) : ∀ x ∈ (headD ps a b c).map wrt, Word x := by
  intro x hx
  rw [head_words] at hx
  rcases List.mem_cons.mp hx with rfl | hx
  · exact ⟨by decide, by decide, by decide⟩
  · rcases List.mem_append.mp hx with hx | hx
    · obtain ⟨i, hi, rfl⟩ := List.mem_map.mp hx
      obtain ⟨l, hl, hm⟩ := List.mem_flatten.mp hi
      obtain ⟨p, hp, rfl⟩ := List.mem_map.mp hl
      simp only [List.mem_cons, List.not_mem_nil, or_false] at hm
      rcases hm with rfl | rfl
      · exact num_word (gp p hp).1
      · exact num_word (gp p hp).2
    · simp only [List.mem_cons, List.not_mem_nil, or_false] at hx
      rcases hx with rfl | rfl | rfl | rfl | rfl | rfl
      · exact ⟨by decide, by decide, by decide⟩
      · exact num_word ga
      · exact ⟨by decide, by decide, by decide⟩
      · exact num_word gb
      · exact ⟨by decide, by decide, by decide⟩
      · exact num_word gc
theorem fl_gn {ps : List P2} (gp : ∀ p ∈ ps, gn p.1 ∧ gn p.2) : ∀ i ∈ fl ps, gn i := fun i hi => by
  obtain ⟨l, hl, hm⟩ := List.mem_flatten.mp hi
  obtain ⟨p, hp, rfl⟩ := List.mem_map.mp hl
  simp only [List.mem_cons, List.not_mem_nil, or_false] at hm
  rcases hm with rfl | rfl
  · exact (gp p hp).1
  · exact (gp p hp).2
theorem headin_w {ps : List P2} {a b c : Int} (lp : ps.length ≤ 50) (gp : ∀ p ∈ ps, gn p.1 ∧ gn p.2) (ga : gn a) (gb : gn b) (gc : gn c) (k : P (.tup [prD ps, .int a, .int b, .int c]) h) : Wp (pcallM (app1 f_head_in) [.str (hdS ps a b c)] h) P E := by
  rw [w_pcall]
  refine ⟨by rw [noRefs_cons, noRefs_nil, noRef_str]; rfl, ?_⟩
  rw [w_app1]
  unfold f_head_in b_head_in
  simp only [WPS, reduceIte]
  have len : ((headD ps a b c).map wrt).length = 2 * ps.length + 7 := by
    rw [head_words, List.length_cons, List.length_append, List.length_map, fl_len]
    rfl
  refine inwords_w (head_word gp ga gb gc) (fun e => by rw [e] at len; simp at len) (by rw [len]; omega) ?_
  have lw : ∀ {g : AH} {Q : D → AH → Prop} {F : Str → AH → Prop}, Wp (lenM (.lst (List.map D.str ((headD ps a b c).map wrt))) g) Q F ↔ Q (.int ((2 * ps.length + 7 : Nat) : Int)) g := fun {g Q F} => by
    rw [w_lenL, List.length_map, len]
  have i0 : ∀ {g : AH} {Q : D → AH → Prop} {F : Str → AH → Prop}, Wp (ixM (.lst (List.map D.str ((headD ps a b c).map wrt))) (.int 0) g) Q F ↔ Q (.str "work") g := w_ixL (atI_pos (by decide) (by rw [head_words]; rfl))
  have md : ((2 * ps.length + 7 : Nat) : Int) % 2 = 1 := by omega
  have hws : List.map D.str ((headD ps a b c).map wrt) = (D.str "work" :: (List.map D.str ((fl ps).map numS))) ++ [D.str "span", .str (numS a), .str "every", .str (numS b), .str "least", .str (numS c)] := by
    rw [head_words, List.map_cons, List.map_append]
    rfl
  have st6 : ∀ {g : AH} {Q : D → AH → Prop} {F : Str → AH → Prop}, Wp (stepM 2 (.lst (List.map D.str ((headD ps a b c).map wrt))) (some (-6)) g) Q F ↔ Q (.lst [.str "span", .str "every", .str "least"]) g := fun {g Q F} => by
    unfold stepM
    rw [show lstOf g (.lst (List.map D.str ((headD ps a b c).map wrt))) = some (List.map D.str ((headD ps a b c).map wrt)) from rfl]
    simp only
    rw [hws, step6]
    exact Iff.rfl
  have st5 : ∀ {g : AH} {Q : D → AH → Prop} {F : Str → AH → Prop}, Wp (stepM 2 (.lst (List.map D.str ((headD ps a b c).map wrt))) (some (-5)) g) Q F ↔ Q (.lst (List.map D.str ([a, b, c].map numS))) g := fun {g Q F} => by
    unfold stepM
    rw [show lstOf g (.lst (List.map D.str ((headD ps a b c).map wrt))) = some (List.map D.str ((headD ps a b c).map wrt)) from rfl]
    simp only
    rw [hws, step5]
    exact Iff.rfl
  have sl : cutD (List.map D.str ((headD ps a b c).map wrt)) (some 1) (some (-6)) = List.map D.str ((fl ps).map numS) := by
    rw [hws]
    exact cut16 _ _ _ rfl
  have eb : ∀ {g : AH} {Q : D → AH → Prop} {F : Str → AH → Prop}, Wp (eqM (.tup [.str "span", .str "every", .str "least"]) (.tup [.str "span", .str "every", .str "least"]) g) Q F ↔ Q (.bl true) g := fun {g Q F} =>
    w_eq_t (h := g) (a := .tup [.str "span", .str "every", .str "least"]) (b := .tup [.str "span", .str "every", .str "least"]) (show nb 60 (.tup [.str "span", .str "every", .str "least"]) = true by decide +kernel) (show nb 60 (.tup [.str "span", .str "every", .str "least"]) = true by decide +kernel) rfl
  simp only [WPS, reduceIte, lw, i0, w_mod (show (0 : Int) < 2 by decide), md, decide_true, show (7 : Int) ≤ ((2 * ps.length + 7 : Nat) : Int) from by omega]
  refine need_t ?_
  simp only [WPS, reduceIte, st6, w_tupL, eb]
  refine need_t ?_
  simp only [WPS, reduceIte, sl]
  refine nums_w (.inl rfl) (by rw [fl_len]; omega) (fl_gn gp) ?_
  have r2 : ∀ {g : AH} {Q : List D → AH → Prop} {F : Str → AH → Prop}, Wp (rng3M [.int 0, .int (((fl ps).map D.int).length : Int), .int 2] g) Q F ↔ Q (rangeC 0 2 ps.length) g := fun {g Q F} => by
    rw [List.length_map, fl_len, rng_two ps.length (by omega)]
    exact Iff.rfl
  have run : lcM (rangeC 0 2 ps.length) (c_head_in_1 (.tup ((fl ps).map D.int))) ([] : AH) = .ok (.lst ((List.range ps.length).map fun k => pd (ps.getD k (0, 0)))) [] := by
    unfold rangeC
    refine lcM_map (by rw [List.length_range]; omega) fun k hk => ?_
    have hk := List.mem_range.mp hk
    obtain ⟨g1, g2⟩ := fl_get ps k ps[k] (List.getElem?_eq_getElem hk)
    have w : Wp (c_head_in_1 (.tup ((fl ps).map D.int)) (.int (0 + (k : Nat) * 2)) ([] : AH)) (fun ys hh => ys = [pd (ps.getD k (0, 0))] ∧ hh = []) NoE := by
      unfold c_head_in_1
      have x1 : ∀ {g : AH} {Q : D → AH → Prop} {F : Str → AH → Prop}, Wp (ixM (.tup ((fl ps).map D.int)) (.int (0 + (k : Int) * 2)) g) Q F ↔ Q (.int ps[k].1) g := w_ixT (atI_pos (by omega) (by rw [List.getElem?_map, show (0 + (k : Int) * 2).toNat = 2 * k by omega, g1]; rfl))
      have x2 : ∀ {g : AH} {Q : D → AH → Prop} {F : Str → AH → Prop}, Wp (ixM (.tup ((fl ps).map D.int)) (.int (0 + (k : Int) * 2 + 1)) g) Q F ↔ Q (.int ps[k].2) g := w_ixT (atI_pos (by omega) (by rw [List.getElem?_map, show (0 + (k : Int) * 2 + 1).toNat = 2 * k + 1 by omega, g2]; rfl))
      simp only [WPS, reduceIte, x1, x2]
      refine ⟨?_, trivial⟩
      rw [List.getD_eq_getElem?_getD, List.getElem?_eq_getElem hk]
      rfl
    obtain ⟨ys, hh, e, e1, e2⟩ := w.get
    rw [e, e1, e2]
  have pds : ((List.range ps.length).map fun k => pd (ps.getD k (0, 0))) = ps.map pd := by
    refine List.ext_getElem? fun i => ?_
    rw [List.getElem?_map, List.getElem?_map]
    by_cases hi : i < ps.length
    · rw [List.getElem?_range hi, List.getElem?_eq_getElem hi]
      show some (pd (ps.getD i (0, 0))) = some (pd ps[i])
      rw [List.getD_eq_getElem?_getD, List.getElem?_eq_getElem hi]
      rfl
    · rw [List.getElem?_eq_none (by rw [List.length_range]; omega), List.getElem?_eq_none (by omega)]
      rfl
  rw [pds] at run
  simp only [WPS, reduceIte, r2, Wp.rn run, st5]
  refine nums_w (is := [a, b, c]) (.inl rfl) (Nat.le_of_ble_eq_true rfl) (fun i hi => ?_) ?_
  · simp only [List.mem_cons, List.not_mem_nil, or_false] at hi
    rcases hi with rfl | rfl | rfl <;> assumption
  · have ad : ∀ {g : AH} {Q : D → AH → Prop} {F : Str → AH → Prop}, Wp (addM (.tup [.tup (ps.map pd)]) (.tup ([a, b, c].map D.int)) g) Q F ↔ Q (.tup [prD ps, .int a, .int b, .int c]) g := w_addT (Nat.le_of_ble_eq_true rfl)
    simp only [WPS, reduceIte, ad]
    refine ⟨?_, k⟩
    rw [noRef_tup, noRefs_cons, nr_prD]
    rfl
end
end Lw
/-! SetCw: what is a whole number. -/
namespace Lw
open PySem L2
/-! data with no list of the heap, no error in it -/
mutual
def pla : D → Bool
  | .ref _ => false
  | .exn _ _ => false
  | .tup xs => plas xs
  | .lst xs => plas xs
  | _ => true
def plas : List D → Bool
  | [] => true
  | d :: ds => pla d && plas ds
end
mutual
theorem pla_noRef : ∀ d : D, pla d = true → noRef d = true
  | .non, _ => by simp [noRef]
  | .bl _, _ => by simp [noRef]
  | .int _, _ => by simp [noRef]
  | .str _, _ => by simp [noRef]
  | .emp, _ => by simp [noRef]
  | .ref _, h => by
    unfold pla at h
    cases h
  | .exn _ _, h => by
    unfold pla at h
    cases h
  | .tup xs, h => by
    unfold pla at h
    rw [noRef_tup]
    exact plas_noRef xs h
  | .lst xs, h => by
    unfold pla at h
    rw [noRef_lst]
    exact plas_noRef xs h
theorem plas_noRef : ∀ ds : List D, plas ds = true → noRefs ds = true
  | [], _ => rfl
  | d :: ds, h => by
    unfold plas at h
    rw [Bool.and_eq_true] at h
    rw [noRefs_cons, pla_noRef d h.1, plas_noRef ds h.2]
    rfl
end
theorem plas_mem : ∀ {ds : List D}, plas ds = true → ∀ d ∈ ds, pla d = true
  | [], _, _, h => nomatch h
  | e :: ds, h, d, hd => by
    unfold plas at h
    rw [Bool.and_eq_true] at h
    rcases List.mem_cons.mp hd with rfl | hd
    · exact h.1
    · exact plas_mem h.2 d hd
theorem plas_of : ∀ {ds : List D}, (∀ d ∈ ds, pla d = true) → plas ds = true
  | [], _ => rfl
  | e :: ds, h => by
    unfold plas
    rw [h e List.mem_cons_self, plas_of fun d hd => h d (List.mem_cons_of_mem _ hd)]
    rfl
theorem pla_pd (p : P2) : pla (pd p) = true := rfl
theorem pla_wk (w : List P2) : pla (wk w) = true := by
  unfold wk pla
  exact plas_of fun d hd => by
    obtain ⟨p, _, rfl⟩ := List.mem_map.mp hd
    exact pla_pd p
def isInt : D → Bool
  | .int _ => true
  | _ => false
def isNum : D → Bool
  | .int _ => true
  | .bl _ => true
  | _ => false
def isTup : D → Bool
  | .tup _ => true
  | _ => false
def isStr : D → Bool
  | .tup [.int a, .int b] => decide (a < b)
  | _ => false
section
variable {h : AH}
theorem isM_T {d : D} {neg : Bool} (b : Bool) : isM neg d (.bl b) h = .ok (.bl (xor neg (isC d (.bl b)))) h := by
  unfold isM
  rfl
theorem isi_int (d : D) (q : pla d = true) : isiM "int" d h = .ok (.bl (isNum d)) h := by
  unfold isiM
  cases d <;> first | rfl | (unfold pla at q; cases q)
theorem isi_tup (d : D) (q : pla d = true) : isiM "tuple" d h = .ok (.bl (isTup d)) h := by
  unfold isiM
  cases d <;> first | rfl | (unfold pla at q; cases q)
theorem whole_body (d : D) (q : pla d = true) : f_is_whole d [] = .ok (.bl (isInt d)) [] := by
  unfold f_is_whole b_is_whole
  have a := isi_int (h := []) d q
  cases d with
  | int i => simp only [r_bind, r_pure, r_ok, r_exc, r_stuck, r_ite, r_iteP, r_obind, r_nx, r_ret, r_bk, r_ct, r_oexc, r_lbind, r_lnx, r_lct, r_lbk, r_lret, r_lexc, r_def, r_dnx, r_dret, r_dexc, r_lift, r_throw, addM_int, subM_int, negM_int, ltM_int, leM_int, gtM_int, geM_int, maxM_int, minM_int, eqM_int, neM_int, asB_bl, asI_int, notV_bl, truM_bl, andV_bl, orV_bl, lenM_tup, lenM_lst, itemsM_tup, itemsM_lst, tupleM_tup, tupleM_lst, listM_tup, listM_lst, sliceM_tup, sliceM_lst, lstH_nil, decide_eq_true_eq, ite_true, ite_false, if_true, if_false, reduceIte, Bool.false_eq_true, List.length_cons, List.length_nil, List.getElem?_cons_zero, List.getElem?_cons_succ, List.nil_append, Bool.not_true, Bool.not_false, a, isNum, isM_T, isC, isInt]; rfl
  | bl b => cases b <;> (simp only [r_bind, r_pure, r_ok, r_exc, r_stuck, r_ite, r_iteP, r_obind, r_nx, r_ret, r_bk, r_ct, r_oexc, r_lbind, r_lnx, r_lct, r_lbk, r_lret, r_lexc, r_def, r_dnx, r_dret, r_dexc, r_lift, r_throw, addM_int, subM_int, negM_int, ltM_int, leM_int, gtM_int, geM_int, maxM_int, minM_int, eqM_int, neM_int, asB_bl, asI_int, notV_bl, truM_bl, andV_bl, orV_bl, lenM_tup, lenM_lst, itemsM_tup, itemsM_lst, tupleM_tup, tupleM_lst, listM_tup, listM_lst, sliceM_tup, sliceM_lst, lstH_nil, decide_eq_true_eq, ite_true, ite_false, if_true, if_false, reduceIte, Bool.false_eq_true, List.length_cons, List.length_nil, List.getElem?_cons_zero, List.getElem?_cons_succ, List.nil_append, Bool.not_true, Bool.not_false, a, isNum, isM_T, isC, isInt]; rfl)
  | non => simp only [r_bind, r_pure, r_ok, r_exc, r_stuck, r_ite, r_iteP, r_obind, r_nx, r_ret, r_bk, r_ct, r_oexc, r_lbind, r_lnx, r_lct, r_lbk, r_lret, r_lexc, r_def, r_dnx, r_dret, r_dexc, r_lift, r_throw, addM_int, subM_int, negM_int, ltM_int, leM_int, gtM_int, geM_int, maxM_int, minM_int, eqM_int, neM_int, asB_bl, asI_int, notV_bl, truM_bl, andV_bl, orV_bl, lenM_tup, lenM_lst, itemsM_tup, itemsM_lst, tupleM_tup, tupleM_lst, listM_tup, listM_lst, sliceM_tup, sliceM_lst, lstH_nil, decide_eq_true_eq, ite_true, ite_false, if_true, if_false, reduceIte, Bool.false_eq_true, List.length_cons, List.length_nil, List.getElem?_cons_zero, List.getElem?_cons_succ, List.nil_append, Bool.not_true, Bool.not_false, a, isNum, isInt]
  | str x => simp only [r_bind, r_pure, r_ok, r_exc, r_stuck, r_ite, r_iteP, r_obind, r_nx, r_ret, r_bk, r_ct, r_oexc, r_lbind, r_lnx, r_lct, r_lbk, r_lret, r_lexc, r_def, r_dnx, r_dret, r_dexc, r_lift, r_throw, addM_int, subM_int, negM_int, ltM_int, leM_int, gtM_int, geM_int, maxM_int, minM_int, eqM_int, neM_int, asB_bl, asI_int, notV_bl, truM_bl, andV_bl, orV_bl, lenM_tup, lenM_lst, itemsM_tup, itemsM_lst, tupleM_tup, tupleM_lst, listM_tup, listM_lst, sliceM_tup, sliceM_lst, lstH_nil, decide_eq_true_eq, ite_true, ite_false, if_true, if_false, reduceIte, Bool.false_eq_true, List.length_cons, List.length_nil, List.getElem?_cons_zero, List.getElem?_cons_succ, List.nil_append, Bool.not_true, Bool.not_false, a, isNum, isInt]
  | tup x => simp only [r_bind, r_pure, r_ok, r_exc, r_stuck, r_ite, r_iteP, r_obind, r_nx, r_ret, r_bk, r_ct, r_oexc, r_lbind, r_lnx, r_lct, r_lbk, r_lret, r_lexc, r_def, r_dnx, r_dret, r_dexc, r_lift, r_throw, addM_int, subM_int, negM_int, ltM_int, leM_int, gtM_int, geM_int, maxM_int, minM_int, eqM_int, neM_int, asB_bl, asI_int, notV_bl, truM_bl, andV_bl, orV_bl, lenM_tup, lenM_lst, itemsM_tup, itemsM_lst, tupleM_tup, tupleM_lst, listM_tup, listM_lst, sliceM_tup, sliceM_lst, lstH_nil, decide_eq_true_eq, ite_true, ite_false, if_true, if_false, reduceIte, Bool.false_eq_true, List.length_cons, List.length_nil, List.getElem?_cons_zero, List.getElem?_cons_succ, List.nil_append, Bool.not_true, Bool.not_false, a, isNum, isInt]
  | lst x => simp only [r_bind, r_pure, r_ok, r_exc, r_stuck, r_ite, r_iteP, r_obind, r_nx, r_ret, r_bk, r_ct, r_oexc, r_lbind, r_lnx, r_lct, r_lbk, r_lret, r_lexc, r_def, r_dnx, r_dret, r_dexc, r_lift, r_throw, addM_int, subM_int, negM_int, ltM_int, leM_int, gtM_int, geM_int, maxM_int, minM_int, eqM_int, neM_int, asB_bl, asI_int, notV_bl, truM_bl, andV_bl, orV_bl, lenM_tup, lenM_lst, itemsM_tup, itemsM_lst, tupleM_tup, tupleM_lst, listM_tup, listM_lst, sliceM_tup, sliceM_lst, lstH_nil, decide_eq_true_eq, ite_true, ite_false, if_true, if_false, reduceIte, Bool.false_eq_true, List.length_cons, List.length_nil, List.getElem?_cons_zero, List.getElem?_cons_succ, List.nil_append, Bool.not_true, Bool.not_false, a, isNum, isInt]
  | emp => simp only [r_bind, r_pure, r_ok, r_exc, r_stuck, r_ite, r_iteP, r_obind, r_nx, r_ret, r_bk, r_ct, r_oexc, r_lbind, r_lnx, r_lct, r_lbk, r_lret, r_lexc, r_def, r_dnx, r_dret, r_dexc, r_lift, r_throw, addM_int, subM_int, negM_int, ltM_int, leM_int, gtM_int, geM_int, maxM_int, minM_int, eqM_int, neM_int, asB_bl, asI_int, notV_bl, truM_bl, andV_bl, orV_bl, lenM_tup, lenM_lst, itemsM_tup, itemsM_lst, tupleM_tup, tupleM_lst, listM_tup, listM_lst, sliceM_tup, sliceM_lst, lstH_nil, decide_eq_true_eq, ite_true, ite_false, if_true, if_false, reduceIte, Bool.false_eq_true, List.length_cons, List.length_nil, List.getElem?_cons_zero, List.getElem?_cons_succ, List.nil_append, Bool.not_true, Bool.not_false, a, isNum, isInt]
  | ref n => unfold pla at q; cases q
  | exn c n => unfold pla at q; cases q
theorem whole_run (d : D) (q : pla d = true) : pcallM (app1 f_is_whole) [d] h = .ok (.bl (isInt d)) h := pcallM_run (noRefs_one (pla_noRef d q)) (whole_body d q) noRef_bl
end
end Lw
/-! SetC: what is a stretch, work. -/
namespace Lw
open PySem L2
section
variable {h : AH}
theorem neInt2 (n : Nat) : neM (.int (n : Int)) (.int 2) h = .ok (.bl (decide (n ≠ 2))) h := by
  rw [neM_int]
  have e : ((n : Int) ≠ 2) = (n ≠ 2) := propext ⟨fun h k => h (by omega), fun h k => h (by omega)⟩
  congr 2
  exact decide_eq_decide.mpr (by rw [e])
theorem isStr_eq {d : D} (e : isStr d = true) : ∃ a b : Int, d = .tup [.int a, .int b] ∧ a < b := by
  unfold isStr at e
  split at e
  · exact ⟨_, _, rfl, of_decide_eq_true e⟩
  · cases e
theorem stretch_body (d : D) (q : pla d = true) : f_is_stretch d [] = .ok (.bl (isStr d)) [] := by
  have it := isi_tup (h := []) d q
  unfold f_is_stretch b_is_stretch
  cases d with
  | tup xs =>
    have q' : plas xs = true := by
      unfold pla at q
      exact q
    by_cases c : xs.length = 2
    · obtain ⟨x, y, rfl⟩ : ∃ x y, xs = [x, y] := by
        match xs, c with
        | [x, y], _ => exact ⟨x, y, rfl⟩
      have px : pla x = true := plas_mem q' x (by simp)
      have py : pla y = true := plas_mem q' y (by simp)
      have x0 : ixM (.tup [x, y]) (.int 0) [] = .ok x [] := ixM_tup rfl
      have x1 : ixM (.tup [x, y]) (.int 1) [] = .ok y [] := ixM_tup rfl
      have l2 : lenM (.tup [x, y]) [] = .ok (.int 2) [] := lenM_tup
      have n2 : neM (.int 2) (.int 2) [] = .ok (.bl false) [] := neInt2 2
      have wx := whole_run (h := []) x px
      have wy := whole_run (h := []) y py
      cases x with
      | int a =>
        cases y with
        | int b =>
          simp only [r_bind, r_pure, r_ok, r_exc, r_stuck, r_ite, r_iteP, r_obind, r_nx, r_ret, r_bk, r_ct, r_oexc, r_lbind, r_lnx, r_lct, r_lbk, r_lret, r_lexc, r_def, r_dnx, r_dret, r_dexc, r_lift, r_throw, addM_int, subM_int, negM_int, ltM_int, leM_int, gtM_int, geM_int, maxM_int, minM_int, asB_bl, asI_int, notV_bl, truM_bl, andV_bl, orV_bl, itemsM_tup, itemsM_lst, tupleM_tup, tupleM_lst, listM_tup, listM_lst, sliceM_tup, sliceM_lst, lstH_nil, decide_eq_true_eq, ite_true, ite_false, if_true, if_false, reduceIte, Bool.false_eq_true, List.getElem?_cons_zero, List.getElem?_cons_succ, List.nil_append, Bool.not_true, Bool.not_false, it, isTup, l2, n2, x0, x1, wx, wy, isInt, isStr]
        | _ => simp only [r_bind, r_pure, r_ok, r_exc, r_stuck, r_ite, r_iteP, r_obind, r_nx, r_ret, r_bk, r_ct, r_oexc, r_lbind, r_lnx, r_lct, r_lbk, r_lret, r_lexc, r_def, r_dnx, r_dret, r_dexc, r_lift, r_throw, addM_int, subM_int, negM_int, ltM_int, leM_int, gtM_int, geM_int, maxM_int, minM_int, asB_bl, asI_int, notV_bl, truM_bl, andV_bl, orV_bl, itemsM_tup, itemsM_lst, tupleM_tup, tupleM_lst, listM_tup, listM_lst, sliceM_tup, sliceM_lst, lstH_nil, decide_eq_true_eq, ite_true, ite_false, if_true, if_false, reduceIte, Bool.false_eq_true, List.getElem?_cons_zero, List.getElem?_cons_succ, List.nil_append, Bool.not_true, Bool.not_false, it, isTup, l2, n2, x0, x1, wx, wy, isInt, isStr]
      | _ => simp only [r_bind, r_pure, r_ok, r_exc, r_stuck, r_ite, r_iteP, r_obind, r_nx, r_ret, r_bk, r_ct, r_oexc, r_lbind, r_lnx, r_lct, r_lbk, r_lret, r_lexc, r_def, r_dnx, r_dret, r_dexc, r_lift, r_throw, addM_int, subM_int, negM_int, ltM_int, leM_int, gtM_int, geM_int, maxM_int, minM_int, asB_bl, asI_int, notV_bl, truM_bl, andV_bl, orV_bl, itemsM_tup, itemsM_lst, tupleM_tup, tupleM_lst, listM_tup, listM_lst, sliceM_tup, sliceM_lst, lstH_nil, decide_eq_true_eq, ite_true, ite_false, if_true, if_false, reduceIte, Bool.false_eq_true, List.getElem?_cons_zero, List.getElem?_cons_succ, List.nil_append, Bool.not_true, Bool.not_false, it, isTup, l2, n2, x0, x1, wx, wy, isInt, isStr]
    · have n2 : neM (.int (xs.length : Int)) (.int 2) [] = .ok (.bl true) [] := by rw [neInt2, decide_eq_true c]
      have e : isStr (.tup xs) = false := by
        cases z : isStr (.tup xs) with
        | false => rfl
        | true =>
          obtain ⟨a, b, e, _⟩ := isStr_eq z
          cases e
          exact absurd rfl c
      rw [e]
      have l2 : lenM (.tup xs) [] = .ok (.int xs.length) [] := lenM_tup
      simp only [r_bind, r_pure, r_ok, r_exc, r_stuck, r_ite, r_iteP, r_obind, r_nx, r_ret, r_bk, r_ct, r_oexc, r_lbind, r_lnx, r_lct, r_lbk, r_lret, r_lexc, r_def, r_dnx, r_dret, r_dexc, r_lift, r_throw, addM_int, subM_int, negM_int, ltM_int, leM_int, gtM_int, geM_int, maxM_int, minM_int, asB_bl, asI_int, notV_bl, truM_bl, andV_bl, orV_bl, itemsM_tup, itemsM_lst, tupleM_tup, tupleM_lst, listM_tup, listM_lst, sliceM_tup, sliceM_lst, lstH_nil, decide_eq_true_eq, ite_true, ite_false, if_true, if_false, reduceIte, Bool.false_eq_true, List.getElem?_cons_zero, List.getElem?_cons_succ, List.nil_append, Bool.not_true, Bool.not_false, it, isTup, l2, n2]
  | ref n => unfold pla at q; cases q
  | exn c n => unfold pla at q; cases q
  | _ => simp only [r_bind, r_pure, r_ok, r_exc, r_stuck, r_ite, r_iteP, r_obind, r_nx, r_ret, r_bk, r_ct, r_oexc, r_lbind, r_lnx, r_lct, r_lbk, r_lret, r_lexc, r_def, r_dnx, r_dret, r_dexc, r_lift, r_throw, addM_int, subM_int, negM_int, ltM_int, leM_int, gtM_int, geM_int, maxM_int, minM_int, asB_bl, asI_int, notV_bl, truM_bl, andV_bl, orV_bl, itemsM_tup, itemsM_lst, tupleM_tup, tupleM_lst, listM_tup, listM_lst, sliceM_tup, sliceM_lst, lstH_nil, decide_eq_true_eq, ite_true, ite_false, if_true, if_false, reduceIte, Bool.false_eq_true, List.getElem?_cons_zero, List.getElem?_cons_succ, List.nil_append, Bool.not_true, Bool.not_false, it, isTup, isStr]
theorem stretch_run (d : D) (q : pla d = true) : pcallM (app1 f_is_stretch) [d] h = .ok (.bl (isStr d)) h := pcallM_run (noRefs_one (pla_noRef d q)) (stretch_body d q) noRef_bl
/-- right work -/
def isWork (d : D) : Prop := ∃ w : List P2, d = wk w ∧ Wk w
theorem all_str : ∀ {xs : List D}, xs.all isStr = true → ∃ w : List P2, xs = w.map pd ∧ ∀ p, p ∈ w → p.1 < p.2
  | [], _ => ⟨[], rfl, fun _ h => nomatch h⟩
  | d :: xs, e => by
    rw [List.all_cons, Bool.and_eq_true] at e
    obtain ⟨a, b, rfl, l⟩ := isStr_eq e.1
    obtain ⟨w, rfl, hw⟩ := all_str e.2
    refine ⟨(a, b) :: w, rfl, fun p hp => ?_⟩
    rcases List.mem_cons.mp hp with rfl | hp
    · exact l
    · exact hw p hp
theorem all_pd {w : List P2} (hw : ∀ p, p ∈ w → p.1 < p.2) : (w.map pd).all isStr = true := by
  rw [List.all_eq_true]
  intro d hd
  obtain ⟨p, hp, rfl⟩ := List.mem_map.mp hd
  exact decide_eq_true (hw p hp)
/-- one by one they rise -/
def rises : List P2 → Bool
  | p :: q :: r => decide (¬ q.1 < p.2) && rises (q :: r)
  | _ => true
theorem rises_wk : ∀ {w : List P2}, (∀ p, p ∈ w → p.1 < p.2) → (rises w = true ↔ Wk w)
  | [], _ => ⟨fun _ => Wk.nil, fun _ => rfl⟩
  | [p], h => ⟨fun _ => ⟨by simp, h⟩, fun _ => rfl⟩
  | p :: q :: r, h => by
    have ih := rises_wk (w := q :: r) fun x hx => h x (List.mem_cons_of_mem _ hx)
    have hq := h q (by simp)
    unfold rises
    rw [Bool.and_eq_true, decide_eq_true_eq, ih]
    constructor
    · rintro ⟨a, b, c⟩
      refine ⟨List.pairwise_cons.mpr ⟨fun x hx => ?_, b⟩, h⟩
      rcases List.mem_cons.mp hx with rfl | hx
      · omega
      · have := (List.pairwise_cons.mp b).1 x hx
        omega
    · rintro ⟨b, c⟩
      have b1 := List.pairwise_cons.mp b
      have := b1.1 q (by simp)
      exact ⟨by omega, b1.2, fun x hx => c x (List.mem_cons_of_mem _ hx)⟩
theorem zip_cons (p q : P2) (r : List P2) : zipD ((p :: q :: r).map pd) ((q :: r).map pd) = .tup [pd p, pd q] :: zipD ((q :: r).map pd) (r.map pd) := rfl
theorem check_loop {β : Type} : ∀ w : List P2, (forM (zipD (w.map pd) (w.tail.map pd)) () l_check_work_2 : M (Out Unit β)) h = if rises w = true then .ok (.nx ()) h else .exc "BadWork" h
  | [] => rfl
  | [p] => rfl
  | p :: q :: r => by
    have x0 : ixM (pd q) (.int 0) h = .ok (.int q.1) h := ixM_tup rfl
    have x1 : ixM (pd p) (.int 1) h = .ok (.int p.2) h := ixM_tup rfl
    have un : (liftO (unpT (uCons some (uCons some uNil)) (.tup [pd p, pd q])) : M _) h = .ok (pd p, pd q, ()) h := rfl
    show (forM (zipD ((p :: q :: r).map pd) ((q :: r).map pd)) () l_check_work_2 : M (Out Unit β)) h = _
    rw [zip_cons, r_for]
    by_cases c : q.1 < p.2
    · have s : l_check_work_2 (.tup [pd p, pd q]) () h = .exc "BadWork" h := by
        unfold l_check_work_2
        simp only [r_bind, r_pure, r_ok, r_exc, r_stuck, r_ite, r_iteP, r_obind, r_nx, r_ret, r_bk, r_ct, r_oexc, r_lbind, r_lnx, r_lct, r_lbk, r_lret, r_lexc, r_def, r_dnx, r_dret, r_dexc, r_lift, r_throw, addM_int, subM_int, negM_int, ltM_int, leM_int, gtM_int, geM_int, maxM_int, minM_int, eqM_int, neM_int, asB_bl, asI_int, notV_bl, truM_bl, andV_bl, orV_bl, lenM_tup, lenM_lst, itemsM_tup, itemsM_lst, tupleM_tup, tupleM_lst, listM_tup, listM_lst, sliceM_tup, sliceM_lst, lstH_nil, decide_eq_true_eq, ite_true, ite_false, if_true, if_false, reduceIte, Bool.false_eq_true, List.length_cons, List.length_nil, List.getElem?_cons_zero, List.getElem?_cons_succ, List.nil_append, Bool.not_true, Bool.not_false, un, x0, x1, c]
      have e : rises (p :: q :: r) = false := by
        unfold rises
        simp [c]
      rw [s, e]
      rfl
    · have s : l_check_work_2 (.tup [pd p, pd q]) () h = .ok (.nx ()) h := by
        unfold l_check_work_2
        simp only [r_bind, r_pure, r_ok, r_exc, r_stuck, r_ite, r_iteP, r_obind, r_nx, r_ret, r_bk, r_ct, r_oexc, r_lbind, r_lnx, r_lct, r_lbk, r_lret, r_lexc, r_def, r_dnx, r_dret, r_dexc, r_lift, r_throw, addM_int, subM_int, negM_int, ltM_int, leM_int, gtM_int, geM_int, maxM_int, minM_int, eqM_int, neM_int, asB_bl, asI_int, notV_bl, truM_bl, andV_bl, orV_bl, lenM_tup, lenM_lst, itemsM_tup, itemsM_lst, tupleM_tup, tupleM_lst, listM_tup, listM_lst, sliceM_tup, sliceM_lst, lstH_nil, decide_eq_true_eq, ite_true, ite_false, if_true, if_false, reduceIte, Bool.false_eq_true, List.length_cons, List.length_nil, List.getElem?_cons_zero, List.getElem?_cons_succ, List.nil_append, Bool.not_true, Bool.not_false, un, x0, x1, c]
      have e : rises (p :: q :: r) = rises (q :: r) := by
        conv => lhs; unfold rises
        simp [c]
      rw [s, e, r_lnx]
      exact check_loop (q :: r)
theorem check_all (xs : List D) (q : plas xs = true) (l : xs.length ≤ 1000000) : lcM xs c_check_work_1 h = .ok (.lst ((xs.map isStr).map D.bl)) h := by
  have z := lcM_map (h := h) (f := c_check_work_1) (u := id) (v := fun x => D.bl (isStr x)) (zs := xs) l fun x hx => by
    have s := fun h => stretch_run (h := h) x (plas_mem q x hx)
    unfold c_check_work_1
    simp only [r_bind, r_pure, r_ok, r_exc, r_stuck, r_ite, r_iteP, r_obind, r_nx, r_ret, r_bk, r_ct, r_oexc, r_lbind, r_lnx, r_lct, r_lbk, r_lret, r_lexc, r_def, r_dnx, r_dret, r_dexc, r_lift, r_throw, addM_int, subM_int, negM_int, ltM_int, leM_int, gtM_int, geM_int, maxM_int, minM_int, eqM_int, neM_int, asB_bl, asI_int, notV_bl, truM_bl, andV_bl, orV_bl, lenM_tup, lenM_lst, itemsM_tup, itemsM_lst, tupleM_tup, tupleM_lst, listM_tup, listM_lst, sliceM_tup, sliceM_lst, lstH_nil, decide_eq_true_eq, ite_true, ite_false, if_true, if_false, reduceIte, Bool.false_eq_true, List.length_cons, List.length_nil, List.getElem?_cons_zero, List.getElem?_cons_succ, List.nil_append, Bool.not_true, Bool.not_false, id, s]
  rw [List.map_id] at z
  rw [z, List.map_map]
  rfl
/-- check_work lets right work by, and refuses all else -/
theorem check_body (d : D) (q : pla d = true) (l : ∀ xs, d = .tup xs → xs.length ≤ 1000000) : (isWork d ∧ f_check_work d [] = .ok .non []) ∨ (¬ isWork d ∧ f_check_work d [] = .exc "BadWork" []) := by
  have it := isi_tup (h := []) d q
  have no : ∀ {d : D}, (∀ xs, d ≠ .tup xs) → ¬ isWork d := fun h ⟨w, e, _⟩ => h _ e
  unfold f_check_work b_check_work
  cases d with
  | tup xs =>
    have q' : plas xs = true := by
      unfold pla at q
      exact q
    have ca := check_all (h := []) xs q' (l xs rfl)
    have al : allM (.lst ((xs.map isStr).map D.bl)) [] = .ok (.bl ((xs.map isStr).all id)) [] := allM_lst
    by_cases c : xs.all isStr = true
    · have e : ((xs.map isStr).all id) = true := by
        rw [List.all_map]
        exact c
      obtain ⟨w, rfl, hw⟩ := all_str c
      have sl : cutD (w.map pd) (some 1) none = w.tail.map pd := by
        rw [show (some (1 : Int)) = some ((1 : Nat) : Int) from rfl, cutD_drop, ← List.map_drop, List.drop_one]
      have zp : zipM [.tup (w.map pd), .tup (w.tail.map pd)] [] = .ok (zipD (w.map pd) (w.tail.map pd)) [] := zipM_tup
      have lp := check_loop (h := []) (β := Empty) w
      by_cases r : rises w = true
      · refine .inl ⟨⟨w, rfl, (rises_wk hw).mp r⟩, ?_⟩
        rw [if_pos r] at lp
        simp only [r_bind, r_pure, r_ok, r_exc, r_stuck, r_ite, r_iteP, r_obind, r_nx, r_ret, r_bk, r_ct, r_oexc, r_lbind, r_lnx, r_lct, r_lbk, r_lret, r_lexc, r_def, r_dnx, r_dret, r_dexc, r_lift, r_throw, addM_int, subM_int, negM_int, ltM_int, leM_int, gtM_int, geM_int, maxM_int, minM_int, asB_bl, asI_int, notV_bl, truM_bl, andV_bl, orV_bl, itemsM_tup, itemsM_lst, tupleM_tup, tupleM_lst, listM_tup, listM_lst, sliceM_tup, sliceM_lst, lstH_nil, decide_eq_true_eq, ite_true, ite_false, if_true, if_false, reduceIte, Bool.false_eq_true, List.getElem?_cons_zero, List.getElem?_cons_succ, List.nil_append, Bool.not_true, Bool.not_false, it, isTup, ca, al, e, sl, zp, lp]
      · refine .inr ⟨fun ⟨u, e, hu⟩ => ?_, ?_⟩
        · have := map_pd_inj (D.tup.inj e)
          subst this
          exact r ((rises_wk hw).mpr hu)
        · rw [if_neg r] at lp
          simp only [r_bind, r_pure, r_ok, r_exc, r_stuck, r_ite, r_iteP, r_obind, r_nx, r_ret, r_bk, r_ct, r_oexc, r_lbind, r_lnx, r_lct, r_lbk, r_lret, r_lexc, r_def, r_dnx, r_dret, r_dexc, r_lift, r_throw, addM_int, subM_int, negM_int, ltM_int, leM_int, gtM_int, geM_int, maxM_int, minM_int, asB_bl, asI_int, notV_bl, truM_bl, andV_bl, orV_bl, itemsM_tup, itemsM_lst, tupleM_tup, tupleM_lst, listM_tup, listM_lst, sliceM_tup, sliceM_lst, lstH_nil, decide_eq_true_eq, ite_true, ite_false, if_true, if_false, reduceIte, Bool.false_eq_true, List.getElem?_cons_zero, List.getElem?_cons_succ, List.nil_append, Bool.not_true, Bool.not_false, it, isTup, ca, al, e, sl, zp, lp]
    · have e : ((xs.map isStr).all id) = false := by
        rw [List.all_map]
        exact Bool.eq_false_iff.mpr c
      refine .inr ⟨fun ⟨u, e, hu⟩ => ?_, ?_⟩
      · rw [D.tup.inj e] at c
        exact c (all_pd hu.2)
      · simp only [r_bind, r_pure, r_ok, r_exc, r_stuck, r_ite, r_iteP, r_obind, r_nx, r_ret, r_bk, r_ct, r_oexc, r_lbind, r_lnx, r_lct, r_lbk, r_lret, r_lexc, r_def, r_dnx, r_dret, r_dexc, r_lift, r_throw, addM_int, subM_int, negM_int, ltM_int, leM_int, gtM_int, geM_int, maxM_int, minM_int, asB_bl, asI_int, notV_bl, truM_bl, andV_bl, orV_bl, itemsM_tup, itemsM_lst, tupleM_tup, tupleM_lst, listM_tup, listM_lst, sliceM_tup, sliceM_lst, lstH_nil, decide_eq_true_eq, ite_true, ite_false, if_true, if_false, reduceIte, Bool.false_eq_true, List.getElem?_cons_zero, List.getElem?_cons_succ, List.nil_append, Bool.not_true, Bool.not_false, it, isTup, ca, al, e]
  | ref n => unfold pla at q; cases q
  | exn c n => unfold pla at q; cases q
  | _ => refine .inr ⟨no (by intro _ z; cases z), ?_⟩; simp only [r_bind, r_pure, r_ok, r_exc, r_stuck, r_ite, r_iteP, r_obind, r_nx, r_ret, r_bk, r_ct, r_oexc, r_lbind, r_lnx, r_lct, r_lbk, r_lret, r_lexc, r_def, r_dnx, r_dret, r_dexc, r_lift, r_throw, addM_int, subM_int, negM_int, ltM_int, leM_int, gtM_int, geM_int, maxM_int, minM_int, asB_bl, asI_int, notV_bl, truM_bl, andV_bl, orV_bl, itemsM_tup, itemsM_lst, tupleM_tup, tupleM_lst, listM_tup, listM_lst, sliceM_tup, sliceM_lst, lstH_nil, decide_eq_true_eq, ite_true, ite_false, if_true, if_false, reduceIte, Bool.false_eq_true, List.getElem?_cons_zero, List.getElem?_cons_succ, List.nil_append, Bool.not_true, Bool.not_false, it, isTup]
theorem check_ok (d : D) (q : pla d = true) (l : ∀ xs, d = .tup xs → xs.length ≤ 1000000) (w : isWork d) (h : AH) : pcallM (app1 f_check_work) [d] h = .ok .non h := by
  rcases check_body d q l with ⟨_, e⟩ | ⟨n, _⟩
  · exact pcallM_run (noRefs_one (pla_noRef d q)) e noRef_non
  · exact absurd w n
end
end Lw
/-! SetBd: bounds are looked at. -/
namespace Lw
open PySem L2
def isB : D → Bool
  | .int i => decide (1 ≤ i)
  | _ => false
section
variable {h : AH} {E : Str → AH → Prop} {P : D → AH → Prop}
theorem w_pwholeB (d : D) (q : pla d = true) : Wp (pcallM (app1 f_is_whole) [d] h) P E ↔ P (.bl (isInt d)) h := by rw [whole_run d q] <;> exact Iff.rfl
theorem isInt_eqB {x : D} (e : isInt x = true) : ∃ m, x = .int m := by
  cases x <;> first | exact ⟨_, rfl⟩ | cases e
theorem bounds_w {x y z : D} (px : pla x = true) (py : pla y = true) (pz : pla z = true) (bad : ¬ (∃ i j k : Int, x = .int i ∧ y = .int j ∧ z = .int k ∧ 1 ≤ i ∧ 1 ≤ j ∧ 1 ≤ k ∧ j ≤ k) → E "BadBound" h) (k : ∀ i j k : Int, x = .int i → y = .int j → z = .int k → 1 ≤ i → 1 ≤ j → 1 ≤ k → j ≤ k → P .non h) : Wp (pcallM (app3 f_check_bounds) [x, y, z] h) P E := by
  have one : ∀ (u : D) (hu : pla u = true) (O : Out Unit Empty → AH → Prop) (r : List D) (g : AH), (isB u = false → (∀ i, u = .int i → i < 1) → E "BadBound" h) → (∀ i, u = .int i → 1 ≤ i → Wp ((forM r () l_check_bounds_1 : M (Out Unit Empty)) g) O fun x' _ => E x' h) → Wp ((forM (u :: r) () l_check_bounds_1 : M (Out Unit Empty)) g) O fun x' _ => E x' h := by
    intro u hu O r g bad k
    rw [w_for1]
    unfold l_check_bounds_1
    simp only [WPS, reduceIte, w_pwholeB u hu]
    cases hi : isInt u with
    | false =>
      simp only [WPS, reduceIte, Bool.not_false]
      refine bad ?_ ?_
      · cases u <;> first | rfl | cases hi
      · intro i e
        rw [e] at hi
        cases hi
    | true =>
      obtain ⟨m, rfl⟩ := isInt_eqB hi
      simp only [WPS, reduceIte, Bool.not_true]
      by_cases c : m < 1
      · simp only [WPS, reduceIte, c, decide_true]
        refine bad (decide_eq_false (by omega)) fun i e => ?_
        cases e
        exact c
      · simp only [WPS, reduceIte, c, decide_false]
        exact k m rfl (by omega)
  rw [w_pcall]
  refine ⟨by rw [noRefs_cons, noRefs_cons, noRefs_cons, noRefs_nil, pla_noRef x px, pla_noRef y py, pla_noRef z pz]; rfl, ?_⟩
  rw [w_app3]
  unfold f_check_bounds b_check_bounds
  simp only [WPS, reduceIte]
  refine one x px _ _ _ (fun _ f => bad fun ⟨i, j, l, e1, e2, e3, h1, h2, h3, h4⟩ => ?_) fun i ei i1 => ?_
  · have := f i e1
    omega
  refine one y py _ _ _ (fun _ f => bad fun ⟨i, j, l, e1, e2, e3, h1, h2, h3, h4⟩ => ?_) fun j ej j1 => ?_
  · have := f j e2
    omega
  refine one z pz _ _ _ (fun _ f => bad fun ⟨i, j, l, e1, e2, e3, h1, h2, h3, h4⟩ => ?_) fun l el l1 => ?_
  · have := f l e3
    omega
  subst ei ej el
  rw [w_for0, oK_nx]
  simp only [WPS, reduceIte]
  by_cases c : l < j
  · simp only [WPS, reduceIte, c, decide_true]
    refine bad fun ⟨i', j', l', e1, e2, e3, h1, h2, h3, h4⟩ => ?_
    cases e1
    cases e2
    cases e3
    omega
  · simp only [WPS, reduceIte, c, decide_false]
    exact ⟨rfl, k i j l rfl rfl rfl i1 j1 l1 (by omega)⟩
end
end Lw
/-! SetNc: how deep things are. -/
namespace Lw
open PySem L2
mutual
theorem nb_le : ∀ (d : D) (n m : Nat), n ≤ m → nb n d = true → nb m d = true
  | .non, n, m, _, _ => by cases m <;> rfl
  | .int _, n, m, _, _ => by cases m <;> rfl
  | .str x, n, m, _, h => by cases m <;> cases n <;> exact h
  | .tup xs, 0, m, _, h => nomatch h
  | .lst xs, 0, m, _, h => nomatch h
  | .tup xs, n + 1, 0, l, h => by omega
  | .lst xs, n + 1, 0, l, h => by omega
  | .tup xs, n + 1, m + 1, l, h => nbs_le xs n m (by omega) h
  | .lst xs, n + 1, m + 1, l, h => nbs_le xs n m (by omega) h
  | .bl _, n, m, _, h => by cases n <;> cases h
  | .ref _, n, m, _, h => by cases n <;> cases h
  | .exn _ _, n, m, _, h => by cases n <;> cases h
  | .emp, n, m, _, h => by cases n <;> cases h
theorem nbs_le : ∀ (ds : List D) (n m : Nat), n ≤ m → nbs n ds = true → nbs m ds = true
  | [], n, m, _, _ => rfl
  | d :: ds, n, m, l, h => by
    unfold nbs at h ⊢
    rw [Bool.and_eq_true] at h ⊢
    exact ⟨nb_le d n m l h.1, nbs_le ds n m l h.2⟩
end
theorem nbs_mem {n : Nat} : ∀ {ds : List D}, (∀ d ∈ ds, nb n d = true) → nbs n ds = true
  | [], _ => rfl
  | d :: ds, h => by
    unfold nbs
    rw [h d List.mem_cons_self, nbs_mem fun x hx => h x (List.mem_cons_of_mem _ hx)]
    rfl
end Lw
/-! SetRd: books read. -/
namespace Lw
open PySem L2
section
variable {h : AH} {E : Str → AH → Prop} {P : D → AH → Prop}
theorem str_len_app (a b : Str) : (a ++ b).length = a.length + b.length := by
  show (a.cps ++ b.cps).size = _
  rw [Array.size_append]
  rfl
theorem word_free {x : Str} (w : Word x) : 10 ∉ sg x := fun m => absurd (w.signs 10 m) (by decide)
theorem join_free {ws : List Str} (h : ∀ x ∈ ws, Word x) : 10 ∉ sg (Txt.join " " ws) := by
  rw [TL.join_eq]
  induction ws with
  | nil => intro m; cases m
  | cons y r ih =>
    cases r with
    | nil => exact word_free (h y List.mem_cons_self)
    | cons z t =>
      intro m
      have e := sg_join2 32 y z t
      have m : 10 ∈ sg (Str.join (chS 32) (y :: z :: t)) := m
      rw [e] at m
      rcases List.mem_append.mp m with m | m
      · exact word_free (h y List.mem_cons_self) m
      · rcases List.mem_cons.mp m with m | m
        · exact absurd m (by decide)
        · exact ih (fun x hx => h x (List.mem_cons_of_mem _ hx)) m
theorem line_words {d : D} (l : LnR d) : (∀ x ∈ (lnP d).map wrt, Word x) ∧ ((lnP d).map wrt).length ≤ 200 := by
  have lit : ∀ {z : Str}, 1 ≤ z.length → z.length ≤ 22 → (∀ c ∈ sg z, wsign c = true) → Word z := fun a b c => ⟨a, b, c⟩
  cases l with
  | @lent a b c z ga gz gb gc =>
    refine ⟨fun x hx => ?_, Nat.le_of_ble_eq_true rfl⟩
    have hx : x ∈ ([ "lent", numS a, z, numS b, numS c] : List Str) := hx
    simp only [List.mem_cons, List.not_mem_nil, or_false] at hx
    rcases hx with rfl | rfl | rfl | rfl | rfl
    · exact lit (by decide) (by decide) (by decide)
    · exact num_word ga
    · exact gz
    · exact num_word gb
    · exact num_word gc
  | @told a b c ns ga gb gc ln gns =>
    have e : (lnP (.tup [.str "told", .int a, .int b, .int c, .tup (ns.map D.int)])).map wrt = ("told" : Str) :: (a :: b :: c :: ns).map numS := by
      show List.map wrt ([D.str "told", .int a, .int b, .int c] ++ ns.map D.int) = _
      rw [List.map_append, List.map_map]
      rfl
    rw [e]
    refine ⟨fun x hx => ?_, by rw [List.length_cons, List.length_map]; show ns.length + 1 + 1 + 1 + 1 ≤ 200; omega⟩
    rcases List.mem_cons.mp hx with rfl | hx
    · exact lit (by decide) (by decide) (by decide)
    · obtain ⟨i, hi, rfl⟩ := List.mem_map.mp hx
      refine num_word ?_
      rcases List.mem_cons.mp hi with rfl | hi
      · exact ga
      · rcases List.mem_cons.mp hi with rfl | hi
        · exact gb
        · rcases List.mem_cons.mp hi with rfl | hi
          · exact gc
          · exact gns i hi
  | @back a b ga gb =>
    refine ⟨fun x hx => ?_, Nat.le_of_ble_eq_true rfl⟩
    have hx : x ∈ ([ "back", numS a, numS b] : List Str) := hx
    simp only [List.mem_cons, List.not_mem_nil, or_false] at hx
    rcases hx with rfl | rfl | rfl
    · exact lit (by decide) (by decide) (by decide)
    · exact num_word ga
    · exact num_word gb
  | @cut a b ga gb =>
    refine ⟨fun x hx => ?_, Nat.le_of_ble_eq_true rfl⟩
    have hx : x ∈ ([ "cut", numS a, numS b] : List Str) := hx
    simp only [List.mem_cons, List.not_mem_nil, or_false] at hx
    rcases hx with rfl | rfl | rfl
    · exact lit (by decide) (by decide) (by decide)
    · exact num_word ga
    · exact num_word gb
  | @join a ga =>
    refine ⟨fun x hx => ?_, Nat.le_of_ble_eq_true rfl⟩
    have hx : x ∈ ([ "join", numS a] : List Str) := hx
    simp only [List.mem_cons, List.not_mem_nil, or_false] at hx
    rcases hx with rfl | rfl
    · exact lit (by decide) (by decide) (by decide)
    · exact num_word ga
theorem line_row {d : D} (l : LnR d) : 10 ∉ sg (lnS d) ∧ (lnS d).length ≤ 4600 := ⟨join_free (line_words l).1, join_len (line_words l).1 (line_words l).2⟩
/-- what is read of a text -/
def bookD (ps : List P2) (a b c : Int) (ls : List D) : D := .tup [prD ps, .int a, .int b, .int c, .tup ls]
/-- the text -/
def bookS (ps : List P2) (a b c : Int) (ls : List D) : Str := feeds (hdS ps a b c :: ls.map lnS)
theorem feeds_len : ∀ (rs : List Str), (∀ r ∈ rs, r.length ≤ 4600) → (feeds rs).length ≤ rs.length * 4601
  | [], _ => Nat.zero_le _
  | r :: t, g => by
    have ih := feeds_len t fun x hx => g x (List.mem_cons_of_mem _ hx)
    have := g r List.mem_cons_self
    rw [← sg_len, sg_feeds, List.map_cons, List.flatten_cons, List.length_append, List.length_append, sg_len, ← sg_feeds, sg_len]
    simp only [List.length_cons, List.length_nil]
    omega
theorem pla_prD (ps : List P2) : pla (prD ps) = true := pla_wk ps
theorem readtext_w {ps : List P2} {a b c : Int} {ls : List D} {rest : Str} (lp : ps.length ≤ 6) (gp : ∀ p ∈ ps, gn p.1 ∧ gn p.2) (wp : Wk ps) (a1 : 1 ≤ a) (ga : a < 10 ^ 18) (b1 : 1 ≤ b) (bc : b ≤ c) (gc : c < 10 ^ 18)
    (ll : ls.length ≤ 100) (hl : ∀ d ∈ ls, LnR d) (r1 : 10 ∉ sg rest) (r2 : rest.length ≤ 5000) (k : P (bookD ps a b c ls) h) : Wp (pcallM (app1 f_read_text) [.str (bookS ps a b c ls ++ rest)] h) P E := by
  have gna : gn a := ⟨by omega, ga⟩
  have gnb : gn b := ⟨by omega, by omega⟩
  have gnc : gn c := ⟨by omega, gc⟩
  have hw := head_word gp gna gnb gnc
  have hlen : ((headD ps a b c).map wrt).length ≤ 200 := by rw [List.length_map]; exact head_len lp
  have free : ∀ r ∈ hdS ps a b c :: ls.map lnS, 10 ∉ sg r ∧ r.length ≤ 4600 := fun r hr => by
    rcases List.mem_cons.mp hr with rfl | hr
    · exact ⟨join_free hw, join_len hw hlen⟩
    · obtain ⟨d, hd, rfl⟩ := List.mem_map.mp hr
      exact line_row (hl d hd)
  have nr : noRef (bookD ps a b c ls) = true := by
    unfold bookD
    have e : noRefs ls = true := by
      clear k ll free
      induction ls with
      | nil => rfl
      | cons d r ih =>
        rw [noRefs_cons, ln_nr (hl d List.mem_cons_self).ln, ih fun x hx => hl x (List.mem_cons_of_mem _ hx)]
        rfl
    rw [noRef_tup, noRefs_cons, nr_prD]
    simp only [noRefs_cons, noRef_int, noRef_tup, e, noRefs_nil, Bool.and_true]
  rw [w_pcall]
  refine ⟨by rw [noRefs_cons, noRefs_nil, noRef_str]; rfl, ?_⟩
  rw [w_app1]
  unfold f_read_text b_read_text
  simp only [WPS, reduceIte]
  have fl := feeds_len (hdS ps a b c :: ls.map lnS) fun r hr => (free r hr).2
  refine rows_w (fun r hr => (free r hr).1) r1 (List.cons_ne_nil _ _) (by
    rw [str_len_app]
    rw [List.length_cons, List.length_map] at fl
    have : (ls.length + 1) * 4601 ≤ 101 * 4601 := Nat.mul_le_mul_right _ (by omega)
    omega) ?_
  have i0 : ∀ {g : AH} {Q : D → AH → Prop} {F : Str → AH → Prop}, Wp (ixM (.lst (List.map D.str (hdS ps a b c :: ls.map lnS))) (.int 0) g) Q F ↔ Q (.str (hdS ps a b c)) g := w_ixL (atI_pos (by decide) rfl)
  have sl : cutD (List.map D.str (hdS ps a b c :: ls.map lnS)) (some 1) none = List.map D.str (ls.map lnS) := by
    rw [show (some (1 : Int)) = some ((1 : Nat) : Int) from rfl, cutD_drop]
    rfl
  have run : lcM (List.map D.str (ls.map lnS)) c_read_text_1 ([] : AH) = .ok (.lst ls) [] := by
    rw [List.map_map]
    have z := lcM_map (h := ([] : AH)) (f := c_read_text_1) (u := fun d => D.str (lnS d)) (v := id) (zs := ls) (by omega) fun d hd => by
      have w : Wp (c_read_text_1 (.str (lnS d)) ([] : AH)) (fun ys hh => ys = [d] ∧ hh = []) NoE := by
        unfold c_read_text_1
        simp only [WPS, reduceIte]
        refine linein_w (hl d hd) ?_
        try simp only [WPS, reduceIte]
        exact ⟨trivial, trivial⟩
      obtain ⟨ys, hh, e, e1, e2⟩ := w.get
      rw [e, e1, e2]
      rfl
    rw [List.map_id] at z
    exact z
  simp only [WPS, reduceIte, i0]
  refine headin_w (by omega) gp gna gnb gnc ?_
  have un : unpT (uCons some (uCons some (uCons some (uCons some uNil)))) (D.tup [prD ps, .int a, .int b, .int c]) = some (prD ps, .int a, .int b, .int c, ()) := rfl
  have cw := check_ok (prD ps) (pla_prD ps) (fun xs e => by cases e; rw [List.length_map]; omega) ⟨ps, rfl, wp⟩
  simp only [WPS, reduceIte, un, sl, Wp.rn run, Wp.rn (cw _), w_tupL]
  refine bounds_w rfl rfl rfl (fun n => absurd ⟨a, b, c, rfl, rfl, rfl, a1, b1, by omega, bc⟩ n) fun _ _ _ _ _ _ _ _ _ _ => ?_
  try simp only [WPS, reduceIte]
  exact ⟨nr, k⟩
end
end Lw
/-! k35: books are read as they were written. -/
namespace Lw
open PySem L2
/-! tuples through and through -/
mutual
def wsB : Nat → D → Bool
  | _, .int _ => true
  | _, .str _ => true
  | n + 1, .tup xs => decide (xs.length ≤ 1000000) && wsBs n xs
  | _, _ => false
def wsBs : Nat → List D → Bool
  | _, [] => true
  | n, d :: ds => wsB n d && wsBs n ds
end
theorem wsBs_mem {n : Nat} : ∀ {ds : List D}, wsBs n ds = true ↔ ∀ d ∈ ds, wsB n d = true
  | [] => ⟨fun _ d h => (nomatch h), fun _ => (by unfold wsBs; rfl)⟩
  | d :: ds => by
    unfold wsBs
    rw [Bool.and_eq_true, wsBs_mem, List.forall_mem_cons]
mutual
theorem ws_up : ∀ (d : D) (n m : Nat), n ≤ m → wsB n d = true → wsB m d = true
  | .int _, n, m, _, _ => by cases m <;> simp [wsB]
  | .str _, n, m, _, _ => by cases m <;> simp [wsB]
  | .tup xs, 0, m, _, h => by simp [wsB] at h
  | .tup xs, n + 1, 0, l, h => by omega
  | .tup xs, n + 1, m + 1, l, h => by
    unfold wsB at h ⊢
    rw [Bool.and_eq_true] at h ⊢
    exact ⟨h.1, wss_up xs n m (by omega) h.2⟩
  | .lst _, n, m, _, h => by cases n <;> simp [wsB] at h
  | .non, n, m, _, h => by cases n <;> simp [wsB] at h
  | .bl _, n, m, _, h => by cases n <;> simp [wsB] at h
  | .ref _, n, m, _, h => by cases n <;> simp [wsB] at h
  | .exn _ _, n, m, _, h => by cases n <;> simp [wsB] at h
  | .emp, n, m, _, h => by cases n <;> simp [wsB] at h
theorem wss_up : ∀ (ds : List D) (n m : Nat), n ≤ m → wsBs n ds = true → wsBs m ds = true
  | [], _, _, _, _ => by unfold wsBs; rfl
  | d :: ds, n, m, l, h => by
    unfold wsBs at h ⊢
    rw [Bool.and_eq_true] at h ⊢
    exact ⟨ws_up d n m l h.1, wss_up ds n m l h.2⟩
end
mutual
theorem ws_nr : ∀ (d : D) (n : Nat), wsB n d = true → noRef d = true
  | .int _, _, _ => noRef_int
  | .str _, _, _ => noRef_str
  | .tup xs, 0, h => by simp [wsB] at h
  | .tup xs, n + 1, h => by
    unfold wsB at h
    rw [Bool.and_eq_true] at h
    rw [noRef_tup]
    exact wss_nr xs n h.2
  | .lst _, n, h => by cases n <;> simp [wsB] at h
  | .non, n, h => by cases n <;> simp [wsB] at h
  | .bl _, n, h => by cases n <;> simp [wsB] at h
  | .ref _, n, h => by cases n <;> simp [wsB] at h
  | .exn _ _, n, h => by cases n <;> simp [wsB] at h
  | .emp, n, h => by cases n <;> simp [wsB] at h
theorem wss_nr : ∀ (ds : List D) (n : Nat), wsBs n ds = true → noRefs ds = true
  | [], _, _ => noRefs_nil
  | d :: ds, n, h => by
    unfold wsBs at h
    rw [Bool.and_eq_true] at h
    rw [noRefs_cons, ws_nr d n h.1, wss_nr ds n h.2]
    rfl
end
theorem lcM_filtR {h : AH} {f : D → M (List D)} {zs : List D} (l : zs.length ≤ 1000000) (q : ∀ x ∈ zs, f x h = .ok [] h) : lcM zs f h = .ok (.lst []) h := by
  have z := lcM_run (h := h) (f := f) (xs := zs) (fun _ => []) l q
  rw [z]
  congr 2
  induction zs with
  | nil => rfl
  | cons x r ih => simp
theorem through_run : ∀ (n : Nat) (d : D) (h : AH), wsB n d = true → pcallM (app1 (f_law_whole_through (n + 1))) [d] h = .ok (.bl true) h
  | n, d, h, g => by
    have w : Wp (pcallM (app1 (f_law_whole_through (n + 1))) [d] h) (fun x hh => x = .bl true ∧ hh = h) NoE := by
      rw [w_pcall]
      refine ⟨by rw [noRefs_cons, ws_nr d n g, noRefs_nil]; rfl, ?_⟩
      rw [w_app1]
      show Wp (defM (b_law_whole_through (f_law_whole_through n) d) []) _ _
      unfold b_law_whole_through
      cases d with
      | int i =>
        have t1 : isiM "tuple" (.int i) ([] : AH) = .ok (.bl false) [] := rfl
        have t2 : isi2M "int" "str" (.int i) ([] : AH) = .ok (.bl true) [] := rfl
        have t3 : isiM "bool" (.int i) ([] : AH) = .ok (.bl false) [] := rfl
        simp only [WPS, reduceIte, Wp.rn t1, Wp.rn t2, Wp.rn t3]
        exact ⟨noRef_bl, trivial, trivial⟩
      | str z =>
        have t1 : isiM "tuple" (.str z) ([] : AH) = .ok (.bl false) [] := rfl
        have t2 : isi2M "int" "str" (.str z) ([] : AH) = .ok (.bl true) [] := rfl
        have t3 : isiM "bool" (.str z) ([] : AH) = .ok (.bl false) [] := rfl
        simp only [WPS, reduceIte, Wp.rn t1, Wp.rn t2, Wp.rn t3]
        exact ⟨noRef_bl, trivial, trivial⟩
      | tup xs =>
        cases n with
        | zero => simp [wsB] at g
        | succ n =>
          unfold wsB at g
          rw [Bool.and_eq_true, wsBs_mem] at g
          have t1 : isiM "tuple" (.tup xs) ([] : AH) = .ok (.bl true) [] := rfl
          have run : lcM xs (c_law_whole_through_1 (f_law_whole_through (n + 1))) ([] : AH) = .ok (.lst []) [] := lcM_filtR (of_decide_eq_true g.1) fun x hx => by
            have e := through_run n x [] (g.2 x hx)
            unfold c_law_whole_through_1
            simp only [r_bind, r_pure, r_ok, r_lift, e, truM_bl, Bool.not_true, Bool.false_eq_true, if_false]
          have eqn : ∀ {Q : D → AH → Prop} {F : Str → AH → Prop}, Wp (eqM (.lst []) (.lst []) ([] : AH)) Q F ↔ Q (.bl true) [] := w_eqn (xs := []) rfl
          simp only [WPS, reduceIte, Wp.rn t1, Wp.rn run, eqn]
          exact ⟨noRef_bl, trivial, trivial⟩
      | lst _ => cases n <;> simp [wsB] at g
      | non => cases n <;> simp [wsB] at g
      | bl _ => cases n <;> simp [wsB] at g
      | ref _ => cases n <;> simp [wsB] at g
      | exn _ _ => cases n <;> simp [wsB] at g
      | emp => cases n <;> simp [wsB] at g
    obtain ⟨x, hh, e, e1, e2⟩ := w.get
    rw [e, e1, e2]
section
variable {h : AH} {n m : Nat} {E : Str → AH → Prop} {P : D → AH → Prop}
theorem join0_w {ys : List Str} (l : (ys.map (·.length)).sum ≤ 16000000) : Wp (joinM (.str "") (.lst (ys.map D.str)) h) P E ↔ P (.str (Txt.join "" ys)) h := by
  unfold joinM
  rw [show seqOf h (.lst (ys.map D.str)) = some (ys.map D.str) from rfl]
  simp only [strsOf_map]
  rw [if_pos (by
    have : (("" : Str)).length = 0 := rfl
    rw [this]
    omega)]
  exact Iff.rfl
/-- the rows of some lines -/
def rowsD (ls : List D) : List D := (ls.map fun d => rowS (lnP d)).map D.str
theorem rows_join {ls : List D} (hl : ∀ d ∈ ls, LnR d) (ll : ls.length ≤ 100) : Wp (joinM (.str "") (.lst (rowsD ls)) h) P E ↔ P (.str (feeds (ls.map lnS))) h := by
  unfold rowsD
  rw [join0_w]
  · unfold feeds
    rw [List.map_map]
    exact Iff.rfl
  · have key : ((ls.map fun d => rowS (lnP d)).map (·.length)).sum ≤ ls.length * 4601 := by
      clear ll
      induction ls with
      | nil => exact Nat.zero_le _
      | cons d r ih =>
        have i2 := ih fun x hx => hl x (List.mem_cons_of_mem _ hx)
        have l1 := (line_row (hl d List.mem_cons_self)).2
        rw [List.map_cons, List.map_cons, List.sum_cons, show (rowS (lnP d)).length = (lnS d).length + 1 from str_len_app _ _, List.length_cons]
        omega
    have : ls.length * 4601 ≤ 100 * 4601 := Nat.mul_le_mul_right _ ll
    omega
/-- a row with its feed -/
def RowOk (z : Str) : Prop := ∃ r : Str, z = r ++ "\n" ∧ 10 ∉ sg r ∧ r.length ≤ 4600
def RestOk (z : Str) : Prop := 10 ∉ sg z ∧ z.length ≤ 5000
theorem sg_row (r : Str) : sg (r ++ "\n") = sg r ++ [10] := by
  show (r ++ "\n").cps.toList = _
  rw [str_app]
  rfl
theorem rest_init {z : Str} (g : RowOk z) : RestOk (cutS z none (some (-1))) := by
  obtain ⟨r, rfl, f, l⟩ := g
  have e : sg (cutS (r ++ "\n") none (some (-1))) = sg r := by
    show cutD (sg (r ++ "\n")) none (some (-1)) = sg r
    rw [sg_row]
    exact cutD_init _ _
  exact ⟨by rw [e]; exact f, by rw [← sg_len, e, sg_len]; omega⟩
theorem rest_take {z : Str} {j : Nat} (g : RowOk z) (hj : j < z.length) : RestOk (cutS z none (some (j : Int))) := by
  obtain ⟨r, rfl, f, l⟩ := g
  rw [str_len_app] at hj
  have l1 : (("\n" : Str)).length = 1 := rfl
  have e : sg (cutS (r ++ "\n") none (some (j : Int))) = (sg r).take j := by
    show cutD (sg (r ++ "\n")) none (some (j : Int)) = _
    rw [sg_row, cutD_take, List.take_append_of_le_length (by rw [sg_len]; omega)]
  refine ⟨fun m => f (List.mem_of_mem_take (by rw [← e]; exact m)), ?_⟩
  rw [← sg_len, e, List.length_take, sg_len]
  omega
theorem word_ok' {z : Str} (w : Word z) : PyData.strOk z = true := by
  unfold PyData.strOk
  rw [← Array.all_toList, List.all_eq_true]
  intro c hc
  have := w.signs c hc
  unfold wsign at this
  simp only [Bool.and_eq_true] at this
  exact this.2.2
theorem nb_words : PyData.strOk "lent" = true ∧ PyData.strOk "told" = true ∧ PyData.strOk "back" = true ∧ PyData.strOk "cut" = true ∧ PyData.strOk "join" = true := by decide +kernel
theorem nb_S {n : Nat} {z : Str} (h : PyData.strOk z = true) : nb n (.str z) = true := by cases n <;> exact h
theorem nb_I {n : Nat} {i : Int} : nb n (.int i) = true := by cases n <;> rfl
theorem line_nb {d : D} (l : LnR d) : nb 2 d = true ∧ wsB 2 d = true := by
  cases l with
  | lent ga gz gb gc =>
    refine ⟨nbs_mem (n := 1) fun x hx => ?_, by simp [wsB, wsBs]⟩
    simp only [List.mem_cons, List.not_mem_nil, or_false] at hx
    rcases hx with rfl | rfl | rfl | rfl | rfl
    · exact nb_S nb_words.1
    · exact nb_I
    · exact nb_S (word_ok' gz)
    · exact nb_I
    · exact nb_I
  | told ga gb gc ln gns =>
    rename_i a b c ns
    refine ⟨nbs_mem (n := 1) fun x hx => ?_, ?_⟩
    · simp only [List.mem_cons, List.not_mem_nil, or_false] at hx
      rcases hx with rfl | rfl | rfl | rfl | rfl
      · exact nb_S nb_words.2.1
      · exact nb_I
      · exact nb_I
      · exact nb_I
      · exact nbs_mem (n := 0) fun d hd => by
          obtain ⟨i, _, rfl⟩ := List.mem_map.mp hd
          rfl
    · have e : wsBs 0 (ns.map D.int) = true := wsBs_mem.mpr fun d hd => by
        obtain ⟨i, _, rfl⟩ := List.mem_map.mp hd
        unfold wsB
        rfl
      have l2 : ns.length ≤ 1000000 := by omega
      simp [wsB, wsBs, e, l2]
  | back =>
    refine ⟨nbs_mem (n := 1) fun x hx => ?_, by simp [wsB, wsBs]⟩
    simp only [List.mem_cons, List.not_mem_nil, or_false] at hx
    rcases hx with rfl | rfl | rfl
    · exact nb_S nb_words.2.2.1
    · exact nb_I
    · exact nb_I
  | cut =>
    refine ⟨nbs_mem (n := 1) fun x hx => ?_, by simp [wsB, wsBs]⟩
    simp only [List.mem_cons, List.not_mem_nil, or_false] at hx
    rcases hx with rfl | rfl | rfl
    · exact nb_S nb_words.2.2.2.1
    · exact nb_I
    · exact nb_I
  | join =>
    refine ⟨nbs_mem (n := 1) fun x hx => ?_, by simp [wsB, wsBs]⟩
    simp only [List.mem_cons, List.not_mem_nil, or_false] at hx
    rcases hx with rfl | rfl
    · exact nb_S nb_words.2.2.2.2
    · exact nb_I
theorem book_nb {ps : List P2} {a b c : Int} {ls : List D} (lp : ps.length ≤ 6) (ll : ls.length ≤ 100) (hl : ∀ d ∈ ls, LnR d) : nb 60 (bookD ps a b c ls) = true ∧ wsB 4 (bookD ps a b c ls) = true := by
  have w2 : nb 3 (prD ps) = true := nb_le _ 2 3 (by decide) (nbs_mem (n := 1) fun d hd => by
    obtain ⟨q, _, rfl⟩ := List.mem_map.mp hd
    rfl)
  have w1 : nb 3 (.tup ls) = true := nbs_mem (n := 2) fun d hd => (line_nb (hl d hd)).1
  have v1 : wsB 3 (.tup ls) = true := by
    unfold wsB
    rw [Bool.and_eq_true]
    exact ⟨decide_eq_true (by omega), wsBs_mem.mpr fun d hd => (line_nb (hl d hd)).2⟩
  have v2 : wsB 3 (prD ps) = true := by
    unfold prD wsB
    rw [Bool.and_eq_true]
    refine ⟨decide_eq_true (by rw [List.length_map]; omega), wsBs_mem.mpr fun d hd => ?_⟩
    obtain ⟨q, _, rfl⟩ := List.mem_map.mp hd
    simp [wsB, wsBs]
  refine ⟨nb_le _ 4 60 (by decide) ?_, ?_⟩
  · refine nbs_mem (n := 3) fun x hx => ?_
    simp only [List.mem_cons, List.not_mem_nil, or_false] at hx
    rcases hx with rfl | rfl | rfl | rfl | rfl
    · exact w2
    · exact nb_I
    · exact nb_I
    · exact nb_I
    · exact w1
  · unfold bookD wsB
    simp only [wsBs, v1, v2]
    simp [wsB]
theorem w_optS {x : D} : Wp (optM (some x) h) P E ↔ P x h := Iff.rfl
/-- one text with what has no feed behind it -/
theorem rest_w {ps : List P2} {a b c : Int} {ls L : List D} {j : Nat} {z : Str} (lp : ps.length ≤ 6) (gp : ∀ p ∈ ps, gn p.1 ∧ gn p.2) (wp : Wk ps) (a1 : 1 ≤ a) (ga : a < 10 ^ 18) (b1 : 1 ≤ b) (bc : b ≤ c) (gc : c < 10 ^ 18)
    (ll : ls.length ≤ 100) (hl : ∀ d ∈ ls, LnR d) (eL : L = ls.take j) (g : RestOk z) {t : Option D} {O : Out (Option D) (Option D) → AH → Prop} (k : O (.nx (some (bookD ps a b c L))) h) : Wp (l_law_4 (.str (bookS ps a b c L)) (prD ps) (.tup [.int a, .int b, .int c]) (.lst ls) (.int j) (.str z) t h) O E := by
  have hL : ∀ d ∈ L, LnR d := fun d hd => hl d (by rw [eL] at hd; exact List.mem_of_mem_take hd)
  have lL : L.length ≤ 100 := by rw [eL, List.length_take]; omega
  have fl := feeds_len (hdS ps a b c :: L.map lnS) fun r hr => by
    rcases List.mem_cons.mp hr with rfl | hr
    · exact join_len (head_word gp ⟨by omega, ga⟩ ⟨by omega, by omega⟩ ⟨by omega, gc⟩) (by rw [List.length_map]; exact head_len lp)
    · obtain ⟨d, hd, rfl⟩ := List.mem_map.mp hr
      exact (line_row (hL d hd)).2
  rw [List.length_cons, List.length_map] at fl
  have fl2 : (bookS ps a b c L).length ≤ 470000 := by
    have : (L.length + 1) * 4601 ≤ 101 * 4601 := Nat.mul_le_mul_right _ (by omega)
    show (feeds _).length ≤ _
    omega
  have BN := book_nb (ps := ps) (a := a) (b := b) (c := c) lp lL hL
  unfold l_law_4
  simp only [WPS, reduceIte, w_addS (show (bookS ps a b c L).length + z.length ≤ 1000000 by have := g.2; omega)]
  refine readtext_w lp gp wp a1 ga b1 bc gc lL hL g.1 g.2 ?_
  have ct : cutD ls none (some (j : Int)) = L := by rw [cutD_take, eL]
  have ad1 : ∀ {g : AH} {Q : D → AH → Prop} {F : Str → AH → Prop}, Wp (addM (.tup [prD ps]) (.tup [.int a, .int b, .int c]) g) Q F ↔ Q (.tup [prD ps, .int a, .int b, .int c]) g := w_addT (Nat.le_of_ble_eq_true rfl)
  have ad2 : ∀ {g : AH} {Q : D → AH → Prop} {F : Str → AH → Prop}, Wp (addM (.tup [prD ps, .int a, .int b, .int c]) (.tup [.tup L]) g) Q F ↔ Q (bookD ps a b c L) g := w_addT (Nat.le_of_ble_eq_true rfl)
  simp only [WPS, reduceIte, ct, w_tupL, ad1, ad2]
  rw [w_ne_f (a := bookD ps a b c L) (b := bookD ps a b c L) BN.1 BN.1 rfl]
  have th := through_run 7 (bookD ps a b c L) h (by
    exact ws_up _ 4 7 (by decide) BN.2)
  simp only [WPS, reduceIte, Wp.rn th]
  exact k
theorem fl_bound {ps : List P2} {a b c : Int} {L : List D} (lp : ps.length ≤ 6) (gp : ∀ p ∈ ps, gn p.1 ∧ gn p.2) (a1 : 1 ≤ a) (ga : a < 10 ^ 18) (b1 : 1 ≤ b) (bc : b ≤ c) (gc : c < 10 ^ 18) (lL : L.length ≤ 100) (hL : ∀ d ∈ L, LnR d) : (rowS (headD ps a b c)).length + (feeds (L.map lnS)).length ≤ 470000 := by
  have f1 := feeds_len (L.map lnS) fun r hr => by
    obtain ⟨d, hd, rfl⟩ := List.mem_map.mp hr
    exact (line_row (hL d hd)).2
  have f2 := join_len (head_word (ps := ps) (a := a) (b := b) (c := c) gp ⟨by omega, ga⟩ ⟨by omega, by omega⟩ ⟨by omega, gc⟩) (by rw [List.length_map]; exact head_len lp)
  rw [List.length_map] at f1
  have : L.length * 4601 ≤ 100 * 4601 := Nat.mul_le_mul_right _ (by omega)
  have e : (rowS (headD ps a b c)).length = (Txt.join " " ((headD ps a b c).map wrt)).length + 1 := str_len_app _ _
  omega
theorem book_text {ps : List P2} {a b c : Int} {L : List D} : rowS (headD ps a b c) ++ feeds (L.map lnS) = bookS ps a b c L := by
  refine str_ext ?_
  show (rowS (headD ps a b c) ++ feeds (L.map lnS)).cps.toList = _
  rw [str_app]
  show sg (hdS ps a b c ++ "\n") ++ sg (feeds (L.map lnS)) = sg (feeds (hdS ps a b c :: L.map lnS))
  rw [sg_row, sg_feeds, sg_feeds, List.map_cons, List.flatten_cons]
theorem rows_row {ls : List D} (hl : ∀ d ∈ ls, LnR d) {j : Nat} (hj : j ≤ ls.length) : ∃ z, (rowsD ls ++ [D.str "join 0\n"])[j]? = some (.str z) ∧ RowOk z := by
  by_cases c : j < ls.length
  · refine ⟨rowS (lnP ls[j]), ?_, ?_⟩
    · rw [List.getElem?_append_left (by unfold rowsD; rw [List.length_map, List.length_map]; exact c)]
      unfold rowsD
      rw [List.getElem?_map, List.getElem?_map, List.getElem?_eq_getElem c]
      rfl
    · exact ⟨lnS ls[j], rfl, line_row (hl _ (List.getElem_mem c))⟩
  · refine ⟨"join 0\n", ?_, ("join 0" : Str), rfl, by decide, by decide⟩
    rw [List.getElem?_append_right (by unfold rowsD; rw [List.length_map, List.length_map]; omega)]
    unfold rowsD
    rw [List.length_map, List.length_map, show j - ls.length = 0 by omega]
    rfl
theorem through_w {ps : List P2} {a b c : Int} {ls : List D} {j : Nat} (lp : ps.length ≤ 6) (gp : ∀ p ∈ ps, gn p.1 ∧ gn p.2) (wp : Wk ps) (a1 : 1 ≤ a) (ga : a < 10 ^ 18) (b1 : 1 ≤ b) (bc : b ≤ c) (gc : c < 10 ^ 18)
    (ll : ls.length ≤ 100) (hl : ∀ d ∈ ls, LnR d) (hj : j ≤ ls.length) (w : Well h n (m + 1)) {t : Option D} {O : Out (Option D) (Option D) → AH → Prop} (k : ∀ t h', Well h' n m → O (.nx t) h') : Wp (l_law_5 (prD ps) (.tup [.int a, .int b, .int c]) (.lst (rowsD ls)) (.ref n) (.lst ls) (.int j) t h) O E := by
  have gna : gn a := ⟨by omega, ga⟩
  have gnb : gn b := ⟨by omega, by omega⟩
  have gnc : gn c := ⟨by omega, gc⟩
  have gd2 : ∀ p ∈ ps, gd p.1 ∧ gd p.2 := fun p hp => ⟨(gp p hp).1.gd, (gp p hp).2.gd⟩
  have hL : ∀ d ∈ ls.take j, LnR d := fun d hd => hl d (List.mem_of_mem_take hd)
  have lL : (ls.take j).length ≤ 100 := by rw [List.length_take]; omega
  have FB := fl_bound (L := ls.take j) lp gp a1 ga b1 bc gc lL hL
  have ct : cutD (rowsD ls) none (some (j : Int)) = rowsD (ls.take j) := by
    rw [cutD_take]
    unfold rowsD
    rw [← List.map_take, ← List.map_take]
  have sk : ∀ {g : AH} {Q : Unit → AH → Prop} {F : Str → AH → Prop}, Wp (schk (.str "") g) Q F ↔ Q () g := Iff.rfl
  have adr : ∀ {g : AH} {Q : D → AH → Prop} {F : Str → AH → Prop}, Wp (addM (.lst (rowsD ls)) (.lst [.str "join 0\n"]) g) Q F ↔ Q (.lst (rowsD ls ++ [D.str "join 0\n"])) g := w_addL (by unfold rowsD; rw [List.length_map, List.length_map]; simp; omega)
  obtain ⟨z, hz, rz⟩ := rows_row hl hj
  have ixr : ∀ {g : AH} {Q : D → AH → Prop} {F : Str → AH → Prop}, Wp (ixM (.lst (rowsD ls ++ [D.str "join 0\n"])) (.int j) g) Q F ↔ Q (.str z) g := w_ixL (atI_nat hz)
  have lz : z.length ≤ 4601 ∧ 1 ≤ z.length := by
    obtain ⟨r, rfl, f, l⟩ := rz
    rw [str_len_app]
    have l1 : (("\n" : Str)).length = 1 := rfl
    omega
  unfold l_law_5
  simp only [WPS, reduceIte]
  rw [w_pcall]
  refine ⟨by rw [noRefs_cons, nr_prD, noRefs_cons, noRefs_nil]; rfl, ?_⟩
  rw [w_app2]
  refine law_head_w lp gd2 gna.gd gnb.gd gnc.gd ⟨noRef_str, ?_⟩
  simp only [WPS, reduceIte, sk, ct, rows_join hL lL, w_addS (show (rowS (headD ps a b c)).length + (feeds ((ls.take j).map lnS)).length ≤ 1000000 by omega), book_text, adr, ixr, w_slS (show z.length ≤ 1000000 by omega), w_lenS (show z.length ≤ 1000000 by omega)]
  refine draw_w (m := m) w (by omega) (by omega) fun r h1 r0 r1 w1 f1 => ?_
  have er : r = ((r.toNat : Nat) : Int) := by omega
  rw [er]
  simp only [WPS, reduceIte, w_slS (show z.length ≤ 1000000 by omega), w_lst (show ([_, _, _, _, _, _, _] : List D).length ≤ 1000000 from Nat.le_of_ble_eq_true rfl)]
  have rests : ∀ x ∈ [D.str "", .str (cutS z none (some (-1))), .str (cutS z none (some (r.toNat : Int))), .str " ", .str "work", .str "  told 05 x", .str "-"], ∃ y, x = .str y ∧ RestOk y := by
    intro x hx
    simp only [List.mem_cons, List.not_mem_nil, or_false] at hx
    rcases hx with rfl | rfl | rfl | rfl | rfl | rfl | rfl
    · exact ⟨_, rfl, by decide, by decide⟩
    · exact ⟨_, rfl, rest_init rz⟩
    · exact ⟨_, rfl, rest_take rz (by omega)⟩
    · exact ⟨_, rfl, by decide, by decide⟩
    · exact ⟨_, rfl, by decide, by decide⟩
    · exact ⟨_, rfl, by decide, by decide⟩
    · exact ⟨_, rfl, by decide, by decide⟩
  refine w_for (fun k t hh => hh = h1 ∧ (0 < k → t = some (bookD ps a b c (ls.take j)))) ⟨rfl, fun h => absurd h (by decide)⟩ (fun k x t hh hx i => ?_) fun t hh i => ?_
  · obtain ⟨rfl, _⟩ := i
    obtain ⟨y, rfl, ry⟩ := rests x (List.mem_of_getElem? hx)
    exact rest_w lp gp wp a1 ga b1 bc gc ll hl rfl ry ⟨rfl, fun _ => rfl⟩
  · obtain ⟨rfl, et⟩ := i
    obtain rfl := et (show 0 < 7 by decide)
    have BN := book_nb (ps := ps) (a := a) (b := b) (c := c) lp lL hL
    rw [oK_nx]
    have e0 : bookS ps a b c (ls.take j) = bookS ps a b c (ls.take j) ++ "" := by
      refine str_ext ?_
      show _ = (bookS ps a b c (ls.take j) ++ "").cps.toList
      rw [str_app]
      show _ = _ ++ []
      rw [List.append_nil]
    have ix0 : ∀ {g : AH} {Q : D → AH → Prop} {F : Str → AH → Prop}, Wp (ixM (bookD ps a b c (ls.take j)) (.int 0) g) Q F ↔ Q (prD ps) g := w_ixT rfl
    have ix1 : ∀ {g : AH} {Q : D → AH → Prop} {F : Str → AH → Prop}, Wp (ixM (bookD ps a b c (ls.take j)) (.int 1) g) Q F ↔ Q (.int a) g := w_ixT rfl
    have ix2 : ∀ {g : AH} {Q : D → AH → Prop} {F : Str → AH → Prop}, Wp (ixM (bookD ps a b c (ls.take j)) (.int 2) g) Q F ↔ Q (.int b) g := w_ixT rfl
    have ix3 : ∀ {g : AH} {Q : D → AH → Prop} {F : Str → AH → Prop}, Wp (ixM (bookD ps a b c (ls.take j)) (.int 3) g) Q F ↔ Q (.int c) g := w_ixT rfl
    have ix4 : ∀ {g : AH} {Q : D → AH → Prop} {F : Str → AH → Prop}, Wp (ixM (bookD ps a b c (ls.take j)) (.int 4) g) Q F ↔ Q (.tup (ls.take j)) g := w_ixT rfl
    have run : lcM (ls.take j) c_law_3 hh = .ok (.lst (rowsD (ls.take j))) hh := by
      have q := lcM_map (h := hh) (f := c_law_3) (u := id) (v := fun d => D.str (rowS (lnP d))) (zs := ls.take j) (by omega) fun d hd => by
        have w : Wp (c_law_3 d hh) (fun ys g => ys = [D.str (rowS (lnP d))] ∧ g = hh) NoE := by
          unfold c_law_3
          simp only [WPS, reduceIte]
          rw [w_pcall]
          refine ⟨by rw [noRefs_cons, noRefs_nil, ln_nr (hL d hd).ln]; rfl, ?_⟩
          rw [w_app1, show f_line_text = f_law_line_text from rfl]
          refine text_w (hL d hd).ln fun z e => ⟨noRef_str, ?_⟩
          try simp only [WPS, reduceIte]
          exact ⟨by rw [e], trivial⟩
        obtain ⟨ys, g, e, e1, e2⟩ := w.get
        show c_law_3 d hh = _
        rw [e, e1, e2]
      rw [List.map_id] at q
      rw [q]
      unfold rowsD
      rw [List.map_map]
      rfl
    simp only [WPS, reduceIte, w_optS]
    rw [show (D.str (bookS ps a b c (ls.take j))) = .str (bookS ps a b c (ls.take j) ++ "") from congrArg D.str e0]
    refine readtext_w lp gp wp a1 ga b1 bc gc lL hL (by decide) (by decide) ?_
    rw [← e0, w_ne_f (a := bookD ps a b c (ls.take j)) (b := bookD ps a b c (ls.take j)) BN.1 BN.1 rfl]
    simp only [WPS, reduceIte, w_optS, ix0, ix1, ix2, ix3, ix4]
    rw [w_pcall]
    refine ⟨by rw [noRefs_cons, nr_prD]; rfl, ?_⟩
    rw [w_app4]
    refine head_text_w lp gd2 gna.gd gnb.gd gnc.gd fun _ => ⟨noRef_str, ?_⟩
    simp only [WPS, reduceIte, sk, Wp.rn run, rows_join hL lL, w_addS (show (rowS (headD ps a b c)).length + (feeds ((ls.take j).map lnS)).length ≤ 1000000 by omega), book_text, decide_true]
    exact k _ _ w1
end
theorem plain (ns : List Int) (hl : ns.length ≤ 63) (hb : ∀ z ∈ ns, Builtin.Int.intBits z ≤ 1048576) : ∃ ah, f_law (.lst (ns.map D.int)) [] = .ok (.bl true) ah := by
  have goal : Wp (f_law (.lst (ns.map D.int)) []) (fun d _ => d = .bl true) NoE := by
    unfold f_law b_law
    simp only [WPS, reduceIte]
    refine well_w (k := 0) (by omega) fun h1 w1 _ _ => ?_
    try simp only [WPS, reduceIte]
    refine work_w (m := 900000) (w1.less (by decide)) fun ps h2 lp gp wp w2 => ?_
    try simp only [WPS, reduceIte]
    refine limits_w (m := 800000) (w2.less (by decide)) fun a b c h3 a1 ga b1 bc gc w3 => ?_
    try simp only [WPS, reduceIte]
    refine draw_w (m := 799999) w3 (by decide) (by decide) fun r h4 r0 r1 w4 f4 => ?_
    simp only [WPS, reduceIte, w_rng2 (i := 1) (j := 1 + r) (by decide) (by decide) (by omega) (by omega)]
    have hlr : (rangeD 1 (1 + r - 1).toNat).length = r.toNat := by rw [rangeD_len]; omega
    refine w_lc (fun k acc hh => Well hh ([] : AH).length 799999 ∧ acc.length = k ∧ ∀ d ∈ acc, LnR d) (by rw [hlr]; omega) ⟨w4, rfl, fun _ h => nomatch h⟩ (fun k x acc hh hx i => ?_) fun ls hh i => ?_
    · obtain ⟨w5, lk, ga⟩ := i
      obtain ⟨hk, rfl⟩ := rangeD_get hx
      rw [show (1 : Int) + (k : Int) = ((k + 1 : Nat) : Int) by omega]
      unfold c_law_1
      simp only [WPS, reduceIte]
      refine well_w (by omega) fun h5 v5 l5 g5 => ?_
      try simp only [WPS, reduceIte]
      refine line_w (m := 1000) (v5.less (by decide)) fun d h6 ld v6 f6 => ?_
      try simp only [WPS, reduceIte]
      have lt : ([] : AH).length < hh.length := by
        obtain ⟨_, _, _, e, _⟩ := w5.ex
        exact getElem?_lt e
      refine ⟨by
        obtain ⟨x, y, z, e, q⟩ := w5.ex
        exact ⟨x, y, z, ((f6.2 _ (by omega)).trans (g5 _ lt)).trans e, q⟩, by rw [List.length_append, lk]; rfl, fun y hy => ?_⟩
      rcases List.mem_append.mp hy with hy | hy
      · exact ga y hy
      · rw [List.mem_singleton.mp hy]
        exact ld
    · obtain ⟨w5, lk, hl⟩ := i
      rw [hlr] at lk
      have ll : ls.length ≤ 40 := by omega
      have run : lcM ls c_law_2 hh = .ok (.lst (rowsD ls)) hh := by
        have q := lcM_map (h := hh) (f := c_law_2) (u := id) (v := fun d => D.str (rowS (lnP d))) (zs := ls) (by omega) fun d hd => by
          have w : Wp (c_law_2 d hh) (fun ys g => ys = [D.str (rowS (lnP d))] ∧ g = hh) NoE := by
            unfold c_law_2
            simp only [WPS, reduceIte]
            rw [w_pcall]
            refine ⟨by rw [noRefs_cons, noRefs_nil, ln_nr (hl d hd).ln]; rfl, ?_⟩
            rw [w_app1]
            refine text_w (hl d hd).ln fun z e => ⟨noRef_str, ?_⟩
            try simp only [WPS, reduceIte]
            exact ⟨by rw [e], trivial⟩
          obtain ⟨ys, g, e, e1, e2⟩ := w.get
          show c_law_2 d hh = _
          rw [e, e1, e2]
        rw [List.map_id] at q
        rw [q]
        unfold rowsD
        rw [List.map_map]
        rfl
      have lr : (rowsD ls).length = ls.length := by unfold rowsD; rw [List.length_map, List.length_map]
      simp only [WPS, reduceIte, Wp.rn run, w_fdiv (show (0 : Int) < 2 by decide) (by decide), lr, w_lst (show ([_, _, _] : List D).length ≤ 1000000 from Nat.le_of_ble_eq_true rfl)]
      refine w_for (fun k t g => Well g ([] : AH).length (799999 - k)) w5 (fun k x t g hx w6 => ?_) fun t g w6 => ?_
      · have hk := getElem?_lt hx
        have hk : k < 3 := hk
        have pick : ∃ j : Nat, x = .int j ∧ j ≤ ls.length := by
          have hx := List.mem_of_getElem? hx
          simp only [List.mem_cons, List.not_mem_nil, or_false] at hx
          rcases hx with rfl | rfl | rfl
          · exact ⟨0, rfl, Nat.zero_le _⟩
          · exact ⟨ls.length / 2, by congr 1, by omega⟩
          · exact ⟨ls.length, rfl, Nat.le_refl _⟩
        obtain ⟨j, rfl, hj⟩ := pick
        exact through_w (m := 799999 - (k + 1)) lp gp wp a1 ga b1 bc gc (by omega) hl hj (w6.less (by omega)) fun t h' w => w
      · rw [oK_nx]
        simp only [WPS, reduceIte]
  obtain ⟨a, h', e, rfl⟩ := goal.get
  exact ⟨h', e⟩
end Lw
/-! each def does what the plain reading says (printed by gen.py) -/
namespace Lw
open PySem L2
def top (i : Nat) : Stmt := PySem.Challenge.pw_lentwork_k35_books_read.main.body.getD i (.Pass ⟨0, 0, 0, 0⟩)
abbrev s_law_well : Stmt := top 29
theorem sc_law_well : FnScope ["_law_script", "_law_k", "_law_cell"] ["_law_script", "_law_k"] (defScope s_law_well) := ⟨rfl, rfl, rfl, by decide +kernel, rfl, by decide +kernel, by decide +kernel⟩
abbrev s_law_draw : Stmt := top 30
theorem sc_law_draw : FnScope ["_law_well_here", "_law_most", "_law_number"] ["_law_well_here", "_law_most"] (defScope s_law_draw) := ⟨rfl, rfl, rfl, by decide +kernel, rfl, by decide +kernel, by decide +kernel⟩
abbrev s_law_free_work : Stmt := top 32
theorem sc_law_free_work : FnScope ["_law_well_here", "_law_far_here", "_law_at", "_law_found", "_law_k", "_law_high"] ["_law_well_here"] (defScope s_law_free_work) := ⟨rfl, rfl, rfl, by decide +kernel, rfl, by decide +kernel, by decide +kernel⟩
abbrev s_law_free_limits : Stmt := top 33
theorem sc_law_free_limits : FnScope ["_law_well_here", "_law_every", "_law_span"] ["_law_well_here"] (defScope s_law_free_limits) := ⟨rfl, rfl, rfl, by decide +kernel, rfl, by decide +kernel, by decide +kernel⟩
abbrev s_law_far : Stmt := top 31
theorem sc_law_far : FnScope ["_law_well_here", "_law_far_here", "_law_some"] ["_law_well_here"] (defScope s_law_far) := ⟨rfl, rfl, rfl, by decide +kernel, rfl, by decide +kernel, by decide +kernel⟩
abbrev s_law_any_word : Stmt := top 34
theorem sc_law_any_word : FnScope ["_law_well_here", "_law_signs", "_law_k"] ["_law_well_here"] (defScope s_law_any_word) := ⟨rfl, rfl, rfl, by decide +kernel, rfl, by decide +kernel, by decide +kernel⟩
abbrev s_law_free_line : Stmt := top 35
theorem sc_law_free_line : FnScope ["_law_well_here", "_law_way", "_law_one", "_law_other", "_law_odd", "_law_worker", "_law_many", "_law_k"] ["_law_well_here"] (defScope s_law_free_line) := ⟨rfl, rfl, rfl, by decide +kernel, rfl, by decide +kernel, by decide +kernel⟩
abbrev s_law_row : Stmt := top 36
theorem sc_law_row : FnScope ["_law_parts", "_law_part"] ["_law_parts"] (defScope s_law_row) := ⟨rfl, rfl, rfl, by decide +kernel, rfl, by decide +kernel, by decide +kernel⟩
abbrev s_law_line_text : Stmt := top 38
theorem sc_law_line_text : FnScope ["_law_line"] ["_law_line"] (defScope s_law_line_text) := ⟨rfl, rfl, rfl, by decide +kernel, rfl, by decide +kernel, by decide +kernel⟩
abbrev s_row_of : Stmt := top 16
theorem sc_row_of : FnScope ["parts", "part"] ["parts"] (defScope s_row_of) := ⟨rfl, rfl, rfl, by decide +kernel, rfl, by decide +kernel, by decide +kernel⟩
abbrev s_head_text : Stmt := top 17
theorem sc_head_text : FnScope ["work", "span", "every", "least", "found", "low", "high"] ["work", "span", "every", "least"] (defScope s_head_text) := ⟨rfl, rfl, rfl, by decide +kernel, rfl, by decide +kernel, by decide +kernel⟩
abbrev s_law_head : Stmt := top 37
theorem sc_law_head : FnScope ["_law_work", "_law_limits", "_law_parts", "_law_low", "_law_high"] ["_law_work", "_law_limits"] (defScope s_law_head) := ⟨rfl, rfl, rfl, by decide +kernel, rfl, by decide +kernel, by decide +kernel⟩
abbrev s_need : Stmt := top 19
theorem sc_need : FnScope ["good"] ["good"] (defScope s_need) := ⟨rfl, rfl, rfl, by decide +kernel, rfl, by decide +kernel, by decide +kernel⟩
abbrev s_whole_rows : Stmt := top 26
theorem sc_whole_rows : FnScope ["text", "rows"] ["text"] (defScope s_whole_rows) := ⟨rfl, rfl, rfl, by decide +kernel, rfl, by decide +kernel, by decide +kernel⟩
abbrev s_words_in : Stmt := top 23
theorem sc_words_in : FnScope ["row", "words"] ["row"] (defScope s_words_in) := ⟨rfl, rfl, rfl, by decide +kernel, rfl, by decide +kernel, by decide +kernel⟩
abbrev s_is_number : Stmt := top 20
theorem sc_is_number : FnScope ["word", "figures", "sign"] ["word"] (defScope s_is_number) := ⟨rfl, rfl, rfl, by decide +kernel, rfl, by decide +kernel, by decide +kernel⟩
abbrev s_number_in : Stmt := top 21
theorem sc_number_in : FnScope ["word"] ["word"] (defScope s_number_in) := ⟨rfl, rfl, rfl, by decide +kernel, rfl, by decide +kernel, by decide +kernel⟩
abbrev s_numbers_in : Stmt := top 22
theorem sc_numbers_in : FnScope ["words", "word"] ["words"] (defScope s_numbers_in) := ⟨rfl, rfl, rfl, by decide +kernel, rfl, by decide +kernel, by decide +kernel⟩
abbrev s_head_in : Stmt := top 24
theorem sc_head_in : FnScope ["row", "words", "places", "work", "k"] ["row"] (defScope s_head_in) := ⟨rfl, rfl, rfl, by decide +kernel, rfl, by decide +kernel, by decide +kernel⟩
abbrev s_is_whole : Stmt := top 6
theorem sc_is_whole : FnScope ["thing"] ["thing"] (defScope s_is_whole) := ⟨rfl, rfl, rfl, by decide +kernel, rfl, by decide +kernel, by decide +kernel⟩
abbrev s_is_stretch : Stmt := top 7
theorem sc_is_stretch : FnScope ["thing"] ["thing"] (defScope s_is_stretch) := ⟨rfl, rfl, rfl, by decide +kernel, rfl, by decide +kernel, by decide +kernel⟩
abbrev s_check_work : Stmt := top 8
theorem sc_check_work : FnScope ["work", "one", "other"] ["work"] (defScope s_check_work) := ⟨rfl, rfl, rfl, by decide +kernel, rfl, by decide +kernel, by decide +kernel⟩
abbrev s_check_bounds : Stmt := top 10
theorem sc_check_bounds : FnScope ["span", "every", "least", "bound"] ["span", "every", "least"] (defScope s_check_bounds) := ⟨rfl, rfl, rfl, by decide +kernel, rfl, by decide +kernel, by decide +kernel⟩
abbrev s_line_in : Stmt := top 25
theorem sc_line_in : FnScope ["row", "words", "numbers"] ["row"] (defScope s_line_in) := ⟨rfl, rfl, rfl, by decide +kernel, rfl, by decide +kernel, by decide +kernel⟩
abbrev s_read_text : Stmt := top 27
theorem sc_read_text : FnScope ["text", "rows", "work", "span", "every", "least", "lines", "row"] ["text"] (defScope s_read_text) := ⟨rfl, rfl, rfl, by decide +kernel, rfl, by decide +kernel, by decide +kernel⟩
abbrev s_law_whole_through : Stmt := top 39
theorem sc_law_whole_through : FnScope ["_law_thing", "_law_part"] ["_law_thing"] (defScope s_law_whole_through) := ⟨rfl, rfl, rfl, by decide +kernel, rfl, by decide +kernel, by decide +kernel⟩
abbrev s_line_text : Stmt := top 18
theorem sc_line_text : FnScope ["line"] ["line"] (defScope s_line_text) := ⟨rfl, rfl, rfl, by decide +kernel, rfl, by decide +kernel, by decide +kernel⟩
abbrev s_law : Stmt := top 40
theorem sc_law : FnScope ["_law_script", "_law_well_here", "_law_work", "_law_limits", "_law_lines", "_law_rows", "_law_k", "_law_text", "_law_row_here", "_law_rest", "_law_found", "_law_again", "_law_line"] ["_law_script"] (defScope s_law) := ⟨rfl, rfl, rfl, by decide +kernel, rfl, by decide +kernel, by decide +kernel⟩
structure Tx (w : World) (K : Fg) (mg : Str → Option Value) : Prop where
  no_len : mg "len" = none
  no_int : mg "int" = none
  no_range : mg "range" = none
  no_tuple : mg "tuple" = none
  no_str : mg "str" = none
  no_isinstance : mg "isinstance" = none
  no_all : mg "all" = none
  no_zip : mg "zip" = none
  no_bool : mg "bool" = none
  g_MOST_FIGURES : GvF K mg "MOST_FIGURES" (.int 18)
  g_FIGURES : GvF K mg "FIGURES" (.str "0123456789")
  g_BOUNDS : GvF K mg "BOUNDS" (.tup [.str "span", .str "every", .str "least"])
  k_COUNTS : KdF w K mg "COUNTS" kd_COUNTS
  x_NoText : ∃ C, ClF K mg "NoText" C
  x_BadWork : ∃ C, ClF K mg "BadWork" C
  x_BadBound : ∃ C, ClF K mg "BadBound" C
  d_law_well : Dfn K mg "_law_well" "_law_well" s_law_well ["_law_script", "_law_k"]
  d_law_draw : Dfn K mg "_law_draw" "_law_draw" s_law_draw ["_law_well_here", "_law_most"]
  d_law_free_work : Dfn K mg "_law_free_work" "_law_free_work" s_law_free_work ["_law_well_here"]
  d_law_free_limits : Dfn K mg "_law_free_limits" "_law_free_limits" s_law_free_limits ["_law_well_here"]
  d_law_far : Dfn K mg "_law_far" "_law_far" s_law_far ["_law_well_here"]
  d_law_any_word : Dfn K mg "_law_any_word" "_law_any_word" s_law_any_word ["_law_well_here"]
  d_law_free_line : Dfn K mg "_law_free_line" "_law_free_line" s_law_free_line ["_law_well_here"]
  d_law_row : Dfn K mg "_law_row" "_law_row" s_law_row ["_law_parts"]
  d_law_line_text : Dfn K mg "_law_line_text" "_law_line_text" s_law_line_text ["_law_line"]
  d_row_of : Dfn K mg "row_of" "row_of" s_row_of ["parts"]
  d_head_text : Dfn K mg "head_text" "head_text" s_head_text ["work", "span", "every", "least"]
  d_law_head : Dfn K mg "_law_head" "_law_head" s_law_head ["_law_work", "_law_limits"]
  d_need : Dfn K mg "need" "need" s_need ["good"]
  d_whole_rows : Dfn K mg "whole_rows" "whole_rows" s_whole_rows ["text"]
  d_words_in : Dfn K mg "words_in" "words_in" s_words_in ["row"]
  d_is_number : Dfn K mg "is_number" "is_number" s_is_number ["word"]
  d_number_in : Dfn K mg "number_in" "number_in" s_number_in ["word"]
  d_numbers_in : Dfn K mg "numbers_in" "numbers_in" s_numbers_in ["words"]
  d_head_in : Dfn K mg "head_in" "head_in" s_head_in ["row"]
  d_is_whole : Dfn K mg "is_whole" "is_whole" s_is_whole ["thing"]
  d_is_stretch : Dfn K mg "is_stretch" "is_stretch" s_is_stretch ["thing"]
  d_check_work : Dfn K mg "check_work" "check_work" s_check_work ["work"]
  d_check_bounds : Dfn K mg "check_bounds" "check_bounds" s_check_bounds ["span", "every", "least"]
  d_line_in : Dfn K mg "line_in" "line_in" s_line_in ["row"]
  d_read_text : Dfn K mg "read_text" "read_text" s_read_text ["text"]
  d_law_whole_through : Dfn K mg "_law_whole_through" "_law_whole_through" s_law_whole_through ["_law_thing"]
  d_line_text : Dfn K mg "line_text" "line_text" s_line_text ["line"]
  d_law : Dfn K mg "law" "law" s_law ["_law_script"]
theorem fo_law_well {P : Program} {w : World} {K : Fg} {mg : Str → Option Value} {base : Heap} (T : Tx w K mg) {f : Addr} {fd : FuncData} (F : Fun K "_law_well" "_law_well" s_law_well f fd) : FnOk P w K mg base (L2N.CX P w) 1 f fd ["_law_script", "_law_k"] (spD K mg 2 (app2 f_law_well)) := by
  refine fn2 (N := ["_law_script", "_law_k", "_law_cell"]) (mk := fun _ : Unit => [none, none, none]) (lp := fun e : Empty => e.elim) (mc := b_law_well) F sc_law_well rfl fun cdv A outer s H E hr script1 k2 => ?_
  unfold b_law_well
  exact (show DS _ _ _ [some script1, some k2, none] _ _ _ _ from (ds_set 2 sc_law_well.nd (fun cell3 => [some script1, some k2, some cell3]) de_int (EnvLe.noth rfl) (fun cell3 => (ds_if (mk' := fun t : D => [some script1, some k2, some t]) (dt_cmp op_lt (int2_ok fun _ _ _ _ _ => Rep.bl) (de_var 1) (de_len T.no_len (de_var 0)) (nomark _)) (ds_set 2 sc_law_well.nd (fun cell9 => [some script1, some k2, some cell9]) (de_ix (de_var 0) (de_var 1)) (EnvLe.noth rfl) (fun cell9 => (ds_nil (t := cell9) (EnvLe.refl _)))) (ds_nil (t := cell3) (EnvLe.refl _)) (EnvLe.noth rfl) (fun s12 => (show DS _ _ _ [some script1, some k2, some s12] _ _ _ _ from (ds_ret (de_lstH (da_cons (de_add (de_mod (de_var 2) de_int) (de_mul de_int (de_var 1))) (da_two (de_ix (de_lst (da_two de_int (de_var 2))) (de_intf T.no_int (de_ge (de_var 2) (de_pow de_int de_int)))) de_int))) (EnvLe.noth rfl))))))))
theorem ok_law_well {P : Program} {w : World} {K : Fg} {mg : Str → Option Value} {base : Heap} (T : Tx w K mg) : Cal P w K mg base "_law_well" 1 2 (app2 f_law_well) := Dfn.cal T.d_law_well fun _ _ F => fo_law_well T F
theorem fo_law_draw {P : Program} {w : World} {K : Fg} {mg : Str → Option Value} {base : Heap} (T : Tx w K mg) {f : Addr} {fd : FuncData} (F : Fun K "_law_draw" "_law_draw" s_law_draw f fd) : FnOk P w K mg base (L2N.CX P w) 1 f fd ["_law_well_here", "_law_most"] (spD K mg 2 (app2 f_law_draw)) := by
  refine fn2 (N := ["_law_well_here", "_law_most", "_law_number"]) (mk := fun _ : Unit => [none, none, none]) (lp := fun e : Empty => e.elim) (mc := b_law_draw) F sc_law_draw rfl fun cdv A outer s H E hr well_here35 most36 => ?_
  unfold b_law_draw
  exact (show DS _ _ _ [some well_here35, some most36, none] _ _ _ _ from (ds_ifr (fun e : Empty => e.elim) (dt_cmp op_gt gt_ok (de_ix (de_var 0) de_int) de_int (nomark _)) (ds_set 2 sc_law_draw.nd (fun number43 => [some well_here35, some most36, some number43]) (de_mod (de_ix (de_var 0) de_int) (de_var 1)) (EnvLe.noth rfl) (fun number43 => (ds_setix (de_fdiv (de_ix (de_var 0) de_int) (de_var 1)) (de_var 0) de_int (EnvLe.noth rfl) (ds_ret (de_var 2) (EnvLe.noth rfl))))) (EnvLe.noth rfl) (ds_setix (de_add (de_ix (de_var 0) de_int) de_int) (de_var 0) de_int (EnvLe.noth rfl) (ds_set 2 sc_law_draw.nd (fun number63 => [some well_here35, some most36, some number63]) (de_mod (de_mul (de_add (de_add (de_ix (de_var 0) de_int) (de_mul de_int (de_ix (de_var 0) de_int))) de_int) de_int) de_int) (EnvLe.noth rfl) (fun number63 => (ds_set 2 sc_law_draw.nd (fun number78 => [some well_here35, some most36, some number78]) (de_mod (de_mul (de_var 2) (de_add (de_fdiv (de_var 2) de_int) de_int)) de_int) (EnvLe.noth rfl) (fun number78 => (ds_ret (de_mod (de_mod (de_mul (de_var 2) (de_add (de_fdiv (de_var 2) de_int) de_int)) de_int) (de_var 1)) (EnvLe.noth rfl))))))) rfl))
theorem ok_law_draw {P : Program} {w : World} {K : Fg} {mg : Str → Option Value} {base : Heap} (T : Tx w K mg) : Cal P w K mg base "_law_draw" 1 2 (app2 f_law_draw) := Dfn.cal T.d_law_draw fun _ _ F => fo_law_draw T F
theorem fo_law_free_work {P : Program} {w : World} {K : Fg} {mg : Str → Option Value} {base : Heap} (T : Tx w K mg) (c_law_draw : Cal P w K mg base "_law_draw" 1 2 (app2 f_law_draw)) {f : Addr} {fd : FuncData} (F : Fun K "_law_free_work" "_law_free_work" s_law_free_work f fd) : FnOk P w K mg base (L2N.CX P w) 2 f fd ["_law_well_here"] (spD K mg 1 (app1 f_law_free_work)) := by
  refine fn1 (N := ["_law_well_here", "_law_far_here", "_law_at", "_law_found", "_law_k", "_law_high"]) (mk := fun _ : Unit => [none, none, none, none, none, none]) (lp := fun e : Empty => e.elim) (mc := b_law_free_work) F sc_law_free_work rfl fun cdv A outer s H E hr well_here98 => ?_
  unfold b_law_free_work l_law_free_work_1
  exact (show DS _ _ _ [some well_here98, none, none, none, none, none] _ _ _ _ from (ds_set 1 sc_law_free_work.nd (fun far_here99 => [some well_here98, some far_here99, none, none, none, none]) (de_sub (de_sub de_int (de_pow de_int de_int)) (de_c2 c_law_draw (hr.mono (by decide)) (L2N.takes_of rfl rfl rfl rfl) (de_var 0) (de_pow de_int de_int))) (EnvLe.noth rfl) (fun far_here99 => (ds_set 2 sc_law_free_work.nd (fun at110 => [some well_here98, some far_here99, some at110, none, none, none]) (de_ix (de_lst (da_cons (de_sub (de_c2 c_law_draw (hr.mono (by decide)) (L2N.takes_of rfl rfl rfl rfl) (de_var 0) de_int) de_int) (da_two (de_var 1) (de_c2 c_law_draw (hr.mono (by decide)) (L2N.takes_of rfl rfl rfl rfl) (de_var 0) (de_pow de_int de_int))))) (de_c2 c_law_draw (hr.mono (by decide)) (L2N.takes_of rfl rfl rfl rfl) (de_var 0) de_int)) (EnvLe.noth rfl) (fun at110 => (ds_set 3 sc_law_free_work.nd (fun found128 => [some well_here98, some far_here99, some at110, some found128, none, none]) (de_lstH da_nil) (EnvLe.noth rfl) (fun found128 => (ds_for (mkL := fun t : D => [some well_here98, some far_here99, some t, some found128, none, none]) (t0 := at110) (passes_of rfl) rfl (di_range1 T.no_range (de_c2 c_law_draw (hr.mono (by decide)) (L2N.takes_of rfl rfl rfl rfl) (de_var 0) de_int)) (dg_name 4 sc_law_free_work.nd) (EnvLe.refl _) (EnvLe.noth rfl) (fun p137 t130 => (show DS _ _ _ [some well_here98, some far_here99, some t130, some found128, some p137, none] _ _ _ _ from (ds_set 2 sc_law_free_work.nd (fun at138 => [some well_here98, some far_here99, some at138, some found128, some p137, none]) (de_add (de_var 2) (de_ix (de_lst (da_cons de_int (da_two (de_c2 c_law_draw (hr.mono (by decide)) (L2N.takes_of rfl rfl rfl rfl) (de_var 0) de_int) (de_c2 c_law_draw (hr.mono (by decide)) (L2N.takes_of rfl rfl rfl rfl) (de_var 0) (de_pow de_int de_int))))) (de_c2 c_law_draw (hr.mono (by decide)) (L2N.takes_of rfl rfl rfl rfl) (de_var 0) de_int))) (EnvLe.noth rfl) (fun at138 => (ds_set 5 sc_law_free_work.nd (fun high156 => [some well_here98, some far_here99, some at138, some found128, some p137, some high156]) (de_add (de_add (de_var 2) de_int) (de_ix (de_lst (da_two (de_c2 c_law_draw (hr.mono (by decide)) (L2N.takes_of rfl rfl rfl rfl) (de_var 0) de_int) (de_c2 c_law_draw (hr.mono (by decide)) (L2N.takes_of rfl rfl rfl rfl) (de_var 0) de_int))) (de_c2 c_law_draw (hr.mono (by decide)) (L2N.takes_of rfl rfl rfl rfl) (de_var 0) de_int))) (EnvLe.noth rfl) (fun high156 => (ds_expr (de_append (de_var 3) (de_tup (da_two (de_var 2) (de_var 5)))) (EnvLe.noth rfl) (ds_set 2 sc_law_free_work.nd (fun at177 => [some well_here98, some far_here99, some at177, some found128, some p137, some high156]) (de_var 5) (EnvLe.noth rfl) (fun at177 => (ds_nil (t := at177) (show EnvLe _ _ from (.keep (.keep (.keep (.keep (.drop (.drop .nil))))))))))))))))) (fun s131 => (show DS _ _ _ [some well_here98, some far_here99, some s131, some found128, none, none] _ _ _ _ from (ds_freeze 3 (fun found178 => [some well_here98, some far_here99, some s131, some found178, none, none]) (fun found178 => (ds_ret (de_tuple T.no_tuple (de_var 3)) (EnvLe.noth rfl))))))))))))))
theorem ok_law_free_work {P : Program} {w : World} {K : Fg} {mg : Str → Option Value} {base : Heap} (T : Tx w K mg) (c_law_draw : Cal P w K mg base "_law_draw" 1 2 (app2 f_law_draw)) : Cal P w K mg base "_law_free_work" 2 1 (app1 f_law_free_work) := Dfn.cal T.d_law_free_work fun _ _ F => fo_law_free_work T c_law_draw F
theorem fo_law_free_limits {P : Program} {w : World} {K : Fg} {mg : Str → Option Value} {base : Heap} (T : Tx w K mg) (c_law_draw : Cal P w K mg base "_law_draw" 1 2 (app2 f_law_draw)) {f : Addr} {fd : FuncData} (F : Fun K "_law_free_limits" "_law_free_limits" s_law_free_limits f fd) : FnOk P w K mg base (L2N.CX P w) 2 f fd ["_law_well_here"] (spD K mg 1 (app1 f_law_free_limits)) := by
  refine fn1 (N := ["_law_well_here", "_law_every", "_law_span"]) (mk := fun _ : Unit => [none, none, none]) (lp := fun e : Empty => e.elim) (mc := b_law_free_limits) F sc_law_free_limits rfl fun cdv A outer s H E hr well_here181 => ?_
  unfold b_law_free_limits
  exact (show DS _ _ _ [some well_here181, none, none] _ _ _ _ from (ds_set 1 sc_law_free_limits.nd (fun every182 => [some well_here181, some every182, none]) (de_add de_int (de_ix (de_lst (da_two (de_c2 c_law_draw (hr.mono (by decide)) (L2N.takes_of rfl rfl rfl rfl) (de_var 0) de_int) (de_c2 c_law_draw (hr.mono (by decide)) (L2N.takes_of rfl rfl rfl rfl) (de_var 0) (de_pow de_int de_int)))) (de_c2 c_law_draw (hr.mono (by decide)) (L2N.takes_of rfl rfl rfl rfl) (de_var 0) de_int))) (EnvLe.noth rfl) (fun every182 => (ds_set 2 sc_law_free_limits.nd (fun span198 => [some well_here181, some every182, some span198]) (de_add de_int (de_ix (de_lst (da_two (de_c2 c_law_draw (hr.mono (by decide)) (L2N.takes_of rfl rfl rfl rfl) (de_var 0) de_int) (de_c2 c_law_draw (hr.mono (by decide)) (L2N.takes_of rfl rfl rfl rfl) (de_var 0) (de_pow de_int de_int)))) (de_c2 c_law_draw (hr.mono (by decide)) (L2N.takes_of rfl rfl rfl rfl) (de_var 0) de_int))) (EnvLe.noth rfl) (fun span198 => (ds_ret (de_tup (da_cons (de_var 2) (da_two (de_var 1) (de_add (de_var 1) (de_ix (de_lst (da_cons de_int (da_two (de_c2 c_law_draw (hr.mono (by decide)) (L2N.takes_of rfl rfl rfl rfl) (de_var 0) de_int) (de_c2 c_law_draw (hr.mono (by decide)) (L2N.takes_of rfl rfl rfl rfl) (de_var 0) (de_pow de_int de_int))))) (de_c2 c_law_draw (hr.mono (by decide)) (L2N.takes_of rfl rfl rfl rfl) (de_var 0) de_int)))))) (EnvLe.noth rfl)))))))
theorem ok_law_free_limits {P : Program} {w : World} {K : Fg} {mg : Str → Option Value} {base : Heap} (T : Tx w K mg) (c_law_draw : Cal P w K mg base "_law_draw" 1 2 (app2 f_law_draw)) : Cal P w K mg base "_law_free_limits" 2 1 (app1 f_law_free_limits) := Dfn.cal T.d_law_free_limits fun _ _ F => fo_law_free_limits T c_law_draw F
theorem fo_law_far {P : Program} {w : World} {K : Fg} {mg : Str → Option Value} {base : Heap} (T : Tx w K mg) (c_law_draw : Cal P w K mg base "_law_draw" 1 2 (app2 f_law_draw)) {f : Addr} {fd : FuncData} (F : Fun K "_law_far" "_law_far" s_law_far f fd) : FnOk P w K mg base (L2N.CX P w) 2 f fd ["_law_well_here"] (spD K mg 1 (app1 f_law_far)) := by
  refine fn1 (N := ["_law_well_here", "_law_far_here", "_law_some"]) (mk := fun _ : Unit => [none, none, none]) (lp := fun e : Empty => e.elim) (mc := b_law_far) F sc_law_far rfl fun cdv A outer s H E hr well_here237 => ?_
  unfold b_law_far
  exact (show DS _ _ _ [some well_here237, none, none] _ _ _ _ from (ds_set 1 sc_law_far.nd (fun far_here238 => [some well_here237, some far_here238, none]) (de_add (de_mul (de_c2 c_law_draw (hr.mono (by decide)) (L2N.takes_of rfl rfl rfl rfl) (de_var 0) (de_pow de_int de_int)) (de_pow de_int de_int)) (de_c2 c_law_draw (hr.mono (by decide)) (L2N.takes_of rfl rfl rfl rfl) (de_var 0) (de_pow de_int de_int))) (EnvLe.noth rfl) (fun far_here238 => (ds_set 2 sc_law_far.nd (fun some253 => [some well_here237, some far_here238, some some253]) (de_lst (da_cons (de_c2 c_law_draw (hr.mono (by decide)) (L2N.takes_of rfl rfl rfl rfl) (de_var 0) de_int) (da_cons (de_sub (de_c2 c_law_draw (hr.mono (by decide)) (L2N.takes_of rfl rfl rfl rfl) (de_var 0) de_int) de_int) (da_cons (de_var 1) (da_cons (de_sub de_int (de_var 1)) (da_two (de_sub (de_pow de_int de_int) de_int) (de_sub de_int (de_pow de_int de_int)))))))) (EnvLe.noth rfl) (fun some253 => (ds_ret (de_ix (de_var 2) (de_c2 c_law_draw (hr.mono (by decide)) (L2N.takes_of rfl rfl rfl rfl) (de_var 0) de_int)) (EnvLe.noth rfl)))))))
theorem ok_law_far {P : Program} {w : World} {K : Fg} {mg : Str → Option Value} {base : Heap} (T : Tx w K mg) (c_law_draw : Cal P w K mg base "_law_draw" 1 2 (app2 f_law_draw)) : Cal P w K mg base "_law_far" 2 1 (app1 f_law_far) := Dfn.cal T.d_law_far fun _ _ F => fo_law_far T c_law_draw F
theorem fo_law_any_word {P : Program} {w : World} {K : Fg} {mg : Str → Option Value} {base : Heap} (T : Tx w K mg) (c_law_draw : Cal P w K mg base "_law_draw" 1 2 (app2 f_law_draw)) {f : Addr} {fd : FuncData} (F : Fun K "_law_any_word" "_law_any_word" s_law_any_word f fd) : FnOk P w K mg base (L2N.CX P w) 2 f fd ["_law_well_here"] (spD K mg 1 (app1 f_law_any_word)) := by
  refine fn1 (N := ["_law_well_here", "_law_signs", "_law_k"]) (mk := fun _ : Unit => [none, none, none]) (lp := fun e : Empty => e.elim) (mc := b_law_any_word) F sc_law_any_word rfl fun cdv A outer s H E hr well_here286 => ?_
  unfold b_law_any_word c_law_any_word_1
  exact (show DS _ _ _ [some well_here286, none, none] _ _ _ _ from (ds_set 1 sc_law_any_word.nd (fun signs287 => [some well_here286, some signs287, none]) de_str (EnvLe.noth rfl) (fun signs287 => (ds_ret (de_join de_str (de_lc (own := [("_law_k", 2)]) rfl sc_law_any_word.nd (di_range1 T.no_range (de_add de_int (de_c2 c_law_draw (hr.mono (by decide)) (L2N.takes_of rfl rfl rfl rfl) (de_var 0) de_int))) (blkOk_by (by show blkC [("_law_well_here" : Str), ("_law_signs" : Str), ("_law_k" : Str)] (defScope s_law_any_word) _ _ = true; decide +kernel)) (by decide) (fun _ _ _ _ _ => (dg_name 2 sc_law_any_word.nd)) (fun _ _ _ _ _ p295 => (show PTs _ _ (TC _ _ W0 RB [some well_here286, some signs287, some p295] _) from dts_nil)) (fun _ _ _ _ _ p295 => (show DE _ W0 [some well_here286, some signs287, some p295] _ _ from (de_ix (de_var 1) (de_c2 c_law_draw (hr.mono (by decide)) takes0N (de_var 0) de_int)))))) (EnvLe.noth rfl)))))
theorem ok_law_any_word {P : Program} {w : World} {K : Fg} {mg : Str → Option Value} {base : Heap} (T : Tx w K mg) (c_law_draw : Cal P w K mg base "_law_draw" 1 2 (app2 f_law_draw)) : Cal P w K mg base "_law_any_word" 2 1 (app1 f_law_any_word) := Dfn.cal T.d_law_any_word fun _ _ F => fo_law_any_word T c_law_draw F
theorem fo_law_free_line {P : Program} {w : World} {K : Fg} {mg : Str → Option Value} {base : Heap} (T : Tx w K mg) (c_law_draw : Cal P w K mg base "_law_draw" 1 2 (app2 f_law_draw)) (c_law_far : Cal P w K mg base "_law_far" 2 1 (app1 f_law_far)) (c_law_any_word : Cal P w K mg base "_law_any_word" 2 1 (app1 f_law_any_word)) {f : Addr} {fd : FuncData} (F : Fun K "_law_free_line" "_law_free_line" s_law_free_line f fd) : FnOk P w K mg base (L2N.CX P w) 3 f fd ["_law_well_here"] (spD K mg 1 (app1 f_law_free_line)) := by
  refine fn1 (N := ["_law_well_here", "_law_way", "_law_one", "_law_other", "_law_odd", "_law_worker", "_law_many", "_law_k"]) (mk := fun _ : Unit => [none, none, none, none, none, none, none, none]) (lp := fun e : Empty => e.elim) (mc := b_law_free_line) F sc_law_free_line rfl fun cdv A outer s H E hr well_here305 => ?_
  unfold b_law_free_line c_law_free_line_1
  exact (show DS _ _ _ [some well_here305, none, none, none, none, none, none, none] _ _ _ _ from (ds_set 1 sc_law_free_line.nd (fun way306 => [some well_here305, some way306, none, none, none, none, none, none]) (de_c2 c_law_draw (hr.mono (by decide)) (L2N.takes_of rfl rfl rfl rfl) (de_var 0) de_int) (EnvLe.noth rfl) (fun way306 => (ds_set 2 sc_law_free_line.nd (fun one309 => [some well_here305, some way306, some one309, none, none, none, none, none]) (de_c1 c_law_far (hr.mono (by decide)) (L2N.takes_of rfl rfl rfl rfl) (de_var 0)) (EnvLe.noth rfl) (fun one309 => (ds_set 3 sc_law_free_line.nd (fun other311 => [some well_here305, some way306, some one309, some other311, none, none, none, none]) (de_c1 c_law_far (hr.mono (by decide)) (L2N.takes_of rfl rfl rfl rfl) (de_var 0)) (EnvLe.noth rfl) (fun other311 => (ds_ifr (fun e : Empty => e.elim) (dt_cmp (op_eqX (hu64 hr)) eq_ok (de_var 1) de_int (nomark _)) (ds_set 4 sc_law_free_line.nd (fun odd317 => [some well_here305, some way306, some one309, some other311, some odd317, none, none, none]) (de_ix (de_lst (da_two de_str de_str)) (de_c2 c_law_draw (hr.mono (by decide)) (L2N.takes_of rfl rfl rfl rfl) (de_var 0) de_int)) (EnvLe.noth rfl) (fun odd317 => (ds_set 5 sc_law_free_line.nd (fun worker325 => [some well_here305, some way306, some one309, some other311, some odd317, some worker325, none, none]) (de_ix (de_lst (da_cons (de_c1 c_law_any_word (hr.mono (by decide)) (L2N.takes_of rfl rfl rfl rfl) (de_var 0)) (da_cons (de_c1 c_law_any_word (hr.mono (by decide)) (L2N.takes_of rfl rfl rfl rfl) (de_var 0)) (da_two de_str (de_var 4))))) (de_c2 c_law_draw (hr.mono (by decide)) (L2N.takes_of rfl rfl rfl rfl) (de_var 0) de_int)) (EnvLe.noth rfl) (fun worker325 => (ds_ret (de_tup (da_cons de_str (da_cons (de_var 2) (da_cons (de_var 5) (da_two (de_var 3) (de_c1 c_law_far (hr.mono (by decide)) (L2N.takes_of rfl rfl rfl rfl) (de_var 0))))))) (EnvLe.noth rfl)))))) (EnvLe.noth rfl) (ds_ifr (fun e : Empty => e.elim) (dt_cmp op_lt (int2_ok fun _ _ _ _ _ => Rep.bl) (de_var 1) de_int (nomark _)) (ds_set 6 sc_law_free_line.nd (fun many354 => [some well_here305, some way306, some one309, some other311, none, none, some many354, none]) (de_ix (de_lst (da_cons de_int (da_two (de_c2 c_law_draw (hr.mono (by decide)) (L2N.takes_of rfl rfl rfl rfl) (de_var 0) de_int) (de_c2 c_law_draw (hr.mono (by decide)) (L2N.takes_of rfl rfl rfl rfl) (de_var 0) de_int)))) (de_c2 c_law_draw (hr.mono (by decide)) (L2N.takes_of rfl rfl rfl rfl) (de_var 0) de_int)) (EnvLe.noth rfl) (fun many354 => (ds_ret (de_tup (da_cons de_str (da_cons (de_var 2) (da_cons (de_var 3) (da_two (de_c1 c_law_far (hr.mono (by decide)) (L2N.takes_of rfl rfl rfl rfl) (de_var 0)) (de_tuple T.no_tuple (de_lc (own := [("_law_k", 7)]) rfl sc_law_free_line.nd (di_range1 T.no_range (de_var 6)) (blkOk_by (by show blkC [("_law_well_here" : Str), ("_law_way" : Str), ("_law_one" : Str), ("_law_other" : Str), ("_law_odd" : Str), ("_law_worker" : Str), ("_law_many" : Str), ("_law_k" : Str)] (defScope s_law_free_line) _ _ = true; decide +kernel)) (by decide) (fun _ _ _ _ _ => (dg_name 7 sc_law_free_line.nd)) (fun _ _ _ _ _ p372 => (show PTs _ _ (TC _ _ W0 RB [some well_here305, some way306, some one309, some other311, none, none, some many354, some p372] _) from dts_nil)) (fun _ _ _ _ _ p372 => (show DE _ W0 [some well_here305, some way306, some one309, some other311, none, none, some many354, some p372] _ _ from (de_c1 c_law_far (hr.mono (by decide)) takes0N (de_var 0))))))))))) (EnvLe.noth rfl)))) (EnvLe.noth rfl) (ds_ifr (fun e : Empty => e.elim) (dt_cmp (op_eqX (hu64 hr)) eq_ok (de_var 1) de_int (nomark _)) (ds_ret (de_tup (da_cons de_str (da_two (de_var 2) (de_var 3)))) (EnvLe.noth rfl)) (EnvLe.noth rfl) (ds_ifr (fun e : Empty => e.elim) (dt_cmp (op_eqX (hu64 hr)) eq_ok (de_var 1) de_int (nomark _)) (ds_ret (de_tup (da_cons de_str (da_two (de_var 2) (de_var 3)))) (EnvLe.noth rfl)) (EnvLe.noth rfl) (ds_ret (de_tup (da_two de_str (de_var 2))) (EnvLe.noth rfl)) rfl) rfl) rfl) rfl))))))))
theorem ok_law_free_line {P : Program} {w : World} {K : Fg} {mg : Str → Option Value} {base : Heap} (T : Tx w K mg) (c_law_draw : Cal P w K mg base "_law_draw" 1 2 (app2 f_law_draw)) (c_law_far : Cal P w K mg base "_law_far" 2 1 (app1 f_law_far)) (c_law_any_word : Cal P w K mg base "_law_any_word" 2 1 (app1 f_law_any_word)) : Cal P w K mg base "_law_free_line" 3 1 (app1 f_law_free_line) := Dfn.cal T.d_law_free_line fun _ _ F => fo_law_free_line T c_law_draw c_law_far c_law_any_word F
theorem fo_law_row {P : Program} {w : World} {K : Fg} {mg : Str → Option Value} {base : Heap} (T : Tx w K mg) {f : Addr} {fd : FuncData} (F : Fun K "_law_row" "_law_row" s_law_row f fd) : FnOk P w K mg base (L2N.CX P w) 1 f fd ["_law_parts"] (spD K mg 1 (app1 f_law_row)) := by
  refine fn1 (N := ["_law_parts", "_law_part"]) (mk := fun _ : Unit => [none, none]) (lp := fun e : Empty => e.elim) (mc := b_law_row) F sc_law_row rfl fun cdv A outer s H E hr parts411 => ?_
  unfold b_law_row c_law_row_1
  exact (show DS _ _ _ [some parts411, none] _ _ _ _ from (ds_ret (de_add (de_join de_str (de_lc (own := [("_law_part", 1)]) rfl sc_law_row.nd (di_seq (de_var 0)) (blkOk_by (by show blkC [("_law_parts" : Str), ("_law_part" : Str)] (defScope s_law_row) _ _ = true; decide +kernel)) (by decide) (fun _ _ _ _ _ => (dg_name 1 sc_law_row.nd)) (fun _ _ _ _ _ p415 => (show PTs _ _ (TC _ _ W0 RB [some parts411, some p415] _) from dts_nil)) (fun _ _ _ _ _ p415 => (show DE _ W0 [some parts411, some p415] _ _ from (de_strf T.no_str (de_var 1)))))) de_str) (EnvLe.noth rfl)))
theorem ok_law_row {P : Program} {w : World} {K : Fg} {mg : Str → Option Value} {base : Heap} (T : Tx w K mg) : Cal P w K mg base "_law_row" 1 1 (app1 f_law_row) := Dfn.cal T.d_law_row fun _ _ F => fo_law_row T F
theorem fo_law_line_text {P : Program} {w : World} {K : Fg} {mg : Str → Option Value} {base : Heap} (T : Tx w K mg) (c_law_row : Cal P w K mg base "_law_row" 1 1 (app1 f_law_row)) {f : Addr} {fd : FuncData} (F : Fun K "_law_line_text" "_law_line_text" s_law_line_text f fd) : FnOk P w K mg base (L2N.CX P w) 2 f fd ["_law_line"] (spD K mg 1 (app1 f_law_line_text)) := by
  refine fn1 (N := ["_law_line"]) (mk := fun _ : Unit => [none]) (lp := fun e : Empty => e.elim) (mc := b_law_line_text) F sc_law_line_text rfl fun cdv A outer s H E hr line424 => ?_
  unfold b_law_line_text
  exact (show DS _ _ _ [some line424] _ _ _ _ from (ds_ifr (fun e : Empty => e.elim) (dt_cmp (op_eqX (hu64 hr)) eq_ok (de_ix (de_var 0) de_int) de_str (nomark _)) (ds_ret (de_p1 c_law_row (hr.mono (by decide)) (L2N.takes_of rfl rfl rfl rfl) (de_add (de_slice (de_var 0) do_none (do_some de_int)) (de_ix (de_var 0) de_int))) (EnvLe.noth rfl)) (EnvLe.noth rfl) (ds_ret (de_p1 c_law_row (hr.mono (by decide)) (L2N.takes_of rfl rfl rfl rfl) (de_var 0)) (EnvLe.noth rfl)) rfl))
theorem ok_law_line_text {P : Program} {w : World} {K : Fg} {mg : Str → Option Value} {base : Heap} (T : Tx w K mg) (c_law_row : Cal P w K mg base "_law_row" 1 1 (app1 f_law_row)) : Cal P w K mg base "_law_line_text" 2 1 (app1 f_law_line_text) := Dfn.cal T.d_law_line_text fun _ _ F => fo_law_line_text T c_law_row F
theorem fo_row_of {P : Program} {w : World} {K : Fg} {mg : Str → Option Value} {base : Heap} (T : Tx w K mg) {f : Addr} {fd : FuncData} (F : Fun K "row_of" "row_of" s_row_of f fd) : FnOk P w K mg base (L2N.CX P w) 1 f fd ["parts"] (spD K mg 1 (app1 f_row_of)) := by
  refine fn1 (N := ["parts", "part"]) (mk := fun _ : Unit => [none, none]) (lp := fun e : Empty => e.elim) (mc := b_row_of) F sc_row_of rfl fun cdv A outer s H E hr parts443 => ?_
  unfold b_row_of c_row_of_1
  exact (show DS _ _ _ [some parts443, none] _ _ _ _ from (ds_ret (de_add (de_join de_str (de_lc (own := [("part", 1)]) rfl sc_row_of.nd (di_seq (de_var 0)) (blkOk_by (by show blkC [("parts" : Str), ("part" : Str)] (defScope s_row_of) _ _ = true; decide +kernel)) (by decide) (fun _ _ _ _ _ => (dg_name 1 sc_row_of.nd)) (fun _ _ _ _ _ p447 => (show PTs _ _ (TC _ _ W0 RB [some parts443, some p447] _) from dts_nil)) (fun _ _ _ _ _ p447 => (show DE _ W0 [some parts443, some p447] _ _ from (de_strf T.no_str (de_var 1)))))) de_str) (EnvLe.noth rfl)))
theorem ok_row_of {P : Program} {w : World} {K : Fg} {mg : Str → Option Value} {base : Heap} (T : Tx w K mg) : Cal P w K mg base "row_of" 1 1 (app1 f_row_of) := Dfn.cal T.d_row_of fun _ _ F => fo_row_of T F
theorem fo_head_text {P : Program} {w : World} {K : Fg} {mg : Str → Option Value} {base : Heap} (T : Tx w K mg) (c_row_of : Cal P w K mg base "row_of" 1 1 (app1 f_row_of)) {f : Addr} {fd : FuncData} (F : Fun K "head_text" "head_text" s_head_text f fd) : FnOk P w K mg base (L2N.CX P w) 2 f fd ["work", "span", "every", "least"] (spD K mg 4 (app4 f_head_text)) := by
  refine fn4 (N := ["work", "span", "every", "least", "found", "low", "high"]) (mk := fun _ : Unit => [none, none, none, none, none, none, none]) (lp := fun e : Empty => e.elim) (mc := b_head_text) F sc_head_text rfl fun cdv A outer s H E hr work456 span457 every458 least459 => ?_
  unfold b_head_text l_head_text_1
  exact (show DS _ _ _ [some work456, some span457, some every458, some least459, none, none, none] _ _ _ _ from (ds_set 4 sc_head_text.nd (fun found460 => [some work456, some span457, some every458, some least459, some found460, none, none]) (de_lstH (da_one de_str)) (EnvLe.noth rfl) (fun found460 => (ds_for (mkL := fun t : Unit => [some work456, some span457, some every458, some least459, some found460, none, none]) (t0 := ()) (passes_of rfl) rfl (di_seq (de_var 0)) (dg_tup rfl (dgs_cons (dg_name 5 sc_head_text.nd) (dgs_cons (dg_name 6 sc_head_text.nd) dgs_nil)) (uCons_l (uCons_l uNil_l))) (EnvLe.refl _) (EnvLe.noth rfl) (fun p468 t463 => (show DS _ _ _ [some work456, some span457, some every458, some least459, some found460, some p468.1, some p468.2.1] _ _ _ _ from (ds_expr (de_extend (de_var 4) (de_lst (da_two (de_var 5) (de_var 6)))) (EnvLe.noth rfl) (ds_nil (t := ()) (show EnvLe _ _ from (.keep (.keep (.keep (.keep (.keep (.drop (.drop .nil)))))))))))) (fun s464 => (show DS _ _ _ [some work456, some span457, some every458, some least459, some found460, none, none] _ _ _ _ from (ds_freeze 4 (fun found474 => [some work456, some span457, some every458, some least459, some found474, none, none]) (fun found474 => (ds_ret (de_p1 c_row_of (hr.mono (by decide)) (L2N.takes_of rfl rfl rfl rfl) (de_add (de_var 4) (de_lst (da_cons de_str (da_cons (de_var 1) (da_cons de_str (da_cons (de_var 2) (da_two de_str (de_var 3))))))))) (EnvLe.noth rfl))))))))))
theorem ok_head_text {P : Program} {w : World} {K : Fg} {mg : Str → Option Value} {base : Heap} (T : Tx w K mg) (c_row_of : Cal P w K mg base "row_of" 1 1 (app1 f_row_of)) : Cal P w K mg base "head_text" 2 4 (app4 f_head_text) := Dfn.cal T.d_head_text fun _ _ F => fo_head_text T c_row_of F
theorem fo_law_head {P : Program} {w : World} {K : Fg} {mg : Str → Option Value} {base : Heap} (T : Tx w K mg) (c_law_row : Cal P w K mg base "_law_row" 1 1 (app1 f_law_row)) {f : Addr} {fd : FuncData} (F : Fun K "_law_head" "_law_head" s_law_head f fd) : FnOk P w K mg base (L2N.CX P w) 2 f fd ["_law_work", "_law_limits"] (spD K mg 2 (app2 f_law_head)) := by
  refine fn2 (N := ["_law_work", "_law_limits", "_law_parts", "_law_low", "_law_high"]) (mk := fun _ : Unit => [none, none, none, none, none]) (lp := fun e : Empty => e.elim) (mc := b_law_head) F sc_law_head rfl fun cdv A outer s H E hr work490 limits491 => ?_
  unfold b_law_head l_law_head_1
  exact (show DS _ _ _ [some work490, some limits491, none, none, none] _ _ _ _ from (ds_set 2 sc_law_head.nd (fun parts492 => [some work490, some limits491, some parts492, none, none]) (de_lst (da_one de_str)) (EnvLe.noth rfl) (fun parts492 => (ds_for (mkL := fun t : D => [some work490, some limits491, some t, none, none]) (t0 := parts492) (passes_of rfl) rfl (di_seq (de_var 0)) (dg_tup rfl (dgs_cons (dg_name 3 sc_law_head.nd) (dgs_cons (dg_name 4 sc_law_head.nd) dgs_nil)) (uCons_l (uCons_l uNil_l))) (EnvLe.refl _) (EnvLe.noth rfl) (fun p500 t495 => (show DS _ _ _ [some work490, some limits491, some t495, some p500.1, some p500.2.1] _ _ _ _ from (ds_set 2 sc_law_head.nd (fun parts501 => [some work490, some limits491, some parts501, some p500.1, some p500.2.1]) (de_add (de_var 2) (de_lst (da_two (de_var 3) (de_var 4)))) (EnvLe.noth rfl) (fun parts501 => (ds_nil (t := parts501) (show EnvLe _ _ from (.keep (.keep (.keep (.drop (.drop .nil))))))))))) (fun s496 => (show DS _ _ _ [some work490, some limits491, some s496, none, none] _ _ _ _ from (ds_ret (de_p1 c_law_row (hr.mono (by decide)) (L2N.takes_of rfl rfl rfl rfl) (de_add (de_var 2) (de_lst (da_cons de_str (da_cons (de_ix (de_var 1) de_int) (da_cons de_str (da_cons (de_ix (de_var 1) de_int) (da_two de_str (de_ix (de_var 1) de_int))))))))) (EnvLe.noth rfl))))))))
theorem ok_law_head {P : Program} {w : World} {K : Fg} {mg : Str → Option Value} {base : Heap} (T : Tx w K mg) (c_law_row : Cal P w K mg base "_law_row" 1 1 (app1 f_law_row)) : Cal P w K mg base "_law_head" 2 2 (app2 f_law_head) := Dfn.cal T.d_law_head fun _ _ F => fo_law_head T c_law_row F
theorem fo_need {P : Program} {w : World} {K : Fg} {mg : Str → Option Value} {base : Heap} (T : Tx w K mg) {f : Addr} {fd : FuncData} (F : Fun K "need" "need" s_need f fd) : FnOk P w K mg base (L2N.CX P w) 1 f fd ["good"] (spD K mg 1 (app1 f_need)) := by
  refine fn1 (N := ["good"]) (mk := fun _ : Unit => [none]) (lp := fun e : Empty => e.elim) (mc := b_need) F sc_need rfl fun cdv A outer s H E hr good528 => ?_
  unfold b_need
  exact (show DS _ _ _ [some good528] _ _ _ _ from (ds_ifr (fun e : Empty => e.elim) (dt_not (dt_tru (de_var 0))) (ds_raiseE T.x_NoText rfl (L2N.takes_of rfl rfl rfl rfl) (EnvLe.noth rfl)) (EnvLe.noth rfl) (ds_nil (t := ()) (show EnvLe _ _ from (.drop .nil))) rfl))
theorem ok_need {P : Program} {w : World} {K : Fg} {mg : Str → Option Value} {base : Heap} (T : Tx w K mg) : Cal P w K mg base "need" 1 1 (app1 f_need) := Dfn.cal T.d_need fun _ _ F => fo_need T F
theorem fo_whole_rows {P : Program} {w : World} {K : Fg} {mg : Str → Option Value} {base : Heap} (T : Tx w K mg) (c_need : Cal P w K mg base "need" 1 1 (app1 f_need)) {f : Addr} {fd : FuncData} (F : Fun K "whole_rows" "whole_rows" s_whole_rows f fd) : FnOk P w K mg base (L2N.CX P w) 2 f fd ["text"] (spD K mg 1 (app1 f_whole_rows)) := by
  refine fn1 (N := ["text", "rows"]) (mk := fun _ : Unit => [none, none]) (lp := fun e : Empty => e.elim) (mc := b_whole_rows) F sc_whole_rows rfl fun cdv A outer s H E hr text532 => ?_
  unfold b_whole_rows
  exact (show DS _ _ _ [some text532, none] _ _ _ _ from (ds_expr (de_p1 c_need (hr.mono (by decide)) (L2N.takes_of rfl rfl rfl rfl) (de_isi "str" T.no_isinstance T.no_str (by decide +kernel) (by decide +kernel) (de_var 0))) (EnvLe.noth rfl) (ds_set 1 sc_whole_rows.nd (fun rows535 => [some text532, some rows535]) (de_slice (de_split (de_var 0) de_str) do_none (do_some (de_neg de_int))) (EnvLe.noth rfl) (fun rows535 => (ds_expr (de_p1 c_need (hr.mono (by decide)) (L2N.takes_of rfl rfl rfl rfl) (de_ne (hu64 hr) (de_var 1) (de_lst da_nil))) (EnvLe.noth rfl) (ds_ret (de_var 1) (EnvLe.noth rfl)))))))
theorem ok_whole_rows {P : Program} {w : World} {K : Fg} {mg : Str → Option Value} {base : Heap} (T : Tx w K mg) (c_need : Cal P w K mg base "need" 1 1 (app1 f_need)) : Cal P w K mg base "whole_rows" 2 1 (app1 f_whole_rows) := Dfn.cal T.d_whole_rows fun _ _ F => fo_whole_rows T c_need F
theorem fo_words_in {P : Program} {w : World} {K : Fg} {mg : Str → Option Value} {base : Heap} (T : Tx w K mg) (c_need : Cal P w K mg base "need" 1 1 (app1 f_need)) {f : Addr} {fd : FuncData} (F : Fun K "words_in" "words_in" s_words_in f fd) : FnOk P w K mg base (L2N.CX P w) 2 f fd ["row"] (spD K mg 1 (app1 f_words_in)) := by
  refine fn1 (N := ["row", "words"]) (mk := fun _ : Unit => [none, none]) (lp := fun e : Empty => e.elim) (mc := b_words_in) F sc_words_in rfl fun cdv A outer s H E hr row548 => ?_
  unfold b_words_in
  exact (show DS _ _ _ [some row548, none] _ _ _ _ from (ds_set 1 sc_words_in.nd (fun words549 => [some row548, some words549]) (de_split (de_var 0) de_str) (EnvLe.noth rfl) (fun words549 => (ds_expr (de_p1 c_need (hr.mono (by decide)) (L2N.takes_of rfl rfl rfl rfl) (de_notin de_str (de_var 1))) (EnvLe.noth rfl) (ds_ret (de_var 1) (EnvLe.noth rfl))))))
theorem ok_words_in {P : Program} {w : World} {K : Fg} {mg : Str → Option Value} {base : Heap} (T : Tx w K mg) (c_need : Cal P w K mg base "need" 1 1 (app1 f_need)) : Cal P w K mg base "words_in" 2 1 (app1 f_words_in) := Dfn.cal T.d_words_in fun _ _ F => fo_words_in T c_need F
theorem fo_is_number {P : Program} {w : World} {K : Fg} {mg : Str → Option Value} {base : Heap} (T : Tx w K mg) {f : Addr} {fd : FuncData} (F : Fun K "is_number" "is_number" s_is_number f fd) : FnOk P w K mg base (L2N.CX P w) 1 f fd ["word"] (spD K mg 1 (app1 f_is_number)) := by
  refine fn1 (N := ["word", "figures", "sign"]) (mk := fun _ : Unit => [none, none, none]) (lp := fun e : Empty => e.elim) (mc := b_is_number) F sc_is_number rfl fun cdv A outer s H E hr word556 => ?_
  unfold b_is_number c_is_number_1
  exact (show DS _ _ _ [some word556, none, none] _ _ _ _ from (ds_set 1 sc_is_number.nd (fun figures557 => [some word556, some figures557, none]) (de_var 0) (EnvLe.noth rfl) (fun figures557 => (ds_if (mk' := fun t : D => [some word556, some t, none]) (dt_cmp (op_eqX (hu64 hr)) eq_ok (de_slice (de_var 0) do_none (do_some de_int)) de_str (nomark _)) (ds_set 1 sc_is_number.nd (fun figures566 => [some word556, some figures566, none]) (de_slice (de_var 0) (do_some de_int) do_none) (EnvLe.noth rfl) (fun figures566 => (ds_nil (t := figures566) (EnvLe.refl _)))) (ds_nil (t := figures557) (EnvLe.refl _)) (EnvLe.noth rfl) (fun s571 => (show DS _ _ _ [some word556, some s571, none] _ _ _ _ from (ds_ifr (fun e : Empty => e.elim) (dt_w (dw_or (dt_not (dt_chain op_le (int2_ok fun _ _ _ _ _ => Rep.bl) op_le (int2_ok fun _ _ _ _ _ => Rep.bl) de_int (de_len T.no_len (de_var 1)) (de_glob T.g_MOST_FIGURES))) (dw_or1 (dt_not (dt_tru (de_all rfl T.no_all (de_lc (own := [("sign", 2)]) rfl sc_is_number.nd (di_str (de_var 1)) (blkOk_by (by show blkC [("word" : Str), ("figures" : Str), ("sign" : Str)] (defScope s_is_number) _ _ = true; decide +kernel)) (by decide) (fun _ _ _ _ _ => (dg_name 2 sc_is_number.nd)) (fun _ _ _ _ _ p580 => (show PTs _ _ (TC _ _ W0 RB [some word556, some s571, some p580] _) from dts_nil)) (fun _ _ _ _ _ p580 => (show DE _ W0 [some word556, some s571, some p580] _ _ from (de_signin (de_var 2) (de_glob T.g_FIGURES))))))))))) (ds_ret de_bl (EnvLe.noth rfl)) (EnvLe.noth rfl) (ds_ret (de_or (de_ne (hu64 hr) (de_ix (de_var 1) de_int) de_str) (de_one (de_eq (hu64 hr) (de_var 0) de_str))) (EnvLe.noth rfl)) rfl)))))))
theorem ok_is_number {P : Program} {w : World} {K : Fg} {mg : Str → Option Value} {base : Heap} (T : Tx w K mg) : Cal P w K mg base "is_number" 1 1 (app1 f_is_number) := Dfn.cal T.d_is_number fun _ _ F => fo_is_number T F
theorem fo_number_in {P : Program} {w : World} {K : Fg} {mg : Str → Option Value} {base : Heap} (T : Tx w K mg) (c_need : Cal P w K mg base "need" 1 1 (app1 f_need)) (c_is_number : Cal P w K mg base "is_number" 1 1 (app1 f_is_number)) {f : Addr} {fd : FuncData} (F : Fun K "number_in" "number_in" s_number_in f fd) : FnOk P w K mg base (L2N.CX P w) 2 f fd ["word"] (spD K mg 1 (app1 f_number_in)) := by
  refine fn1 (N := ["word"]) (mk := fun _ : Unit => [none]) (lp := fun e : Empty => e.elim) (mc := b_number_in) F sc_number_in rfl fun cdv A outer s H E hr word599 => ?_
  unfold b_number_in
  exact (show DS _ _ _ [some word599] _ _ _ _ from (ds_expr (de_p1 c_need (hr.mono (by decide)) (L2N.takes_of rfl rfl rfl rfl) (de_p1 c_is_number (hr.mono (by decide)) (L2N.takes_of rfl rfl rfl rfl) (de_var 0))) (EnvLe.noth rfl) (ds_ret (de_intf T.no_int (de_var 0)) (EnvLe.noth rfl))))
theorem ok_number_in {P : Program} {w : World} {K : Fg} {mg : Str → Option Value} {base : Heap} (T : Tx w K mg) (c_need : Cal P w K mg base "need" 1 1 (app1 f_need)) (c_is_number : Cal P w K mg base "is_number" 1 1 (app1 f_is_number)) : Cal P w K mg base "number_in" 2 1 (app1 f_number_in) := Dfn.cal T.d_number_in fun _ _ F => fo_number_in T c_need c_is_number F
theorem fo_numbers_in {P : Program} {w : World} {K : Fg} {mg : Str → Option Value} {base : Heap} (T : Tx w K mg) (c_number_in : Cal P w K mg base "number_in" 2 1 (app1 f_number_in)) {f : Addr} {fd : FuncData} (F : Fun K "numbers_in" "numbers_in" s_numbers_in f fd) : FnOk P w K mg base (L2N.CX P w) 3 f fd ["words"] (spD K mg 1 (app1 f_numbers_in)) := by
  refine fn1 (N := ["words", "word"]) (mk := fun _ : Unit => [none, none]) (lp := fun e : Empty => e.elim) (mc := b_numbers_in) F sc_numbers_in rfl fun cdv A outer s H E hr words604 => ?_
  unfold b_numbers_in c_numbers_in_1
  exact (show DS _ _ _ [some words604, none] _ _ _ _ from (ds_ret (de_tuple T.no_tuple (de_lc (own := [("word", 1)]) rfl sc_numbers_in.nd (di_seq (de_var 0)) (blkOk_by (by show blkC [("words" : Str), ("word" : Str)] (defScope s_numbers_in) _ _ = true; decide +kernel)) (by decide) (fun _ _ _ _ _ => (dg_name 1 sc_numbers_in.nd)) (fun _ _ _ _ _ p608 => (show PTs _ _ (TC _ _ W0 RB [some words604, some p608] _) from dts_nil)) (fun _ _ _ _ _ p608 => (show DE _ W0 [some words604, some p608] _ _ from (de_p1 c_number_in (hr.mono (by decide)) takes0N (de_var 1)))))) (EnvLe.noth rfl)))
theorem ok_numbers_in {P : Program} {w : World} {K : Fg} {mg : Str → Option Value} {base : Heap} (T : Tx w K mg) (c_number_in : Cal P w K mg base "number_in" 2 1 (app1 f_number_in)) : Cal P w K mg base "numbers_in" 3 1 (app1 f_numbers_in) := Dfn.cal T.d_numbers_in fun _ _ F => fo_numbers_in T c_number_in F
theorem fo_head_in {P : Program} {w : World} {K : Fg} {mg : Str → Option Value} {base : Heap} (T : Tx w K mg) (c_need : Cal P w K mg base "need" 1 1 (app1 f_need)) (c_words_in : Cal P w K mg base "words_in" 2 1 (app1 f_words_in)) (c_numbers_in : Cal P w K mg base "numbers_in" 3 1 (app1 f_numbers_in)) {f : Addr} {fd : FuncData} (F : Fun K "head_in" "head_in" s_head_in f fd) : FnOk P w K mg base (L2N.CX P w) 4 f fd ["row"] (spD K mg 1 (app1 f_head_in)) := by
  refine fn1 (N := ["row", "words", "places", "work", "k"]) (mk := fun _ : Unit => [none, none, none, none, none]) (lp := fun e : Empty => e.elim) (mc := b_head_in) F sc_head_in rfl fun cdv A outer s H E hr row614 => ?_
  unfold b_head_in c_head_in_1
  exact (show DS _ _ _ [some row614, none, none, none, none] _ _ _ _ from (ds_set 1 sc_head_in.nd (fun words615 => [some row614, some words615, none, none, none]) (de_p1 c_words_in (hr.mono (by decide)) (L2N.takes_of rfl rfl rfl rfl) (de_var 0)) (EnvLe.noth rfl) (fun words615 => (ds_expr (de_p1 c_need (hr.mono (by decide)) (L2N.takes_of rfl rfl rfl rfl) (de_and (de_ge (de_len T.no_len (de_var 1)) de_int) (de_and (de_eq (hu64 hr) (de_mod (de_len T.no_len (de_var 1)) de_int) de_int) (de_one (de_eq (hu64 hr) (de_ix (de_var 1) de_int) de_str))))) (EnvLe.noth rfl) (ds_expr (de_p1 c_need (hr.mono (by decide)) (L2N.takes_of rfl rfl rfl rfl) (de_eq (hu64 hr) (de_tuple T.no_tuple (de_step (by decide) (de_var 1) (do_some (de_neg de_int)))) (de_glob T.g_BOUNDS))) (EnvLe.noth rfl) (ds_set 2 sc_head_in.nd (fun places640 => [some row614, some words615, some places640, none, none]) (de_p1 c_numbers_in (hr.mono (by decide)) (L2N.takes_of rfl rfl rfl rfl) (de_slice (de_var 1) (do_some de_int) (do_some (de_neg de_int)))) (EnvLe.noth rfl) (fun places640 => (ds_set 3 sc_head_in.nd (fun work648 => [some row614, some words615, some places640, some work648, none]) (de_tuple T.no_tuple (de_lc (own := [("k", 4)]) rfl sc_head_in.nd (di_range3 T.no_range de_int (de_len T.no_len (de_var 2)) de_int) (blkOk_by (by show blkC [("row" : Str), ("words" : Str), ("places" : Str), ("work" : Str), ("k" : Str)] (defScope s_head_in) _ _ = true; decide +kernel)) (by decide) (fun _ _ _ _ _ => (dg_name 4 sc_head_in.nd)) (fun _ _ _ _ _ p655 => (show PTs _ _ (TC _ _ W0 RB [some row614, some words615, some places640, none, some p655] _) from dts_nil)) (fun _ _ _ _ _ p655 => (show DE _ W0 [some row614, some words615, some places640, none, some p655] _ _ from (de_tup (da_two (de_ix (de_var 2) (de_var 4)) (de_ix (de_var 2) (de_add (de_var 4) de_int)))))))) (EnvLe.noth rfl) (fun work648 => (ds_ret (de_add (de_tup (da_one (de_var 3))) (de_p1 c_numbers_in (hr.mono (by decide)) (L2N.takes_of rfl rfl rfl rfl) (de_step (by decide) (de_var 1) (do_some (de_neg de_int))))) (EnvLe.noth rfl)))))))))))
theorem ok_head_in {P : Program} {w : World} {K : Fg} {mg : Str → Option Value} {base : Heap} (T : Tx w K mg) (c_need : Cal P w K mg base "need" 1 1 (app1 f_need)) (c_words_in : Cal P w K mg base "words_in" 2 1 (app1 f_words_in)) (c_numbers_in : Cal P w K mg base "numbers_in" 3 1 (app1 f_numbers_in)) : Cal P w K mg base "head_in" 4 1 (app1 f_head_in) := Dfn.cal T.d_head_in fun _ _ F => fo_head_in T c_need c_words_in c_numbers_in F
theorem fo_is_whole {P : Program} {w : World} {K : Fg} {mg : Str → Option Value} {base : Heap} (T : Tx w K mg) {f : Addr} {fd : FuncData} (F : Fun K "is_whole" "is_whole" s_is_whole f fd) : FnOk P w K mg base (L2N.CX P w) 1 f fd ["thing"] (spD K mg 1 (app1 f_is_whole)) := by
  refine fn1 (N := ["thing"]) (mk := fun _ : Unit => [none]) (lp := fun e : Empty => e.elim) (mc := b_is_whole) F sc_is_whole rfl fun cdv A outer s H E hr thing678 => ?_
  unfold b_is_whole
  exact (show DS _ _ _ [some thing678] _ _ _ _ from (ds_ret (de_and (de_isi "int" T.no_isinstance T.no_int (by decide +kernel) (by decide +kernel) (de_var 0)) (de_and (de_isnot (de_var 0) de_bl) (de_one (de_isnot (de_var 0) de_bl)))) (EnvLe.noth rfl)))
theorem ok_is_whole {P : Program} {w : World} {K : Fg} {mg : Str → Option Value} {base : Heap} (T : Tx w K mg) : Cal P w K mg base "is_whole" 1 1 (app1 f_is_whole) := Dfn.cal T.d_is_whole fun _ _ F => fo_is_whole T F
theorem fo_is_stretch {P : Program} {w : World} {K : Fg} {mg : Str → Option Value} {base : Heap} (T : Tx w K mg) (c_is_whole : Cal P w K mg base "is_whole" 1 1 (app1 f_is_whole)) {f : Addr} {fd : FuncData} (F : Fun K "is_stretch" "is_stretch" s_is_stretch f fd) : FnOk P w K mg base (L2N.CX P w) 2 f fd ["thing"] (spD K mg 1 (app1 f_is_stretch)) := by
  refine fn1 (N := ["thing"]) (mk := fun _ : Unit => [none]) (lp := fun e : Empty => e.elim) (mc := b_is_stretch) F sc_is_stretch rfl fun cdv A outer s H E hr thing687 => ?_
  unfold b_is_stretch
  exact (show DS _ _ _ [some thing687] _ _ _ _ from (ds_ifr (fun e : Empty => e.elim) (dt_w (dw_or (dt_not (dt_tru (de_isi "tuple" T.no_isinstance T.no_tuple (by decide +kernel) (by decide +kernel) (de_var 0)))) (dw_or1 (dt_cmp (op_neX (hu64 hr)) ne_ok (de_len T.no_len (de_var 0)) de_int (nomark _))))) (ds_ret de_bl (EnvLe.noth rfl)) (EnvLe.noth rfl) (ds_ret (de_and (de_p1 c_is_whole (hr.mono (by decide)) (L2N.takes_of rfl rfl rfl rfl) (de_ix (de_var 0) de_int)) (de_and (de_p1 c_is_whole (hr.mono (by decide)) (L2N.takes_of rfl rfl rfl rfl) (de_ix (de_var 0) de_int)) (de_one (de_lt (de_ix (de_var 0) de_int) (de_ix (de_var 0) de_int))))) (EnvLe.noth rfl)) rfl))
theorem ok_is_stretch {P : Program} {w : World} {K : Fg} {mg : Str → Option Value} {base : Heap} (T : Tx w K mg) (c_is_whole : Cal P w K mg base "is_whole" 1 1 (app1 f_is_whole)) : Cal P w K mg base "is_stretch" 2 1 (app1 f_is_stretch) := Dfn.cal T.d_is_stretch fun _ _ F => fo_is_stretch T c_is_whole F
theorem fo_check_work {P : Program} {w : World} {K : Fg} {mg : Str → Option Value} {base : Heap} (T : Tx w K mg) (c_is_stretch : Cal P w K mg base "is_stretch" 2 1 (app1 f_is_stretch)) {f : Addr} {fd : FuncData} (F : Fun K "check_work" "check_work" s_check_work f fd) : FnOk P w K mg base (L2N.CX P w) 3 f fd ["work"] (spD K mg 1 (app1 f_check_work)) := by
  refine fn1 (N := ["work", "one", "other"]) (mk := fun _ : Unit => [none, none, none]) (lp := fun e : Empty => e.elim) (mc := b_check_work) F sc_check_work rfl fun cdv A outer s H E hr work713 => ?_
  unfold b_check_work l_check_work_2 c_check_work_1
  exact (show DS _ _ _ [some work713, none, none] _ _ _ _ from (ds_ifr (fun e : Empty => e.elim) (dt_w (dw_or (dt_not (dt_tru (de_isi "tuple" T.no_isinstance T.no_tuple (by decide +kernel) (by decide +kernel) (de_var 0)))) (dw_or1 (dt_not (dt_tru (de_all rfl T.no_all (de_lc (own := [("one", 1)]) rfl sc_check_work.nd (di_seq (de_var 0)) (blkOk_by (by show blkC [("work" : Str), ("one" : Str), ("other" : Str)] (defScope s_check_work) _ _ = true; decide +kernel)) (by decide) (fun _ _ _ _ _ => (dg_name 1 sc_check_work.nd)) (fun _ _ _ _ _ p720 => (show PTs _ _ (TC _ _ W0 RB [some work713, some p720, none] _) from dts_nil)) (fun _ _ _ _ _ p720 => (show DE _ W0 [some work713, some p720, none] _ _ from (de_p1 c_is_stretch (hr.mono (by decide)) takes0N (de_var 1))))))))))) (ds_raiseE T.x_BadWork rfl (L2N.takes_of rfl rfl rfl rfl) (EnvLe.noth rfl)) (EnvLe.noth rfl) (ds_for (mkL := fun t : Unit => [some work713, none, none]) (t0 := ()) (passes_of rfl) rfl (di_zip T.no_zip (de_var 0) (de_slice (de_var 0) (do_some de_int) do_none)) (dg_tup rfl (dgs_cons (dg_name 1 sc_check_work.nd) (dgs_cons (dg_name 2 sc_check_work.nd) dgs_nil)) (uCons_l (uCons_l uNil_l))) (EnvLe.refl _) (EnvLe.noth rfl) (fun p739 t729 => (show DS _ _ _ [some work713, some p739.1, some p739.2.1] _ _ _ _ from (ds_ifr (fun e : Empty => e.elim) (dt_cmp op_lt (int2_ok fun _ _ _ _ _ => Rep.bl) (de_ix (de_var 2) de_int) (de_ix (de_var 1) de_int) (nomark _)) (ds_raiseE T.x_BadWork rfl (L2N.takes_of rfl rfl rfl rfl) (EnvLe.noth rfl)) (EnvLe.noth rfl) (ds_nil (t := ()) (show EnvLe _ _ from (.keep (.drop (.drop .nil))))) rfl))) (fun s730 => (show DS _ _ _ [some work713, none, none] _ _ _ _ from (ds_nil (t := ()) (show EnvLe _ _ from (.drop (.keep (.keep .nil)))))))) rfl))
theorem ok_check_work {P : Program} {w : World} {K : Fg} {mg : Str → Option Value} {base : Heap} (T : Tx w K mg) (c_is_stretch : Cal P w K mg base "is_stretch" 2 1 (app1 f_is_stretch)) : Cal P w K mg base "check_work" 3 1 (app1 f_check_work) := Dfn.cal T.d_check_work fun _ _ F => fo_check_work T c_is_stretch F
theorem fo_check_bounds {P : Program} {w : World} {K : Fg} {mg : Str → Option Value} {base : Heap} (T : Tx w K mg) (c_is_whole : Cal P w K mg base "is_whole" 1 1 (app1 f_is_whole)) {f : Addr} {fd : FuncData} (F : Fun K "check_bounds" "check_bounds" s_check_bounds f fd) : FnOk P w K mg base (L2N.CX P w) 2 f fd ["span", "every", "least"] (spD K mg 3 (app3 f_check_bounds)) := by
  refine fn3 (N := ["span", "every", "least", "bound"]) (mk := fun _ : Unit => [none, none, none, none]) (lp := fun e : Empty => e.elim) (mc := b_check_bounds) F sc_check_bounds rfl fun cdv A outer s H E hr span748 every749 least750 => ?_
  unfold b_check_bounds l_check_bounds_1
  exact (show DS _ _ _ [some span748, some every749, some least750, none] _ _ _ _ from (ds_for (mkL := fun t : Unit => [some span748, some every749, some least750, none]) (t0 := ()) (passes_of rfl) rfl (di_seq (de_tup (da_cons (de_var 0) (da_two (de_var 1) (de_var 2))))) (dg_name 3 sc_check_bounds.nd) (EnvLe.refl _) (EnvLe.noth rfl) (fun p761 t751 => (show DS _ _ _ [some span748, some every749, some least750, some p761] _ _ _ _ from (ds_ifr (fun e : Empty => e.elim) (dt_w (dw_or (dt_not (dt_tru (de_p1 c_is_whole (hr.mono (by decide)) (L2N.takes_of rfl rfl rfl rfl) (de_var 3)))) (dw_or1 (dt_cmp op_lt (int2_ok fun _ _ _ _ _ => Rep.bl) (de_var 3) de_int (nomark _))))) (ds_raiseE T.x_BadBound rfl (L2N.takes_of rfl rfl rfl rfl) (EnvLe.noth rfl)) (EnvLe.noth rfl) (ds_nil (t := ()) (show EnvLe _ _ from (.keep (.keep (.keep (.drop .nil)))))) rfl))) (fun s752 => (show DS _ _ _ [some span748, some every749, some least750, none] _ _ _ _ from (ds_ifr (fun e : Empty => e.elim) (dt_cmp op_lt (int2_ok fun _ _ _ _ _ => Rep.bl) (de_var 2) (de_var 1) (nomark _)) (ds_raiseE T.x_BadBound rfl (L2N.takes_of rfl rfl rfl rfl) (EnvLe.noth rfl)) (EnvLe.noth rfl) (ds_nil (t := ()) (show EnvLe _ _ from (.drop (.drop (.drop (.keep .nil)))))) rfl)))))
theorem ok_check_bounds {P : Program} {w : World} {K : Fg} {mg : Str → Option Value} {base : Heap} (T : Tx w K mg) (c_is_whole : Cal P w K mg base "is_whole" 1 1 (app1 f_is_whole)) : Cal P w K mg base "check_bounds" 2 3 (app3 f_check_bounds) := Dfn.cal T.d_check_bounds fun _ _ F => fo_check_bounds T c_is_whole F
theorem fo_line_in {P : Program} {w : World} {K : Fg} {mg : Str → Option Value} {base : Heap} (T : Tx w K mg) (c_need : Cal P w K mg base "need" 1 1 (app1 f_need)) (c_words_in : Cal P w K mg base "words_in" 2 1 (app1 f_words_in)) (c_number_in : Cal P w K mg base "number_in" 2 1 (app1 f_number_in)) (c_numbers_in : Cal P w K mg base "numbers_in" 3 1 (app1 f_numbers_in)) {f : Addr} {fd : FuncData} (F : Fun K "line_in" "line_in" s_line_in f fd) : FnOk P w K mg base (L2N.CX P w) 4 f fd ["row"] (spD K mg 1 (app1 f_line_in)) := by
  refine fn1 (N := ["row", "words", "numbers"]) (mk := fun _ : Unit => [none, none, none]) (lp := fun e : Empty => e.elim) (mc := b_line_in) F sc_line_in rfl fun cdv A outer s H E hr row774 => ?_
  unfold b_line_in
  exact (show DS _ _ _ [some row774, none, none] _ _ _ _ from (ds_set 1 sc_line_in.nd (fun words775 => [some row774, some words775, none]) (de_p1 c_words_in (hr.mono (by decide)) (L2N.takes_of rfl rfl rfl rfl) (de_var 0)) (EnvLe.noth rfl) (fun words775 => (ds_ifr (fun e : Empty => e.elim) (dt_cmp (op_eqX (hu64 hr)) eq_ok (de_ix (de_var 1) de_int) de_str (nomark _)) (ds_expr (de_p1 c_need (hr.mono (by decide)) (L2N.takes_of rfl rfl rfl rfl) (de_ge (de_len T.no_len (de_var 1)) de_int)) (EnvLe.noth rfl) (ds_set 2 sc_line_in.nd (fun numbers787 => [some row774, some words775, some numbers787]) (de_p1 c_numbers_in (hr.mono (by decide)) (L2N.takes_of rfl rfl rfl rfl) (de_slice (de_var 1) (do_some de_int) do_none)) (EnvLe.noth rfl) (fun numbers787 => (ds_ret (de_add (de_add (de_tup (da_one de_str)) (de_slice (de_var 2) do_none (do_some de_int))) (de_tup (da_one (de_slice (de_var 2) (do_some de_int) do_none)))) (EnvLe.noth rfl))))) (EnvLe.noth rfl) (ds_expr (de_p1 c_need (hr.mono (by decide)) (L2N.takes_of rfl rfl rfl rfl) (de_and (de_kin T.k_COUNTS (de_ix (de_var 1) de_int)) (de_one (de_eq (hu64 hr) (de_len T.no_len (de_var 1)) (de_kget T.k_COUNTS (de_ix (de_var 1) de_int)))))) (EnvLe.noth rfl) (ds_ifr (fun e : Empty => e.elim) (dt_cmp (op_eqX (hu64 hr)) eq_ok (de_ix (de_var 1) de_int) de_str (nomark _)) (ds_ret (de_add (de_tup (da_cons de_str (da_two (de_p1 c_number_in (hr.mono (by decide)) (L2N.takes_of rfl rfl rfl rfl) (de_ix (de_var 1) de_int)) (de_ix (de_var 1) de_int)))) (de_p1 c_numbers_in (hr.mono (by decide)) (L2N.takes_of rfl rfl rfl rfl) (de_slice (de_var 1) (do_some de_int) do_none))) (EnvLe.noth rfl)) (EnvLe.noth rfl) (ds_ret (de_add (de_tup (da_one (de_ix (de_var 1) de_int))) (de_p1 c_numbers_in (hr.mono (by decide)) (L2N.takes_of rfl rfl rfl rfl) (de_slice (de_var 1) (do_some de_int) do_none))) (EnvLe.noth rfl)) rfl)) rfl))))
theorem ok_line_in {P : Program} {w : World} {K : Fg} {mg : Str → Option Value} {base : Heap} (T : Tx w K mg) (c_need : Cal P w K mg base "need" 1 1 (app1 f_need)) (c_words_in : Cal P w K mg base "words_in" 2 1 (app1 f_words_in)) (c_number_in : Cal P w K mg base "number_in" 2 1 (app1 f_number_in)) (c_numbers_in : Cal P w K mg base "numbers_in" 3 1 (app1 f_numbers_in)) : Cal P w K mg base "line_in" 4 1 (app1 f_line_in) := Dfn.cal T.d_line_in fun _ _ F => fo_line_in T c_need c_words_in c_number_in c_numbers_in F
theorem fo_read_text {P : Program} {w : World} {K : Fg} {mg : Str → Option Value} {base : Heap} (T : Tx w K mg) (c_whole_rows : Cal P w K mg base "whole_rows" 2 1 (app1 f_whole_rows)) (c_head_in : Cal P w K mg base "head_in" 4 1 (app1 f_head_in)) (c_check_work : Cal P w K mg base "check_work" 3 1 (app1 f_check_work)) (c_check_bounds : Cal P w K mg base "check_bounds" 2 3 (app3 f_check_bounds)) (c_line_in : Cal P w K mg base "line_in" 4 1 (app1 f_line_in)) {f : Addr} {fd : FuncData} (F : Fun K "read_text" "read_text" s_read_text f fd) : FnOk P w K mg base (L2N.CX P w) 5 f fd ["text"] (spD K mg 1 (app1 f_read_text)) := by
  refine fn1 (N := ["text", "rows", "work", "span", "every", "least", "lines", "row"]) (mk := fun _ : Unit => [none, none, none, none, none, none, none, none]) (lp := fun e : Empty => e.elim) (mc := b_read_text) F sc_read_text rfl fun cdv A outer s H E hr text857 => ?_
  unfold b_read_text c_read_text_1
  exact (show DS _ _ _ [some text857, none, none, none, none, none, none, none] _ _ _ _ from (ds_set 1 sc_read_text.nd (fun rows858 => [some text857, some rows858, none, none, none, none, none, none]) (de_p1 c_whole_rows (hr.mono (by decide)) (L2N.takes_of rfl rfl rfl rfl) (de_var 0)) (EnvLe.noth rfl) (fun rows858 => (ds_unpack (de_p1 c_head_in (hr.mono (by decide)) (L2N.takes_of rfl rfl rfl rfl) (de_ix (de_var 1) de_int)) (dg_tup rfl (dgs_cons (dg_name 2 sc_read_text.nd) (dgs_cons (dg_name 3 sc_read_text.nd) (dgs_cons (dg_name 4 sc_read_text.nd) (dgs_cons (dg_name 5 sc_read_text.nd) dgs_nil)))) (uCons_l (uCons_l (uCons_l (uCons_l uNil_l))))) (EnvLe.noth rfl) (fun p864 => (show DS _ _ _ [some text857, some rows858, some p864.1, some p864.2.1, some p864.2.2.1, some p864.2.2.2.1, none, none] _ _ _ _ from (ds_set 6 sc_read_text.nd (fun lines865 => [some text857, some rows858, some p864.1, some p864.2.1, some p864.2.2.1, some p864.2.2.2.1, some lines865, none]) (de_tuple T.no_tuple (de_lc (own := [("row", 7)]) rfl sc_read_text.nd (di_seq (de_slice (de_var 1) (do_some de_int) do_none)) (blkOk_by (by show blkC [("text" : Str), ("rows" : Str), ("work" : Str), ("span" : Str), ("every" : Str), ("least" : Str), ("lines" : Str), ("row" : Str)] (defScope s_read_text) _ _ = true; decide +kernel)) (by decide) (fun _ _ _ _ _ => (dg_name 7 sc_read_text.nd)) (fun _ _ _ _ _ p873 => (show PTs _ _ (TC _ _ W0 RB [some text857, some rows858, some p864.1, some p864.2.1, some p864.2.2.1, some p864.2.2.2.1, none, some p873] _) from dts_nil)) (fun _ _ _ _ _ p873 => (show DE _ W0 [some text857, some rows858, some p864.1, some p864.2.1, some p864.2.2.1, some p864.2.2.2.1, none, some p873] _ _ from (de_p1 c_line_in (hr.mono (by decide)) takes0N (de_var 7)))))) (EnvLe.noth rfl) (fun lines865 => (ds_expr (de_p1 c_check_work (hr.mono (by decide)) (L2N.takes_of rfl rfl rfl rfl) (de_var 2)) (EnvLe.noth rfl) (ds_expr (de_p3 c_check_bounds (hr.mono (by decide)) (L2N.takes_of rfl rfl rfl rfl) (de_var 3) (de_var 4) (de_var 5)) (EnvLe.noth rfl) (ds_ret (de_tup (da_cons (de_var 2) (da_cons (de_var 3) (da_cons (de_var 4) (da_two (de_var 5) (de_var 6)))))) (EnvLe.noth rfl))))))))))))
theorem ok_read_text {P : Program} {w : World} {K : Fg} {mg : Str → Option Value} {base : Heap} (T : Tx w K mg) (c_whole_rows : Cal P w K mg base "whole_rows" 2 1 (app1 f_whole_rows)) (c_head_in : Cal P w K mg base "head_in" 4 1 (app1 f_head_in)) (c_check_work : Cal P w K mg base "check_work" 3 1 (app1 f_check_work)) (c_check_bounds : Cal P w K mg base "check_bounds" 2 3 (app3 f_check_bounds)) (c_line_in : Cal P w K mg base "line_in" 4 1 (app1 f_line_in)) : Cal P w K mg base "read_text" 5 1 (app1 f_read_text) := Dfn.cal T.d_read_text fun _ _ F => fo_read_text T c_whole_rows c_head_in c_check_work c_check_bounds c_line_in F
theorem fo_law_whole_through {P : Program} {w : World} {K : Fg} {mg : Str → Option Value} {base : Heap} (T : Tx w K mg) {k : Nat} {g : D → M D} (hk : 0 ≤ k) (c_self : Cal P w K mg base "_law_whole_through" k 1 (app1 g)) {f : Addr} {fd : FuncData} (F : Fun K "_law_whole_through" "_law_whole_through" s_law_whole_through f fd) : FnOk P w K mg base (L2N.CX P w) (k + 1) f fd ["_law_thing"] (spD K mg 1 (app1 fun thing892 => defM (b_law_whole_through g thing892))) := by
  refine fn1 (N := ["_law_thing", "_law_part"]) (mk := fun _ : Unit => [none, none]) (lp := fun e : Empty => e.elim) (mc := b_law_whole_through g) F sc_law_whole_through rfl fun cdv A outer s H E hr thing892 => ?_
  unfold b_law_whole_through c_law_whole_through_1
  exact (show DS _ _ _ [some thing892, none] _ _ _ _ from (ds_ifr (fun e : Empty => e.elim) (dt_tru (de_isi "tuple" T.no_isinstance T.no_tuple (by decide +kernel) (by decide +kernel) (de_var 0))) (ds_ret (de_eq (hu64 hr) (de_lc (own := [("_law_part", 1)]) rfl sc_law_whole_through.nd (di_seq (de_var 0)) (blkOk_by (by show blkC [("_law_thing" : Str), ("_law_part" : Str)] (defScope s_law_whole_through) _ _ = true; decide +kernel)) (by decide) (fun _ _ _ _ _ => (dg_name 1 sc_law_whole_through.nd)) (fun _ _ _ _ _ p899 => (show PTs _ _ (TC _ _ W0 RB [some thing892, some p899] _) from (dts_one (dt_not (dt_tru (de_p1 c_self (hr.mono (Nat.le_refl _)) takes0N (de_var 1))))))) (fun _ _ _ _ _ p899 => (show DE _ W0 [some thing892, some p899] _ _ from (de_var 1)))) (de_lst da_nil)) (EnvLe.noth rfl)) (EnvLe.noth rfl) (ds_ret (de_and (de_isi2 "int" "str" T.no_isinstance T.no_int T.no_str (by decide +kernel) (by decide +kernel) (by decide +kernel) (by decide +kernel) (de_var 0)) (de_one (de_not (de_isi "bool" T.no_isinstance T.no_bool (by decide +kernel) (by decide +kernel) (de_var 0))))) (EnvLe.noth rfl)) rfl))
theorem ok_law_whole_through {P : Program} {w : World} {K : Fg} {mg : Str → Option Value} {base : Heap} (T : Tx w K mg) : ∀ n : Nat, Cal P w K mg base "_law_whole_through" (0 + 1 + n) 1 (app1 (f_law_whole_through n))
  | 0 => Dfn.cal T.d_law_whole_through fun _ _ F => fn1 (k := 0) (N := ["_law_thing", "_law_part"]) (mk := fun _ : Unit => [none, none]) (lp := fun e : Empty => e.elim) (mc := fun _ => stuck) F sc_law_whole_through rfl fun cdv A outer s H E hr _ => ds_stuck
  | n + 1 => Dfn.cal T.d_law_whole_through fun _ _ F => fo_law_whole_through T (by omega) (ok_law_whole_through T n) F
theorem fo_line_text {P : Program} {w : World} {K : Fg} {mg : Str → Option Value} {base : Heap} (T : Tx w K mg) (c_row_of : Cal P w K mg base "row_of" 1 1 (app1 f_row_of)) {f : Addr} {fd : FuncData} (F : Fun K "line_text" "line_text" s_line_text f fd) : FnOk P w K mg base (L2N.CX P w) 2 f fd ["line"] (spD K mg 1 (app1 f_line_text)) := by
  refine fn1 (N := ["line"]) (mk := fun _ : Unit => [none]) (lp := fun e : Empty => e.elim) (mc := b_line_text) F sc_line_text rfl fun cdv A outer s H E hr line914 => ?_
  unfold b_line_text
  exact (show DS _ _ _ [some line914] _ _ _ _ from (ds_ifr (fun e : Empty => e.elim) (dt_cmp (op_eqX (hu64 hr)) eq_ok (de_ix (de_var 0) de_int) de_str (nomark _)) (ds_ret (de_p1 c_row_of (hr.mono (by decide)) (L2N.takes_of rfl rfl rfl rfl) (de_add (de_slice (de_var 0) do_none (do_some de_int)) (de_ix (de_var 0) de_int))) (EnvLe.noth rfl)) (EnvLe.noth rfl) (ds_ret (de_p1 c_row_of (hr.mono (by decide)) (L2N.takes_of rfl rfl rfl rfl) (de_var 0)) (EnvLe.noth rfl)) rfl))
theorem ok_line_text {P : Program} {w : World} {K : Fg} {mg : Str → Option Value} {base : Heap} (T : Tx w K mg) (c_row_of : Cal P w K mg base "row_of" 1 1 (app1 f_row_of)) : Cal P w K mg base "line_text" 2 1 (app1 f_line_text) := Dfn.cal T.d_line_text fun _ _ F => fo_line_text T c_row_of F
theorem fo_law {P : Program} {w : World} {K : Fg} {mg : Str → Option Value} {base : Heap} (T : Tx w K mg) (c_law_well : Cal P w K mg base "_law_well" 1 2 (app2 f_law_well)) (c_law_draw : Cal P w K mg base "_law_draw" 1 2 (app2 f_law_draw)) (c_law_free_work : Cal P w K mg base "_law_free_work" 2 1 (app1 f_law_free_work)) (c_law_free_limits : Cal P w K mg base "_law_free_limits" 2 1 (app1 f_law_free_limits)) (c_law_free_line : Cal P w K mg base "_law_free_line" 3 1 (app1 f_law_free_line)) (c_law_line_text : Cal P w K mg base "_law_line_text" 2 1 (app1 f_law_line_text)) (c_head_text : Cal P w K mg base "head_text" 2 4 (app4 f_head_text)) (c_law_head : Cal P w K mg base "_law_head" 2 2 (app2 f_law_head)) (c_read_text : Cal P w K mg base "read_text" 5 1 (app1 f_read_text)) (c_law_whole_through : Cal P w K mg base "_law_whole_through" 9 1 (app1 (f_law_whole_through 8))) (c_line_text : Cal P w K mg base "line_text" 2 1 (app1 f_line_text)) {f : Addr} {fd : FuncData} (F : Fun K "law" "law" s_law f fd) : FnOk P w K mg base (L2N.CX P w) 10 f fd ["_law_script"] (spD K mg 1 (app1 f_law)) := by
  refine fn1 (N := ["_law_script", "_law_well_here", "_law_work", "_law_limits", "_law_lines", "_law_rows", "_law_k", "_law_text", "_law_row_here", "_law_rest", "_law_found", "_law_again", "_law_line"]) (mk := fun _ : Unit => [none, none, none, none, none, none, none, none, none, none, none, none, none]) (lp := fun e : Empty => e.elim) (mc := b_law) F sc_law rfl fun cdv A outer s H E hr script933 => ?_
  unfold b_law l_law_5 l_law_4 c_law_3 c_law_2 c_law_1
  exact (show DS _ _ _ [some script933, none, none, none, none, none, none, none, none, none, none, none, none] _ _ _ _ from (ds_set 1 sc_law.nd (fun well_here934 => [some script933, some well_here934, none, none, none, none, none, none, none, none, none, none, none]) (de_c2 c_law_well (hr.mono (by decide)) (L2N.takes_of rfl rfl rfl rfl) (de_var 0) de_int) (EnvLe.noth rfl) (fun well_here934 => (ds_set 2 sc_law.nd (fun work937 => [some script933, some well_here934, some work937, none, none, none, none, none, none, none, none, none, none]) (de_c1 c_law_free_work (hr.mono (by decide)) (L2N.takes_of rfl rfl rfl rfl) (de_var 1)) (EnvLe.noth rfl) (fun work937 => (ds_set 3 sc_law.nd (fun limits939 => [some script933, some well_here934, some work937, some limits939, none, none, none, none, none, none, none, none, none]) (de_c1 c_law_free_limits (hr.mono (by decide)) (L2N.takes_of rfl rfl rfl rfl) (de_var 1)) (EnvLe.noth rfl) (fun limits939 => (ds_setLc 4 (own := [("_law_k", 6)]) rfl sc_law.nd (di_range2 T.no_range de_int (de_add de_int (de_c2 c_law_draw (hr.mono (by decide)) (L2N.takes_of rfl rfl rfl rfl) (de_var 1) de_int))) (blkOk_by (by show blkC [("_law_script" : Str), ("_law_well_here" : Str), ("_law_work" : Str), ("_law_limits" : Str), ("_law_lines" : Str), ("_law_rows" : Str), ("_law_k" : Str), ("_law_text" : Str), ("_law_row_here" : Str), ("_law_rest" : Str), ("_law_found" : Str), ("_law_again" : Str), ("_law_line" : Str)] (defScope s_law) _ _ = true; decide +kernel)) (by decide) (fun _ _ _ _ _ => (dg_name 6 sc_law.nd)) (fun _ _ _ _ _ p950 => (show PTs _ _ (TC _ _ W0 RB [some script933, some well_here934, some work937, some limits939, none, none, some p950, none, none, none, none, none, none] _) from dts_nil)) (fun _ _ _ _ _ p950 => (show DE _ W0 [some script933, some well_here934, some work937, some limits939, none, none, some p950, none, none, none, none, none, none] _ _ from (de_c1 c_law_free_line (hr.mono (by decide)) takes0N (de_c2 c_law_well (hr.mono (by decide)) takes0N (de_var 0) (de_var 6))))) (fun lines941 => [some script933, some well_here934, some work937, some limits939, some lines941, none, none, none, none, none, none, none, none]) (EnvLe.noth rfl) (fun lines941 => (ds_setLc 5 (own := [("_law_line", 12)]) rfl sc_law.nd (di_seq (de_var 4)) (blkOk_by (by show blkC [("_law_script" : Str), ("_law_well_here" : Str), ("_law_work" : Str), ("_law_limits" : Str), ("_law_lines" : Str), ("_law_rows" : Str), ("_law_k" : Str), ("_law_text" : Str), ("_law_row_here" : Str), ("_law_rest" : Str), ("_law_found" : Str), ("_law_again" : Str), ("_law_line" : Str)] (defScope s_law) _ _ = true; decide +kernel)) (by decide) (fun _ _ _ _ _ => (dg_name 12 sc_law.nd)) (fun _ _ _ _ _ p960 => (show PTs _ _ (TC _ _ W0 RB [some script933, some well_here934, some work937, some limits939, some lines941, none, none, none, none, none, none, none, some p960] _) from dts_nil)) (fun _ _ _ _ _ p960 => (show DE _ W0 [some script933, some well_here934, some work937, some limits939, some lines941, none, none, none, none, none, none, none, some p960] _ _ from (de_p1 c_law_line_text (hr.mono (by decide)) takes0N (de_var 12)))) (fun rows956 => [some script933, some well_here934, some work937, some limits939, some lines941, some rows956, none, none, none, none, none, none, none]) (EnvLe.noth rfl) (fun rows956 => (ds_for (mkL := fun t : Option D => [some script933, some well_here934, some work937, some limits939, some lines941, some rows956, none, none, none, none, t, none, none]) (t0 := none) (passes_of rfl) rfl (di_seq (de_lst (da_cons de_int (da_two (de_fdiv (de_len T.no_len (de_var 5)) de_int) (de_len T.no_len (de_var 5)))))) (dg_name 6 sc_law.nd) (EnvLe.refl _) (EnvLe.noth rfl) (fun p978 t964 => (show DS _ _ _ [some script933, some well_here934, some work937, some limits939, some lines941, some rows956, some p978, none, none, none, t964, none, none] _ _ _ _ from (ds_set 7 sc_law.nd (fun text979 => [some script933, some well_here934, some work937, some limits939, some lines941, some rows956, some p978, some text979, none, none, t964, none, none]) (de_add (de_p2 c_law_head (hr.mono (by decide)) (L2N.takes_of rfl rfl rfl rfl) (de_var 2) (de_var 3)) (de_join de_str (de_slice (de_var 5) do_none (do_some (de_var 6))))) (EnvLe.noth rfl) (fun text979 => (ds_set 8 sc_law.nd (fun row_here990 => [some script933, some well_here934, some work937, some limits939, some lines941, some rows956, some p978, some text979, some row_here990, none, t964, none, none]) (de_ix (de_add (de_var 5) (de_lst (da_one de_str))) (de_var 6)) (EnvLe.noth rfl) (fun row_here990 => (ds_for (mkL := fun t : Option D => [some script933, some well_here934, some work937, some limits939, some lines941, some rows956, some p978, some text979, some row_here990, none, t, none, none]) (t0 := t964) (passes_of rfl) rfl (di_seq (de_lst (da_cons de_str (da_cons (de_slice (de_var 8) do_none (do_some (de_neg de_int))) (da_cons (de_slice (de_var 8) do_none (do_some (de_c2 c_law_draw (hr.mono (by decide)) (L2N.takes_of rfl rfl rfl rfl) (de_var 1) (de_len T.no_len (de_var 8))))) (da_cons de_str (da_cons de_str (da_two de_str de_str)))))))) (dg_name 9 sc_law.nd) (EnvLe.refl _) (EnvLe.noth rfl) (fun p1027 t997 => (show DS _ _ _ [some script933, some well_here934, some work937, some limits939, some lines941, some rows956, some p978, some text979, some row_here990, some p1027, t997, none, none] _ _ _ _ from (ds_set 10 sc_law.nd (fun found1028 => [some script933, some well_here934, some work937, some limits939, some lines941, some rows956, some p978, some text979, some row_here990, some p1027, some found1028, none, none]) (de_p1 c_read_text (hr.mono (by decide)) (L2N.takes_of rfl rfl rfl rfl) (de_add (de_var 7) (de_var 9))) (EnvLe.noth rfl) (fun found1028 => (ds_ifr (fun e : Empty => e.elim) (dt_w (dw_or (dt_cmp (op_neX (hu64 hr)) ne_ok (de_var 10) (de_add (de_add (de_tup (da_one (de_var 2))) (de_var 3)) (de_tup (da_one (de_tuple T.no_tuple (de_slice (de_var 4) do_none (do_some (de_var 6))))))) (nomark _)) (dw_or1 (dt_not (dt_tru (de_p1 c_law_whole_through (hr.mono (by decide)) (L2N.takes_of rfl rfl rfl rfl) (de_var 10))))))) (ds_ret de_bl (EnvLe.noth rfl)) (EnvLe.noth rfl) (ds_nil (t := (some found1028)) (show EnvLe _ _ from (.keep (.keep (.keep (.keep (.keep (.keep (.keep (.keep (.keep (.drop (.keep (.keep (.keep .nil))))))))))))))) rfl))))) (fun s998 => (show DS _ _ _ [some script933, some well_here934, some work937, some limits939, some lines941, some rows956, some p978, some text979, some row_here990, none, s998, none, none] _ _ _ _ from (ds_ifr (fun e : Empty => e.elim) (dt_cmp (op_neX (hu64 hr)) ne_ok (de_p1 c_read_text (hr.mono (by decide)) (L2N.takes_of rfl rfl rfl rfl) (de_var 7)) (de_varO 10) (nomark _)) (ds_ret de_bl (EnvLe.noth rfl)) (EnvLe.noth rfl) (ds_set 11 sc_law.nd (fun again1060 => [some script933, some well_here934, some work937, some limits939, some lines941, some rows956, some p978, some text979, some row_here990, none, s998, some again1060, none]) (de_p4 c_head_text (hr.mono (by decide)) (L2N.takes_of rfl rfl rfl rfl) (de_ix (de_varO 10) de_int) (de_ix (de_varO 10) de_int) (de_ix (de_varO 10) de_int) (de_ix (de_varO 10) de_int)) (EnvLe.noth rfl) (fun again1060 => (ds_ifr (fun e : Empty => e.elim) (dt_cmp (op_neX (hu64 hr)) ne_ok (de_add (de_var 11) (de_join de_str (de_lc (own := [("_law_line", 12)]) rfl sc_law.nd (di_seq (de_ix (de_varO 10) de_int)) (blkOk_by (by show blkC [("_law_script" : Str), ("_law_well_here" : Str), ("_law_work" : Str), ("_law_limits" : Str), ("_law_lines" : Str), ("_law_rows" : Str), ("_law_k" : Str), ("_law_text" : Str), ("_law_row_here" : Str), ("_law_rest" : Str), ("_law_found" : Str), ("_law_again" : Str), ("_law_line" : Str)] (defScope s_law) _ _ = true; decide +kernel)) (by decide) (fun _ _ _ _ _ => (dg_name 12 sc_law.nd)) (fun _ _ _ _ _ p1078 => (show PTs _ _ (TC _ _ W0 RB [some script933, some well_here934, some work937, some limits939, some lines941, some rows956, some p978, some text979, some row_here990, none, s998, some again1060, some p1078] _) from dts_nil)) (fun _ _ _ _ _ p1078 => (show DE _ W0 [some script933, some well_here934, some work937, some limits939, some lines941, some rows956, some p978, some text979, some row_here990, none, s998, some again1060, some p1078] _ _ from (de_p1 c_line_text (hr.mono (by decide)) takes0N (de_var 12))))))) (de_var 7) (nomark _)) (ds_ret de_bl (EnvLe.noth rfl)) (EnvLe.noth rfl) (ds_nil (t := s998) (show EnvLe _ _ from (.keep (.keep (.keep (.keep (.keep (.keep (.drop (.drop (.drop (.keep (.keep (.drop (.keep .nil))))))))))))))) rfl))) rfl)))))))))) (fun s965 => (show DS _ _ _ [some script933, some well_here934, some work937, some limits939, some lines941, some rows956, none, none, none, none, s965, none, none] _ _ _ _ from (ds_ret de_bl (EnvLe.noth rfl))))))))))))))))
theorem ok_all {P : Program} {w : World} {K : Fg} {mg : Str → Option Value} {base : Heap} (T : Tx w K mg) (f : Addr) (fd : FuncData) (F : Fun K "law" "law" s_law f fd) : FnOk P w K mg base (L2N.CX P w) 10 f fd ["_law_script"] (spD K mg 1 (app1 f_law)) := by
  have c_law_well := ok_law_well (P := P) (w := w) (base := base) T
  have c_law_draw := ok_law_draw (P := P) (w := w) (base := base) T
  have c_law_free_work := ok_law_free_work (P := P) (w := w) (base := base) T c_law_draw
  have c_law_free_limits := ok_law_free_limits (P := P) (w := w) (base := base) T c_law_draw
  have c_law_far := ok_law_far (P := P) (w := w) (base := base) T c_law_draw
  have c_law_any_word := ok_law_any_word (P := P) (w := w) (base := base) T c_law_draw
  have c_law_free_line := ok_law_free_line (P := P) (w := w) (base := base) T c_law_draw c_law_far c_law_any_word
  have c_law_row := ok_law_row (P := P) (w := w) (base := base) T
  have c_law_line_text := ok_law_line_text (P := P) (w := w) (base := base) T c_law_row
  have c_row_of := ok_row_of (P := P) (w := w) (base := base) T
  have c_head_text := ok_head_text (P := P) (w := w) (base := base) T c_row_of
  have c_law_head := ok_law_head (P := P) (w := w) (base := base) T c_law_row
  have c_need := ok_need (P := P) (w := w) (base := base) T
  have c_whole_rows := ok_whole_rows (P := P) (w := w) (base := base) T c_need
  have c_words_in := ok_words_in (P := P) (w := w) (base := base) T c_need
  have c_is_number := ok_is_number (P := P) (w := w) (base := base) T
  have c_number_in := ok_number_in (P := P) (w := w) (base := base) T c_need c_is_number
  have c_numbers_in := ok_numbers_in (P := P) (w := w) (base := base) T c_number_in
  have c_head_in := ok_head_in (P := P) (w := w) (base := base) T c_need c_words_in c_numbers_in
  have c_is_whole := ok_is_whole (P := P) (w := w) (base := base) T
  have c_is_stretch := ok_is_stretch (P := P) (w := w) (base := base) T c_is_whole
  have c_check_work := ok_check_work (P := P) (w := w) (base := base) T c_is_stretch
  have c_check_bounds := ok_check_bounds (P := P) (w := w) (base := base) T c_is_whole
  have c_line_in := ok_line_in (P := P) (w := w) (base := base) T c_need c_words_in c_number_in c_numbers_in
  have c_read_text := ok_read_text (P := P) (w := w) (base := base) T c_whole_rows c_head_in c_check_work c_check_bounds c_line_in
  have c_law_whole_through : Cal P w K mg base "_law_whole_through" 9 1 (app1 (f_law_whole_through 8)) := ok_law_whole_through (P := P) (w := w) (base := base) T 8
  have c_line_text := ok_line_text (P := P) (w := w) (base := base) T c_row_of
  exact fo_law T c_law_well c_law_draw c_law_free_work c_law_free_limits c_law_free_line c_law_line_text c_head_text c_law_head c_read_text c_law_whole_through c_line_text F
end Lw
open PySem PySem.W PyProof.Rows in
set_option maxRecDepth 100000 in
set_option maxHeartbeats 0 in
theorem PySem.Challenge.cw_lentwork_k35_books_read_holds : PySem.Challenge.rw_lentwork_k35_books_read.Holds := by
  w_on; o_law; k_head; (case hw => w_witness2)
  k_fill
  refine Lw.walkD (l := PySem.Challenge.rw_lentwork_k35_books_read) (g := Lw.f_law) (k := 10) (x := "_law_script") (st := Lw.s_law) rfl rfl ⟨rfl, by decide, by decide⟩ rfl (fun w h Y => PySem.W.kIn_of Y) (fun _ _ _ _ _ _ _ _ => .of_eq rfl) ?F (Lw.plain)
  case F =>
    intro w mg h KX G
    have c_NoText := Lw.cl_mk (z := "NoText") KX G (by k_is) (by k_is) (by k_is) (by k_exc) (by k_is) (by k_is) (by k_is) (by k_is) (by k_is) (by k_is) (by k_is) (by k_is)
    have c_BadWork := Lw.cl_mk (z := "BadWork") KX G (by k_is) (by k_is) (by k_is) (by k_exc) (by k_is) (by k_is) (by k_is) (by k_is) (by k_is) (by k_is) (by k_is) (by k_is)
    have c_BadBound := Lw.cl_mk (z := "BadBound") KX G (by k_is) (by k_is) (by k_is) (by k_exc) (by k_is) (by k_is) (by k_is) (by k_is) (by k_is) (by k_is) (by k_is) (by k_is)
    refine (show Lw.Tx w _ mg → _ from fun T => ⟨T.d_law, fun base f fd Fn => Lw.ok_all T f fd Fn⟩) ?_
    refine' ⟨?_, ?_, ?_, ?_, ?_, ?_, ?_, ?_, ?_, ?_, ?_, ?_, ?_, ?_, ?_, ?_, ?_, ?_, ?_, ?_, ?_, ?_, ?_, ?_, ?_, ?_, ?_, ?_, ?_, ?_, ?_, ?_, ?_, ?_, ?_, ?_, ?_, ?_, ?_, ?_, ?_, ?_, ?_, ?_⟩
    · refine' PySem.W.mg_none_of KX G ?a
      (case a => k_is)
    · refine' PySem.W.mg_none_of KX G ?a
      (case a => k_is)
    · refine' PySem.W.mg_none_of KX G ?a
      (case a => k_is)
    · refine' PySem.W.mg_none_of KX G ?a
      (case a => k_is)
    · refine' PySem.W.mg_none_of KX G ?a
      (case a => k_is)
    · refine' PySem.W.mg_none_of KX G ?a
      (case a => k_is)
    · refine' PySem.W.mg_none_of KX G ?a
      (case a => k_is)
    · refine' PySem.W.mg_none_of KX G ?a
      (case a => k_is)
    · refine' PySem.W.mg_none_of KX G ?a
      (case a => k_is)
    · refine' Lw.gv_int KX G ?a
      (case a => k_is)
    · refine' Lw.gv_str KX G ?a
      (case a => k_is)
    · refine' Lw.gv_tups (zs := [("span" : Str), ("every" : Str), ("least" : Str)]) KX G ?a ?l ?s ?v
      (case a => k_is)
      (case l => k_is)
      (case s => exact (show 3 ≤ sizeLine by decide))
      (case v => exact (.cons ⟨_, rfl⟩ (.cons ⟨_, rfl⟩ (.cons ⟨_, rfl⟩ .nil))))
    · refine' Lw.kdf_mk (w := w) KX G ?a ?l ?s (by decide +kernel) ?e
      (case a => k_is)
      (case l => k_is)
      (case s => rfl)
      (case e => exact (Lw.EsOf.cons (Lw.EsOf.cons (Lw.EsOf.cons (Lw.EsOf.cons Lw.EsOf.nil)))))
    · exact ⟨_, c_NoText⟩
    · exact ⟨_, c_BadWork⟩
    · exact ⟨_, c_BadBound⟩
    · refine' Lw.dfn_mk (fun _ _ _ _ _ _ us hl => match us, hl with | [_, _], _ => rfl) KX G ?a ?l ?c ?k
      (case a => k_is)
      (case l => k_is)
      (case c => k_is)
      (case k => k_is)
    · refine' Lw.dfn_mk (fun _ _ _ _ _ _ us hl => match us, hl with | [_, _], _ => rfl) KX G ?a ?l ?c ?k
      (case a => k_is)
      (case l => k_is)
      (case c => k_is)
      (case k => k_is)
    · refine' Lw.dfn_mk (fun _ _ _ _ _ _ us hl => match us, hl with | [_], _ => rfl) KX G ?a ?l ?c ?k
      (case a => k_is)
      (case l => k_is)
      (case c => k_is)
      (case k => k_is)
    · refine' Lw.dfn_mk (fun _ _ _ _ _ _ us hl => match us, hl with | [_], _ => rfl) KX G ?a ?l ?c ?k
      (case a => k_is)
      (case l => k_is)
      (case c => k_is)
      (case k => k_is)
    · refine' Lw.dfn_mk (fun _ _ _ _ _ _ us hl => match us, hl with | [_], _ => rfl) KX G ?a ?l ?c ?k
      (case a => k_is)
      (case l => k_is)
      (case c => k_is)
      (case k => k_is)
    · refine' Lw.dfn_mk (fun _ _ _ _ _ _ us hl => match us, hl with | [_], _ => rfl) KX G ?a ?l ?c ?k
      (case a => k_is)
      (case l => k_is)
      (case c => k_is)
      (case k => k_is)
    · refine' Lw.dfn_mk (fun _ _ _ _ _ _ us hl => match us, hl with | [_], _ => rfl) KX G ?a ?l ?c ?k
      (case a => k_is)
      (case l => k_is)
      (case c => k_is)
      (case k => k_is)
    · refine' Lw.dfn_mk (fun _ _ _ _ _ _ us hl => match us, hl with | [_], _ => rfl) KX G ?a ?l ?c ?k
      (case a => k_is)
      (case l => k_is)
      (case c => k_is)
      (case k => k_is)
    · refine' Lw.dfn_mk (fun _ _ _ _ _ _ us hl => match us, hl with | [_], _ => rfl) KX G ?a ?l ?c ?k
      (case a => k_is)
      (case l => k_is)
      (case c => k_is)
      (case k => k_is)
    · refine' Lw.dfn_mk (fun _ _ _ _ _ _ us hl => match us, hl with | [_], _ => rfl) KX G ?a ?l ?c ?k
      (case a => k_is)
      (case l => k_is)
      (case c => k_is)
      (case k => k_is)
    · refine' Lw.dfn_mk (fun _ _ _ _ _ _ us hl => match us, hl with | [_, _, _, _], _ => rfl) KX G ?a ?l ?c ?k
      (case a => k_is)
      (case l => k_is)
      (case c => k_is)
      (case k => k_is)
    · refine' Lw.dfn_mk (fun _ _ _ _ _ _ us hl => match us, hl with | [_, _], _ => rfl) KX G ?a ?l ?c ?k
      (case a => k_is)
      (case l => k_is)
      (case c => k_is)
      (case k => k_is)
    · refine' Lw.dfn_mk (fun _ _ _ _ _ _ us hl => match us, hl with | [_], _ => rfl) KX G ?a ?l ?c ?k
      (case a => k_is)
      (case l => k_is)
      (case c => k_is)
      (case k => k_is)
    · refine' Lw.dfn_mk (fun _ _ _ _ _ _ us hl => match us, hl with | [_], _ => rfl) KX G ?a ?l ?c ?k
      (case a => k_is)
      (case l => k_is)
      (case c => k_is)
      (case k => k_is)
    · refine' Lw.dfn_mk (fun _ _ _ _ _ _ us hl => match us, hl with | [_], _ => rfl) KX G ?a ?l ?c ?k
      (case a => k_is)
      (case l => k_is)
      (case c => k_is)
      (case k => k_is)
    · refine' Lw.dfn_mk (fun _ _ _ _ _ _ us hl => match us, hl with | [_], _ => rfl) KX G ?a ?l ?c ?k
      (case a => k_is)
      (case l => k_is)
      (case c => k_is)
      (case k => k_is)
    · refine' Lw.dfn_mk (fun _ _ _ _ _ _ us hl => match us, hl with | [_], _ => rfl) KX G ?a ?l ?c ?k
      (case a => k_is)
      (case l => k_is)
      (case c => k_is)
      (case k => k_is)
    · refine' Lw.dfn_mk (fun _ _ _ _ _ _ us hl => match us, hl with | [_], _ => rfl) KX G ?a ?l ?c ?k
      (case a => k_is)
      (case l => k_is)
      (case c => k_is)
      (case k => k_is)
    · refine' Lw.dfn_mk (fun _ _ _ _ _ _ us hl => match us, hl with | [_], _ => rfl) KX G ?a ?l ?c ?k
      (case a => k_is)
      (case l => k_is)
      (case c => k_is)
      (case k => k_is)
    · refine' Lw.dfn_mk (fun _ _ _ _ _ _ us hl => match us, hl with | [_], _ => rfl) KX G ?a ?l ?c ?k
      (case a => k_is)
      (case l => k_is)
      (case c => k_is)
      (case k => k_is)
    · refine' Lw.dfn_mk (fun _ _ _ _ _ _ us hl => match us, hl with | [_], _ => rfl) KX G ?a ?l ?c ?k
      (case a => k_is)
      (case l => k_is)
      (case c => k_is)
      (case k => k_is)
    · refine' Lw.dfn_mk (fun _ _ _ _ _ _ us hl => match us, hl with | [_], _ => rfl) KX G ?a ?l ?c ?k
      (case a => k_is)
      (case l => k_is)
      (case c => k_is)
      (case k => k_is)
    · refine' Lw.dfn_mk (fun _ _ _ _ _ _ us hl => match us, hl with | [_, _, _], _ => rfl) KX G ?a ?l ?c ?k
      (case a => k_is)
      (case l => k_is)
      (case c => k_is)
      (case k => k_is)
    · refine' Lw.dfn_mk (fun _ _ _ _ _ _ us hl => match us, hl with | [_], _ => rfl) KX G ?a ?l ?c ?k
      (case a => k_is)
      (case l => k_is)
      (case c => k_is)
      (case k => k_is)
    · refine' Lw.dfn_mk (fun _ _ _ _ _ _ us hl => match us, hl with | [_], _ => rfl) KX G ?a ?l ?c ?k
      (case a => k_is)
      (case l => k_is)
      (case c => k_is)
      (case k => k_is)
    · refine' Lw.dfn_mk (fun _ _ _ _ _ _ us hl => match us, hl with | [_], _ => rfl) KX G ?a ?l ?c ?k
      (case a => k_is)
      (case l => k_is)
      (case c => k_is)
      (case k => k_is)
    · refine' Lw.dfn_mk (fun _ _ _ _ _ _ us hl => match us, hl with | [_], _ => rfl) KX G ?a ?l ?c ?k
      (case a => k_is)
      (case l => k_is)
      (case c => k_is)
      (case k => k_is)
    · refine' Lw.dfn_mk (fun _ _ _ _ _ _ us hl => match us, hl with | [_], _ => rfl) KX G ?a ?l ?c ?k
      (case a => k_is)
      (case l => k_is)
      (case c => k_is)
      (case k => k_is)
#print axioms PySem.Challenge.cw_lentwork_k35_books_read_holds
