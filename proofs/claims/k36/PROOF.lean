import PyProof.Rows.All
import Wide.All
import OpenK.AllK
import Wide.FinOn
import HandS.ForMost
import HandS.ForExc
import HandS.Wide
import HandS.CallSlots
import HandS.Comp
import HandS.TryOnly
import HandS.IsInst
import HandS.TupAny
import HandS.Zip
import HandS.TupLe
import PyProof.NeKinds
import HandS.ExcOwn
import HandS.ExcCtx
import KE.SortData
import HandS.EndBits
import HandS.RaiseMore
import HandS.Text
import HandS.Conv
import HandS.ExcIs
import HandS.TryMany
import KE.GoesMore
import PyProof.Draws
import KE.GoesZip
import KE.GoesEnum
import HandS.SortInts
import HandS.SetFor
import HandS.Deep
import HandS.Defaults
import HandS.HotCalls
import HandS.StrMore
import HandS.Iter
import HandS.Style
import HandS.Head0
import HandS.Head1
import HandS.Head2
import HandS.HeadHook1
import HandS.HeadHook2
import HandS.HeadEnd
import KE.GoesEnumKw
import HandS.List
import PyProof.StrOps2
import PyProof.Rows.StrJoinMade
import PyProof.StrLawsJoin
import KE.KIntText
import PyProof.Rows.StrIntSpec
import PyProof.Rows.StrCut
import PySem.Challenge.RW_lentwork_k36_texts_of_no_book
set_option Elab.async false
set_option linter.all false
set_option maxRecDepth 100000
set_option maxHeartbeats 4000000
set_option maxHeartbeats 1000000
/-! SimA: plain data D, plain heaps, plain computations M, and what it means that an expression or a statement of the text
    computes one of them (DE, DT, DA, DS). Over the hand layer's judgements. -/
namespace Lw
open PySem L2
abbrev Fg := PySem.W.Frag
/-- plain data: tuples and lists that are never written are values -/
inductive D where
  | non | bl (b : Bool) | int (i : Int) | str (x : Str)
  | ref (n : Nat) | exn (c : Str) (a : Addr) | emp | tup (xs : List D) | lst (xs : List D)
mutual
def Rep (K : Fg) (F : Hp) (m : List Addr) : D → V → Prop
  | .non, v => v = .non
  | .bl b, v => v = .bl b
  | .int i, v => v = .int i
  | .str x, v => v = .str x
  | .ref n, v => ∃ a, m[n]? = some a ∧ v = .ref a
  | .exn _ a, v => v = .ref a
  | .emp, v => ∃ a, F a = some (.dK []) ∧ v = .ref a
  | .tup xs, v => ∃ a vs, v = .ref a ∧ SqT K F a vs ∧ RepL K F m xs vs
  | .lst xs, v => ∃ a vs, v = .ref a ∧ SqL K F a vs ∧ RepL K F m xs vs
def RepL (K : Fg) (F : Hp) (m : List Addr) : List D → List V → Prop
  | [], vs => vs = []
  | d :: ds, vs => ∃ v r, vs = v :: r ∧ Rep K F m d v ∧ RepL K F m ds r
end
structure Ext (F : Hp) (m : List Addr) (F' : Hp) (m' : List Addr) : Prop where
  sub : ∀ a o, F a = some o → F' a = some o
  pre : ∀ (i : Nat) a, m[i]? = some a → m'[i]? = some a
section
variable {K : Fg} {F F' F2 H : Hp} {m m' m2 : List Addr}
theorem Ext.refl : Ext F m F m := ⟨fun _ _ h => h, fun _ _ h => h⟩
theorem Ext.trans (a : Ext F m F' m') (b : Ext F' m' F2 m2) : Ext F m F2 m2 := ⟨fun x o h => b.sub x o (a.sub x o h), fun i x h => b.pre i x (a.pre i x h)⟩
theorem Rd.up {a : Addr} {u : HO} (s : ∀ a o, F a = some o → H a = some o) (h : Rd F a u) : Rd H a u := by
  rcases h with h | ⟨o, h⟩
  · exact .inl (s _ _ h)
  · exact .inr ⟨o, s _ _ h⟩
theorem SqT.up {a : Addr} {xs : List V} (s : ∀ a o, F a = some o → H a = some o) (h : SqT K F a xs) : SqT K H a xs := by
  rcases h with h | h
  · exact .inl (Rd.up s h)
  · exact .inr h
theorem SqL.up {a : Addr} {xs : List V} (s : ∀ a o, F a = some o → H a = some o) (h : SqL K F a xs) : SqL K H a xs := by
  rcases h with h | h
  · exact .inl (Rd.up s h)
  · exact .inr h
mutual
theorem Rep.ext (e : Ext F m F' m') : ∀ (d : D) (v : V), Rep K F m d v → Rep K F' m' d v
  | .non, _, h => h
  | .bl _, _, h => h
  | .int _, _, h => h
  | .str _, _, h => h
  | .ref n, v, h => by
    unfold Rep at h ⊢
    obtain ⟨a, q, h⟩ := h
    exact ⟨a, e.pre _ _ q, h⟩
  | .exn _ _, _, h => h
  | .emp, v, h => by
    unfold Rep at h ⊢
    obtain ⟨a, q, h⟩ := h
    exact ⟨a, e.sub _ _ q, h⟩
  | .tup xs, v, h => by
    unfold Rep at h ⊢
    obtain ⟨a, vs, h1, h2, h3⟩ := h
    exact ⟨a, vs, h1, SqT.up e.sub h2, RepL.ext e xs vs h3⟩
  | .lst xs, v, h => by
    unfold Rep at h ⊢
    obtain ⟨a, vs, h1, h2, h3⟩ := h
    exact ⟨a, vs, h1, SqL.up e.sub h2, RepL.ext e xs vs h3⟩
theorem RepL.ext (e : Ext F m F' m') : ∀ (ds : List D) (vs : List V), RepL K F m ds vs → RepL K F' m' ds vs
  | [], _, h => h
  | d :: ds, vs, h => by
    unfold RepL at h ⊢
    obtain ⟨v, r, h1, h2, h3⟩ := h
    exact ⟨v, r, h1, Rep.ext e d v h2, RepL.ext e ds r h3⟩
end
theorem RepL.length : ∀ {ds : List D} {vs : List V}, RepL K F m ds vs → vs.length = ds.length
  | [], vs, h => by
    unfold RepL at h
    rw [h]
    rfl
  | d :: ds, vs, h => by
    unfold RepL at h
    obtain ⟨v, r, h1, h2, h3⟩ := h
    rw [h1, List.length_cons, List.length_cons, RepL.length h3]
theorem RepL.get : ∀ {ds : List D} {vs : List V} {i : Nat} {d : D}, RepL K F m ds vs → ds[i]? = some d → ∃ v, vs[i]? = some v ∧ Rep K F m d v
  | [], _, _, _, _, e => by simp at e
  | d :: ds, vs, 0, x, h, e => by
    unfold RepL at h
    obtain ⟨v, r, h1, h2, h3⟩ := h
    simp at e
    subst e
    exact ⟨v, by rw [h1]; rfl, h2⟩
  | d :: ds, vs, i + 1, x, h, e => by
    unfold RepL at h
    obtain ⟨v, r, h1, h2, h3⟩ := h
    obtain ⟨u, q1, q2⟩ := RepL.get (i := i) (d := x) h3 (by simpa using e)
    exact ⟨u, by rw [h1]; simpa using q1, q2⟩
theorem RepL.nil : RepL K F m [] [] := by
  unfold RepL
  rfl
theorem RepL.cons {d : D} {v : V} {ds : List D} {vs : List V} (h : Rep K F m d v) (t : RepL K F m ds vs) : RepL K F m (d :: ds) (v :: vs) := by
  unfold RepL
  exact ⟨v, vs, rfl, h, t⟩
theorem RepL.append : ∀ {ds es : List D} {vs us : List V}, RepL K F m ds vs → RepL K F m es us → RepL K F m (ds ++ es) (vs ++ us)
  | [], es, vs, us, h, t => by
    unfold RepL at h
    rw [h]
    exact t
  | d :: ds, es, vs, us, h, t => by
    unfold RepL at h
    obtain ⟨v, r, h1, h2, h3⟩ := h
    rw [h1]
    exact RepL.cons h2 (RepL.append h3 t)
end
/-! ### plain heaps -/
inductive Cell where
  | lst (xs : List D) | dk (kvs : List (Key × D)) | ins (c : Str) (fs : List (Str × D)) | dead | dkL (kvs : List (Key × D))
/-- it may be written -/
def trk : Cell → Bool
  | .dead => false
  | .dkL _ => false
  | _ => true
abbrev AH := List Cell
/-- what a def was called with: the objects that stand outside of the plain heap, and the plain heap's places -/
structure Fm where
  H0 : Hp
  F0 : Hp
  m0 : List Addr
def RepK (K : Fg) (F : Hp) (m : List Addr) {κ : Type} : List (κ × D) → List (κ × V) → Prop := Paired fun p q => p.1 = q.1 ∧ Rep K F m p.2 q.2
def CellOk (K : Fg) (mg : Str → Option Value) (F : Hp) (m : List Addr) (H : Hp) (a : Addr) : Cell → Prop
  | .dead => True
  | .dkL kvs => ∃ o vs, F a = some (.frz o (.dK vs)) ∧ RepK K F m kvs vs
  | .lst xs => F a = none ∧ ∃ vs, H a = some (.lst vs) ∧ RepL K F m xs vs
  | .dk kvs => F a = none ∧ ∃ vs, H a = some (.dK vs) ∧ RepK K F m kvs vs
  | .ins c fs => F a = none ∧ ∃ C dx vs, mg c = some (.ref C) ∧ H a = some (.ins C dx vs) ∧ RepK K F m fs vs
structure Sim (K : Fg) (mg : Str → Option Value) (fr : Fm) (F : Hp) (m : List Addr) (ah : AH) (H : Hp) : Prop where
  sub : ∀ a o, F a = some o → H a = some o
  len : m.length = ah.length
  nod : m.Nodup
  cells : ∀ (i : Nat) c, ah[i]? = some c → ∃ a, m[i]? = some a ∧ CellOk K mg F m H a c
  frame : ∀ a o, fr.H0 a = some o → a ∉ fr.m0 → H a = some o
  young : ∀ a, a ∈ m → a ∉ fr.m0 → fr.H0 a = none
  pre : ∀ (i : Nat) a, fr.m0[i]? = some a → m[i]? = some a
  there : ∀ a, a ∈ m → ∃ o, H a = some o
  old : ∀ a o, F a = some o → fr.F0 a = some o ∨ fr.H0 a = none ∨ a ∈ fr.m0
section
variable {K : Fg} {mg : Str → Option Value} {fr : Fm} {F F' H H' : Hp} {m m' : List Addr} {ah : AH}
theorem Paired.imp {α β : Type} {R S : α → β → Prop} (h : ∀ a b, R a b → S a b) : ∀ {xs : List α} {ys : List β}, Paired R xs ys → Paired S xs ys
  | _, _, .nil => .nil
  | _, _, .cons r t => .cons (h _ _ r) (Paired.imp h t)
theorem RepK.ext {κ : Type} {xs : List (κ × D)} {ys : List (κ × V)} (e : Ext F m F' m') (h : RepK K F m xs ys) : RepK K F' m' xs ys :=
  Paired.imp (fun _ _ r => ⟨r.1, Rep.ext e _ _ r.2⟩) h
theorem CellOk.ext {a : Addr} : ∀ {c : Cell}, CellOk K mg F m H a c → Ext F m F' m' → (trk c = true → F' a = none) → (trk c = true → H' a = H a) → CellOk K mg F' m' H' a c
  | .dead, h, _, _, _ => trivial
  | .dkL kvs, ⟨o, vs, h1, h2⟩, e, _, _ => ⟨o, vs, e.sub _ _ h1, RepK.ext e h2⟩
  | .lst xs, ⟨f, vs, h1, h2⟩, e, n, q => ⟨n rfl, vs, by rw [q rfl]; exact h1, RepL.ext e _ _ h2⟩
  | .dk kvs, ⟨f, vs, h1, h2⟩, e, n, q => ⟨n rfl, vs, by rw [q rfl]; exact h1, RepK.ext e h2⟩
  | .ins c fs, ⟨f, C, dx, vs, h0, h1, h2⟩, e, n, q => ⟨n rfl, C, dx, vs, h0, by rw [q rfl]; exact h1, RepK.ext e h2⟩
theorem CellOk.free {a : Addr} : ∀ {c : Cell}, CellOk K mg F m H a c → trk c = true → F a = none
  | .dead, _, n => nomatch n
  | .dkL _, _, n => nomatch n
  | .lst _, h, _ => h.1
  | .dk _, h, _ => h.1
  | .ins _ _, h, _ => h.1
theorem Sim.mem0 (S : Sim K mg fr F m ah H) {a : Addr} (h : a ∈ fr.m0) : a ∈ m := by
  obtain ⟨i, hi⟩ := List.mem_iff_getElem?.mp h
  exact List.mem_of_getElem? (S.pre i a hi)
theorem Sim.fresh0 (S : Sim K mg fr F m ah H) {p : Addr} (hp : H p = none) : fr.H0 p = none := by
  cases q : fr.H0 p with
  | none => rfl
  | some o =>
    by_cases z : p ∈ fr.m0
    · obtain ⟨u, hu⟩ := S.there p (S.mem0 z)
      rw [hp] at hu
      cases hu
    · rw [S.frame p o q z] at hp
      cases hp
/-- a new thing that is never written is laid at p -/
theorem Sim.frozen {p : Addr} {o : HO} (S : Sim K mg fr F m ah H) (hp : H p = none) : Sim K mg fr (upd F p o) m ah (upd H p o) ∧ Ext F m (upd F p o) m := by
  have Fp : F p = none := by
    cases q : F p with
    | none => rfl
    | some u =>
      rw [S.sub _ _ q] at hp
      cases hp
  have e : Ext F m (upd F p o) m := ⟨fun a u h => by rw [upd_ne (ne_of_none h Fp)]; exact h, fun _ _ h => h⟩
  have nm : ∀ a, a ∈ m → a ≠ p := fun a ha z => by
    obtain ⟨u, hu⟩ := S.there a ha
    rw [z, hp] at hu
    cases hu
  refine ⟨⟨fun a u h => ?_, S.len, S.nod, fun i c h => ?_, fun a u h n => ?_, S.young, S.pre, fun a ha => ?_, fun a u h => ?_⟩, e⟩
  · by_cases z : a = p
    · subst z
      rw [upd_same] at h
      cases h
      exact upd_same
    · rw [upd_ne z] at h ⊢
      exact S.sub _ _ h
  · obtain ⟨a, q, ok⟩ := S.cells i c h
    have ne := nm a (List.mem_of_getElem? q)
    exact ⟨a, q, ok.ext e (fun z => by rw [upd_ne ne]; exact ok.free z) fun _ => by rw [upd_ne ne]⟩
  · have q := S.frame a u h n
    rw [upd_ne (ne_of_none q hp)]
    exact q
  · rw [upd_ne (nm a ha)]
    exact S.there a ha
  · by_cases z : a = p
    · exact .inr (.inl (by rw [z]; exact S.fresh0 hp))
    · rw [upd_ne z] at h
      exact S.old a u h
end
/-! ### plain computations -/
inductive Res (α : Type) where
  | ok (a : α) (h : AH) | exc (x : Str) (h : AH) | stuck
def M (α : Type) := AH → Res α
def M.pure {α : Type} (a : α) : M α := fun h => .ok a h
def M.bind {α β : Type} (x : M α) (f : α → M β) : M β := fun h => match x h with
  | .ok a h' => f a h'
  | .exc e h' => .exc e h'
  | .stuck => .stuck
instance : Monad M where
  pure := M.pure
  bind := M.bind
def stuck {α : Type} : M α := fun _ => .stuck
def throwM {α : Type} (x : Str) : M α := fun h => .exc x h
theorem bind_def {α β : Type} (x : M α) (f : α → M β) (h : AH) : (x >>= f) h = (match x h with
  | .ok a h' => f a h'
  | .exc e h' => .exc e h'
  | .stuck => .stuck) := rfl
theorem M.bind_assoc {α β γ : Type} (x : M α) (f : α → M β) (g : β → M γ) : (x >>= f >>= g : M γ) = x >>= fun a => f a >>= g := by
  funext h
  show (match (match x h with | .ok a h' => f a h' | .exc e h' => .exc e h' | .stuck => .stuck : Res β) with | .ok a h' => g a h' | .exc e h' => .exc e h' | .stuck => .stuck) = _
  rw [bind_def]
  cases x h <;> rfl
instance : LawfulMonad M := LawfulMonad.mk' M
  (id_map := fun x => by
    funext h
    show (match x h with | .ok a h' => Res.ok (id a) h' | .exc e h' => .exc e h' | .stuck => .stuck) = x h
    cases x h <;> rfl)
  (pure_bind := fun _ _ => rfl)
  (bind_assoc := fun x f g => M.bind_assoc x f g)
/-! ### the slots -/
abbrev Env := List (Option D)
def EnvRep (K : Fg) (F : Hp) (m : List Addr) (env : Env) (σ : St) : Prop := env.length = σ.length ∧ ∀ (i : Nat) d, env[i]? = some (some d) → ∃ v, σ[i]? = some (some v) ∧ Rep K F m d v
/-- less is known -/
def EnvLe (a b : Env) : Prop := a.length = b.length ∧ ∀ (i : Nat) d, a[i]? = some (some d) → b[i]? = some (some d)
section
variable {K : Fg} {F F' : Hp} {m m' : List Addr} {env env' : Env} {σ : St}
theorem EnvRep.ext (e : Ext F m F' m') (h : EnvRep K F m env σ) : EnvRep K F' m' env σ := ⟨h.1, fun i d q => by
  obtain ⟨v, h1, h2⟩ := h.2 i d q
  exact ⟨v, h1, Rep.ext e _ _ h2⟩⟩
theorem EnvRep.le (h : EnvRep K F m env σ) (l : EnvLe env' env) : EnvRep K F m env' σ := ⟨l.1.trans h.1, fun i d q => h.2 i d (l.2 i d q)⟩
theorem EnvRep.set {i : Nat} {d : D} {v : V} (h : EnvRep K F m env σ) (r : Rep K F m d v) : EnvRep K F m (env.set i (some d)) (σ.set i (some v)) := by
  refine ⟨by simpa using h.1, fun j x q => ?_⟩
  by_cases hj : i = j
  · subst hj
    by_cases hl : i < env.length
    · rw [List.getElem?_set_self hl] at q
      cases q
      exact ⟨v, by rw [List.getElem?_set_self (by rw [← h.1]; exact hl)], r⟩
    · rw [List.getElem?_eq_none (by simpa using hl)] at q
      cases q
  · rw [List.getElem?_set_ne hj] at q
    obtain ⟨u, h1, h2⟩ := h.2 j x q
    exact ⟨u, by rw [List.getElem?_set_ne hj]; exact h1, h2⟩
theorem EnvLe.refl (e : Env) : EnvLe e e := ⟨rfl, fun _ _ h => h⟩
theorem EnvLe.nil : EnvLe [] [] := EnvLe.refl []
theorem EnvLe.keep {x : Option D} {a b : Env} (h : EnvLe a b) : EnvLe (x :: a) (x :: b) := ⟨by simp [h.1], fun i d q => by
  cases i with
  | zero => exact q
  | succ i => exact h.2 i d (by simpa using q)⟩
theorem EnvLe.drop {x : Option D} {a b : Env} (h : EnvLe a b) : EnvLe (none :: a) (x :: b) := ⟨by simp [h.1], fun i d q => by
  cases i with
  | zero => simp at q
  | succ i => exact h.2 i d (by simpa using q)⟩
theorem EnvLe.trans {a b c : Env} (h : EnvLe a b) (k : EnvLe b c) : EnvLe a c := ⟨h.1.trans k.1, fun i d q => k.2 i d (h.2 i d q)⟩
end
/-! ### what is wanted of a state: a reading made of a plain computation -/
/-- behind a computation's result -/
def TK {α β : Type} (K : Fg) (mg : Str → Option Value) (fr : Fm) (W : WX) (R : Hp → List Addr → α → β → Prop) (σ : St) (F : Hp) (m : List Addr) (r : Res α) (Q : β → Hp → Prop) : Prop :=
  match r with
  | .ok d ah => ∀ F' m' v H', Ext F m F' m' → Sim K mg fr F' m' ah H' → R F' m' d v → Q v H'
  | .exc x ah => ∀ F' m' C H', Ext F m F' m' → Sim K mg fr F' m' ah H' → mg x = some (.ref C) → W (.ref C) none σ H'
  | .stuck => False
/-- the reading -/
def TC {α β : Type} (K : Fg) (mg : Str → Option Value) (W : WX) (R : Hp → List Addr → α → β → Prop) (env : Env) (mc : M α) : St → Hp → (β → Hp → Prop) → Prop := fun σ H Q =>
  ∃ fr F m ah, Sim K mg fr F m ah H ∧ EnvRep K F m env σ ∧ TK K mg fr W R σ F m (mc ah) Q
abbrev RB : Hp → List Addr → Bool → Bool → Prop := fun _ _ a b => a = b
section
variable {K : Fg} {mg : Str → Option Value} {fr : Fm} {W : WX} {env : Env} {σ : St} {F F' H : Hp} {m m' : List Addr} {ah : AH} {α β γ δ : Type} {R : Hp → List Addr → α → β → Prop} {S : Hp → List Addr → γ → δ → Prop}
theorem TK.ext {r : Res α} {Q : β → Hp → Prop} (e : Ext F m F' m') (h : TK K mg fr W R σ F m r Q) : TK K mg fr W R σ F' m' r Q := by
  cases r with
  | ok d a => exact fun F2 m2 v H' e2 s r => h F2 m2 v H' (e.trans e2) s r
  | exc x a => exact fun F2 m2 C H' e2 s r => h F2 m2 C H' (e.trans e2) s r
  | stuck => exact h
/-- the first part runs, the rest is wanted behind it -/
theorem TK.step {ma : M α} {k : α → M γ} {Q : δ → Hp → Prop} (s : Sim K mg fr F m ah H) (er : EnvRep K F m env σ) (h : TK K mg fr W S σ F m ((ma >>= k) ah) Q) {P : β → Hp → Prop}
    (hP : ∀ F1 m1 ah1 d v H1, Ext F m F1 m1 → Sim K mg fr F1 m1 ah1 H1 → EnvRep K F1 m1 env σ → R F1 m1 d v → TK K mg fr W S σ F1 m1 (k d ah1) Q → P v H1) : TC K mg W R env ma σ H P := by
  refine ⟨fr, F, m, ah, s, er, ?_⟩
  rw [bind_def] at h
  cases hr : ma ah with
  | ok d a =>
    rw [hr] at h
    exact fun F' m' v H' e s' r => hP F' m' a d v H' e s' (er.ext e) r (TK.ext e h)
  | exc x a =>
    rw [hr] at h
    exact h
  | stuck =>
    rw [hr] at h
    exact h
end
/-! ### the judgements -/
section
variable (X : Cx) (W : WX) (env : Env)
abbrev DE (e : Expr) (mc : M D) : Prop := PE X e (TC X.K X.mg W (Rep X.K) env mc)
abbrev DT (e : Expr) (mc : M Bool) : Prop := PT X e (TC X.K X.mg W RB env mc)
abbrev DA (es : List Expr) (mc : M (List D)) : Prop := PA X es (TC X.K X.mg W (RepL X.K) env mc)
end
theorem PE.from {X : Cx} {e : Expr} {t t' : TE} (h : PE X e t) (i : ∀ σ H Q, t' σ H Q → t σ H Q) : PE X e t' := ⟨fun pins s σ H Q I q => h.run pins s σ H Q I (i σ H Q q)⟩
theorem PT.from {X : Cx} {e : Expr} {t t' : TT} (h : PT X e t) (i : ∀ σ H Q, t' σ H Q → t σ H Q) : PT X e t' := ⟨fun pins s σ H Q I q => h.run pins s σ H Q I (i σ H Q q)⟩
theorem PA.from {X : Cx} {e : List Expr} {t t' : TA} (h : PA X e t) (i : ∀ σ H Q, t' σ H Q → t σ H Q) : PA X e t' := ⟨fun pos pins s σ H Q I q => h.run pos pins s σ H Q I (i σ H Q q)⟩
theorem PSs.from {X : Cx} {e : List Stmt} {t t' : TS} (h : PSs X e t) (i : ∀ D σ H, t' D σ H → t D σ H) : PSs X e t' := ⟨fun pins s σ H D I q => h.run pins s σ H D I (i D σ H q)⟩
section
variable {X : Cx} {fr : Fm} {W : WX} {env : Env} {pos : Pos}
/-! ### names and constants -/
theorem de_int {i : Int} {j} : DE X W env (.Constant (.int i) j pos) (pure (.int i)) := PE.from pe_int fun σ H Q ⟨fr, F, m, ah, s, er, k⟩ => k F m _ H Ext.refl s (by unfold Rep; rfl)
theorem de_bl {b : Bool} {j} : DE X W env (.Constant (.bool b) j pos) (pure (.bl b)) := PE.from pe_bl fun σ H Q ⟨fr, F, m, ah, s, er, k⟩ => k F m _ H Ext.refl s (by unfold Rep; rfl)
theorem de_non {j} : DE X W env (.Constant .none j pos) (pure .non) := PE.from pe_non fun σ H Q ⟨fr, F, m, ah, s, er, k⟩ => k F m _ H Ext.refl s (by unfold Rep; rfl)
theorem de_str {x : Str} {j} : DE X W env (.Constant (.str x) j pos) (pure (.str x)) := PE.from pe_str fun σ H Q ⟨fr, F, m, ah, s, er, k⟩ => k F m _ H Ext.refl s (by unfold Rep; rfl)
/-- the name in slot i -/
theorem de_var (i : Nat) {x : Str} {d : D} (he : env[i]? = some (some d) := by rfl) (hN : X.N[i]? = some x := by rfl) (hv : Vis X.env.scope x := by first | exact Or.inl rfl | exact Or.inr (Or.inl rfl) | exact Or.inr (Or.inr rfl)) (hd : (x == ("__debug__" : Str)) = false := by decide)
    (hcd : (x == ("__classdict__" : Str)) = false := by decide) : DE X W env (.Name x pos) (pure d) := PE.from (pv i hN hv hd hcd) fun σ H Q ⟨fr, F, m, ah, s, er, k⟩ => by
  obtain ⟨v, h1, h2⟩ := er.2 i d he
  exact ⟨v, h1, k F m _ H Ext.refl s h2⟩
/-! ### two-place operations -/
/-- a rule of values, read of data -/
def OpD (X : Cx) (r : R2) (op : D → D → M D) : Prop := ∀ (fr : Fm) (W : WX) (σ : St) (F : Hp) (m : List Addr) (ah : AH) (H : Hp) (d e : D) (x y : V) (Q : VK), Sim X.K X.mg fr F m ah H → Rep X.K F m d x → Rep X.K F m e y →
  TK X.K X.mg fr W (Rep X.K) σ F m (op d e ah) Q → r x y H Q
theorem tOp_from {r : R2} {op : D → D → M D} {ma mb : M D} (hr : OpD X r op) : ∀ σ H Q, TC X.K X.mg W (Rep X.K) env (do let x ← ma; let y ← mb; op x y) σ H Q →
    tOp r (TC X.K X.mg W (Rep X.K) env ma) (TC X.K X.mg W (Rep X.K) env mb) σ H Q := fun σ H Q ⟨fr, F, m, ah, s, er, k⟩ =>
  TK.step s er k fun F1 m1 ah1 d v H1 e1 s1 er1 r1 k1 => TK.step s1 er1 k1 fun F2 m2 ah2 d2 v2 H2 e2 s2 er2 r2 k2 =>
    hr fr W σ F2 m2 ah2 H2 d d2 v v2 Q s2 (Rep.ext e2 _ _ r1) r2 k2
theorem de_op {a b : Expr} {ma mb : M D} {op : Operator} {r : R2} {f : D → D → M D} (ho : OpR X (binaryOp op) r) (hr : OpD X r f) (ha : DE X W env a ma) (hb : DE X W env b mb) : DE X W env (.BinOp a op b pos) (do let x ← ma; let y ← mb; f x y) :=
  PE.from (pe_op ho ha hb) (tOp_from hr)
theorem de_cmp {a b : Expr} {ma mb : M D} {op : CmpOp} {r : R2} {f : D → D → M D} (ho : OpR X (compareOp op) r) (hr : OpD X r f) (ha : DE X W env a ma) (hb : DE X W env b mb) (hm : behindInMarks op b = false) :
    DE X W env (.Compare a [op] [b] pos) (do let x ← ma; let y ← mb; f x y) := PE.from (pe_cmpR ho ha hb hm) (tOp_from hr)
/-! ints -/
def int2 (f : Int → Int → D) : D → D → M D := fun x y => match x, y with
  | .int i, .int j => pure (f i j)
  | _, _ => stuck
theorem TK.stuck_of {α β : Type} {K : Fg} {mg : Str → Option Value} {R : Hp → List Addr → α → β → Prop} {σ : St} {F : Hp} {m : List Addr} {Q : β → Hp → Prop} (h : TK K mg fr W R σ F m (Res.stuck : Res α) Q) : False := h
theorem int2_ok {g : Int → Int → V} {f : Int → Int → D} (h : ∀ i j K F m, Rep K F m (f i j) (g i j)) : OpD X (rI0 g) (int2 f) := by
  intro fr W σ F m ah H d e x y Q s rx ry k
  cases d <;> try exact (TK.stuck_of k).elim
  cases e <;> try exact (TK.stuck_of k).elim
  rename_i i j
  unfold Rep at rx ry
  exact ⟨i, j, rx, ry, k F m _ H Ext.refl s (h i j _ _ _)⟩
end
end Lw
/-! SimB: statements. -/
namespace Lw
open PySem L2
/-- a block's end: on with the names' values t, a result, out of the loop, to the loop's next turn -/
inductive Out (τ β : Type) where
  | nx (t : τ) | ret (d : D) | bk (b : β) | ct (b : β)
def ores {τ' τ β : Type} (k : τ' → M (Out τ β)) : Res (Out τ' β) → Res (Out τ β)
  | .ok (.nx t) h' => k t h'
  | .ok (.ret d) h' => .ok (.ret d) h'
  | .ok (.bk b) h' => .ok (.bk b) h'
  | .ok (.ct b) h' => .ok (.ct b) h'
  | .exc e h' => .exc e h'
  | .stuck => .stuck
def obind {τ' τ β : Type} (x : M (Out τ' β)) (k : τ' → M (Out τ β)) : M (Out τ β) := fun h => ores k (x h)
section
end
/-- behind a loop's turn -/
def lres {τ β : Type} (k : τ → M (Out τ β)) : Res (Out τ τ) → Res (Out τ β)
  | .ok (.nx t) h' => k t h'
  | .ok (.ct t) h' => k t h'
  | .ok (.bk t) h' => .ok (.nx t) h'
  | .ok (.ret d) h' => .ok (.ret d) h'
  | .exc e h' => .exc e h'
  | .stuck => .stuck
def lbind {τ β : Type} (x : M (Out τ τ)) (k : τ → M (Out τ β)) : M (Out τ β) := fun h => lres k (x h)
/-- over items -/
def forM {τ β : Type} : List D → τ → (D → τ → M (Out τ τ)) → M (Out τ β)
  | [], t, _ => pure (.nx t)
  | x :: r, t, f => lbind (f x t) fun t' => forM r t' f
/-- a def's value -/
def dres {τ β : Type} : Res (Out τ β) → Res D
  | .ok (.nx _) h' => .ok .non h'
  | .ok (.ret d) h' => .ok d h'
  | .ok _ _ => .stuck
  | .exc e h' => .exc e h'
  | .stuck => .stuck
def defM {τ β : Type} (x : M (Out τ β)) : M D := fun h => dres (x h)
/-- behind a block's result -/
def TO {τ β : Type} (K : Fg) (mg : Str → Option Value) (fr : Fm) (W : WX) (ex : Env) (mk : τ → Env) (lp : β → Env) (F : Hp) (m : List Addr) (r : Res (Out τ β)) (Dn : Ends) : Prop :=
  match r with
  | .ok (.nx t) ah => ∀ F' m' σ' H', Ext F m F' m' → Sim K mg fr F' m' ah H' → EnvRep K F' m' (mk t) σ' → Dn.nx σ' H'
  | .ok (.ret d) ah => ∀ F' m' v H', Ext F m F' m' → Sim K mg fr F' m' ah H' → Rep K F' m' d v → Dn.rt v H'
  | .ok (.bk b) ah => ∀ F' m' σ' H', Ext F m F' m' → Sim K mg fr F' m' ah H' → EnvRep K F' m' (lp b) σ' → Dn.bk σ' H'
  | .ok (.ct b) ah => ∀ F' m' σ' H', Ext F m F' m' → Sim K mg fr F' m' ah H' → EnvRep K F' m' (lp b) σ' → Dn.ct σ' H'
  | .exc x ah => ∀ F' m' C σ' H', Ext F m F' m' → Sim K mg fr F' m' ah H' → EnvRep K F' m' ex σ' → mg x = some (.ref C) → W (.ref C) none σ' H'
  | .stuck => False
def TB {τ β : Type} (K : Fg) (mg : Str → Option Value) (W : WX) (ex env : Env) (mk : τ → Env) (lp : β → Env) (mc : M (Out τ β)) : TS := fun Dn σ H =>
  ∃ fr F m ah, Sim K mg fr F m ah H ∧ EnvRep K F m env σ ∧ TO K mg fr W ex mk lp F m (mc ah) Dn
abbrev DS {τ β : Type} (X : Cx) (W : WX) (ex env : Env) (mk : τ → Env) (lp : β → Env) (sts : List Stmt) (mc : M (Out τ β)) : Prop := PSs X sts (TB X.K X.mg W ex env mk lp mc)
theorem PT.ex {X : Cx} {α : Type} {e : Expr} {t : α → TT} (h : ∀ a, PT X e (t a)) : PT X e (fun σ H Q => ∃ a, t a σ H Q) :=
  ⟨fun pins s σ H Q I ⟨a, q⟩ => (h a).run pins s σ H Q I q⟩
theorem PSs.ex {X : Cx} {α : Type} {sts : List Stmt} {t : α → TS} (h : ∀ a, PSs X sts (t a)) : PSs X sts (fun D σ H => ∃ a, t a D σ H) :=
  ⟨fun pins s σ H D I ⟨a, q⟩ => (h a).run pins s σ H D I q⟩
section
variable {K : Fg} {mg : Str → Option Value} {fr : Fm} {W : WX} {ex env : Env} {σ : St} {F F' H : Hp} {m m' : List Addr} {ah : AH} {α α' τ τ' β γ : Type} {R : Hp → List Addr → α → γ → Prop} {mk : τ → Env} {mk' : τ' → Env} {lp : β → Env} {Dn : Ends}
theorem TO.ext {r : Res (Out τ β)} (e : Ext F m F' m') (h : TO K mg fr W ex mk lp F m r Dn) : TO K mg fr W ex mk lp F' m' r Dn := by
  cases r with
  | ok o a =>
    cases o with
    | nx t => exact fun F2 m2 v H' e2 s r => h F2 m2 v H' (e.trans e2) s r
    | ret t => exact fun F2 m2 v H' e2 s r => h F2 m2 v H' (e.trans e2) s r
    | bk t => exact fun F2 m2 v H' e2 s r => h F2 m2 v H' (e.trans e2) s r
    | ct t => exact fun F2 m2 v H' e2 s r => h F2 m2 v H' (e.trans e2) s r
  | exc x a => exact fun F2 m2 C σ' H' e2 s r => h F2 m2 C σ' H' (e.trans e2) s r
  | stuck => exact h
theorem TO.step {ma : M α} {k : α → M (Out τ β)} (s : Sim K mg fr F m ah H) (er : EnvRep K F m env σ) (hx : EnvLe ex env) (h : TO K mg fr W ex mk lp F m ((ma >>= k) ah) Dn) {P : γ → Hp → Prop}
    (hP : ∀ F1 m1 ah1 d v H1, Ext F m F1 m1 → Sim K mg fr F1 m1 ah1 H1 → EnvRep K F1 m1 env σ → R F1 m1 d v → TO K mg fr W ex mk lp F1 m1 (k d ah1) Dn → P v H1) : TC K mg W R env ma σ H P := by
  refine ⟨fr, F, m, ah, s, er, ?_⟩
  rw [bind_def] at h
  cases hr : ma ah with
  | ok d a =>
    rw [hr] at h
    exact fun F' m' v H' e s' r => hP F' m' a d v H' e s' (er.ext e) r (TO.ext e h)
  | exc x a =>
    rw [hr] at h
    exact fun F' m' C H' e s' q => h F' m' C σ H' e s' ((er.le hx).ext e) q
  | stuck =>
    rw [hr] at h
    exact h
/-- a block, then another -/
theorem TO.obind {ma : M (Out τ' β)} {k : τ' → M (Out τ β)} (h : TO K mg fr W ex mk lp F m (obind ma k ah) Dn) :
    TO K mg fr W ex mk' lp F m (ma ah) { Dn with nx := fun σ' H' => ∃ t, TB K mg W ex (mk' t) mk lp (k t) Dn σ' H' } := by
  have h : TO K mg fr W ex mk lp F m (ores k (ma ah)) Dn := h
  cases hr : ma ah with
  | ok o a =>
    rw [hr] at h
    cases o with
    | nx t => exact fun F' m' σ' H' e s r => ⟨t, fr, F', m', a, s, r, TO.ext e h⟩
    | ret t => exact h
    | bk t => exact h
    | ct t => exact h
  | exc x a =>
    rw [hr] at h
    exact h
  | stuck =>
    rw [hr] at h
    exact h
end
section
variable {X : Cx} {fr : Fm} {W : WX} {ex env : Env} {pos : Pos} {τ τ' β : Type} {mk : τ → Env} {mk' : τ' → Env} {lp : β → Env} {rest : List Stmt}
theorem ds_nil {t : τ} (h : EnvLe (mk t) env) : DS X W ex env mk lp [] (pure (.nx t)) := PSs.from pss_nil fun Dn σ H ⟨fr, F, m, ah, s, er, k⟩ => k F m σ H Ext.refl s (er.le h)
theorem ds_ret {e : Expr} {me : M D} (he : DE X W env e me) (hx : EnvLe ex env) : DS X W ex env mk lp (.Return (some e) pos :: rest) (do let d ← me; pure (.ret d)) :=
  PSs.from (pss_cons (ps_ret he) pss_never) fun Dn σ H ⟨fr, F, m, ah, s, er, k⟩ => TO.step s er hx k fun F1 m1 ah1 d v H1 e1 s1 er1 r1 k1 => k1 F1 m1 v H1 Ext.refl s1 r1
theorem ds_expr {e : Expr} {me : M D} {mc : M (Out τ β)} (he : DE X W env e me) (hx : EnvLe ex env) (hr : DS X W ex env mk lp rest mc) (hs : swapsWith e none pos.line X.env = pure false := by rfl) :
    DS X W ex env mk lp (.Expr e pos :: rest) (do let _ ← me; mc) :=
  PSs.from (pss_cons (ps_expr he hs) hr) fun Dn σ H ⟨fr, F, m, ah, s, er, k⟩ => TO.step s er hx k fun F1 m1 ah1 d v H1 e1 s1 er1 r1 k1 => ⟨fr, F1, m1, ah1, s1, er1, k1⟩
theorem ds_set (i : Nat) {x : Str} {pos' : Pos} {e : Expr} {me : M D} {k : D → M (Out τ β)} (hN : X.N.Nodup) (env' : D → Env) (he : DE X W env e me) (hx : EnvLe ex env) (hr : ∀ d, DS X W ex (env' d) mk lp rest (k d)) (hv : ∀ d, env.set i (some d) = env' d := by intro _; rfl)
    (hi : X.N[i]? = some x := by rfl) (hl : Loc X.env.scope x := by first | exact Or.inl rfl | exact Or.inr rfl) (hs : swapsWith e (some (.Name x pos')) pos.line X.env = pure false := by rfl) (hf : X.fn x = true ∨ X.env.scope.names.lookup x = some .local := by first | exact .inl rfl | exact .inr rfl) :
    DS X W ex env mk lp (.Assign [.Name x pos'] e pos :: rest) (me >>= k) :=
  PSs.from (pss_cons (ps_set hN hi hl he hs hf) (PSs.ex hr)) fun Dn σ H ⟨fr, F, m, ah, s, er, q⟩ => TO.step s er hx q fun F1 m1 ah1 d v H1 e1 s1 er1 r1 k1 => ⟨d, fr, F1, m1, ah1, s1, by rw [← hv d]; exact er1.set r1, k1⟩
theorem ds_if {c : Expr} {a b : List Stmt} {mc : M Bool} {ma mb : M (Out τ' β)} {k : τ' → M (Out τ β)} (hc : DT X W env c mc) (ha : DS X W ex env mk' lp a ma) (hb : DS X W ex env mk' lp b mb)
    (hx : EnvLe ex env) (hr : ∀ t, DS X W ex (mk' t) mk lp rest (k t)) : DS X W ex env mk lp (.If c a b pos :: rest) (do let t ← mc; obind (if t = true then ma else mb) k) :=
  PSs.from (pss_cons (ps_if hc ha hb) (PSs.ex hr)) fun Dn σ H ⟨fr, F, m, ah, s, er, q⟩ => TO.step s er hx q fun F1 m1 ah1 d v H1 e1 s1 er1 r1 k1 => by
    have r1 : d = v := r1
    subst r1
    cases d with
    | true => exact ⟨fr, F1, m1, ah1, s1, er1, TO.obind k1⟩
    | false => exact ⟨fr, F1, m1, ah1, s1, er1, TO.obind k1⟩
/-- a branch that does not fall through, and no other one -/
theorem ds_ifr {c : Expr} {a : List Stmt} {mc : M Bool} {ma : M (Out τ β)} {mr : M (Out τ β)} (mk0 : Empty → Env) {maE : M (Out Empty β)} (hc : DT X W env c mc) (ha : DS X W ex env mk0 lp a maE)
    (hx : EnvLe ex env) (hr : DS X W ex env mk lp rest mr) (hE : obind maE (fun e => e.elim) = ma) : DS X W ex env mk lp (.If c a [] pos :: rest) (do let t ← mc; if t = true then ma else mr) :=
  PSs.from (pss_cons (ps_if hc ha (ds_nil (X := X) (W := W) (ex := ex) (lp := lp) (mk := fun _ : Unit => env) (t := ()) (EnvLe.refl env))) hr) fun Dn σ H ⟨fr, F, m, ah, s, er, q⟩ => TO.step s er hx q fun F1 m1 ah1 d v H1 e1 s1 er1 r1 k1 => by
    have r1 : d = v := r1
    subst r1
    cases d with
    | true =>
      subst hE
      refine ⟨fr, F1, m1, ah1, s1, er1, ?_⟩
      have z := TO.obind (mk' := mk0) k1
      have z2 : TO X.K X.mg fr W ex mk0 lp F1 m1 (maE ah1) { Dn with nx := fun σ' H' => ∃ t : Empty, TB X.K X.mg W ex (mk0 t) mk lp t.elim Dn σ' H' } := z
      cases hr : maE ah1 with
      | ok o a =>
        rw [hr] at z2
        cases o with
        | nx t => exact t.elim
        | ret t => exact z2
        | bk t => exact z2
        | ct t => exact z2
      | exc x a =>
        rw [hr] at z2
        exact z2
      | stuck =>
        rw [hr] at z2
        exact z2
    | false => exact ⟨fr, F1, m1, ah1, s1, er1, fun F' m' σ' H' e' s' r' => ⟨fr, F', m', ah1, s', r', TO.ext e' k1⟩⟩
end
/-! ### targets -/
/-- what a target takes out of an item, and how the slots stand then -/
def gD {π : Type} (K : Fg) (mg : Str → Option Value) (sl : List Nat) (unp : D → Option π) (sets : π → Env → Env) : L2.TG := fun v σ H Q => ∃ fr F m ah env d p, Sim K mg fr F m ah H ∧ EnvRep K F m env σ ∧ Rep K F m d v ∧ unp d = some p ∧
    ∀ σ', EnvRep K F m (sets p env) σ' → (∀ vs : List Nat, (∀ i ∈ sl, i ∈ vs) → wipe σ' vs = wipe σ vs) → Q σ' H
abbrev DG {π : Type} (X : Cx) (tg : Expr) (sl : List Nat) (unp : D → Option π) (sets : π → Env → Env) : Prop := PG X tg (gD X.K X.mg sl unp sets)
theorem wipe_set {i : Nat} {x : Option V} : ∀ {σ : St} {vs : List Nat}, i ∈ vs → wipe (σ.set i x) vs = wipe σ vs
  | σ, [], h => by cases h
  | σ, v :: vs, h => by
    show (wipe (σ.set i x) vs).set v none = (wipe σ vs).set v none
    by_cases e : i ∈ vs
    · rw [wipe_set e]
    · have ev : i = v := by
        rcases List.mem_cons.mp h with z | z
        · exact z
        · exact absurd z e
      subst ev
      have comm : ∀ {σ : St} {vs : List Nat}, i ∉ vs → wipe (σ.set i x) vs = (wipe σ vs).set i x := by
        intro σ vs
        induction vs with
        | nil => intro _; rfl
        | cons w ws ih =>
          intro hn
          have h1 : i ≠ w := fun z => hn (by rw [z]; exact List.mem_cons_self)
          have h2 : i ∉ ws := fun z => hn (List.mem_cons_of_mem _ z)
          show (wipe (σ.set i x) ws).set w none = ((wipe σ ws).set w none).set i x
          rw [ih h2, List.set_comm _ _ h1]
      rw [comm e, List.set_set]
theorem PG.from {X : Cx} {e : Expr} {t t' : L2.TG} (h : PG X e t) (i : ∀ v σ H Q, t' v σ H Q → t v σ H Q) : PG X e t' := ⟨fun pins s σ H v u Q I r q => h.run pins s σ H v u Q I r (i v σ H Q q)⟩
section
variable {X : Cx} {fr : Fm} {pos : Pos}
theorem dg_name (i : Nat) {x : Str} (hN : X.N.Nodup) (hi : X.N[i]? = some x := by rfl) (hl : Loc X.env.scope x := by first | exact Or.inl rfl | exact Or.inr rfl) (hf : X.fn x = true ∨ X.env.scope.names.lookup x = some .local := by first | exact .inl rfl | exact .inr rfl) :
    DG X (.Name x pos) [i] (fun d => some d) (fun d env => env.set i (some d)) := PG.from (pg_name hN hi hl hf) fun v σ H Q ⟨fr, F, m, ah, env, d, p, s, er, r, e, q⟩ => by
  cases e
  exact q _ (er.set r) fun vs hv => wipe_set (hv i (by simp))
def items? : D → Option (List D)
  | .tup xs => some xs
  | .lst xs => some xs
  | _ => none
/-- several targets, one after another -/
def gDs {π : Type} (K : Fg) (mg : Str → Option Value) (sl : List Nat) (unp : List D → Option π) (sets : π → Env → Env) : L2.TGs := fun vs σ H Q => ∃ fr F m ah env ds p, Sim K mg fr F m ah H ∧ EnvRep K F m env σ ∧ RepL K F m ds vs ∧ unp ds = some p ∧
    ∀ σ', EnvRep K F m (sets p env) σ' → (∀ vs : List Nat, (∀ i ∈ sl, i ∈ vs) → wipe σ' vs = wipe σ vs) → Q σ' H
abbrev DGs {π : Type} (X : Cx) (tgs : List Expr) (sl : List Nat) (unp : List D → Option π) (sets : π → Env → Env) : Prop := PGs X tgs (gDs X.K X.mg sl unp sets)
theorem PGs.from {X : Cx} {e : List Expr} {t t' : L2.TGs} (h : PGs X e t) (i : ∀ v σ H Q, t' v σ H Q → t v σ H Q) : PGs X e t' := ⟨fun pins s σ H v u Q I r q => h.run pins s σ H v u Q I r (i v σ H Q q)⟩
theorem PG.or {X : Cx} {e : Expr} {t t' : L2.TG} (h : PG X e t) (h' : PG X e t') : PG X e (fun v σ H Q => t v σ H Q ∨ t' v σ H Q) := ⟨fun pins s σ H v u Q I r q => by
  rcases q with q | q
  · exact h.run pins s σ H v u Q I r q
  · exact h'.run pins s σ H v u Q I r q⟩
def uNil : List D → Option Unit
  | [] => some ()
  | _ => none
def uCons {π π' : Type} (u : D → Option π) (us : List D → Option π') : List D → Option (π × π')
  | [] => none
  | d :: ds => match u d with
    | some p => (match us ds with
      | some q => some (p, q)
      | none => none)
    | none => none
def unpT {π : Type} (us : List D → Option π) (d : D) : Option π := match items? d with
  | some xs => us xs
  | none => none
theorem uNil_len {ds : List D} {p : Unit} (h : uNil ds = some p) : ds = [] := by
  cases ds with
  | nil => rfl
  | cons _ _ => cases h
theorem uCons_eq {π π' : Type} {u : D → Option π} {us : List D → Option π'} {ds : List D} {p : π × π'} (h : uCons u us ds = some p) : ∃ d r, ds = d :: r ∧ u d = some p.1 ∧ us r = some p.2 := by
  cases ds with
  | nil => cases h
  | cons d r =>
    unfold uCons at h
    cases hu : u d with
    | none =>
      simp only [hu] at h
      cases h
    | some p1 =>
      simp only [hu] at h
      cases hs : us r with
      | none =>
        simp only [hs] at h
        cases h
      | some q =>
        simp only [hs] at h
        cases h
        exact ⟨d, r, rfl, hu, hs⟩
theorem dgs_nil : DGs X [] [] uNil (fun _ env => env) := PGs.from pgs_nil fun v σ H Q ⟨fr, F, m, ah, env, ds, p, s, er, r, e, q⟩ => by
  rw [uNil_len e] at r
  unfold RepL at r
  exact ⟨r, q σ er fun vs _ => rfl⟩
theorem dgs_cons {π π' : Type} {t : Expr} {ts : List Expr} {sl sl' : List Nat} {u : D → Option π} {us : List D → Option π'} {sets : π → Env → Env} {sets' : π' → Env → Env} (h : DG X t sl u sets) (hs : DGs X ts sl' us sets')
    (ha : (assignEach (t :: ts) X.env).map (·.2) = assign t X.env :: (assignEach ts X.env).map (·.2) := by rfl) : DGs X (t :: ts) (sl ++ sl') (uCons u us) (fun p env => sets' p.2 (sets p.1 env)) :=
  PGs.from (pgs_cons h hs ha) fun v σ H Q ⟨fr, F, m, ah, env, ds, p, s, er, r, e, q⟩ => by
    obtain ⟨d, rest, rfl, h1, h2⟩ := uCons_eq e
    unfold RepL at r
    obtain ⟨v1, vr, rfl, r1, r2⟩ := r
    refine ⟨v1, vr, rfl, fr, F, m, ah, env, d, p.1, s, er, r1, h1, fun σ1 er1 w1 => ⟨fr, F, m, ah, _, rest, p.2, s, er1, r2, h2, fun σ2 er2 w2 => q σ2 er2 fun vs hv => ?_⟩⟩
    rw [w2 vs fun i hi => hv i (List.mem_append_right _ hi), w1 vs fun i hi => hv i (List.mem_append_left _ hi)]
theorem uNil_l : ∀ ds p, uNil ds = some p → ds.length = 0 := fun ds p h => by rw [uNil_len h]; rfl
theorem uCons_l {π π' : Type} {u : D → Option π} {us : List D → Option π'} {n : Nat} (h : ∀ ds p, us ds = some p → ds.length = n) : ∀ ds p, uCons u us ds = some p → ds.length = n + 1 := fun ds p e => by
  obtain ⟨d, r, rfl, _, h2⟩ := uCons_eq e
  rw [List.length_cons, h r p.2 h2]
theorem dg_tup {π : Type} {es : List Expr} {k : Nat} {sl : List Nat} {us : List D → Option π} {sets : π → Env → Env} {n : Nat} (hc : X.calm = true) (h : DGs X es sl us sets) (hl : ∀ ds p, us ds = some p → ds.length = n)
    (hn : (assignEach es X.env).length = n := by rfl) (hst : (assignEach es X.env).findIdx? (·.1) = none := by rfl) : DG X (.Tuple es k pos) sl (unpT us) sets :=
  PG.from (PG.or (pg_tup hc h hn hst) (pg_lst hc h hn hst)) fun v σ H Q ⟨fr, F, m, ah, env, d, p, s, er, r, e, q⟩ => by
    unfold unpT at e
    cases d <;> try (cases e; done)
    · rename_i xs
      unfold Rep at r
      obtain ⟨a, vs, h1, h2, h3⟩ := r
      exact .inl ⟨a, vs, h1, SqT.up s.sub h2, by rw [RepL.length h3]; exact hl xs p e, fr, F, m, ah, env, xs, p, s, er, h3, e, q⟩
    · rename_i xs
      unfold Rep at r
      obtain ⟨a, vs, h1, h2, h3⟩ := r
      exact .inr ⟨a, vs, h1, SqL.up s.sub h2, by rw [RepL.length h3]; exact hl xs p e, fr, F, m, ah, env, xs, p, s, er, h3, e, q⟩
end
def liftO {α : Type} : Option α → M α
  | some a => pure a
  | none => stuck
section
variable {X : Cx} {fr : Fm} {W : WX} {ex env : Env} {pos : Pos} {τ τ' β : Type} {mk : τ → Env} {mk' : τ' → Env} {lp : β → Env} {rest : List Stmt}
/-- a, b = e -/
theorem ds_unpack {π : Type} {sl : List Nat} {tg e : Expr} {me : M D} {unp : D → Option π} {sets : π → Env → Env} {k : π → M (Out τ β)} (he : DE X W env e me) (hg : DG X tg sl unp sets) (hx : EnvLe ex env) (hr : ∀ p, DS X W ex (sets p env) mk lp rest (k p))
    (hs : swapsWithSole [tg] e pos.line X.env = pure false := by rfl) (hw : swappedStores [tg] e X.env = pure none := by rfl) (h1 : (assignEach [tg] X.env).map (·.2) = [assign tg X.env] := by rfl) :
    DS X W ex env mk lp (.Assign [tg] e pos :: rest) (do let d ← me; let p ← liftO (unp d); k p) :=
  PSs.from (pss_cons (ps_asg he hg hs hw h1) (PSs.ex hr)) fun Dn σ H ⟨fr, F, m, ah, s, er, q⟩ => TO.step s er hx q fun F1 m1 ah1 d v H1 e1 s1 er1 r1 k1 => by
    cases hp : unp d with
    | none =>
      rw [hp] at k1
      exact False.elim k1
    | some p =>
      rw [hp] at k1
      exact ⟨fr, F1, m1, ah1, env, d, p, s1, er1, r1, hp, fun σ' h' _ => ⟨p, fr, F1, m1, ah1, s1, h', k1⟩⟩
end
/-! ### what is walked -/
/-- the iterator J yields the items xs -/
structure Yl (K : Fg) (mg : Str → Option Value) (F : Hp) (m : List Addr) (xs : List D) (J : It) : Prop where
  go : ∀ (i : Nat) (fr : Fm) F1 m1 ah1 H1, Ext F m F1 m1 → Sim K mg fr F1 m1 ah1 H1 → i < xs.length → J.go i H1
  stop : ∀ (fr : Fm) F1 m1 ah1 H1, Ext F m F1 m1 → Sim K mg fr F1 m1 ah1 H1 → J.stop xs.length H1
  yld : ∀ (i : Nat) (fr : Fm) F1 m1 ah1 H1 x H2, Ext F m F1 m1 → Sim K mg fr F1 m1 ah1 H1 → i < xs.length → J.yld i H1 x H2 → ∃ F2 d, xs[i]? = some d ∧ Ext F1 m1 F2 m1 ∧ Sim K mg fr F2 m1 ah1 H2 ∧ Rep K F2 m1 d x
def TIM (K : Fg) (mg : Str → Option Value) (W : WX) (env : Env) (mi : M (List D)) : TI := fun σ H R =>
  ∃ fr F m ah, Sim K mg fr F m ah H ∧ EnvRep K F m env σ ∧ TK K mg fr W (Yl K mg) σ F m (mi ah) (fun J H' => R J H')
abbrev DI (X : Cx) (W : WX) (env : Env) (tg it : Expr) (mi : M (List D)) : Prop := PI X tg it (TIM X.K X.mg W env mi)
theorem PI.from {X : Cx} {tg e : Expr} {t t' : TI} (h : PI X tg e t) (i : ∀ σ H Q, t' σ H Q → t σ H Q) : PI X tg e t' := ⟨fun pins s σ H R I q => h.run pins s σ H R I (i σ H R q)⟩
section
variable {X : Cx} {fr : Fm} {W : WX} {ex env : Env} {pos : Pos} {τ β : Type} {mk : τ → Env} {lp : β → Env} {rest : List Stmt}
/-- for tg in it: body; rest -/
theorem ds_for {ℓ π : Type} {sl : List Nat} {tg it : Expr} {body : List Stmt} {mi : M (List D)} {unp : D → Option π} {sets : π → Env → Env} {mkL : ℓ → Env} {t0 : ℓ} {mb : π → ℓ → M (Out ℓ ℓ)} {k : ℓ → M (Out τ β)}
    (hp : PassesOwn (model X.prog X.w) X.A X.env X.xe) (hc : X.calm = true) (hi : DI X W env tg it mi) (hg : DG X tg sl unp sets) (h0 : EnvLe (mkL t0) env) (hx : EnvLe ex env)
    (hb : ∀ p t, DS X W ex (sets p (mkL t)) mkL mkL body (mb p t)) (hr : ∀ t, DS X W ex (mkL t) mk lp rest (k t)) (hs : ∀ x, foldedSetIterable it X.env x = pure x := by intro _; rfl) :
    DS X W ex env mk lp (.For tg it body [] pos :: rest) (do let xs ← mi; obind (forM xs t0 (fun x t => do let p ← liftO (unp x); mb p t)) k) := by
  refine PSs.from (pss_cons (ps_for hp hc hi hg (PSs.ex fun p => PSs.ex (hb p)) hs) (PSs.ex hr)) fun Dn σ H ⟨fr, F, m, ah, s, er, q⟩ => ?_
  refine ⟨fr, F, m, ah, s, er, ?_⟩
  rw [bind_def] at q
  cases hi' : mi ah with
  | stuck =>
    rw [hi'] at q
    exact q
  | exc x a =>
    rw [hi'] at q
    exact fun F' m' C H' e s' z => q F' m' C σ H' e s' ((er.le hx).ext e) z
  | ok xs a =>
    rw [hi'] at q
    intro F1 m1 J H1 e1 s1 y
    have q1 := TO.ext e1 q
    refine ⟨fun i n σ H => n = xs.length - i ∧ i ≤ xs.length ∧ ∃ F2 m2 ah2 t, Ext F1 m1 F2 m2 ∧ Sim X.K X.mg fr F2 m2 ah2 H ∧ EnvRep X.K F2 m2 (mkL t) σ ∧
      TO X.K X.mg fr W ex mk lp F2 m2 ((obind (forM (xs.drop i) t (fun x t => do let p ← liftO (unp x); mb p t)) k) ah2) Dn, ⟨_, rfl, Nat.zero_le _, F1, m1, a, t0, Ext.refl, s1, (er.le h0).ext e1, by rw [List.drop_zero]; exact q1⟩, ?_⟩
    rintro i n σ2 H2 ⟨rfl, hi2, F2, m2, ah2, t, e2, s2, er2, k2⟩
    by_cases hlt : i < xs.length
    · refine .inr ⟨y.go i fr F2 m2 ah2 H2 e2 s2 hlt, fun σ' H' => ∃ F3 m3 ah3 t, Ext F1 m1 F3 m3 ∧ Sim X.K X.mg fr F3 m3 ah3 H' ∧ EnvRep X.K F3 m3 (mkL t) σ' ∧
        TO X.K X.mg fr W ex mk lp F3 m3 ((obind (forM (xs.drop (i + 1)) t (fun x t => do let p ← liftO (unp x); mb p t)) k) ah3) Dn, fun σ' H' z => ⟨xs.length - (i + 1), by omega, rfl, hlt, z⟩, fun v H3 yy => ?_⟩
      obtain ⟨F3, d, hd, e3, s3, r3⟩ := y.yld i fr F2 m2 ah2 H2 v H3 e2 s2 hlt yy
      have er3 := er2.ext e3
      have k3 := TO.ext e3 k2
      have hdrop : xs.drop i = d :: xs.drop (i + 1) := by
        rw [List.drop_eq_getElem_cons hlt]
        rw [List.getElem?_eq_getElem hlt] at hd
        cases hd
        rfl
      rw [hdrop] at k3
      cases hu : unp d with
      | none =>
        have k4 : TO X.K X.mg fr W ex mk lp F3 m2 (ores k (lres (fun t' => forM (xs.drop (i + 1)) t' (fun x t => do let p ← liftO (unp x); mb p t)) ((liftO (unp d) >>= fun p => mb p t) ah2))) Dn := k3
        rw [hu] at k4
        exact False.elim k4
      | some p =>
        have k4 : TO X.K X.mg fr W ex mk lp F3 m2 (ores k (lres (fun t' => forM (xs.drop (i + 1)) t' (fun x t => do let p ← liftO (unp x); mb p t)) ((liftO (unp d) >>= fun p => mb p t) ah2))) Dn := k3
        rw [hu] at k4
        have k4 : TO X.K X.mg fr W ex mk lp F3 m2 (ores k (lres (fun t' => forM (xs.drop (i + 1)) t' (fun x t => do let p ← liftO (unp x); mb p t)) (mb p t ah2))) Dn := k4
        refine ⟨fr, F3, m2, ah2, mkL t, d, p, s3, er3, r3, hu, fun σ' er' _ => ⟨p, t, fr, F3, m2, ah2, s3, er', ?_⟩⟩
        cases hm : mb p t ah2 with
        | stuck =>
          rw [hm] at k4
          exact k4
        | exc x a =>
          rw [hm] at k4
          exact k4
        | ok o a =>
          rw [hm] at k4
          cases o with
          | nx t' => exact fun F4 m4 σ4 H4 e4 s4 r4 => ⟨F4, m4, a, t', (e2.trans e3).trans e4, s4, r4, TO.ext e4 k4⟩
          | ct t' => exact fun F4 m4 σ4 H4 e4 s4 r4 => ⟨F4, m4, a, t', (e2.trans e3).trans e4, s4, r4, TO.ext e4 k4⟩
          | bk t' => exact fun F4 m4 σ4 H4 e4 s4 r4 => ⟨t', fr, F4, m4, a, s4, r4, TO.ext e4 k4⟩
          | ret d => exact k4
    · have ei : i = xs.length := by omega
      subst ei
      refine .inl ⟨y.stop fr F2 m2 ah2 H2 e2 s2, t, fr, F2, m2, ah2, s2, er2, ?_⟩
      rw [List.drop_length] at k2
      exact k2
end
end Lw
/-! SimC: operations on plain data, with their rules. -/
namespace Lw
open PySem L2
def tupOf : D → Option (List D)
  | .tup xs => some xs
  | _ => none
def lstOf (h : AH) : D → Option (List D)
  | .lst xs => some xs
  | .ref n => match h[n]? with
    | some (.lst xs) => some xs
    | _ => none
  | _ => none
def seqOf (h : AH) (d : D) : Option (List D) := match d with
  | .tup xs => some xs
  | d => lstOf h d
section
variable {K : Fg} {mg : Str → Option Value} {fr : Fm} {W : WX} {σ : St} {F F' H H' : Hp} {m m' : List Addr} {ah : AH}
theorem tup_of {d : D} {v : V} {xs : List D} (r : Rep K F m d v) (h : tupOf d = some xs) : ∃ a vs, v = .ref a ∧ SqT K F a vs ∧ RepL K F m xs vs := by
  cases d <;> try (cases h; done)
  cases h
  unfold Rep at r
  exact r
theorem lst_of {d : D} {v : V} {xs : List D} (S : Sim K mg fr F m ah H) (r : Rep K F m d v) (h : lstOf ah d = some xs) : ∃ a vs, v = .ref a ∧ SqL K H a vs ∧ RepL K F m xs vs := by
  cases d <;> try (cases h; done)
  · rename_i n
    unfold Rep at r
    obtain ⟨a, h1, h2⟩ := r
    unfold lstOf at h
    cases hc : ah[n]? with
    | none =>
      simp only [hc] at h
      cases h
    | some c =>
      cases c <;> simp only [hc] at h <;> try (cases h; done)
      cases h
      obtain ⟨a', q, ok⟩ := S.cells n _ hc
      rw [h1] at q
      cases q
      obtain ⟨_, vs, h3, h4⟩ := ok
      exact ⟨a, vs, h2, SqL.of h3, h4⟩
  · cases h
    unfold Rep at r
    obtain ⟨a, vs, h1, h2, h3⟩ := r
    exact ⟨a, vs, h1, SqL.up S.sub h2, h3⟩
/-- the result is a value as it stands -/
theorem TK.val {d : D} {v : V} {Q : VK} (k : TK K mg fr W (Rep K) σ F m (.ok d ah) Q) (S : Sim K mg fr F m ah H) (r : Rep K F m d v) : Q v H := k F m v H Ext.refl S r
theorem TK.newT {ds : List D} {vs : List V} {p : Addr} {Q : VK} (k : TK K mg fr W (Rep K) σ F m (.ok (.tup ds) ah) Q) (S : Sim K mg fr F m ah H) (r : RepL K F m ds vs) (hp : H p = none) : Q (.ref p) (upd H p (.tup vs)) := by
  obtain ⟨S', e⟩ := S.frozen (o := .tup vs) hp
  refine k _ _ _ _ e S' ?_
  unfold Rep
  exact ⟨p, vs, rfl, .inl (.inl upd_same), RepL.ext e _ _ r⟩
theorem TK.newL {ds : List D} {vs : List V} {p : Addr} {Q : VK} (k : TK K mg fr W (Rep K) σ F m (.ok (.lst ds) ah) Q) (S : Sim K mg fr F m ah H) (r : RepL K F m ds vs) (hp : H p = none) : Q (.ref p) (upd H p (.lst vs)) := by
  obtain ⟨S', e⟩ := S.frozen (o := .lst vs) hp
  refine k _ _ _ _ e S' ?_
  unfold Rep
  exact ⟨p, vs, rfl, .inl (.inl upd_same), RepL.ext e _ _ r⟩
theorem Rep.int {i : Int} : Rep K F m (.int i) (.int i) := by
  unfold Rep
  rfl
theorem Rep.bl {i : Bool} : Rep K F m (.bl i) (.bl i) := by
  unfold Rep
  rfl
theorem Rep.str {i : Str} : Rep K F m (.str i) (.str i) := by
  unfold Rep
  rfl
theorem Rep.non : Rep K F m .non .non := by
  unfold Rep
  rfl
theorem Rep.tup {ds : List D} {vs : List V} {a : Addr} (h : SqT K F a vs) (r : RepL K F m ds vs) : Rep K F m (.tup ds) (.ref a) := by
  unfold Rep
  exact ⟨a, vs, rfl, h, r⟩
theorem RepL.drop : ∀ {ds : List D} {vs : List V} (n : Nat), RepL K F m ds vs → RepL K F m (ds.drop n) (vs.drop n)
  | _, _, 0, h => h
  | [], vs, n + 1, h => by
    unfold RepL at h
    rw [h]
    exact RepL.nil
  | d :: ds, vs, n + 1, h => by
    unfold RepL at h
    obtain ⟨v, r, h1, h2, h3⟩ := h
    rw [h1]
    exact RepL.drop n h3
theorem RepL.take : ∀ {ds : List D} {vs : List V} (n : Nat), RepL K F m ds vs → RepL K F m (ds.take n) (vs.take n)
  | _, _, 0, h => by
    rw [List.take_zero, List.take_zero]
    exact RepL.nil
  | [], vs, n + 1, h => by
    unfold RepL at h
    rw [h]
    exact RepL.nil
  | d :: ds, vs, n + 1, h => by
    unfold RepL at h
    obtain ⟨v, r, h1, h2, h3⟩ := h
    rw [h1]
    exact RepL.cons h2 (RepL.take n h3)
end
/-! ### computations part by part -/
section
variable {X : Cx} {fr : Fm} {W : WX} {env : Env} {pos : Pos}
/-- one-place: a rule of a value, read of data -/
def UnD (X : Cx) (r : V → Hp → VK → Prop) (op : D → M D) : Prop := ∀ (fr : Fm) (W : WX) (σ : St) (F : Hp) (m : List Addr) (ah : AH) (H : Hp) (d : D) (x : V) (Q : VK), Sim X.K X.mg fr F m ah H → Rep X.K F m d x →
  TK X.K X.mg fr W (Rep X.K) σ F m (op d ah) Q → r x H Q
theorem de_un {a : Expr} {ma : M D} {op : UnaryOp} {r : V → Hp → VK → Prop} {f : D → M D} (ho : UnR X (unaryOp op) r) (hr : UnD X r f) (ha : DE X W env a ma) : DE X W env (.UnaryOp op a pos) (do let x ← ma; f x) :=
  PE.from (pe_un ho ha) fun σ H Q ⟨fr, F, m, ah, s, er, k⟩ => TK.step s er k fun F1 m1 ah1 d v H1 e1 s1 er1 r1 k1 => hr fr W σ F1 m1 ah1 H1 d v Q s1 r1 k1
/-! arguments -/
theorem da_nil : DA X W env [] (pure []) := PA.from pa_nil fun σ H Q ⟨fr, F, m, ah, s, er, k⟩ => k F m _ H Ext.refl s RepL.nil
theorem da_cons {e : Expr} {es : List Expr} {me : M D} {ms : M (List D)} (he : DE X W env e me) (hs : DA X W env es ms) (hst : starEach (e :: es) X.env = (false, eval e X.env) :: starEach es X.env := by rfl) :
    DA X W env (e :: es) (do let x ← me; let xs ← ms; pure (x :: xs)) :=
  PA.from (pa_cons he hs hst) fun σ H Q ⟨fr, F, m, ah, s, er, k⟩ => TK.step s er k fun F1 m1 ah1 d v H1 e1 s1 er1 r1 k1 => TK.step s1 er1 k1 fun F2 m2 ah2 d2 v2 H2 e2 s2 er2 r2 k2 =>
    k2 F2 m2 _ H2 Ext.refl s2 (RepL.cons (Rep.ext e2 _ _ r1) r2)
theorem da_one {e : Expr} {me : M D} (he : DE X W env e me) (hst : starEach [e] X.env = (false, eval e X.env) :: starEach [] X.env := by rfl) : DA X W env [e] (do let x ← me; pure [x]) :=
  PA.from (pa_cons he pa_nil hst) fun σ H Q ⟨fr, F, m, ah, s, er, k⟩ => TK.step s er k fun F1 m1 ah1 d v H1 e1 s1 er1 r1 k1 => k1 F1 m1 _ H1 Ext.refl s1 (RepL.cons r1 RepL.nil)
theorem da_two {a b : Expr} {ma mb : M D} (ha : DE X W env a ma) (hb : DE X W env b mb) (hst : starEach [a, b] X.env = (false, eval a X.env) :: starEach [b] X.env := by rfl) (hst2 : starEach [b] X.env = (false, eval b X.env) :: starEach [] X.env := by rfl) :
    DA X W env [a, b] (do let x ← ma; let y ← mb; pure [x, y]) :=
  PA.from (pa_cons ha (pa_cons hb pa_nil hst2) hst) fun σ H Q ⟨fr, F, m, ah, s, er, k⟩ => TK.step s er k fun F1 m1 ah1 d v H1 e1 s1 er1 r1 k1 => TK.step s1 er1 k1 fun F2 m2 ah2 d2 v2 H2 e2 s2 er2 r2 k2 =>
    k2 F2 m2 _ H2 Ext.refl s2 (RepL.cons (Rep.ext e2 _ _ r1) (RepL.cons r2 RepL.nil))
/-! displays -/
def lenOk (n : Nat) : Bool := decide (n ≤ sizeLine)
def tupM (xs : List D) : M D := if lenOk xs.length = true then pure (.tup xs) else stuck
def lstM (xs : List D) : M D := if lenOk xs.length = true then pure (.lst xs) else stuck
theorem de_tup {es : List Expr} {ms : M (List D)} {x1} (h : DA X W env es ms) : DE X W env (.Tuple es x1 pos) (do let xs ← ms; tupM xs) :=
  PE.from (pe_tup h) fun σ H Q ⟨fr, F, m, ah, s, er, k⟩ => TK.step s er k fun F1 m1 ah1 d v H1 e1 s1 er1 r1 k1 => by
    unfold tupM at k1
    by_cases hl : lenOk d.length = true
    · rw [if_pos hl] at k1
      exact ⟨by rw [RepL.length r1]; exact of_decide_eq_true hl, fun p hp => TK.newT k1 s1 r1 hp⟩
    · rw [if_neg hl] at k1
      exact False.elim k1
theorem de_lst {es : List Expr} {ms : M (List D)} (h : DA X W env es ms) : DE X W env (.List es pos) (do let xs ← ms; lstM xs) :=
  PE.from (pe_lst h) fun σ H Q ⟨fr, F, m, ah, s, er, k⟩ => TK.step s er k fun F1 m1 ah1 d v H1 e1 s1 er1 r1 k1 => by
    unfold lstM at k1
    by_cases hl : lenOk d.length = true
    · rw [if_pos hl] at k1
      exact ⟨by rw [RepL.length r1]; exact of_decide_eq_true hl, fun p hp => TK.newL k1 s1 r1 hp⟩
    · rw [if_neg hl] at k1
      exact False.elim k1
/-! ### a new cell of the plain heap -/
theorem getElem?_snoc_cases {α : Type} {l : List α} {x y : α} {i : Nat} (h : (l ++ [x])[i]? = some y) : l[i]? = some y ∨ (i = l.length ∧ x = y) := by
  by_cases hi : i < l.length
  · rw [List.getElem?_append_left hi] at h
    exact .inl h
  · rw [List.getElem?_append_right (by omega)] at h
    have z : i - l.length = 0 := by
      cases q : i - l.length with
      | zero => rfl
      | succ n =>
        rw [q] at h
        simp at h
    rw [z] at h
    simp at h
    exact .inr ⟨by omega, h⟩
theorem Sim.laid {K : Fg} {mg : Str → Option Value} {F H : Hp} {m : List Addr} {ah : AH} {p : Addr} {o : HO} {c : Cell} (S : Sim K mg fr F m ah H) (hp : H p = none) (ok : CellOk K mg F m (upd H p o) p c) :
    Sim K mg fr F (m ++ [p]) (ah ++ [c]) (upd H p o) ∧ Ext F m F (m ++ [p]) := by
  have nm : ∀ a, a ∈ m → a ≠ p := fun a ha z => by
    obtain ⟨u, hu⟩ := S.there a ha
    rw [z, hp] at hu
    cases hu
  have e : Ext F m F (m ++ [p]) := ⟨fun _ _ h => h, fun i a h => by
    rw [List.getElem?_append_left (List.getElem?_eq_some_iff.mp h).1]
    exact h⟩
  refine ⟨⟨fun a u h => ?_, by simp [S.len], ?_, fun i x h => ?_, fun a u h n => ?_, fun a ha n => ?_, fun i a h => e.pre i a (S.pre i a h), fun a ha => ?_, S.old⟩, e⟩
  · have q := S.sub a u h
    rw [upd_ne (ne_of_none q hp)]
    exact q
  · rw [List.nodup_append]
    exact ⟨S.nod, by simp, fun a ha b hb => by
      rw [List.mem_singleton.mp hb]
      exact nm a ha⟩
  · rcases getElem?_snoc_cases h with h | ⟨hi, hx⟩
    · obtain ⟨a, q, okx⟩ := S.cells i x h
      have ne := nm a (List.mem_of_getElem? q)
      exact ⟨a, e.pre i a q, okx.ext e (fun z => okx.free z) fun _ => upd_ne ne⟩
    · refine ⟨p, ?_, ?_⟩
      · rw [hi, ← S.len, List.getElem?_append_right (Nat.le_refl _)]
        simp
      · rw [← hx]
        exact ok.ext e (fun z => ok.free z) fun _ => rfl
  · have q := S.frame a u h n
    rw [upd_ne (ne_of_none q hp)]
    exact q
  · rcases List.mem_append.mp ha with ha | ha
    · exact S.young a ha n
    · rw [List.mem_singleton.mp ha]
      exact S.fresh0 hp
  · rcases List.mem_append.mp ha with ha | ha
    · rw [upd_ne (nm a ha)]
      exact S.there a ha
    · rw [List.mem_singleton.mp ha, upd_same]
      exact ⟨_, rfl⟩
def newM (c : Cell) : M D := fun h => .ok (.ref h.length) (h ++ [c])
/-- a list that will be written -/
def lstH (xs : List D) : M D := if lenOk xs.length = true then newM (.lst xs) else stuck
theorem Sim.freeF {K : Fg} {mg : Str → Option Value} {F H : Hp} {m : List Addr} {ah : AH} {p : Addr} (S : Sim K mg fr F m ah H) (hp : H p = none) : F p = none := by
  cases q : F p with
  | none => rfl
  | some u =>
    rw [S.sub _ _ q] at hp
    cases hp
theorem TK.newH {σ : St} {F H : Hp} {m : List Addr} {ah : AH} {ds : List D} {vs : List V} {p : Addr} {Q : VK} (k : TK X.K X.mg fr W (Rep X.K) σ F m (newM (.lst ds) ah) Q) (S : Sim X.K X.mg fr F m ah H) (r : RepL X.K F m ds vs) (hp : H p = none) : Q (.ref p) (upd H p (.lst vs)) := by
  obtain ⟨S', e⟩ := S.laid (o := .lst vs) (c := .lst ds) hp ⟨S.freeF hp, vs, upd_same, r⟩
  refine k _ _ _ _ e S' ?_
  unfold Rep
  refine ⟨p, ?_, rfl⟩
  rw [← S.len, List.getElem?_append_right (Nat.le_refl _)]
  simp
theorem de_lstH {es : List Expr} {ms : M (List D)} (h : DA X W env es ms) : DE X W env (.List es pos) (do let xs ← ms; lstH xs) :=
  PE.from (pe_lst h) fun σ H Q ⟨fr, F, m, ah, s, er, k⟩ => TK.step s er k fun F1 m1 ah1 d v H1 e1 s1 er1 r1 k1 => by
    unfold lstH at k1
    by_cases hl : lenOk d.length = true
    · rw [if_pos hl] at k1
      exact ⟨by rw [RepL.length r1]; exact of_decide_eq_true hl, fun p hp => TK.newH k1 s1 r1 hp⟩
    · rw [if_neg hl] at k1
      exact False.elim k1
/-! ### + -/
/-- list + list -/
def rCatLs (K : Fg) : R2 := fun x y H Q => ∃ l b xs zs, x = .ref l ∧ y = .ref b ∧ SqL K H l xs ∧ SqL K H b zs ∧ xs.length + zs.length ≤ sizeLine ∧ ∀ p, H p = none → Q (.ref p) (upd H p (.lst (xs ++ zs)))
theorem op_catLs : OpR X (binaryOp .Add) (rCatLs X.K) := by
  intro pins s σ H x y v u Q I rx ry h
  obtain ⟨l, b, xs, zs, rfl, rfl, hH, hB, hz, q⟩ := h
  cases rx
  cases ry
  obtain ⟨its, r, hl, _⟩ := I.list hH
  obtain ⟨its2, r2, hl2, _⟩ := I.list hB
  have e1 := r.length
  have e2 := r2.length
  obtain ⟨m, F⟩ := I.fr
  obtain ⟨⟨cls, dd, data, sl⟩, ho, hc, n, hd⟩ := hl.isList
  obtain ⟨⟨cls2, dd2, data2, sl2⟩, ho2, hc2, n2, hd2⟩ := hl2.isList
  simp only at hc hd hc2 hd2
  subst hc hd hc2 hd2
  have e : its.toArray ++ its2.toArray = (its ++ its2).toArray := by simp
  refine PySem.concat_meets ⟨_, ho, rfl⟩ ⟨_, ho2, rfl⟩ noFill_list_add seq_list_add PySem.F.slot_list_add PySem.F.entry_list_add (PySem.F.args_list_add_2 _ _) (PyProof.Rows.list_addW l b its.toArray its2.toArray n n2 dd dd2 sl sl2 (by simp only [List.size_toArray]; omega)) ⟨ho, ho2, ?_⟩
  rw [e]
  exact ⟨.ref _, _, I.lnew (t' := s.toks) (r.append r2) (by rw [List.length_append]; omega), rfl, q _ I.fresh⟩
def rAddStr : R2 := fun x y H Q => ∃ i j, x = .str i ∧ y = .str j ∧ i.length + j.length ≤ sizeLine ∧ Q (.str (i ++ j)) H
def rAddAll (K : Fg) : R2 := fun x y H Q => rI0 (fun i j => .int (i + j)) x y H Q ∨ rAddStr x y H Q ∨ rCatA K x y H Q ∨ rCatLs K x y H Q
theorem op_addAll : OpR X (binaryOp .Add) (rAddAll X.K) := op_add.or (op_add_str.or (op_catA.or op_catLs))
def addM (x y : D) : M D := fun h => match x, y with
  | .int i, .int j => .ok (.int (i + j)) h
  | .str a, .str b => if lenOk (a.length + b.length) = true then .ok (.str (a ++ b)) h else .stuck
  | .tup a, .tup b => if lenOk (a.length + b.length) = true then .ok (.tup (a ++ b)) h else .stuck
  | x, y => match lstOf h x, lstOf h y with
    | some a, some b => if lenOk (a.length + b.length) = true then .ok (.lst (a ++ b)) h else .stuck
    | _, _ => .stuck
theorem add_ok : OpD X (rAddAll X.K) addM := by
  intro fr W σ F m ah H d e x y Q s rx ry k
  have ls : ∀ (a b : List D), lstOf ah d = some a → lstOf ah e = some b → TK X.K X.mg fr W (Rep X.K) σ F m (if lenOk (a.length + b.length) = true then .ok (.lst (a ++ b)) ah else .stuck) Q → rAddAll X.K x y H Q := by
    intro a b h1 h2 k
    by_cases hl : lenOk (a.length + b.length) = true
    · rw [if_pos hl] at k
      obtain ⟨p1, vs1, e1, q1, r1⟩ := lst_of s rx h1
      obtain ⟨p2, vs2, e2, q2, r2⟩ := lst_of s ry h2
      exact .inr (.inr (.inr ⟨p1, p2, vs1, vs2, e1, e2, q1, q2, by rw [RepL.length r1, RepL.length r2]; exact of_decide_eq_true hl, fun p hp => TK.newL k s (RepL.append r1 r2) hp⟩))
    · rw [if_neg hl] at k
      exact k.elim
  unfold addM at k
  split at k
  · unfold Rep at rx ry
    exact .inl ⟨_, _, rx, ry, k.val s Rep.int⟩
  · rename_i a b
    unfold Rep at rx ry
    by_cases hl : lenOk (a.length + b.length) = true
    · rw [if_pos hl] at k
      exact .inr (.inl ⟨_, _, rx, ry, of_decide_eq_true hl, k.val s Rep.str⟩)
    · rw [if_neg hl] at k
      exact k.elim
  · rename_i a b
    by_cases hl : lenOk (a.length + b.length) = true
    · rw [if_pos hl] at k
      unfold Rep at rx ry
      obtain ⟨p1, vs1, e1, q1, r1⟩ := rx
      obtain ⟨p2, vs2, e2, q2, r2⟩ := ry
      refine .inr (.inr (.inl ⟨p1, p2, vs1, vs2, e1, e2, SqT.up s.sub q1, SqT.up s.sub q2, by rw [RepL.length r1, RepL.length r2]; exact of_decide_eq_true hl, fun z => ?_, fun _ z => ?_, fun _ _ p hp => TK.newT k s (RepL.append r1 r2) hp⟩))
      · have la : a = [] := List.length_eq_zero_iff.mp (by rw [← RepL.length r1, z]; rfl)
        subst la
        exact k.val s (Rep.tup q2 r2)
      · have lb : b = [] := List.length_eq_zero_iff.mp (by rw [← RepL.length r2, z]; rfl)
        subst lb
        rw [List.append_nil] at k
        exact k.val s (Rep.tup q1 r1)
    · rw [if_neg hl] at k
      exact k.elim
  · cases h1 : lstOf ah d with
    | none =>
      rw [h1] at k
      exact k.elim
    | some a =>
      cases h2 : lstOf ah e with
      | none =>
        rw [h1, h2] at k
        exact k.elim
      | some b =>
        rw [h1, h2] at k
        exact ls a b h1 h2 k
theorem de_add {a b : Expr} {ma mb : M D} (ha : DE X W env a ma) (hb : DE X W env b mb) : DE X W env (.BinOp a .Add b pos) (do let x ← ma; let y ← mb; addM x y) := de_op op_addAll add_ok ha hb
/-! ### ints -/
def subM : D → D → M D := int2 fun i j => .int (i - j)
theorem de_sub {a b : Expr} {ma mb : M D} (ha : DE X W env a ma) (hb : DE X W env b mb) : DE X W env (.BinOp a .Sub b pos) (do let x ← ma; let y ← mb; subM x y) := de_op op_sub (int2_ok fun _ _ _ _ _ => Rep.int) ha hb
/-- ints, under a condition that is decided -/
def int2c (c : Int → Int → Bool) (f : Int → Int → D) : D → D → M D := fun x y => match x, y with
  | .int i, .int j => if c i j = true then pure (f i j) else stuck
  | _, _ => stuck
theorem int2c_ok {C : Int → Int → Prop} {c : Int → Int → Bool} {g : Int → Int → V} {f : Int → Int → D} (hc : ∀ i j, c i j = true → C i j) (h : ∀ i j K F m, Rep K F m (f i j) (g i j)) : OpD X (rI C g) (int2c c f) := by
  intro fr W σ F m ah H d e x y Q s rx ry k
  cases d <;> try exact (TK.stuck_of k).elim
  cases e <;> try exact (TK.stuck_of k).elim
  rename_i i j
  unfold Rep at rx ry
  by_cases z : c i j = true
  · have k : TK X.K X.mg fr W (Rep X.K) σ F m ((if c i j = true then pure (f i j) else stuck : M D) ah) Q := k
    rw [if_pos z] at k
    exact ⟨i, j, rx, ry, hc i j z, k F m _ H Ext.refl s (h i j _ _ _)⟩
  · have k : TK X.K X.mg fr W (Rep X.K) σ F m ((if c i j = true then pure (f i j) else stuck : M D) ah) Q := k
    rw [if_neg z] at k
    exact k.elim
/-- ints below 2 ^ 400000 together -/
def cMul (i j : Int) : Bool := decide (i.natAbs.log2 + j.natAbs.log2 < 1000000)
def mulM : D → D → M D := int2c cMul fun i j => .int (i * j)
theorem de_mul {a b : Expr} {ma mb : M D} (ha : DE X W env a ma) (hb : DE X W env b mb) : DE X W env (.BinOp a .Mult b pos) (do let x ← ma; let y ← mb; mulM x y) :=
  de_op op_mulW (int2c_ok (fun i j h => by unfold cMul at h; exact (of_decide_eq_true h : i.natAbs.log2 + j.natAbs.log2 < 1000000)) fun _ _ _ _ _ => Rep.int) ha hb
def cDiv (_ j : Int) : Bool := decide (0 < j ∧ j.natAbs.log2 < 9000)
def fdivM : D → D → M D := int2c cDiv fun i j => .int (i / j)
theorem de_fdiv {a b : Expr} {ma mb : M D} (ha : DE X W env a ma) (hb : DE X W env b mb) : DE X W env (.BinOp a .FloorDiv b pos) (do let x ← ma; let y ← mb; fdivM x y) :=
  de_op op_fdivW (int2c_ok (fun i j h => by unfold cDiv at h; exact (of_decide_eq_true h : 0 < j ∧ j.natAbs.log2 < 9000)) fun _ _ _ _ _ => Rep.int) ha hb
def cMod (_ j : Int) : Bool := decide (0 < j)
def modM : D → D → M D := int2c cMod fun i j => .int (i % j)
theorem de_mod {a b : Expr} {ma mb : M D} (ha : DE X W env a ma) (hb : DE X W env b mb) : DE X W env (.BinOp a .Mod b pos) (do let x ← ma; let y ← mb; modM x y) :=
  de_op op_mod (int2c_ok (fun i j h => of_decide_eq_true h) fun _ _ _ _ _ => Rep.int) ha hb
def cPow (i j : Int) : Bool := decide (0 ≤ j ∧ j ≤ 1000000 ∧ i.natAbs < 2 ^ 64)
def powM : D → D → M D := int2c cPow fun i j => .int (i ^ j.toNat)
theorem de_pow {a b : Expr} {ma mb : M D} (ha : DE X W env a ma) (hb : DE X W env b mb) : DE X W env (.BinOp a .Pow b pos) (do let x ← ma; let y ← mb; powM x y) :=
  de_op op_pow (int2c_ok (fun i j h => by unfold cPow at h; exact (of_decide_eq_true h : 0 ≤ j ∧ j ≤ 1000000 ∧ i.natAbs < 2 ^ 64)) fun _ _ _ _ _ => Rep.int) ha hb
def negM : D → M D
  | .int i => pure (.int (-i))
  | _ => stuck
theorem de_neg {a : Expr} {ma : M D} (ha : DE X W env a ma) : DE X W env (.UnaryOp .USub a pos) (do let x ← ma; negM x) := de_un un_neg (fun fr W σ F m ah H d x Q s r k => by
  cases d <;> try exact (TK.stuck_of k).elim
  unfold Rep at r
  exact ⟨_, r, k F m _ H Ext.refl s Rep.int⟩) ha
/-! comparisons of ints -/
def ltM : D → D → M D := int2 fun i j => .bl (decide (i < j))
def leM : D → D → M D := int2 fun i j => .bl (decide (i ≤ j))
def gtM : D → D → M D := int2 fun i j => .bl (decide (j < i))
def geM : D → D → M D := int2 fun i j => .bl (decide (j ≤ i))
theorem de_lt {a b : Expr} {ma mb : M D} (ha : DE X W env a ma) (hb : DE X W env b mb) : DE X W env (.Compare a [.Lt] [b] pos) (do let x ← ma; let y ← mb; ltM x y) := de_cmp op_lt (int2_ok fun _ _ _ _ _ => Rep.bl) ha hb (nomark _)
theorem de_gt {a b : Expr} {ma mb : M D} (ha : DE X W env a ma) (hb : DE X W env b mb) : DE X W env (.Compare a [.Gt] [b] pos) (do let x ← ma; let y ← mb; gtM x y) := de_cmp op_gt (int2_ok fun _ _ _ _ _ => Rep.bl) ha hb (nomark _)
theorem de_ge {a b : Expr} {ma mb : M D} (ha : DE X W env a ma) (hb : DE X W env b mb) : DE X W env (.Compare a [.GtE] [b] pos) (do let x ← ma; let y ← mb; geM x y) := de_cmp op_ge (int2_ok fun _ _ _ _ _ => Rep.bl) ha hb (nomark _)
/-! a op b op c, ints -/
def chainM (f g : D → D → M D) (x y : D) (mc : M D) : M D := do
  match ← f x y with
  | .bl true => do let z ← mc; g y z
  | .bl false => pure (.bl false)
  | _ => stuck
/-! ### == over data -/
mutual
def toP : D → PyData
  | .non => .none
  | .bl b => .bool b
  | .int i => .int i
  | .str x => .str x
  | .tup xs => .tuple (toPs xs)
  | .lst xs => .list (toPs xs)
  | _ => .none
def toPs : List D → List PyData
  | [] => []
  | d :: ds => toP d :: toPs ds
/-- flat data, at most so deep -/
def flatD : Nat → D → Bool
  | _, .non => true
  | _, .bl _ => true
  | _, .int _ => true
  | _, .str _ => true
  | n, .tup xs => flatDs n xs
  | n, .lst xs => flatDs n xs
  | _, _ => false
def flatDs : Nat → List D → Bool
  | _, [] => true
  | n, d :: ds => flatD n d && flatDs n ds
end
mutual
theorem dp_of {K : Fg} {F H : Hp} {m : List Addr} (sub : ∀ a o, F a = some o → H a = some o) : ∀ (d : D) (v : V), Rep K F m d v → flatD 0 d = true → Dp K H v (toP d)
  | .non, v, r, _ => by
    unfold Rep at r
    rw [r]
    exact .non
  | .bl b, v, r, _ => by
    unfold Rep at r
    rw [r]
    exact .bl b
  | .int b, v, r, _ => by
    unfold Rep at r
    rw [r]
    exact .int b
  | .str b, v, r, _ => by
    unfold Rep at r
    rw [r]
    exact .str b
  | .ref _, v, _, f => by
    unfold flatD at f
    cases f
  | .exn _ _, v, _, f => by
    unfold flatD at f
    cases f
  | .emp, v, _, f => by
    unfold flatD at f
    cases f
  | .tup xs, v, r, f => by
    unfold Rep at r
    obtain ⟨a, vs, h1, h2, h3⟩ := r
    unfold flatD at f
    rw [h1]
    exact .tup (SqT.up sub h2) (dps_of sub xs vs h3 f)
  | .lst xs, v, r, f => by
    unfold Rep at r
    obtain ⟨a, vs, h1, h2, h3⟩ := r
    unfold flatD at f
    rw [h1]
    exact .lst (SqL.up sub h2) (dps_of sub xs vs h3 f)
theorem dps_of {K : Fg} {F H : Hp} {m : List Addr} (sub : ∀ a o, F a = some o → H a = some o) : ∀ (ds : List D) (vs : List V), RepL K F m ds vs → flatDs 0 ds = true → DpAll K H vs (toPs ds)
  | [], vs, r, _ => by
    unfold RepL at r
    rw [r]
    exact .nil
  | d :: ds, vs, r, f => by
    unfold RepL at r
    obtain ⟨v, u, h1, h2, h3⟩ := r
    unfold flatDs at f
    rw [Bool.and_eq_true] at f
    rw [h1]
    exact .cons (dp_of sub d v h2 f.1) (dps_of sub ds u h3 f.2)
end
/-- a list of the heap, looked at as data -/
def lookD (h : AH) : D → D
  | .ref n => match h[n]? with
    | some (.lst xs) => .lst xs
    | _ => .ref n
  | d => d
def okD (d : D) : Bool := flatD 0 d && SeqAt.shaped (toP d)
/-- two texts; two lists of unlike lengths -/
def eqP (h : AH) (x y : D) : Option Bool := match x, y with
  | .str a, .str b => some (decide (a = b))
  | x, y => match lstOf h x, lstOf h y with
    | some xs, some ys => if xs.length = ys.length then none else some false
    | _, _ => none
def eqM (x y : D) : M D := fun h => match eqP h x y with
  | some b => .ok (.bl b) h
  | none => if (okD (lookD h x) && okD (lookD h y)) = true then .ok (.bl (PyData.eqv (toP (lookD h x)) (toP (lookD h y)))) h else .stuck
def neM (x y : D) : M D := fun h => match eqP h x y with
  | some b => .ok (.bl (!b)) h
  | none => if (okD (lookD h x) && okD (lookD h y)) = true then .ok (.bl (!PyData.eqv (toP (lookD h x)) (toP (lookD h y)))) h else .stuck
theorem dp_look {K : Fg} {mg : Str → Option Value} {F H : Hp} {m : List Addr} {ah : AH} {d : D} {v : V} (S : Sim K mg fr F m ah H) (r : Rep K F m d v) (f : flatD 0 (lookD ah d) = true) : Dp K H v (toP (lookD ah d)) := by
  cases d <;> try exact dp_of S.sub _ v r f
  rename_i n
  unfold lookD at f ⊢
  cases hc : ah[n]? with
  | none =>
    simp only [hc] at f
    unfold flatD at f
    cases f
  | some c =>
    cases c <;> simp only [hc] at f ⊢ <;> try (unfold flatD at f; cases f; done)
    rename_i xs
    obtain ⟨a, vs, h1, h2, h3⟩ := lst_of (xs := xs) S r (by unfold lstOf; simp only [hc])
    unfold flatD at f
    rw [h1]
    exact .lst h2 (dps_of S.sub xs vs h3 f)
/-- lists of unlike lengths -/
def rLen (K : Fg) (k : Bool) : R2 := fun x y H Q => ∃ a b xs ys, x = .ref a ∧ y = .ref b ∧ SqL K H a xs ∧ SqL K H b ys ∧ xs.length ≠ ys.length ∧ Q (.bl k) H
theorem op_eqLen (hu : X.A.units + 64 < cLine) : OpR X (compareOp .Eq) (rLen X.K false) := by
  intro pins s σ H x y v u Q I rx ry h
  obtain ⟨a, b, xs, ys, rfl, rfl, ha, hb, hl, q⟩ := h
  cases rx
  cases ry
  obtain ⟨its, r, p, _⟩ := I.list ha
  obtain ⟨its2, r2, p2, _⟩ := I.list hb
  have e1 := r.length
  have e2 := r2.length
  exact PySem.SeqAt.eq_list_lengthsAt p.isList p2.isList (by simp only [List.size_toArray, bne_iff_ne]; omega) (by omega) ⟨.bl false, H, I, rfl, q⟩
theorem op_neLen (hu : X.A.units + 64 < cLine) : OpR X (compareOp .NotEq) (rLen X.K true) := by
  intro pins s σ H x y v u Q I rx ry h
  obtain ⟨a, b, xs, ys, rfl, rfl, ha, hb, hl, q⟩ := h
  cases rx
  cases ry
  obtain ⟨its, r, p, _⟩ := I.list ha
  obtain ⟨its2, r2, p2, _⟩ := I.list hb
  have e1 := r.length
  have e2 := r2.length
  exact PySem.SeqAt.RcNeAt.lists_lengths p.isList p2.isList (by simp only [List.size_toArray, bne_iff_ne]; omega) (by omega) X.prog X.w X.xe _ ⟨.bl true, H, I, rfl, q⟩
def rEqX (K : Fg) : R2 := fun x y H Q => (rEq x y H Q ∨ rLen K false x y H Q) ∨ rEqD K x y H Q
def rNeX (K : Fg) : R2 := fun x y H Q => (rNe x y H Q ∨ rLen K true x y H Q) ∨ rNeD K x y H Q
theorem op_eqX (hu : X.A.units + 64 < cLine) : OpR X (compareOp .Eq) (rEqX X.K) := (op_eq.or (op_eqLen hu)).or (op_eqD hu)
theorem op_neX (hu : X.A.units + 64 < cLine) : OpR X (compareOp .NotEq) (rNeX X.K) := (op_ne.or (op_neLen hu)).or (op_neD hu)
theorem eqP_of {K : Fg} {mg : Str → Option Value} {F H : Hp} {m : List Addr} {ah : AH} {d e : D} {x y : V} {b : Bool} (s : Sim K mg fr F m ah H) (rx : Rep K F m d x) (ry : Rep K F m e y) (h : eqP ah d e = some b) :
    (∃ p q, x = .str p ∧ y = .str q ∧ b = decide (p = q)) ∨ (b = false ∧ ∃ p q xs ys, x = .ref p ∧ y = .ref q ∧ SqL K H p xs ∧ SqL K H q ys ∧ xs.length ≠ ys.length) := by
  unfold eqP at h
  split at h
  · unfold Rep at rx ry
    cases h
    exact .inl ⟨_, _, rx, ry, rfl⟩
  · split at h
    · rename_i xs ys h1 h2
      by_cases hl : xs.length = ys.length
      · rw [if_pos hl] at h
        cases h
      · rw [if_neg hl] at h
        cases h
        obtain ⟨p, vs, e1, e2, e3⟩ := lst_of s rx h1
        obtain ⟨q, us, g1, g2, g3⟩ := lst_of s ry h2
        exact .inr ⟨rfl, p, q, vs, us, e1, g1, e2, g2, by rw [RepL.length e3, RepL.length g3]; exact hl⟩
    · cases h
theorem eq_ok : OpD X (rEqX X.K) eqM := by
  intro fr W σ F m ah H d e x y Q s rx ry k
  unfold eqM at k
  cases hp : eqP ah d e with
  | some b =>
    simp only [hp] at k
    rcases eqP_of s rx ry hp with ⟨p, q, rfl, rfl, rfl⟩ | ⟨rfl, p, q, xs, ys, rfl, rfl, h1, h2, h3⟩
    · refine .inl (.inl ⟨rfl, ?_⟩)
      have e : decide ((V.str p) = .str q) = decide (p = q) := by
        by_cases z : p = q
        · rw [decide_eq_true z, decide_eq_true (by rw [z])]
        · rw [decide_eq_false z, decide_eq_false (fun y => z (V.str.inj y))]
      rw [e]
      exact k.val s Rep.bl
    · exact .inl (.inr ⟨p, q, xs, ys, rfl, rfl, h1, h2, h3, k.val s Rep.bl⟩)
  | none =>
    simp only [hp] at k
    by_cases h : (okD (lookD ah d) && okD (lookD ah e)) = true
    · rw [if_pos h] at k
      rw [Bool.and_eq_true] at h
      unfold okD at h
      rw [Bool.and_eq_true, Bool.and_eq_true] at h
      exact .inr ⟨_, _, dp_look s rx h.1.1, dp_look s ry h.2.1, h.1.2, h.2.2, k.val s Rep.bl⟩
    · rw [if_neg h] at k
      exact k.elim
theorem ne_ok : OpD X (rNeX X.K) neM := by
  intro fr W σ F m ah H d e x y Q s rx ry k
  unfold neM at k
  cases hp : eqP ah d e with
  | some b =>
    simp only [hp] at k
    rcases eqP_of s rx ry hp with ⟨p, q, rfl, rfl, rfl⟩ | ⟨rfl, p, q, xs, ys, rfl, rfl, h1, h2, h3⟩
    · refine .inl (.inl ⟨rfl, ?_⟩)
      have e : decide ((V.str p) = .str q) = decide (p = q) := by
        by_cases z : p = q
        · rw [decide_eq_true z, decide_eq_true (by rw [z])]
        · rw [decide_eq_false z, decide_eq_false (fun y => z (V.str.inj y))]
      rw [e]
      exact k.val s Rep.bl
    · exact .inl (.inr ⟨p, q, xs, ys, rfl, rfl, h1, h2, h3, k.val s Rep.bl⟩)
  | none =>
    simp only [hp] at k
    by_cases h : (okD (lookD ah d) && okD (lookD ah e)) = true
    · rw [if_pos h] at k
      rw [Bool.and_eq_true] at h
      unfold okD at h
      rw [Bool.and_eq_true, Bool.and_eq_true] at h
      exact .inr ⟨_, _, dp_look s rx h.1.1, dp_look s ry h.2.1, h.1.2, h.2.2, k.val s Rep.bl⟩
    · rw [if_neg h] at k
      exact k.elim
theorem de_eq {a b : Expr} {ma mb : M D} (hu : X.A.units + 64 < cLine) (ha : DE X W env a ma) (hb : DE X W env b mb) : DE X W env (.Compare a [.Eq] [b] pos) (do let x ← ma; let y ← mb; eqM x y) := de_cmp (op_eqX hu) eq_ok ha hb (nomark _)
theorem de_ne {a b : Expr} {ma mb : M D} (hu : X.A.units + 64 < cLine) (ha : DE X W env a ma) (hb : DE X W env b mb) : DE X W env (.Compare a [.NotEq] [b] pos) (do let x ← ma; let y ← mb; neM x y) := de_cmp (op_neX hu) ne_ok ha hb (nomark _)
end
end Lw
/-! SimD: tests, is, and/or/not, subscripts, slices, built-in calls. -/
namespace Lw
open PySem L2
section
variable {X : Cx} {W : WX} {env : Env} {pos : Pos}
/-! ### tests -/
def asB : D → M Bool
  | .bl b => pure b
  | _ => stuck
theorem dt_of {e : Expr} {t : TE} {mc : M D} (hp : PT X e (tTest t)) (i : ∀ σ H Q, TC X.K X.mg W (Rep X.K) env mc σ H Q → t σ H Q) : DT X W env e (do let x ← mc; asB x) :=
  PT.from hp fun σ H Q ⟨fr, F, m, ah, s, er, k⟩ => i σ H _ (TK.step s er k fun F1 m1 ah1 d v H1 e1 s1 er1 r1 k1 => by
    cases d <;> try exact (TK.stuck_of k1).elim
    unfold Rep at r1
    exact ⟨_, r1, k1 F1 m1 _ H1 Ext.refl s1 rfl⟩)
theorem dt_cmp {a b : Expr} {ma mb : M D} {op : CmpOp} {r : R2} {f : D → D → M D} (ho : OpR X (compareOp op) r) (hr : OpD X r f) (ha : DE X W env a ma) (hb : DE X W env b mb) (hm : behindInMarks op b = false) :
    DT X W env (.Compare a [op] [b] pos) (do let v ← (do let x ← ma; let y ← mb; f x y); asB v) := dt_of (pt_cmpR ho ha hb hm) (tOp_from hr)
/-- an expression by its truth -/
def truM (d : D) : M Bool := fun h => match d with
  | .non => .ok false h
  | .bl b => .ok b h
  | .int i => .ok (i != 0) h
  | .str x => if lenOk x.length = true then .ok ((x.length : Int) != 0) h else .stuck
  | .tup xs => .ok (!xs.isEmpty) h
  | d => match lstOf h d with
    | some xs => .ok (!xs.isEmpty) h
    | none => .stuck
theorem RepL.isEmpty {K : Fg} {F : Hp} {m : List Addr} {ds : List D} {vs : List V} (r : RepL K F m ds vs) : vs.isEmpty = ds.isEmpty := by
  cases ds with
  | nil =>
    unfold RepL at r
    rw [r]
    rfl
  | cons d ds =>
    unfold RepL at r
    obtain ⟨v, u, h1, _, _⟩ := r
    rw [h1]
    rfl
theorem tru_of {K : Fg} {mg : Str → Option Value} {fr : Fm} {W : WX} {σ : St} {F H : Hp} {m : List Addr} {ah : AH} {d : D} {v : V} {Q : Bool → Hp → Prop} (S : Sim K mg fr F m ah H) (r : Rep K F m d v) (k : TK K mg fr W RB σ F m (truM d ah) Q) : ∃ b, TruV K v H b ∧ Q b H := by
  have ls : ∀ xs, lstOf ah d = some xs → TK K mg fr W RB σ F m (.ok (!xs.isEmpty) ah) Q → ∃ b, TruV K v H b ∧ Q b H := fun xs h k => by
    obtain ⟨a, vs, h1, h2, h3⟩ := lst_of S r h
    subst h1
    exact ⟨!xs.isEmpty, .inl ⟨vs, h2, by rw [RepL.isEmpty h3]⟩, k F m _ H Ext.refl S rfl⟩
  unfold truM at k
  split at k
  · unfold Rep at r
    subst r
    exact ⟨false, rfl, k F m _ H Ext.refl S rfl⟩
  · unfold Rep at r
    subst r
    exact ⟨_, rfl, k F m _ H Ext.refl S rfl⟩
  · unfold Rep at r
    subst r
    exact ⟨_, rfl, k F m _ H Ext.refl S rfl⟩
  · rename_i x
    unfold Rep at r
    subst r
    by_cases hl : lenOk x.length = true
    · rw [if_pos hl] at k
      exact ⟨_, ⟨of_decide_eq_true hl, rfl⟩, k F m _ H Ext.refl S rfl⟩
    · rw [if_neg hl] at k
      exact k.elim
  · rename_i xs
    unfold Rep at r
    obtain ⟨a, vs, h1, h2, h3⟩ := r
    subst h1
    exact ⟨!xs.isEmpty, .inr (.inl ⟨vs, SqT.up S.sub h2, by rw [RepL.isEmpty h3]⟩), k F m _ H Ext.refl S rfl⟩
  · cases h : lstOf ah d with
    | none =>
      rw [h] at k
      exact k.elim
    | some xs =>
      rw [h] at k
      exact ls xs h k
theorem dt_tru {e : Expr} {me : M D} (ha : DE X W env e me) (he : ∀ whole, isTrue e X.env whole = (do let v ← whole; standAt e.pos; holding [v] (truthy v)) := by intro _; rfl) : DT X W env e (do let x ← me; truM x) :=
  PT.from (pt_truth ha he) fun σ H Q ⟨fr, F, m, ah, s, er, k⟩ => TK.step s er k fun F1 m1 ah1 d v H1 e1 s1 er1 r1 k1 => tru_of s1 r1 k1
theorem dt_not {a : Expr} {ma : M Bool} (ha : DT X W env a ma) : DT X W env (.UnaryOp .Not a pos) (do let t ← ma; pure (!t)) :=
  PT.from (pt_not ha) fun σ H Q ⟨fr, F, m, ah, s, er, k⟩ => TK.step s er k fun F1 m1 ah1 d v H1 e1 s1 er1 r1 k1 => by
    have r1 : d = v := r1
    subst r1
    exact k1 F1 m1 _ H1 Ext.refl s1 rfl
abbrev DW (X : Cx) (W : WX) (env : Env) (e : Expr) (mc : M Bool) : Prop := PW X e (TC X.K X.mg W RB env mc)
theorem PW.from {X : Cx} {e : Expr} {t t' : TT} (h : PW X e t) (i : ∀ σ H Q, t' σ H Q → t σ H Q) : PW X e t' := ⟨fun w pins s σ H Q I q => h.run w pins s σ H Q I (i σ H Q q)⟩
theorem dw_and1 {a : Expr} {ma : M Bool} (ha : DT X W env a ma) : DW X W env (.BoolOp .And [a] pos) ma := pw_and1 ha
theorem dw_or1 {a : Expr} {ma : M Bool} (ha : DT X W env a ma) : DW X W env (.BoolOp .Or [a] pos) ma := pw_or1 ha
theorem dw_and {a b : Expr} {rest : List Expr} {ma mb : M Bool} (ha : DT X W env a ma) (hb : DW X W env (.BoolOp .And (b :: rest) pos) mb) : DW X W env (.BoolOp .And (a :: b :: rest) pos) (do let t ← ma; if t = true then mb else pure false) :=
  PW.from (pw_and ha hb) fun σ H Q ⟨fr, F, m, ah, s, er, k⟩ => TK.step s er k fun F1 m1 ah1 d v H1 e1 s1 er1 r1 k1 => by
    have r1 : d = v := r1
    subst r1
    cases d with
    | true => exact iteT ⟨fr, F1, m1, ah1, s1, er1, k1⟩
    | false => exact iteF (k1 F1 m1 _ H1 Ext.refl s1 rfl)
theorem dw_or {a b : Expr} {rest : List Expr} {ma mb : M Bool} (ha : DT X W env a ma) (hb : DW X W env (.BoolOp .Or (b :: rest) pos) mb) : DW X W env (.BoolOp .Or (a :: b :: rest) pos) (do let t ← ma; if t = true then pure true else mb) :=
  PW.from (pw_or ha hb) fun σ H Q ⟨fr, F, m, ah, s, er, k⟩ => TK.step s er k fun F1 m1 ah1 d v H1 e1 s1 er1 r1 k1 => by
    have r1 : d = v := r1
    subst r1
    cases d with
    | true => exact iteT (k1 F1 m1 _ H1 Ext.refl s1 rfl)
    | false => exact iteF ⟨fr, F1, m1, ah1, s1, er1, k1⟩
theorem dt_w {e : Expr} {mc : M Bool} (h : DW X W env e mc) : DT X W env e mc := h.pt
/-! as values -/
theorem de_one {op : BoolOp} {a : Expr} {ma : M D} (h : DE X W env a ma) : DE X W env (.BoolOp op [a] pos) ma := pe_one h
def andV (x : D) (mb : M D) : M D := match x with
  | .bl true => mb
  | .bl false => pure (.bl false)
  | _ => stuck
def orV (x : D) (mb : M D) : M D := match x with
  | .bl true => pure (.bl true)
  | .bl false => mb
  | _ => stuck
theorem de_and {a b : Expr} {rest : List Expr} {ma mb : M D} (ha : DE X W env a ma) (hb : DE X W env (.BoolOp .And (b :: rest) pos) mb) : DE X W env (.BoolOp .And (a :: b :: rest) pos) (do let x ← ma; andV x mb) :=
  PE.from (pe_and ha hb) fun σ H Q ⟨fr, F, m, ah, s, er, k⟩ => TK.step s er k fun F1 m1 ah1 d v H1 e1 s1 er1 r1 k1 => by
    cases d <;> try exact (TK.stuck_of k1).elim
    rename_i c
    unfold Rep at r1
    refine ⟨c, r1, ?_⟩
    cases c with
    | true => exact iteT ⟨fr, F1, m1, ah1, s1, er1, k1⟩
    | false => exact iteF (k1 F1 m1 _ H1 Ext.refl s1 Rep.bl)
theorem de_or {a b : Expr} {rest : List Expr} {ma mb : M D} (ha : DE X W env a ma) (hb : DE X W env (.BoolOp .Or (b :: rest) pos) mb) : DE X W env (.BoolOp .Or (a :: b :: rest) pos) (do let x ← ma; orV x mb) :=
  PE.from (pe_or ha hb) fun σ H Q ⟨fr, F, m, ah, s, er, k⟩ => TK.step s er k fun F1 m1 ah1 d v H1 e1 s1 er1 r1 k1 => by
    cases d <;> try exact (TK.stuck_of k1).elim
    rename_i c
    unfold Rep at r1
    refine ⟨c, r1, ?_⟩
    cases c with
    | true => exact iteT (k1 F1 m1 _ H1 Ext.refl s1 Rep.bl)
    | false => exact iteF ⟨fr, F1, m1, ah1, s1, er1, k1⟩
def notV : D → M D
  | .bl b => pure (.bl (!b))
  | _ => stuck
theorem de_not {a : Expr} {ma : M D} (ha : DE X W env a ma) : DE X W env (.UnaryOp .Not a pos) (do let x ← ma; notV x) :=
  PE.from (pe_not ha) fun σ H Q ⟨fr, F, m, ah, s, er, k⟩ => TK.step s er k fun F1 m1 ah1 d v H1 e1 s1 er1 r1 k1 => by
    cases d <;> try exact (TK.stuck_of k1).elim
    unfold Rep at r1
    exact ⟨_, r1, k1 F1 m1 _ H1 Ext.refl s1 Rep.bl⟩
/-! ### is -/
theorem is_bl_gen {M : Model} {A : Around} {E : Value → Shared → Prop} {s : Shared} {Q : Value → Shared → Prop} {v : Value} {b : Bool} (hv : ∀ n, v ≠ .builtin n) (h : Q (.bool (v == .bool b)) s) : wpAny M A (compareOp .Is v (.bool b)) Q E s := by
  cases v <;> first | exact wpAny_pure h | exact absurd rfl (hv _)
theorem isnot_bl_gen {M : Model} {A : Around} {E : Value → Shared → Prop} {s : Shared} {Q : Value → Shared → Prop} {v : Value} {b : Bool} (hv : ∀ n, v ≠ .builtin n) (h : Q (.bool (!(v == .bool b))) s) : wpAny M A (compareOp .IsNot v (.bool b)) Q E s := by
  cases v <;> first | exact wpAny_pure h | exact absurd rfl (hv _)
theorem RelV.nob {x : V} {v : Value} (r : RelV x v) : ∀ n, v ≠ .builtin n := fun n e => by
  subst e
  cases x <;> first | (cases r; done) | (obtain ⟨t, z⟩ := r; cases z)
theorem RelV.bl_iff {x : V} {v : Value} {b : Bool} (r : RelV x v) : (v == Value.bool b) = decide (x = .bl b) := by
  cases x with
  | non => cases r; rfl
  | bl c => cases r; cases c <;> cases b <;> rfl
  | int _ => obtain ⟨t, rfl⟩ := r; rfl
  | str _ => obtain ⟨t, rfl⟩ := r; rfl
  | byt _ => obtain ⟨t, rfl⟩ := r; rfl
  | flt _ => obtain ⟨t, rfl⟩ := r; rfl
  | ref _ => cases r; rfl
  | ty _ => cases r; rfl
/-- is, the right side None, True or False -/
def rIs (neg : Bool) : R2 := fun x y H Q => (y = .non ∧ Q (.bl (xor neg (decide (x = .non)))) H) ∨ ∃ b, y = .bl b ∧ Q (.bl (xor neg (decide (x = .bl b)))) H
theorem op_isC : OpR X (compareOp .Is) (rIs false) := by
  intro pins s σ H x y v u Q I rx ry h
  rcases h with ⟨rfl, q⟩ | ⟨b, rfl, q⟩
  · exact op_isN pins s σ H x _ v u Q I rx ry ⟨rfl, by simpa using q⟩
  · cases ry
    exact is_bl_gen (RelV.nob rx) (fin_bl I q (by rw [RelV.bl_iff rx]; simp))
theorem op_isnotC : OpR X (compareOp .IsNot) (rIs true) := by
  intro pins s σ H x y v u Q I rx ry h
  rcases h with ⟨rfl, q⟩ | ⟨b, rfl, q⟩
  · exact op_notN pins s σ H x _ v u Q I rx ry ⟨rfl, by simpa using q⟩
  · cases ry
    exact isnot_bl_gen (RelV.nob rx) (fin_bl I q (by rw [RelV.bl_iff rx]; simp))
/-- the same None, True, False -/
def isC : D → D → Bool
  | .non, .non => true
  | .bl a, .bl b => a == b
  | _, _ => false
def isM (neg : Bool) (x y : D) : M D := match y with
  | .non => pure (.bl (xor neg (isC x .non)))
  | .bl b => pure (.bl (xor neg (isC x (.bl b))))
  | _ => stuck
theorem Rep.non_iff {K : Fg} {F : Hp} {m : List Addr} {d : D} {v : V} (r : Rep K F m d v) : decide (v = .non) = isC d .non := by
  cases d <;> unfold Rep at r
  · rw [r]; rfl
  · rw [r]; rfl
  · rw [r]; rfl
  · rw [r]; rfl
  · obtain ⟨a, _, h⟩ := r; rw [h]; rfl
  · rw [r]; rfl
  · obtain ⟨a, _, h⟩ := r; rw [h]; rfl
  · obtain ⟨a, _, h, _⟩ := r; rw [h]; rfl
  · obtain ⟨a, _, h, _⟩ := r; rw [h]; rfl
theorem Rep.bl_iff {K : Fg} {F : Hp} {m : List Addr} {d : D} {v : V} {b : Bool} (r : Rep K F m d v) : decide (v = .bl b) = isC d (.bl b) := by
  cases d <;> unfold Rep at r
  · rw [r]; rfl
  · rename_i c
    rw [r]
    cases c <;> cases b <;> rfl
  · rw [r]; rfl
  · rw [r]; rfl
  · obtain ⟨a, _, h⟩ := r; rw [h]; rfl
  · rw [r]; rfl
  · obtain ⟨a, _, h⟩ := r; rw [h]; rfl
  · obtain ⟨a, _, h, _⟩ := r; rw [h]; rfl
  · obtain ⟨a, _, h, _⟩ := r; rw [h]; rfl
theorem isM_ok {neg : Bool} : OpD X (rIs neg) (isM neg) := by
  intro fr W σ F m ah H d e x y Q s rx ry k
  cases e <;> try exact (TK.stuck_of k).elim
  · unfold Rep at ry
    exact .inl ⟨ry, by rw [Rep.non_iff rx]; exact TK.val k s Rep.bl⟩
  · unfold Rep at ry
    exact .inr ⟨_, ry, by rw [Rep.bl_iff rx]; exact TK.val k s Rep.bl⟩
theorem de_isnot {a b : Expr} {ma mb : M D} (ha : DE X W env a ma) (hb : DE X W env b mb) : DE X W env (.Compare a [.IsNot] [b] pos) (do let x ← ma; let y ← mb; isM true x y) := de_cmp op_isnotC isM_ok ha hb (nomark _)
/-! ### subscripts -/
def ixM (x y : D) : M D := fun h => match x, y with
  | .tup xs, .int i => (match atI xs i with
    | some d => .ok d h
    | none => .stuck)
  | .str z, .int i => if lenOk z.length = true then (match atI z.cps.toList i with
    | some c => .ok (.str ⟨#[c]⟩) h
    | none => .stuck) else .stuck
  | x, .int i => (match lstOf h x with
    | some xs => (match atI xs i with
      | some d => .ok d h
      | none => .stuck)
    | none => .stuck)
  | _, _ => .stuck
theorem RepL.atI {K : Fg} {F : Hp} {m : List Addr} {ds : List D} {vs : List V} {i : Int} {d : D} (r : RepL K F m ds vs) (h : atI ds i = some d) : ∃ v, L2.atI vs i = some v ∧ Rep K F m d v := by
  unfold L2.atI at h ⊢
  rw [RepL.length r]
  cases hj : ixN ds.length i with
  | none =>
    rw [hj] at h
    cases h
  | some j =>
    rw [hj] at h
    exact RepL.get r h
theorem ixM_ok : OpD X (rIx X.K) ixM := by
  intro fr W σ F m ah H d e x y Q s rx ry k
  unfold ixM at k
  split at k
  · rename_i xs i
    unfold Rep at ry
    obtain ⟨a, vs, h1, h2, h3⟩ := tup_of (xs := xs) rx rfl
    cases hj : atI xs i with
    | none =>
      rw [hj] at k
      exact k.elim
    | some d =>
      rw [hj] at k
      obtain ⟨v, q1, q2⟩ := RepL.atI h3 hj
      exact .inr (.inl ⟨a, vs, i, v, h1, ry, SqT.up s.sub h2, q1, k.val s q2⟩)
  · rename_i z i
    unfold Rep at rx ry
    by_cases hl : lenOk z.length = true
    · rw [if_pos hl] at k
      cases hj : atI z.cps.toList i with
      | none =>
        rw [hj] at k
        exact k.elim
      | some c =>
        rw [hj] at k
        exact .inr (.inr ⟨z, i, c, rx, ry, of_decide_eq_true hl, hj, k.val s Rep.str⟩)
    · rw [if_neg hl] at k
      exact k.elim
  · rename_i x' i _ _
    unfold Rep at ry
    cases hx : lstOf ah d with
    | none =>
      rw [hx] at k
      exact k.elim
    | some xs =>
      rw [hx] at k
      obtain ⟨a, vs, h1, h2, h3⟩ := lst_of s rx hx
      cases hj : atI xs i with
      | none =>
        simp only [hj] at k
        exact k.elim
      | some d =>
        simp only [hj] at k
        obtain ⟨v, q1, q2⟩ := RepL.atI h3 hj
        exact .inl ⟨a, vs, i, v, h1, ry, h2, q1, k.val s q2⟩
  · exact k.elim
theorem de_ix {a b : Expr} {ma mb : M D} (ha : DE X W env a ma) (hb : DE X W env b mb) (hs : PlainIx b := by exact fun _ _ => rfl) : DE X W env (.Subscript a b pos) (do let x ← ma; let y ← mb; ixM x y) := PE.from (pe_ix ix_seq ha hb hs) (tOp_from ixM_ok)
/-! ### slices -/
abbrev DO (X : Cx) (W : WX) (env : Env) (e : Option Expr) (mc : M (Option Int)) : Prop := PO X e (fun σ H Q => TC X.K X.mg W (fun _ _ a b => a = b) env mc σ H Q)
theorem do_none : DO X W env none (pure none) := ⟨fun pins s σ H Q I ⟨fr, F, m, ah, S, er, k⟩ => po_none.run pins s σ H Q I (k F m _ H Ext.refl S rfl)⟩
def asI : D → M (Option Int)
  | .int i => pure (some i)
  | _ => stuck
theorem do_some {e : Expr} {me : M D} (he : DE X W env e me) : DO X W env (some e) (do let x ← me; asI x) :=
  ⟨fun pins s σ H Q I ⟨fr, F, m, ah, S, er, k⟩ => (po_some he).run pins s σ H Q I (TK.step S er k fun F1 m1 ah1 d v H1 e1 s1 er1 r1 k1 => by
    cases d <;> try exact (TK.stuck_of k1).elim
    unfold Rep at r1
    exact ⟨_, r1, k1 F1 m1 _ H1 Ext.refl s1 rfl⟩)⟩
def cutD {α : Type} (xs : List α) (lo hi : Option Int) : List α := (xs.drop (HT.sIx xs.length 0 lo)).take (HT.sIx xs.length xs.length hi - HT.sIx xs.length 0 lo)
def sliceM (x : D) (lo hi : Option Int) : M D := fun h => match x with
  | .tup xs => .ok (.tup (cutD xs lo hi)) h
  | .str z => if lenOk z.length = true then .ok (.str (cutS z lo hi)) h else .stuck
  | x => match lstOf h x with
    | some xs => .ok (.lst (cutD xs lo hi)) h
    | none => .stuck
theorem cutD_whole {α : Type} {xs : List α} {lo hi : Option Int} (h : HT.sIx xs.length 0 lo = 0 ∧ HT.sIx xs.length xs.length hi = xs.length) : cutD xs lo hi = xs := by
  unfold cutD
  rw [h.1, h.2]
  simp
theorem RepL.cut {K : Fg} {F : Hp} {m : List Addr} {ds : List D} {vs : List V} {lo hi : Option Int} (r : RepL K F m ds vs) : RepL K F m (cutD ds lo hi) (cutV vs lo hi) := by
  unfold cutD cutV
  rw [RepL.length r]
  exact RepL.take _ (RepL.drop _ r)
def rSlAll (K : Fg) : V → Option Int → Option Int → Hp → VK → Prop := fun x lo hi H Q => rSlA K x lo hi H Q ∨ rSlL K x lo hi H Q ∨ rSlS x lo hi H Q
theorem slice_ok {fr : Fm} {W : WX} {σ : St} {F H : Hp} {m : List Addr} {ah : AH} {d : D} {v : V} {lo hi : Option Int} {Q : VK} (S : Sim X.K X.mg fr F m ah H) (r : Rep X.K F m d v) (k : TK X.K X.mg fr W (Rep X.K) σ F m (sliceM d lo hi ah) Q) : rSlAll X.K v lo hi H Q := by
  unfold sliceM at k
  split at k
  · rename_i xs
    obtain ⟨a, vs, h1, h2, h3⟩ := tup_of (xs := xs) r rfl
    refine .inl ⟨a, vs, h1, SqT.up S.sub h2, fun z => ?_, fun _ p hp => TK.newT k S (RepL.cut h3) hp⟩
    rw [RepL.length h3] at z
    rw [cutD_whole z] at k
    exact k.val S (Rep.tup h2 h3)
  · rename_i z
    unfold Rep at r
    by_cases hl : lenOk z.length = true
    · rw [if_pos hl] at k
      exact .inr (.inr ⟨z, r, of_decide_eq_true hl, k.val S Rep.str⟩)
    · rw [if_neg hl] at k
      exact k.elim
  · cases hx : lstOf ah d with
    | none =>
      rw [hx] at k
      exact k.elim
    | some xs =>
      rw [hx] at k
      obtain ⟨a, vs, h1, h2, h3⟩ := lst_of S r hx
      exact .inr (.inl ⟨a, vs, h1, h2, fun p hp => TK.newL k S (RepL.cut h3) hp⟩)
theorem sl_all : SlR X (rSlAll X.K) := sl_tupA.or (sl_list.or sl_str)
theorem de_slice {a : Expr} {lo hi : Option Expr} {ma : M D} {ml mh : M (Option Int)} {p2 : Pos} (ha : DE X W env a ma) (hl : DO X W env lo ml) (hh : DO X W env hi mh) :
    DE X W env (.Subscript a (.Slice lo hi none p2) pos) (do let x ← ma; let l ← ml; let u ← mh; sliceM x l u) :=
  PE.from (pe_slice sl_all ha hl hh) fun σ H Q ⟨fr, F, m, ah, s, er, k⟩ => TK.step s er k fun F1 m1 ah1 d v H1 e1 s1 er1 r1 k1 => TK.step s1 er1 k1 fun F2 m2 ah2 d2 v2 H2 e2 s2 er2 r2 k2 => TK.step s2 er2 k2 fun F3 m3 ah3 d3 v3 H3 e3 s3 er3 r3 k3 => by
    have r2 : d2 = v2 := r2
    have r3 : d3 = v3 := r3
    subst r2 r3
    exact slice_ok s3 (Rep.ext (e2.trans e3) _ _ r1) k3
/-! ### calls of built-in things -/
/-- a rule of a call, read of data -/
def ClD (X : Cx) (r : List V → Hp → VK → Prop) (f : List D → M D) : Prop := ∀ (fr : Fm) (W : WX) (σ : St) (F : Hp) (m : List Addr) (ah : AH) (H : Hp) (ds : List D) (vs : List V) (Q : VK), Sim X.K X.mg fr F m ah H → RepL X.K F m ds vs →
  TK X.K X.mg fr W (Rep X.K) σ F m (f ds ah) Q → r vs H Q
theorem tCB_from {r : List V → Hp → VK → Prop} {f : List D → M D} {ms : M (List D)} (hr : ClD X r f) : ∀ σ H Q, TC X.K X.mg W (Rep X.K) env (do let xs ← ms; f xs) σ H Q → tCB r (TC X.K X.mg W (RepL X.K) env ms) σ H Q :=
  fun σ H Q ⟨fr, F, m, ah, s, er, k⟩ => TK.step s er k fun F1 m1 ah1 d v H1 e1 s1 er1 r1 k1 => hr fr W σ F1 m1 ah1 H1 d v Q s1 r1 k1
theorem de_callB {x : Str} {id : String} {e : Expr} {es : List Expr} {r : List V → Hp → VK → Prop} {f : List D → M D} {ms : M (List D)} {p : Pos} (hc : CallR X (.builtin id) r) (hr : ClD X r f) (hm : X.mg x = none) (hv : bootBuiltins x = some (.builtin id)) (ha : DA X W env (e :: es) ms)
    (hg : Gl X x := by rfl) (hn : x ≠ "__name__" := by decide) (hdb : (x == ("__debug__" : Str)) = false := by decide) (he : starEach (e :: es) X.env = (false, eval e X.env) :: starEach es X.env := by rfl) (hpl : (backTo pos (starEach es X.env)).any (·.1) = false := by rfl) :
    DE X W env (.Call (.Name x p) (e :: es) [] pos) (do let xs ← ms; f xs) := PE.from (pe_callB hc hg hm hv ha hn hdb he hpl) (tCB_from hr)
theorem de_callT {x : Str} {T : String} {e : Expr} {es : List Expr} {r : List V → Hp → VK → Prop} {f : List D → M D} {ms : M (List D)} {p : Pos} (hc : CallR X (.type T) r) (hr : ClD X r f) (hm : X.mg x = none) (hv : bootBuiltins x = some (.type T)) (ha : DA X W env (e :: es) ms)
    (hg : Gl X x := by rfl) (hn : x ≠ "__name__" := by decide) (hdb : (x == ("__debug__" : Str)) = false := by decide) (he : starEach (e :: es) X.env = (false, eval e X.env) :: starEach es X.env := by rfl) (hpl : (backTo pos (starEach es X.env)).any (·.1) = false := by rfl) :
    DE X W env (.Call (.Name x p) (e :: es) [] pos) (do let xs ← ms; f xs) := PE.from (pe_callTy hc hg hm hv ha hn hdb he hpl) (tCB_from hr)
theorem RepL.one {K : Fg} {F : Hp} {m : List Addr} {d : D} {vs : List V} (r : RepL K F m [d] vs) : ∃ v, vs = [v] ∧ Rep K F m d v := by
  unfold RepL at r
  obtain ⟨v, u, h1, h2, h3⟩ := r
  unfold RepL at h3
  rw [h3] at h1
  exact ⟨v, h1, h2⟩
theorem RepL.two {K : Fg} {F : Hp} {m : List Addr} {d e : D} {vs : List V} (r : RepL K F m [d, e] vs) : ∃ v w, vs = [v, w] ∧ Rep K F m d v ∧ Rep K F m e w := by
  unfold RepL at r
  obtain ⟨v, u, h1, h2, h3⟩ := r
  obtain ⟨w, h4, h5⟩ := RepL.one h3
  rw [h4] at h1
  exact ⟨v, w, h1, h2, h5⟩
/-- one argument, two -/
def ap1 (f : D → M D) : List D → M D
  | [d] => f d
  | _ => stuck
def ap2 (f : D → D → M D) : List D → M D
  | [d, e] => f d e
  | _ => stuck
theorem ap1_ok {r : List V → Hp → VK → Prop} {f : D → M D} (h : ∀ (fr : Fm) (W : WX) (σ : St) (F : Hp) (m : List Addr) (ah : AH) (H : Hp) (d : D) (v : V) (Q : VK), Sim X.K X.mg fr F m ah H → Rep X.K F m d v →
    TK X.K X.mg fr W (Rep X.K) σ F m (f d ah) Q → r [v] H Q) : ClD X r (ap1 f) := fun fr W σ F m ah H ds vs Q s r k => by
  match ds, r, k with
  | [], _, k => exact k.elim
  | [d], r, k =>
    obtain ⟨v, rfl, r1⟩ := RepL.one r
    exact h fr W σ F m ah H d v Q s r1 k
  | _ :: _ :: _, _, k => exact k.elim
theorem ap2_ok {r : List V → Hp → VK → Prop} {f : D → D → M D} (h : ∀ (fr : Fm) (W : WX) (σ : St) (F : Hp) (m : List Addr) (ah : AH) (H : Hp) (d e : D) (v w : V) (Q : VK), Sim X.K X.mg fr F m ah H → Rep X.K F m d v → Rep X.K F m e w →
    TK X.K X.mg fr W (Rep X.K) σ F m (f d e ah) Q → r [v, w] H Q) : ClD X r (ap2 f) := fun fr W σ F m ah H ds vs Q s r k => by
  match ds, r, k with
  | [], _, k => exact k.elim
  | [_], _, k => exact k.elim
  | [d, e], r, k =>
    obtain ⟨v, w, rfl, r1, r2⟩ := RepL.two r
    exact h fr W σ F m ah H d e v w Q s r1 r2 k
  | _ :: _ :: _ :: _, _, k => exact k.elim
/-! len -/
def lenM (d : D) : M D := fun h => match d with
  | .str x => if lenOk x.length = true then .ok (.int x.length) h else .stuck
  | .tup xs => .ok (.int xs.length) h
  | d => match lstOf h d with
    | some xs => .ok (.int xs.length) h
    | none => .stuck
theorem len_ok : ClD X (fun xs H Q => ∃ x n, xs = [x] ∧ LenV X.K x H n ∧ Q (.int n) H) (ap1 lenM) := ap1_ok fun fr W σ F m ah H d v Q s r k => by
  unfold lenM at k
  split at k
  · rename_i x
    unfold Rep at r
    subst r
    by_cases hl : lenOk x.length = true
    · rw [if_pos hl] at k
      exact ⟨_, _, rfl, ⟨of_decide_eq_true hl, rfl⟩, k.val s Rep.int⟩
    · rw [if_neg hl] at k
      exact k.elim
  · rename_i xs
    obtain ⟨a, vs, h1, h2, h3⟩ := tup_of (xs := xs) r rfl
    subst h1
    exact ⟨_, _, rfl, .inr ⟨vs, SqT.up s.sub h2, rfl⟩, by rw [RepL.length h3]; exact k.val s Rep.int⟩
  · cases hx : lstOf ah d with
    | none =>
      rw [hx] at k
      exact k.elim
    | some xs =>
      rw [hx] at k
      obtain ⟨a, vs, h1, h2, h3⟩ := lst_of s r hx
      subst h1
      exact ⟨_, _, rfl, .inl ⟨vs, h2, rfl⟩, by rw [RepL.length h3]; exact k.val s Rep.int⟩
theorem de_len {e : Expr} {me : M D} {p : Pos} (hm : X.mg "len" = none) (ha : DE X W env e me) (hg : Gl X "len" := by rfl) (he : starEach [e] X.env = [(false, eval e X.env)] := by rfl) (hpl : (backTo pos (starEach [] X.env)).any (·.1) = false := by rfl) :
    DE X W env (.Call (.Name "len" p) [e] [] pos) (do let x ← me; lenM x) := by
  have h := de_callB (pos := pos) (p := p) call_len (len_ok (X := X)) hm PySem.boot_len (da_one ha he) hg (by decide) (by decide) he hpl
  rw [bind_assoc] at h
  exact h
/-! tuple(x), list(x) -/
def tupleM (d : D) : M D := fun h => match d with
  | .tup xs => .ok (.tup xs) h
  | d => match lstOf h d with
    | some xs => .ok (.tup xs) h
    | none => .stuck
theorem tuple_ok : ClD X (fun xs H Q => ∃ p ys, xs = [.ref p] ∧ ((SqL X.K H p ys ∧ ∀ l, H l = none → Q (.ref l) (upd H l (.tup ys))) ∨ (SqT X.K H p ys ∧ Q (.ref p) H))) (ap1 tupleM) := ap1_ok fun fr W σ F m ah H d v Q s r k => by
  unfold tupleM at k
  split at k
  · rename_i xs
    obtain ⟨a, vs, h1, h2, h3⟩ := tup_of (xs := xs) r rfl
    subst h1
    exact ⟨_, _, rfl, .inr ⟨SqT.up s.sub h2, k.val s (Rep.tup h2 h3)⟩⟩
  · cases hx : lstOf ah d with
    | none =>
      rw [hx] at k
      exact k.elim
    | some xs =>
      rw [hx] at k
      obtain ⟨a, vs, h1, h2, h3⟩ := lst_of s r hx
      subst h1
      exact ⟨_, _, rfl, .inl ⟨h2, fun l hl => TK.newT k s h3 hl⟩⟩
theorem de_tuple {e : Expr} {me : M D} {p : Pos} (hm : X.mg "tuple" = none) (ha : DE X W env e me) (hg : Gl X "tuple" := by rfl) (he : starEach [e] X.env = [(false, eval e X.env)] := by rfl) (hpl : (backTo pos (starEach [] X.env)).any (·.1) = false := by rfl) :
    DE X W env (.Call (.Name "tuple" p) [e] [] pos) (do let x ← me; tupleM x) := by
  have h := de_callT (pos := pos) (p := p) call_tuple_of (tuple_ok (X := X)) hm (by decide +kernel) (da_one ha he) hg (by decide) (by decide) he hpl
  rw [bind_assoc] at h
  exact h
/-- list(x), never written -/
def listM (d : D) : M D := fun h => match d with
  | .tup xs => .ok (.lst xs) h
  | d => match lstOf h d with
    | some xs => .ok (.lst xs) h
    | none => .stuck
theorem list_ok : ClD X (fun xs H Q => ∃ p ys, xs = [.ref p] ∧ (SqL X.K H p ys ∨ SqT X.K H p ys) ∧ ∀ l, H l = none → Q (.ref l) (upd H l (.lst ys))) (ap1 listM) := ap1_ok fun fr W σ F m ah H d v Q s r k => by
  unfold listM at k
  split at k
  · rename_i xs
    obtain ⟨a, vs, h1, h2, h3⟩ := tup_of (xs := xs) r rfl
    subst h1
    exact ⟨_, _, rfl, .inr (SqT.up s.sub h2), fun l hl => TK.newL k s h3 hl⟩
  · cases hx : lstOf ah d with
    | none =>
      rw [hx] at k
      exact k.elim
    | some xs =>
      rw [hx] at k
      obtain ⟨a, vs, h1, h2, h3⟩ := lst_of s r hx
      subst h1
      exact ⟨_, _, rfl, .inl h2, fun l hl => TK.newL k s h3 hl⟩
theorem de_list {e : Expr} {me : M D} {p : Pos} (hm : X.mg "list" = none) (ha : DE X W env e me) (hg : Gl X "list" := by rfl) (he : starEach [e] X.env = [(false, eval e X.env)] := by rfl) (hpl : (backTo pos (starEach [] X.env)).any (·.1) = false := by rfl) :
    DE X W env (.Call (.Name "list" p) [e] [] pos) (do let x ← me; listM x) := by
  have h := de_callT (pos := pos) (p := p) call_list_of (list_ok (X := X)) hm (by decide +kernel) (da_one ha he) hg (by decide) (by decide) he hpl
  rw [bind_assoc] at h
  exact h
/-! sum, any, all of lists -/
def intsOf : List D → Option (List Int)
  | [] => some []
  | .int i :: r => (intsOf r).map (i :: ·)
  | _ => none
def blsOf : List D → Option (List Bool)
  | [] => some []
  | .bl i :: r => (blsOf r).map (i :: ·)
  | _ => none
theorem intsOf_eq : ∀ {ds : List D} {ns : List Int}, intsOf ds = some ns → ds = ns.map D.int
  | [], ns, h => by
    cases h
    rfl
  | d :: ds, ns, h => by
    cases d <;> try (cases h; done)
    rename_i i
    have h : (intsOf ds).map (i :: ·) = some ns := h
    cases q : intsOf ds with
    | none =>
      rw [q] at h
      cases h
    | some ms =>
      rw [q] at h
      cases h
      rw [intsOf_eq q]
      rfl
theorem blsOf_eq : ∀ {ds : List D} {ns : List Bool}, blsOf ds = some ns → ds = ns.map D.bl
  | [], ns, h => by
    cases h
    rfl
  | d :: ds, ns, h => by
    cases d <;> try (cases h; done)
    rename_i i
    have h : (blsOf ds).map (i :: ·) = some ns := h
    cases q : blsOf ds with
    | none =>
      rw [q] at h
      cases h
    | some ms =>
      rw [q] at h
      cases h
      rw [blsOf_eq q]
      rfl
theorem intsOf_map (ns : List Int) : intsOf (ns.map D.int) = some ns := by
  induction ns with
  | nil => rfl
  | cons n r ih =>
    show (intsOf (r.map D.int)).map (n :: ·) = _
    rw [ih]
    rfl
theorem blsOf_map (ns : List Bool) : blsOf (ns.map D.bl) = some ns := by
  induction ns with
  | nil => rfl
  | cons n r ih =>
    show (blsOf (r.map D.bl)).map (n :: ·) = _
    rw [ih]
    rfl
theorem RepL.ints {K : Fg} {F : Hp} {m : List Addr} : ∀ {ns : List Int} {vs : List V}, RepL K F m (ns.map D.int) vs → vs = ns.map V.int
  | [], vs, r => by
    rw [List.map_nil] at r
    unfold RepL at r
    exact r
  | n :: ns, vs, r => by
    rw [List.map_cons] at r
    unfold RepL at r
    obtain ⟨v, u, h1, h2, h3⟩ := r
    unfold Rep at h2
    rw [h1, h2, RepL.ints h3]
    rfl
theorem RepL.bls {K : Fg} {F : Hp} {m : List Addr} : ∀ {ns : List Bool} {vs : List V}, RepL K F m (ns.map D.bl) vs → vs = ns.map V.bl
  | [], vs, r => by
    rw [List.map_nil] at r
    unfold RepL at r
    exact r
  | n :: ns, vs, r => by
    rw [List.map_cons] at r
    unfold RepL at r
    obtain ⟨v, u, h1, h2, h3⟩ := r
    unfold Rep at h2
    rw [h1, h2, RepL.bls h3]
    rfl
def onInts (f : List Int → D) (d : D) : M D := fun h => match lstOf h d with
  | some xs => (match intsOf xs with
    | some ns => .ok (f ns) h
    | none => .stuck)
  | none => .stuck
def onBls (f : List Bool → D) (d : D) : M D := fun h => match lstOf h d with
  | some xs => (match blsOf xs with
    | some ns => .ok (f ns) h
    | none => .stuck)
  | none => .stuck
def sumM : D → M D := onInts fun ns => .int ns.sum
def allM : D → M D := onBls fun ns => .bl (ns.all id)
theorem sum_ok : ClD X (rSum X.K) (ap1 sumM) := ap1_ok fun fr W σ F m ah H d v Q s r k => by
  unfold sumM onInts at k
  cases hx : lstOf ah d with
  | none =>
    rw [hx] at k
    exact k.elim
  | some xs =>
    obtain ⟨a, vs, h1, h2, h3⟩ := lst_of s r hx
    cases hi : intsOf xs with
    | none =>
      simp only [hx, hi] at k
      exact k.elim
    | some ns =>
      simp only [hx, hi] at k
      rw [intsOf_eq hi] at h3
      rw [RepL.ints h3] at h2
      subst h1
      exact ⟨a, ns, rfl, h2, TK.val k s Rep.int⟩
theorem all_ok : ClD X (rAll X.K) (ap1 allM) := ap1_ok fun fr W σ F m ah H d v Q s r k => by
  unfold allM onBls at k
  cases hx : lstOf ah d with
  | none =>
    rw [hx] at k
    exact k.elim
  | some xs =>
    obtain ⟨a, vs, h1, h2, h3⟩ := lst_of s r hx
    cases hi : blsOf xs with
    | none =>
      simp only [hx, hi] at k
      exact k.elim
    | some ns =>
      simp only [hx, hi] at k
      rw [blsOf_eq hi] at h3
      rw [RepL.bls h3] at h2
      subst h1
      exact ⟨a, ns, rfl, h2, TK.val k s Rep.bl⟩
theorem de_b1 {x : Str} {id : String} {r : List V → Hp → VK → Prop} {f : D → M D} {e : Expr} {me : M D} {p : Pos} (hc : CallR X (.builtin id) r) (hr : ClD X r (ap1 f)) (hm : X.mg x = none) (hv : bootBuiltins x = some (.builtin id)) (ha : DE X W env e me) (hg : Gl X x := by rfl)
    (hn : x ≠ "__name__" := by decide) (hdb : (x == ("__debug__" : Str)) = false := by decide) (he : starEach [e] X.env = [(false, eval e X.env)] := by rfl) (hpl : (backTo pos (starEach [] X.env)).any (·.1) = false := by rfl) :
    DE X W env (.Call (.Name x p) [e] [] pos) (do let x ← me; f x) := by
  have h := de_callB (pos := pos) (p := p) hc hr hm hv (da_one ha he) hg hn hdb he hpl
  rw [bind_assoc] at h
  exact h
theorem de_t1 {x : Str} {id : String} {r : List V → Hp → VK → Prop} {f : D → M D} {e : Expr} {me : M D} {p : Pos} (hc : CallR X (.type id) r) (hr : ClD X r (ap1 f)) (hm : X.mg x = none) (hv : bootBuiltins x = some (.type id)) (ha : DE X W env e me) (hg : Gl X x := by rfl)
    (hn : x ≠ "__name__" := by decide) (hdb : (x == ("__debug__" : Str)) = false := by decide) (he : starEach [e] X.env = [(false, eval e X.env)] := by rfl) (hpl : (backTo pos (starEach [] X.env)).any (·.1) = false := by rfl) :
    DE X W env (.Call (.Name x p) [e] [] pos) (do let x ← me; f x) := by
  have h := de_callT (pos := pos) (p := p) hc hr hm hv (da_one ha he) hg hn hdb he hpl
  rw [bind_assoc] at h
  exact h
theorem de_b2 {x : Str} {id : String} {r : List V → Hp → VK → Prop} {f : D → D → M D} {a b : Expr} {ma mb : M D} {p : Pos} (hc : CallR X (.builtin id) r) (hr : ClD X r (ap2 f)) (hm : X.mg x = none) (hv : bootBuiltins x = some (.builtin id)) (ha : DE X W env a ma) (hb : DE X W env b mb) (hg : Gl X x := by rfl)
    (hn : x ≠ "__name__" := by decide) (hdb : (x == ("__debug__" : Str)) = false := by decide) (he : starEach [a, b] X.env = (false, eval a X.env) :: starEach [b] X.env := by rfl) (he2 : starEach [b] X.env = (false, eval b X.env) :: starEach [] X.env := by rfl) (hpl : (backTo pos (starEach [b] X.env)).any (·.1) = false := by rfl) :
    DE X W env (.Call (.Name x p) [a, b] [] pos) (do let x ← ma; let y ← mb; f x y) := by
  have h := de_callB (pos := pos) (p := p) hc hr hm hv (da_two ha hb he he2) hg hn hdb he hpl
  rw [bind_assoc] at h
  have e : (fun x => (do let y ← mb; pure [x, y]) >>= ap2 f) = fun x => (do let y ← mb; f x y) := by
    funext x
    rw [bind_assoc]
    rfl
  rw [e] at h
  exact h
def maxM : D → D → M D := int2 fun i j => .int (if j > i then j else i)
def minM : D → D → M D := int2 fun i j => .int (if j < i then j else i)
theorem max2_ok : ClD X (fun xs H Q => ∃ i j, xs = [.int i, .int j] ∧ Q (.int (if j > i then j else i)) H) (ap2 maxM) := ap2_ok fun fr W σ F m ah H d e v w Q s r r2 k => by
  cases d <;> try exact (TK.stuck_of k).elim
  cases e <;> try exact (TK.stuck_of k).elim
  unfold Rep at r r2
  subst r r2
  exact ⟨_, _, rfl, TK.val k s Rep.int⟩
end
end Lw
/-! SimE: what is walked, comprehensions, lists that are written, calls, defs. -/
namespace Lw
open PySem L2
/-! ### frames within frames -/
section
variable {K : Fg} {mg : Str → Option Value} {fr : Fm} {F F' H H' : Hp} {m m' : List Addr} {ah ah' : AH}
theorem Sim.re (S : Sim K mg fr F m ah H) : Sim K mg ⟨H, F, m⟩ F m ah H := ⟨S.sub, S.len, S.nod, S.cells, fun _ _ h _ => h, fun a h n => absurd h n, fun _ _ h => h, S.there, fun _ _ h => .inl h⟩
theorem Sim.back (S : Sim K mg fr F m ah H) (T : Sim K mg ⟨H, F, m⟩ F' m' ah' H') : Sim K mg fr F' m' ah' H' := by
  have ym : ∀ a, a ∈ m → a ∉ fr.m0 → fr.H0 a = none := S.young
  refine ⟨T.sub, T.len, T.nod, T.cells, fun a o h n => ?_, fun a h n => ?_, fun i a h => T.pre i a (S.pre i a h), T.there, fun a o h => ?_⟩
  · refine T.frame a o (S.frame a o h n) fun z => ?_
    rw [ym a z n] at h
    cases h
  · by_cases z : a ∈ m
    · exact ym a z n
    · exact S.fresh0 (T.young a h z)
  · rcases T.old a o h with z | z | z
    · exact S.old a o z
    · exact .inr (.inl (S.fresh0 z))
    · by_cases y : a ∈ fr.m0
      · exact .inr (.inr y)
      · exact .inr (.inl (ym a z y))
/-- an object that is nobody's is written -/
theorem Sim.other {p : Addr} {o : HO} (S : Sim K mg fr F m ah H) (hF : F p = none) (hm : p ∉ m) (h0 : fr.H0 p = none) : Sim K mg fr F m ah (upd H p o) := by
  have nf : ∀ {a : Addr} {u : HO}, F a = some u → a ≠ p := fun h z => by rw [z, hF] at h; cases h
  have nm : ∀ {a : Addr}, a ∈ m → a ≠ p := fun h z => hm (by rw [← z]; exact h)
  refine ⟨fun a u h => by rw [upd_ne (nf h)]; exact S.sub a u h, S.len, S.nod, fun i c h => ?_, fun a u h n => ?_, S.young, S.pre, fun a h => by rw [upd_ne (nm h)]; exact S.there a h, S.old⟩
  · obtain ⟨a, q, ok⟩ := S.cells i c h
    exact ⟨a, q, ok.ext Ext.refl (fun z => ok.free z) fun _ => upd_ne (nm (List.mem_of_getElem? q))⟩
  · have ne : a ≠ p := fun z => by rw [z, h0] at h; cases h
    rw [upd_ne ne]
    exact S.frame a u h n
/-- it is nobody's, and never written from now on -/
theorem Sim.seal {p : Addr} {o : HO} (S : Sim K mg fr F m ah H) (hF : F p = none) (hm : p ∉ m) (h0 : fr.H0 p = none) (hp : H p = some o) : Sim K mg fr (upd F p o) m ah H ∧ Ext F m (upd F p o) m := by
  have e : Ext F m (upd F p o) m := ⟨fun a u h => by rw [upd_ne (ne_of_none h hF)]; exact h, fun _ _ h => h⟩
  have nm : ∀ {a : Addr}, a ∈ m → a ≠ p := fun h z => hm (by rw [← z]; exact h)
  refine ⟨⟨fun a u h => ?_, S.len, S.nod, fun i c h => ?_, S.frame, S.young, S.pre, S.there, fun a u h => ?_⟩, e⟩
  · by_cases z : a = p
    · rw [z, upd_same] at h
      cases h
      rw [z]
      exact hp
    · rw [upd_ne z] at h
      exact S.sub a u h
  · obtain ⟨a, q, ok⟩ := S.cells i c h
    exact ⟨a, q, ok.ext e (fun z => by rw [upd_ne (nm (List.mem_of_getElem? q))]; exact ok.free z) fun _ => rfl⟩
  · by_cases z : a = p
    · exact .inr (.inl (by rw [z]; exact h0))
    · rw [upd_ne z] at h
      exact S.old a u h
/-- what stood and was nobody's stands, and is nobody's -/
theorem Sim.kept (T : Sim K mg ⟨H, F, m⟩ F' m' ah' H') {p : Addr} {o : HO} (hp : H p = some o) (hF : F p = none) (hm : p ∉ m) : H' p = some o ∧ F' p = none ∧ p ∉ m' := by
  refine ⟨T.frame p o hp hm, ?_, fun z => ?_⟩
  · cases q : F' p with
    | none => rfl
    | some u =>
      rcases T.old p u q with z | z | z
      · have z : F p = some u := z
        rw [hF] at z
        cases z
      · have z : H p = none := z
        rw [hp] at z
        cases z
      · exact absurd z hm
  · have y : H p = none := T.young p z hm
    rw [hp] at y
    cases y
end
/-! ### what is walked -/
section
variable {X : Cx} {W : WX} {env : Env} {pos : Pos} {tg : Expr}
def iSeq (K : Fg) (tl : TE) : TI := fun σ H R => tl σ H fun x H1 => ∃ a, x = .ref a ∧ ((∃ xs, SqL K H1 a xs ∧ R (Itl K a) H1) ∨ (∃ xs, SqT K H1 a xs ∧ R (Itt K a) H1))
theorem pi_seq {l : Expr} {tl : TE} (hl : PE X l tl) : PI X tg l (iSeq X.K tl) := by
  refine ⟨fun pins s σ H R I h => ?_⟩
  refine thn (hl.run pins s σ H _ I h) fun v s1 ⟨x, H1, I1, r1, q1⟩ => ?_
  obtain ⟨a, e, q⟩ := q1
  subst e
  cases r1
  rcases q with ⟨xs, hq, q⟩ | ⟨xs, hq, q⟩
  · obtain ⟨its, rv, p, hz⟩ := I1.list hq
    refine wpAny_pyIter_list p.isList ?_
    refine ⟨s1.heap.objs.size, [s1.heap.objs.size], _, _, H1, rfl, I1.kept (t' := s1.toks) fun b o e => Heap.get?_push_of_some _ e, turn_list a _, ⟨_, Heap.get?_push_size _ rfl, rfl, rfl⟩, fun b hb => ?_, q⟩
    have e : b = s1.heap.objs.size := by simpa using hb
    subst e
    exact I1.fpOk (Nat.le_refl _) (I1.hok.fresh (Nat.le_refl _))
  · obtain ⟨its, rv, p, hz⟩ := I1.tuple hq
    refine wpAny_pyIter_tuple (show s1.heap.IsTuple a its.toArray from p) ?_
    refine ⟨s1.heap.objs.size, [s1.heap.objs.size], _, _, H1, rfl, I1.kept (t' := s1.toks) fun b o e => Heap.get?_push_of_some _ e, turn_tuple a _, ⟨_, Heap.get?_push_size _ rfl, rfl, rfl⟩, fun b hb => ?_, q⟩
    have e : b = s1.heap.objs.size := by simpa using hb
    subst e
    exact I1.fpOk (Nat.le_refl _) (I1.hok.fresh (Nat.le_refl _))
def itemsM : D → M (List D)
  | .tup xs => pure xs
  | .lst xs => pure xs
  | _ => stuck
theorem RepL.none_of {K : Fg} {F : Hp} {m : List Addr} {ds : List D} {vs : List V} {i : Nat} (r : RepL K F m ds vs) (h : ds.length ≤ i) : vs.length ≤ i := by
  rw [RepL.length r]
  exact h
theorem yl_tup {K : Fg} {mg : Str → Option Value} {F : Hp} {m : List Addr} {a : Addr} {ds : List D} {vs : List V} (h : SqT K F a vs) (r : RepL K F m ds vs) : Yl K mg F m ds (Itt K a) where
  go := fun i fr F1 m1 ah1 H1 e s hi => by
    obtain ⟨d, hd⟩ : ∃ d, ds[i]? = some d := ⟨_, List.getElem?_eq_getElem hi⟩
    obtain ⟨v, hv, _⟩ := RepL.get r hd
    exact ⟨vs, v, SqT.up s.sub (SqT.up e.sub h), hv⟩
  stop := fun fr F1 m1 ah1 H1 e s => ⟨vs, SqT.up s.sub (SqT.up e.sub h), RepL.none_of r (Nat.le_refl _)⟩
  yld := fun i fr F1 m1 ah1 H1 x H2 e s hi y => by
    obtain ⟨e2, y⟩ := y
    subst e2
    obtain ⟨d, hd⟩ : ∃ d, ds[i]? = some d := ⟨_, List.getElem?_eq_getElem hi⟩
    obtain ⟨v, hv, rv⟩ := RepL.get r hd
    have q := y vs (SqT.up s.sub (SqT.up e.sub h))
    rw [hv] at q
    cases q
    exact ⟨F1, d, hd, Ext.refl, s, Rep.ext e _ _ rv⟩
theorem yl_lst {K : Fg} {mg : Str → Option Value} {F : Hp} {m : List Addr} {a : Addr} {ds : List D} {vs : List V} (h : SqL K F a vs) (r : RepL K F m ds vs) : Yl K mg F m ds (Itl K a) where
  go := fun i fr F1 m1 ah1 H1 e s hi => by
    obtain ⟨d, hd⟩ : ∃ d, ds[i]? = some d := ⟨_, List.getElem?_eq_getElem hi⟩
    obtain ⟨v, hv, _⟩ := RepL.get r hd
    exact ⟨vs, v, SqL.up s.sub (SqL.up e.sub h), hv⟩
  stop := fun fr F1 m1 ah1 H1 e s => ⟨vs, SqL.up s.sub (SqL.up e.sub h), RepL.none_of r (Nat.le_refl _)⟩
  yld := fun i fr F1 m1 ah1 H1 x H2 e s hi y => by
    obtain ⟨e2, y⟩ := y
    subst e2
    obtain ⟨d, hd⟩ : ∃ d, ds[i]? = some d := ⟨_, List.getElem?_eq_getElem hi⟩
    obtain ⟨v, hv, rv⟩ := RepL.get r hd
    have q := y vs (SqL.up s.sub (SqL.up e.sub h))
    rw [hv] at q
    cases q
    exact ⟨F1, d, hd, Ext.refl, s, Rep.ext e _ _ rv⟩
theorem di_seq {e : Expr} {me : M D} (he : DE X W env e me) : DI X W env tg e (do let x ← me; itemsM x) :=
  PI.from (pi_seq he) fun σ H Q ⟨fr, F, m, ah, s, er, k⟩ => TK.step s er k fun F1 m1 ah1 d v H1 e1 s1 er1 r1 k1 => by
    cases d <;> try exact (TK.stuck_of k1).elim
    · rename_i xs
      obtain ⟨a, vs, h1, h2, h3⟩ := tup_of (xs := xs) r1 rfl
      exact ⟨a, h1, .inr ⟨vs, SqT.up s1.sub h2, k1 F1 m1 _ H1 Ext.refl s1 (yl_tup h2 h3)⟩⟩
    · rename_i xs
      unfold Rep at r1
      obtain ⟨a, vs, h1, h2, h3⟩ := r1
      exact ⟨a, h1, .inl ⟨vs, SqL.up s1.sub h2, k1 F1 m1 _ H1 Ext.refl s1 (yl_lst h2 h3)⟩⟩
/-- ints in a row -/
def rangeD (lo : Int) (n : Nat) : List D := (List.range n).map fun k => D.int (lo + (k : Nat))
theorem yl_range {K : Fg} {mg : Str → Option Value} {F : Hp} {m : List Addr} (lo : Int) (n : Nat) : Yl K mg F m (rangeD lo n) (Itr lo n) where
  go := fun i fr F1 m1 ah1 H1 e s hi => by
    unfold rangeD at hi
    rw [List.length_map, List.length_range] at hi
    exact hi
  stop := fun fr F1 m1 ah1 H1 e s => by
    unfold rangeD
    rw [List.length_map, List.length_range]
    exact Nat.le_refl _
  yld := fun i fr F1 m1 ah1 H1 x H2 e s hi y => by
    obtain ⟨e2, y⟩ := y
    subst e2 y
    unfold rangeD at hi
    rw [List.length_map, List.length_range] at hi
    exact ⟨F1, .int (lo + (i : Nat)), by unfold rangeD; rw [List.getElem?_map, List.getElem?_range hi]; rfl, Ext.refl, s, Rep.int⟩
def rng1M : List D → M (List D)
  | [.int j] => if -(2 ^ 62) ≤ j ∧ j < 2 ^ 62 then pure (rangeD 0 j.toNat) else stuck
  | _ => stuck
def rng2M : List D → M (List D)
  | [.int i, .int j] => if -(2 ^ 62) ≤ i ∧ i < 2 ^ 62 ∧ -(2 ^ 62) ≤ j ∧ j < 2 ^ 62 then pure (rangeD i (j - i).toNat) else stuck
  | _ => stuck
theorem di_range1 {e : Expr} {me : M D} {p : Pos} (hm : X.mg "range" = none) (he : DE X W env e me) (hg : Gl X "range" := by rfl) (hs : starEach [e] X.env = [(false, eval e X.env)] := by rfl) :
    DI X W env tg (.Call (.Name "range" p) [e] [] pos) (do let x ← me; rng1M [x]) :=
  PI.from (pi_range1 (pos := pos) (p := p) hg hm (da_one he hs) hs) fun σ H Q ⟨fr, F, m, ah, s, er, k⟩ => by
    have k' : TK X.K X.mg fr W (Yl X.K X.mg) σ F m (((do let x ← me; pure [x]) >>= rng1M) ah) (fun J H' => Q J H') := by
      rw [bind_assoc]
      exact k
    refine TK.step (R := RepL X.K) s er k' fun F1 m1 ah1 d v H1 e1 s1 er1 r1 k1 => ?_
    unfold rng1M at k1
    split at k1
    · rename_i j
      by_cases h : -(2 ^ 62) ≤ j ∧ j < 2 ^ 62
      · rw [if_pos h] at k1
        obtain ⟨v, rfl, r⟩ := RepL.one r1
        unfold Rep at r
        exact ⟨j, by rw [r], h.1, h.2, k1 F1 m1 _ H1 Ext.refl s1 (yl_range 0 j.toNat)⟩
      · rw [if_neg h] at k1
        exact (TK.stuck_of k1).elim
    · exact (TK.stuck_of k1).elim
theorem di_range2 {a b : Expr} {ma mb : M D} {p : Pos} (hm : X.mg "range" = none) (ha : DE X W env a ma) (hb : DE X W env b mb) (hg : Gl X "range" := by rfl) (hs : starEach [a, b] X.env = [(false, eval a X.env), (false, eval b X.env)] := by rfl) (hs2 : starEach [b] X.env = [(false, eval b X.env)] := by rfl) :
    DI X W env tg (.Call (.Name "range" p) [a, b] [] pos) (do let x ← ma; let y ← mb; rng2M [x, y]) :=
  PI.from (pi_range2 (pos := pos) (p := p) hg hm (da_two ha hb (by rw [hs, hs2]) hs2) hs hs2) fun σ H Q ⟨fr, F, m, ah, s, er, k⟩ => by
    have e : ((do let x ← ma; let y ← mb; pure [x, y]) >>= rng2M) = (do let x ← ma; let y ← mb; rng2M [x, y]) := by
      rw [bind_assoc]
      congr 1
      funext x
      rw [bind_assoc]
      rfl
    have k' : TK X.K X.mg fr W (Yl X.K X.mg) σ F m (((do let x ← ma; let y ← mb; pure [x, y]) >>= rng2M) ah) (fun J H' => Q J H') := by
      rw [e]
      exact k
    refine TK.step (R := RepL X.K) s er k' fun F1 m1 ah1 d v H1 e1 s1 er1 r1 k1 => ?_
    unfold rng2M at k1
    split at k1
    · rename_i i j
      by_cases h : -(2 ^ 62) ≤ i ∧ i < 2 ^ 62 ∧ -(2 ^ 62) ≤ j ∧ j < 2 ^ 62
      · rw [if_pos h] at k1
        obtain ⟨v, w, rfl, r, r2⟩ := RepL.two r1
        unfold Rep at r r2
        exact ⟨i, j, by rw [r, r2], h, k1 F1 m1 _ H1 Ext.refl s1 (yl_range i (j - i).toNat)⟩
      · rw [if_neg h] at k1
        exact (TK.stuck_of k1).elim
    · exact (TK.stuck_of k1).elim
/-- two side by side -/
def zipD (xs ys : List D) : List D := List.zipWith (fun a b => D.tup [a, b]) xs ys
def zipM : List D → M (List D)
  | [.tup xs, .tup ys] => pure (zipD xs ys)
  | [.lst xs, .lst ys] => pure (zipD xs ys)
  | _ => stuck
theorem zipD_length (xs ys : List D) : (zipD xs ys).length = min xs.length ys.length := by
  unfold zipD
  rw [List.length_zipWith]
theorem zipD_get {xs ys : List D} {i : Nat} (h : i < (zipD xs ys).length) : ∃ a b, xs[i]? = some a ∧ ys[i]? = some b ∧ (zipD xs ys)[i]? = some (.tup [a, b]) := by
  rw [zipD_length] at h
  have h1 : i < xs.length := by omega
  have h2 : i < ys.length := by omega
  refine ⟨_, _, List.getElem?_eq_getElem h1, List.getElem?_eq_getElem h2, ?_⟩
  unfold zipD
  rw [List.getElem?_zipWith, List.getElem?_eq_getElem h1, List.getElem?_eq_getElem h2]
theorem yl_zipT {K : Fg} {mg : Str → Option Value} {F : Hp} {m : List Addr} {a b : Addr} {xs ys : List D} {vs us : List V} (h : SqT K F a vs) (h' : SqT K F b us) (r : RepL K F m xs vs) (r' : RepL K F m ys us) : Yl K mg F m (zipD xs ys) (RZ.ItzT K a b) where
  go := fun i fr F1 m1 ah1 H1 e s hi => by
    obtain ⟨x, y, hx, hy, _⟩ := zipD_get hi
    obtain ⟨v, hv, _⟩ := RepL.get r hx
    obtain ⟨u, hu, _⟩ := RepL.get r' hy
    exact ⟨vs, us, v, u, SqT.up s.sub (SqT.up e.sub h), SqT.up s.sub (SqT.up e.sub h'), hv, hu⟩
  stop := fun fr F1 m1 ah1 H1 e s => by
    refine ⟨vs, us, SqT.up s.sub (SqT.up e.sub h), SqT.up s.sub (SqT.up e.sub h'), ?_⟩
    rw [zipD_length, RepL.length r, RepL.length r']
    omega
  yld := fun i fr F1 m1 ah1 H1 x H2 e s hi z => by
    obtain ⟨T, p, q, e1, e2, e3, z1, z2⟩ := z
    subst e1 e3
    obtain ⟨x, y, hx, hy, hz⟩ := zipD_get hi
    obtain ⟨v, hv, rv⟩ := RepL.get r hx
    obtain ⟨u, hu, ru⟩ := RepL.get r' hy
    have q1 := z1 vs (SqT.up s.sub (SqT.up e.sub h))
    have q2 := z2 us (SqT.up s.sub (SqT.up e.sub h'))
    rw [hv] at q1
    rw [hu] at q2
    have hp : v = p := Option.some.inj q1
    have hq : u = q := Option.some.inj q2
    rw [hp] at rv
    rw [hq] at ru
    obtain ⟨S', e'⟩ := s.frozen (o := .tup [p, q]) e2
    exact ⟨_, _, hz, e', S', Rep.tup (.inl (.inl upd_same)) (RepL.cons (Rep.ext (e.trans e') _ _ rv) (RepL.cons (Rep.ext (e.trans e') _ _ ru) RepL.nil))⟩
theorem yl_zipL {K : Fg} {mg : Str → Option Value} {F : Hp} {m : List Addr} {a b : Addr} {xs ys : List D} {vs us : List V} (h : SqL K F a vs) (h' : SqL K F b us) (r : RepL K F m xs vs) (r' : RepL K F m ys us) : Yl K mg F m (zipD xs ys) (Itz K a b) where
  go := fun i fr F1 m1 ah1 H1 e s hi => by
    obtain ⟨x, y, hx, hy, _⟩ := zipD_get hi
    obtain ⟨v, hv, _⟩ := RepL.get r hx
    obtain ⟨u, hu, _⟩ := RepL.get r' hy
    exact ⟨vs, us, v, u, SqL.up s.sub (SqL.up e.sub h), SqL.up s.sub (SqL.up e.sub h'), hv, hu⟩
  stop := fun fr F1 m1 ah1 H1 e s => by
    refine ⟨vs, us, SqL.up s.sub (SqL.up e.sub h), SqL.up s.sub (SqL.up e.sub h'), ?_⟩
    rw [zipD_length, RepL.length r, RepL.length r']
    omega
  yld := fun i fr F1 m1 ah1 H1 x H2 e s hi z => by
    obtain ⟨T, p, q, e1, e2, e3, z1, z2⟩ := z
    subst e1 e3
    obtain ⟨x, y, hx, hy, hz⟩ := zipD_get hi
    obtain ⟨v, hv, rv⟩ := RepL.get r hx
    obtain ⟨u, hu, ru⟩ := RepL.get r' hy
    have q1 := z1 vs (SqL.up s.sub (SqL.up e.sub h))
    have q2 := z2 us (SqL.up s.sub (SqL.up e.sub h'))
    rw [hv] at q1
    rw [hu] at q2
    have hp : v = p := Option.some.inj q1
    have hq : u = q := Option.some.inj q2
    rw [hp] at rv
    rw [hq] at ru
    obtain ⟨S', e'⟩ := s.frozen (o := .tup [p, q]) e2
    exact ⟨_, _, hz, e', S', Rep.tup (.inl (.inl upd_same)) (RepL.cons (Rep.ext (e.trans e') _ _ rv) (RepL.cons (Rep.ext (e.trans e') _ _ ru) RepL.nil))⟩
theorem di_zip {a b : Expr} {ma mb : M D} {p tpos : Pos} {elts : List Expr} {kk : Nat} (hm : X.mg "zip" = none) (ha : DE X W env a ma) (hb : DE X W env b mb) (hg : Gl X "zip" := by rfl) (hs : starEach [a, b] X.env = (false, eval a X.env) :: starEach [b] X.env := by rfl)
    (hs2 : starEach [b] X.env = (false, eval b X.env) :: starEach [] X.env := by rfl) (hpl : (backTo pos (starEach [b] X.env)).any (·.1) = false := by rfl) :
    DI X W env (.Tuple elts kk tpos) (.Call (.Name "zip" p) [a, b] [] pos) (do let x ← ma; let y ← mb; zipM [x, y]) :=
  PI.from (RZ.pi_zipA (pos := pos) (p := p) hg hm (da_two ha hb hs hs2) hs hpl) fun σ H Q ⟨fr, F, m, ah, s, er, k⟩ => by
    have e : ((do let x ← ma; let y ← mb; pure [x, y]) >>= zipM) = (do let x ← ma; let y ← mb; zipM [x, y]) := by
      rw [bind_assoc]
      congr 1
      funext x
      rw [bind_assoc]
      rfl
    have k' : TK X.K X.mg fr W (Yl X.K X.mg) σ F m (((do let x ← ma; let y ← mb; pure [x, y]) >>= zipM) ah) (fun J H' => Q J H') := by
      rw [e]
      exact k
    refine TK.step (R := RepL X.K) s er k' fun F1 m1 ah1 d v H1 e1 s1 er1 r1 k1 => ?_
    unfold zipM at k1
    split at k1
    · obtain ⟨v, w, rfl, r, r2⟩ := RepL.two r1
      unfold Rep at r r2
      obtain ⟨a1, vs, h1, h2, h3⟩ := r
      obtain ⟨a2, us, h1', h2', h3'⟩ := r2
      exact ⟨a1, a2, vs, us, by rw [h1, h1'], .inr ⟨SqT.up s1.sub h2, SqT.up s1.sub h2', k1 F1 m1 _ H1 Ext.refl s1 (yl_zipT h2 h2' h3 h3')⟩⟩
    · obtain ⟨v, w, rfl, r, r2⟩ := RepL.two r1
      unfold Rep at r r2
      obtain ⟨a1, vs, h1, h2, h3⟩ := r
      obtain ⟨a2, us, h1', h2', h3'⟩ := r2
      exact ⟨a1, a2, vs, us, by rw [h1, h1'], .inl ⟨SqL.up s1.sub h2, SqL.up s1.sub h2', k1 F1 m1 _ H1 Ext.refl s1 (yl_zipL h2 h2' h3 h3')⟩⟩
    · exact (TK.stuck_of k1).elim
end
/-! ### list comprehensions -/
def compM : List D → (D → M (List D)) → M (List D)
  | [], _ => pure []
  | x :: r, f => do let ys ← f x; let zs ← compM r f; pure (ys ++ zs)
/-- a computation that may not raise -/
def nores {α : Type} : Res α → Res α
  | .ok a h => .ok a h
  | _ => .stuck
def noexM {α : Type} (x : M α) : M α := fun h => nores (x h)
def lcM (xs : List D) (f : D → M (List D)) : M D := if lenOk xs.length = true then (do let ys ← noexM (compM xs f); pure (.lst ys)) else stuck
def W0 : WX := fun _ _ _ _ => False
def wipeE (env : Env) : List Nat → Env
  | [] => env
  | v :: vs => (wipeE env vs).set v none
theorem EnvRep.wipe {K : Fg} {F : Hp} {m : List Addr} {env : Env} {σ : St} (h : EnvRep K F m env σ) : ∀ vs : List Nat, EnvRep K F m (wipeE env vs) (wipe σ vs)
  | [] => h
  | v :: vs => by
    have ih := EnvRep.wipe h vs
    unfold wipeE L2.wipe
    refine ⟨by rw [List.length_set, List.length_set]; exact ih.1, fun j d q => ?_⟩
    by_cases hj : v = j
    · subst hj
      by_cases hl : v < (wipeE env vs).length
      · rw [List.getElem?_set_self hl] at q
        cases q
      · rw [List.getElem?_eq_none (by simpa using hl)] at q
        cases q
    · rw [List.getElem?_set_ne hj] at q
      obtain ⟨u, h1, h2⟩ := ih.2 j d q
      exact ⟨u, by rw [List.getElem?_set_ne hj]; exact h1, h2⟩
section
variable {X : Cx} {W : WX} {env : Env} {pos : Pos}
/-- a part of what may not raise, behind a frame of its own -/
theorem TK.inner {K : Fg} {mg : Str → Option Value} {fr : Fm} {W : WX} {σ : St} {F H : Hp} {m : List Addr} {ah : AH} {α β γ δ : Type} {R : Hp → List Addr → α → β → Prop} {S : Hp → List Addr → γ → δ → Prop} {envB : Env} {σB : St} {ma : M α} {k : α → M γ} {Q : δ → Hp → Prop} {P : β → Hp → Prop}
    (s : Sim K mg fr F m ah H) (er : EnvRep K F m envB σB) (h : TK K mg fr W S σ F m (nores ((ma >>= k) ah)) Q)
    (hP : ∀ F1 m1 ah1 d v H1, Ext F m F1 m1 → Sim K mg ⟨H, F, m⟩ F1 m1 ah1 H1 → EnvRep K F1 m1 envB σB → R F1 m1 d v → TK K mg fr W S σ F1 m1 (nores (k d ah1)) Q → P v H1) : TC K mg W0 R envB ma σB H P := by
  refine ⟨⟨H, F, m⟩, F, m, ah, s.re, er, ?_⟩
  rw [bind_def] at h
  cases hr : ma ah with
  | ok d a =>
    rw [hr] at h
    exact fun F' m' v H' e s' r => hP F' m' a d v H' e s' (er.ext e) r (TK.ext e h)
  | exc x a =>
    rw [hr] at h
    exact h.elim
  | stuck =>
    rw [hr] at h
    exact h.elim
abbrev lcD (xs : List D) {π : Type} (unp : D → Option π) (mt : π → M Bool) (me : π → M D) : M D := lcM xs (fun x => do let p ← liftO (unp x); let t ← mt p; if t = true then (do let y ← me p; pure [y]) else pure [])
theorem lc_from {own : List (Str × Nat)} {π : Type} {sl : List Nat} {mi : M (List D)} {unp : D → Option π} {sets : π → Env → Env} {mt : π → M Bool} {me : π → M D} (hsl : ∀ i ∈ sl, i ∈ own.map (·.2)) :
    ∀ σ H Q, TC X.K X.mg W (Rep X.K) env (do let xs ← mi; lcD xs unp mt me) σ H Q → tLc (TIM X.K X.mg W env mi) (gD X.K X.mg sl unp sets) (fun σ H Q => ∃ p, TC X.K X.mg W0 RB (sets p (wipeE env (own.map (·.2)))) (mt p) σ H Q)
      (fun σ H Q => ∃ p, TC X.K X.mg W0 (Rep X.K) (sets p (wipeE env (own.map (·.2)))) (me p) σ H Q) (own.map (·.2)) σ H Q := by
  intro σ H Q ⟨fr, F, m, ah, s, er, q⟩
  refine ⟨fr, F, m, ah, s, er, ?_⟩
  rw [bind_def] at q
  cases hi' : mi ah with
  | stuck =>
    rw [hi'] at q
    exact q
  | exc x a =>
    rw [hi'] at q
    exact q
  | ok xs a =>
    rw [hi'] at q
    intro F1 m1 J H1 e1 s1 y L hL
    have q1 : TK X.K X.mg fr W (Rep X.K) σ F1 m1 (lcM xs (fun x => do let p ← liftO (unp x); let t ← mt p; if t = true then (do let y ← me p; pure [y]) else pure []) a) Q := TK.ext e1 q
    have er1 := er.ext e1
    clear q e1 er s
    by_cases hl : lenOk xs.length = true
    case neg =>
      unfold lcM at q1
      rw [if_neg hl] at q1
      exact q1.elim
    have hlen : xs.length ≤ sizeLine := of_decide_eq_true hl
    have fL : F1 L = none := s1.freeF hL
    have mL : L ∉ m1 := fun z => by
      obtain ⟨u, hu⟩ := s1.there L z
      rw [hL] at hu
      cases hu
    have hL0 := s1.fresh0 hL
    generalize hf : (fun x : D => do let p ← liftO (unp x); let t ← mt p; if t = true then (do let y ← me p; pure [y]) else pure [] : D → M (List D)) = f at q1
    have q2 : TK X.K X.mg fr W (Rep X.K) σ F1 m1 (nores ((compM xs f >>= fun ys => pure (D.lst ([] ++ ys))) a)) Q := by
      have z : TK X.K X.mg fr W (Rep X.K) σ F1 m1 ((noexM (compM xs f) >>= fun ys => pure (D.lst ys)) a) Q := by
        have z := q1
        unfold lcM at z
        rw [if_pos hl] at z
        exact z
      rw [bind_def] at z ⊢
      unfold noexM at z
      cases hcm : compM xs f a with
      | ok ys b =>
        rw [hcm] at z
        exact z
      | exc _ _ =>
        rw [hcm] at z
        exact z
      | stuck =>
        rw [hcm] at z
        exact z
    refine ⟨fun i n H => n = xs.length - i ∧ i ≤ xs.length ∧ ∃ F2 m2 ah2 acc vs, Ext F1 m1 F2 m2 ∧ Sim X.K X.mg fr F2 m2 ah2 H ∧ H L = some (.lst vs) ∧ F2 L = none ∧ L ∉ m2 ∧ RepL X.K F2 m2 acc vs ∧ acc.length ≤ i ∧
      TK X.K X.mg fr W (Rep X.K) σ F2 m2 (nores ((compM (xs.drop i) f >>= fun ys => pure (D.lst (acc ++ ys))) ah2)) Q,
      ⟨_, rfl, Nat.zero_le _, F1, m1, a, [], [], Ext.refl, s1.other fL mL hL0, upd_same, fL, mL, RepL.nil, Nat.zero_le _, by rw [List.drop_zero]; exact q2⟩, ?_⟩
    rintro i n H2 ⟨rfl, hi2, F2, m2, ah2, acc, vs, e2, s2, hL2, fL2, mL2, ra, la, k2⟩
    by_cases hlt : i < xs.length
    · refine .inr ⟨y.go i fr F2 m2 ah2 H2 e2 s2 hlt, fun H => ∃ F2 m2 ah2 acc vs, Ext F1 m1 F2 m2 ∧ Sim X.K X.mg fr F2 m2 ah2 H ∧ H L = some (.lst vs) ∧ F2 L = none ∧ L ∉ m2 ∧ RepL X.K F2 m2 acc vs ∧ acc.length ≤ i + 1 ∧
        TK X.K X.mg fr W (Rep X.K) σ F2 m2 (nores ((compM (xs.drop (i + 1)) f >>= fun ys => pure (D.lst (acc ++ ys))) ah2)) Q, fun H' z => ⟨xs.length - (i + 1), by omega, rfl, hlt, z⟩, fun v H3 yy => ?_⟩
      obtain ⟨F3, d, hd, e3, s3', r3⟩ := y.yld i _ F2 m2 ah2 H2 v H3 e2 s2.re hlt yy
      obtain ⟨hL3, fL3, mL3⟩ := s3'.kept hL2 fL2 mL2
      have s3 := s2.back s3'
      have er3 := ((er1.ext e2).ext e3)
      have hdrop : xs.drop i = d :: xs.drop (i + 1) := by
        rw [List.drop_eq_getElem_cons hlt]
        rw [List.getElem?_eq_getElem hlt] at hd
        cases hd
        rfl
      have k3 : TK X.K X.mg fr W (Rep X.K) σ F3 m2 (nores (((liftO (unp d) >>= fun p => mt p >>= fun t => (if t = true then (me p >>= fun y => pure [y]) else pure [])) >>= fun ys => compM (xs.drop (i + 1)) f >>= fun zs => pure (D.lst (acc ++ (ys ++ zs)))) ah2)) Q := by
        have z := TK.ext e3 k2
        rw [hdrop] at z
        have z2 : (compM (d :: xs.drop (i + 1)) f >>= fun ys => pure (D.lst (acc ++ ys))) = (f d >>= fun ys => compM (xs.drop (i + 1)) f >>= fun zs => pure (D.lst (acc ++ (ys ++ zs)))) := by
          show ((f d >>= fun ys => compM (xs.drop (i + 1)) f >>= fun zs => pure (ys ++ zs)) >>= fun ys => pure (D.lst (acc ++ ys))) = _
          rw [bind_assoc]
          congr 1
          funext ys
          rw [bind_assoc]
          rfl
        rw [z2, ← hf] at z
        rw [← hf]
        exact z
      cases hu : unp d with
      | none =>
        rw [hu] at k3
        exact k3.elim
      | some p =>
        rw [hu] at k3
        have k4 : TK X.K X.mg fr W (Rep X.K) σ F3 m2 (nores ((mt p >>= fun t => ((if t = true then (me p >>= fun y => pure [y]) else pure []) >>= fun ys => compM (xs.drop (i + 1)) f >>= fun zs => pure (D.lst (acc ++ (ys ++ zs))))) ah2)) Q := by
          rw [← bind_assoc]
          exact k3
        refine ⟨fr, F3, m2, ah2, wipeE env (own.map (·.2)), d, p, s3, er3.wipe _, r3, hu, fun σ4 er4 hw => ⟨?_, p, ?_⟩⟩
        · have z := hw (own.map (·.2)) hsl
          rw [z]
          clear z hw er4 σ4
          have ww : ∀ (vs ws : List Nat) (σ : St), (∀ i ∈ vs, i ∈ ws) → wipe (wipe σ vs) ws = wipe σ ws := by
            intro vs
            induction vs with
            | nil => intro _ _ _; rfl
            | cons v vs ih =>
              intro ws σ h
              show wipe ((wipe σ vs).set v none) ws = _
              rw [wipe_set (h v List.mem_cons_self), ih ws σ fun i hi => h i (List.mem_cons_of_mem _ hi)]
          exact ww _ _ _ fun i hi => hi
        · refine TK.inner s3 er4 k4 fun F5 m5 ah5 t t' H5 e5 s5' er5 r5 k5 => ?_
          have r5 : t = t' := r5
          subst r5
          obtain ⟨hL5, fL5, mL5⟩ := s5'.kept hL3 fL3 mL3
          have s5 := s3.back s5'
          cases t with
          | false =>
            refine iteF ⟨F5, m5, ah5, acc, vs, (e2.trans e3).trans e5, s5, hL5, fL5, mL5, RepL.ext (e3.trans e5) _ _ ra, by omega, ?_⟩
            exact k5
          | true =>
            refine iteT ⟨p, ?_⟩
            have k6 : TK X.K X.mg fr W (Rep X.K) σ F5 m5 (nores ((me p >>= fun y => compM (xs.drop (i + 1)) f >>= fun zs => pure (D.lst (acc ++ ([y] ++ zs)))) ah5)) Q := by
              have z : ((me p >>= fun y => pure [y]) >>= fun ys => compM (xs.drop (i + 1)) f >>= fun zs => pure (D.lst (acc ++ (ys ++ zs)))) = (me p >>= fun y => compM (xs.drop (i + 1)) f >>= fun zs => pure (D.lst (acc ++ ([y] ++ zs)))) := by
                rw [bind_assoc]
                rfl
              rw [← z]
              exact k5
            refine TK.inner s5 er5 k6 fun F7 m7 ah7 y7 v7 H7 e7 s7' er7 r7 k7 => ?_
            obtain ⟨hL7, fL7, mL7⟩ := s7'.kept hL5 fL5 mL5
            have s7 := s5.back s7'
            refine ⟨vs, hL7, ?_, F7, m7, ah7, acc ++ [y7], vs ++ [v7], ((e2.trans e3).trans e5).trans e7, s7.other fL7 mL7 hL0, upd_same, fL7, mL7, RepL.append (RepL.ext ((e3.trans e5).trans e7) _ _ ra) (RepL.cons r7 RepL.nil), by rw [List.length_append, List.length_singleton]; omega, ?_⟩
            · rw [RepL.length ra]
              omega
            · have z : (fun zs => (pure (D.lst (acc ++ ([y7] ++ zs))) : M D)) = fun zs => pure (D.lst ((acc ++ [y7]) ++ zs)) := by
                funext zs
                rw [List.append_assoc]
              rw [z] at k7
              exact k7
    · have ei : i = xs.length := by omega
      subst ei
      refine .inl ⟨y.stop fr F2 m2 ah2 H2 e2 s2, ?_⟩
      rw [List.drop_length] at k2
      have k3 : TK X.K X.mg fr W (Rep X.K) σ F2 m2 (.ok (.lst acc) ah2) Q := by
        have z : (compM [] f >>= fun ys => (pure (D.lst (acc ++ ys)) : M D)) = pure (D.lst acc) := by
          show (pure (D.lst (acc ++ [])) : M D) = _
          rw [List.append_nil]
        rw [z] at k2
        exact k2
      obtain ⟨s3, e3⟩ := s2.seal fL2 mL2 hL0 hL2
      refine k3 _ _ _ _ e3 s3 ?_
      unfold Rep
      exact ⟨L, vs, rfl, .inl (.inl upd_same), RepL.ext e3 _ _ ra⟩
theorem de_lc {elt tg iter : Expr} {ifs : List Expr} {scope : Scope} {own : List (Str × Nat)} {π : Type} {sl : List Nat} {mi : M (List D)} {unp : D → Option π} {sets : π → Env → Env} {mt : π → M Bool} {me : π → M D}
    (hc : X.calm = true) (hN : X.N.Nodup) (hi : DI X W env tg iter mi) (ok : BlkOk X.N X.env.scope scope own) (hsl : ∀ i ∈ sl, i ∈ own.map (·.2))
    (hg : ∀ (s : Shared) (H : Hp) (C : Addr) (cl : List (Str × Addr)) (fp : List Addr), DG (X.blk s H scope (compEnvC scope cl C X.env) fp) tg sl unp sets)
    (ht : ∀ (s : Shared) (H : Hp) (C : Addr) (cl : List (Str × Addr)) (fp : List Addr) (p : π), PTs (X.blk s H scope (compEnvC scope cl C X.env) fp) ifs (TC X.K X.mg W0 RB (sets p (wipeE env (own.map (·.2)))) (mt p)))
    (he : ∀ (s : Shared) (H : Hp) (C : Addr) (cl : List (Str × Addr)) (fp : List Addr) (p : π), DE (X.blk s H scope (compEnvC scope cl C X.env) fp) W0 (sets p (wipeE env (own.map (·.2)))) elt (me p))
    (hs : ∀ x, foldedSetIterable iter X.env x = pure x := by intro _; rfl) :
    DE X W env (.ListComp elt [⟨tg, iter, ifs, 0⟩] scope pos) (do let xs ← mi; lcM xs (fun x => do let p ← liftO (unp x); let t ← mt p; if t = true then (do let y ← me p; pure [y]) else pure [])) :=
  PE.from (pe_lc (g := gD X.K X.mg sl unp sets) hc hN hi ok hg (fun s H C cl fp => (⟨fun pins s' σ H' Q I ⟨p, q⟩ => (ht s H C cl fp p).run pins s' σ H' Q I q⟩ : PTs _ ifs (fun σ H Q => ∃ p, TC X.K X.mg W0 RB (sets p (wipeE env (own.map (·.2)))) (mt p) σ H Q)))
    (fun s H C cl fp => (⟨fun pins s' σ H' Q I ⟨p, q⟩ => (he s H C cl fp p).run pins s' σ H' Q I q⟩ : PE _ elt (fun σ H Q => ∃ p, TC X.K X.mg W0 (Rep X.K) (sets p (wipeE env (own.map (·.2)))) (me p) σ H Q))) hs) (lc_from hsl)
theorem ds_setLc (i : Nat) {y : Str} {py spos : Pos} {ex : Env} {τ β : Type} {mk : τ → Env} {lp : β → Env} {rest : List Stmt} {k : D → M (Out τ β)} {elt tg iter : Expr} {ifs : List Expr} {scope : Scope} {own : List (Str × Nat)} {π : Type} {sl : List Nat} {mi : M (List D)} {unp : D → Option π} {sets : π → Env → Env} {mt : π → M Bool} {me : π → M D}
    (hc : X.calm = true) (hN : X.N.Nodup) (hi : DI X W env tg iter mi) (ok : BlkOk X.N X.env.scope scope own) (hsl : ∀ i ∈ sl, i ∈ own.map (·.2))
    (hg : ∀ (s : Shared) (H : Hp) (C : Addr) (cl : List (Str × Addr)) (fp : List Addr), DG (X.blk s H scope (compEnvC scope cl C X.env) fp) tg sl unp sets)
    (ht : ∀ (s : Shared) (H : Hp) (C : Addr) (cl : List (Str × Addr)) (fp : List Addr) (p : π), PTs (X.blk s H scope (compEnvC scope cl C X.env) fp) ifs (TC X.K X.mg W0 RB (sets p (wipeE env (own.map (·.2)))) (mt p)))
    (he : ∀ (s : Shared) (H : Hp) (C : Addr) (cl : List (Str × Addr)) (fp : List Addr) (p : π), DE (X.blk s H scope (compEnvC scope cl C X.env) fp) W0 (sets p (wipeE env (own.map (·.2)))) elt (me p))
    (env' : D → Env) (hx : EnvLe ex env) (hr : ∀ d, DS X W ex (env' d) mk lp rest (k d)) (hs : ∀ x, foldedSetIterable iter X.env x = pure x := by intro _; rfl) (hv : ∀ d, env.set i (some d) = env' d := by intro _; rfl) (hy : X.N[i]? = some y := by rfl) (hyl : X.env.scope.names.lookup y = some .local := by rfl)
    (hsw : swapsWith (.ListComp elt [⟨tg, iter, ifs, 0⟩] scope pos) (some (.Name y py)) spos.line X.env = pure true := by exact sw_true rfl rfl rfl (by decide +kernel)) :
    DS X W ex env mk lp (.Assign [.Name y py] (.ListComp elt [⟨tg, iter, ifs, 0⟩] scope pos) spos :: rest) ((do let xs ← mi; lcM xs (fun x => do let p ← liftO (unp x); let t ← mt p; if t = true then (do let y ← me p; pure [y]) else pure [])) >>= k) :=
  PSs.from (pss_cons (ps_setLc (g := gD X.K X.mg sl unp sets) hc hN hy hyl hsw hi ok hg (fun s H C cl fp => (⟨fun pins s' σ H' Q I ⟨p, q⟩ => (ht s H C cl fp p).run pins s' σ H' Q I q⟩ : PTs _ ifs (fun σ H Q => ∃ p, TC X.K X.mg W0 RB (sets p (wipeE env (own.map (·.2)))) (mt p) σ H Q)))
    (fun s H C cl fp => (⟨fun pins s' σ H' Q I ⟨p, q⟩ => (he s H C cl fp p).run pins s' σ H' Q I q⟩ : PE _ elt (fun σ H Q => ∃ p, TC X.K X.mg W0 (Rep X.K) (sets p (wipeE env (own.map (·.2)))) (me p) σ H Q))) hs) (PSs.ex hr)) fun Dn σ H ⟨fr, F, m, ah, s, er, q⟩ => lc_from (sets := sets) hsl σ H (fun x H1 => gName i x σ H1 fun σ' H' => ∃ a, TB X.K X.mg W ex (env' a) mk lp (k a) Dn σ' H') (TO.step s er hx q fun F1 m1 ah1 d v H1 e1 s1 er1 r1 k1 => ⟨d, fr, F1, m1, ah1, s1, by rw [← hv d]; exact er1.set r1, k1⟩)
theorem dts_nil {X : Cx} {env : Env} : PTs X [] (TC X.K X.mg W0 RB env (pure true)) := ⟨fun pins s σ H Q I ⟨fr, F, m, ah, S, er, k⟩ => pts_nil.run pins s σ H Q I (k F m _ H Ext.refl S rfl)⟩
theorem dts_one {X : Cx} {env : Env} {c : Expr} {mc : M Bool} (h : DT X W0 env c mc) : PTs X [c] (TC X.K X.mg W0 RB env mc) := pts_one h
end
end Lw
/-! SimF: calls, defs, lists that are written. (printed by wip/genF.py) -/
namespace Lw
open PySem L2
/-! ### what a def promises -/
def spD (K : Fg) (mg : Str → Option Value) (n : Nat) (g : List D → M D) : Sp := fun vs H Q E => vs.length = n ∧ ∃ fr F m ah ds, Sim K mg fr F m ah H ∧ RepL K F m ds vs ∧ TK K mg fr (fun c d _ H => E c d H) (Rep K) [] F m (g ds ah) Q
theorem TK.wish {α β : Type} {K : Fg} {mg : Str → Option Value} {fr : Fm} {W : WX} {R : Hp → List Addr → α → β → Prop} {σ : St} {F : Hp} {m : List Addr} {r : Res α} {Q : β → Hp → Prop} (h : TK K mg fr W R σ F m r Q) :
    TK K mg fr (fun c d _ H => W c d σ H) R [] F m r Q := by
  cases r with
  | ok _ _ => exact h
  | exc _ _ => exact h
  | stuck => exact h
mutual
def noRef : D → Bool
  | .ref _ => false
  | .tup xs => noRefs xs
  | .lst xs => noRefs xs
  | _ => true
def noRefs : List D → Bool
  | [] => true
  | d :: ds => noRef d && noRefs ds
end
mutual
theorem Rep.noref {K : Fg} {F : Hp} {m m' : List Addr} : ∀ (d : D) (v : V), noRef d = true → Rep K F m d v → Rep K F m' d v
  | .non, v, _, r => by
    unfold Rep at r ⊢
    exact r
  | .bl _, v, _, r => by
    unfold Rep at r ⊢
    exact r
  | .int _, v, _, r => by
    unfold Rep at r ⊢
    exact r
  | .str _, v, _, r => by
    unfold Rep at r ⊢
    exact r
  | .ref _, v, h, r => by
    unfold noRef at h
    cases h
  | .exn _ _, v, _, r => by
    unfold Rep at r ⊢
    exact r
  | .emp, v, _, r => by
    unfold Rep at r ⊢
    exact r
  | .tup xs, v, h, r => by
    unfold noRef at h
    unfold Rep at r ⊢
    obtain ⟨a, vs, h1, h2, h3⟩ := r
    exact ⟨a, vs, h1, h2, RepL.noref xs vs h h3⟩
  | .lst xs, v, h, r => by
    unfold noRef at h
    unfold Rep at r ⊢
    obtain ⟨a, vs, h1, h2, h3⟩ := r
    exact ⟨a, vs, h1, h2, RepL.noref xs vs h h3⟩
theorem RepL.noref {K : Fg} {F : Hp} {m m' : List Addr} : ∀ (ds : List D) (vs : List V), noRefs ds = true → RepL K F m ds vs → RepL K F m' ds vs
  | [], vs, _, r => by
    unfold RepL at r ⊢
    exact r
  | d :: ds, vs, h, r => by
    unfold noRefs at h
    rw [Bool.and_eq_true] at h
    unfold RepL at r ⊢
    obtain ⟨v, u, h1, h2, h3⟩ := r
    exact ⟨v, u, h1, Rep.noref d v h.1 h2, RepL.noref ds u h.2 h3⟩
end
/-- a call of a def that looks at no list or object of the plain heap: it runs in a heap of its own -/
def pcallM (g : List D → M D) (ds : List D) : M D := fun h => if noRefs ds = true then (match g ds [] with
  | .ok d _ => if noRef d = true then .ok d h else .stuck
  | .exc x _ => .exc x h
  | .stuck => .stuck) else .stuck
section
variable {K : Fg} {mg : Str → Option Value} {fr : Fm} {F F' H H' : Hp} {m m' : List Addr} {ah ah' : AH}
theorem Sim.bare (S : Sim K mg fr F m ah H) : Sim K mg ⟨H, F, []⟩ F [] [] H := ⟨S.sub, rfl, List.nodup_nil, (fun i c h => by simp at h), (fun _ _ h _ => h), (fun a h => nomatch h), (fun i a h => by simp at h), (fun a h => nomatch h), fun _ _ h => .inl h⟩
theorem Sim.pured (S : Sim K mg fr F m ah H) (e : Ext F [] F' m') (T : Sim K mg ⟨H, F, []⟩ F' m' ah' H') : Sim K mg fr F' m ah H' ∧ Ext F m F' m := by
  have e' : Ext F m F' m := ⟨e.sub, fun _ _ h => h⟩
  have st : ∀ a o, H a = some o → H' a = some o := fun a o h => T.frame a o h (by intro z; cases z)
  refine ⟨⟨T.sub, S.len, S.nod, fun i c h => ?_, fun a o h n => st a o (S.frame a o h n), S.young, S.pre, fun a h => ?_, fun a o h => ?_⟩, e'⟩
  · obtain ⟨a, q, ok⟩ := S.cells i c h
    obtain ⟨u, hu⟩ := S.there a (List.mem_of_getElem? q)
    refine ⟨a, q, ok.ext e' (fun z => ?_) fun _ => by rw [st a u hu, hu]⟩
    cases p : F' a with
    | none => rfl
    | some o =>
      rcases T.old a o p with y | y | y
      · have y : F a = some o := y
        rw [ok.free z] at y
        cases y
      · have y : H a = none := y
        rw [hu] at y
        cases y
      · cases y
  · obtain ⟨u, hu⟩ := S.there a h
    exact ⟨u, st a u hu⟩
  · rcases T.old a o h with y | y | y
    · exact S.old a o y
    · exact .inr (.inl (S.fresh0 y))
    · cases y
end
section
variable {X : Cx} {W : WX} {env : Env} {pos : Pos} {k : Nat} {f : Addr} {fd : FuncData} {ps : List Str} {x : Str} {p : Pos} {e : Expr} {es : List Expr} {g : List D → M D} {ms : M (List D)}
/-- a call -/
theorem de_call (n : Nat) (G : FnOk X.prog X.w X.K X.mg X.base (L2N.CX X.prog X.w) k f fd ps (spD X.K X.mg n g)) (hr : Room k X.A) (hm : X.mg x = some (.ref f)) (hk : PySem.W.keepIn X.K (.ref f) = true) (hb : Binds X.K fd ps []) (tk : L2N.Takes X W) (ha : DA X W env (e :: es) ms)
    (hn : ∀ ah ds ah', ms ah = .ok ds ah' → ds.length = n) (hg : Gl X x := by rfl) (hdb : (x == ("__debug__" : Str)) = false := by decide) (he : starEach (e :: es) X.env = (false, eval e X.env) :: starEach es X.env := by rfl) (hpl : (backTo pos (starEach es X.env)).any (·.1) = false := by rfl) :
    DE X W env (.Call (.Name x p) (e :: es) [] pos) (do let xs ← ms; g xs) :=
  PE.from (pe_callS G hr hg hm hk hb (fun σ => L2N.passAt tk σ) ha hdb he hpl) fun σ H Q ⟨fr, F, m, ah, s, er, q⟩ => by
    refine ⟨fr, F, m, ah, s, er, ?_⟩
    rw [bind_def] at q
    cases hr : ms ah with
    | ok d a =>
      rw [hr] at q
      exact fun F1 m1 v H1 e1 s1 r1 => ⟨by rw [RepL.length r1]; exact hn _ _ _ hr, fr, F1, m1, a, d, s1, r1, TK.wish (TK.ext e1 q)⟩
    | exc x a =>
      rw [hr] at q
      exact q
    | stuck =>
      rw [hr] at q
      exact q
theorem de_pcall (n : Nat) (G : FnOk X.prog X.w X.K X.mg X.base (L2N.CX X.prog X.w) k f fd ps (spD X.K X.mg n g)) (hr : Room k X.A) (hm : X.mg x = some (.ref f)) (hk : PySem.W.keepIn X.K (.ref f) = true) (hb : Binds X.K fd ps []) (tk : L2N.Takes X W) (ha : DA X W env (e :: es) ms)
    (hn : ∀ ah ds ah', ms ah = .ok ds ah' → ds.length = n) (hg : Gl X x := by rfl) (hdb : (x == ("__debug__" : Str)) = false := by decide) (he : starEach (e :: es) X.env = (false, eval e X.env) :: starEach es X.env := by rfl) (hpl : (backTo pos (starEach es X.env)).any (·.1) = false := by rfl) :
    DE X W env (.Call (.Name x p) (e :: es) [] pos) (do let xs ← ms; pcallM g xs) :=
  PE.from (pe_callS G hr hg hm hk hb (fun σ => L2N.passAt tk σ) ha hdb he hpl) fun σ H Q ⟨fr, F, m, ah, s, er, q⟩ => by
    refine ⟨fr, F, m, ah, s, er, ?_⟩
    rw [bind_def] at q
    cases hr : ms ah with
    | ok ds a =>
      rw [hr] at q
      have q : TK X.K X.mg fr W (Rep X.K) σ F m (pcallM g ds a) Q := q
      intro F1 m1 v H1 e1 s1 r1
      unfold pcallM at q
      by_cases h : noRefs ds = true
      case neg =>
        rw [if_neg h] at q
        exact q.elim
      rw [if_pos h] at q
      refine ⟨by rw [RepL.length r1]; exact hn _ _ _ hr, ⟨H1, F1, []⟩, F1, [], [], ds, s1.bare, RepL.noref ds v h r1, ?_⟩
      cases hg' : g ds [] with
      | ok d b =>
        simp only [hg'] at q
        by_cases hd : noRef d = true
        · rw [if_pos hd] at q
          intro F2 m2 u H2 e2 s2 r2
          obtain ⟨s3, e3⟩ := s1.pured e2 s2
          exact q F2 m1 u H2 ⟨fun a o h => e3.sub a o (e1.sub a o h), fun i a h => e1.pre i a h⟩ s3 (Rep.noref d u hd r2)
        · rw [if_neg hd] at q
          exact q.elim
      | exc y b =>
        simp only [hg'] at q
        intro F2 m2 C H2 e2 s2 hC
        obtain ⟨s3, e3⟩ := s1.pured e2 s2
        exact q F2 m1 C H2 ⟨fun a o h => e3.sub a o (e1.sub a o h), fun i a h => e1.pre i a h⟩ s3 hC
      | stuck =>
        simp only [hg'] at q
        exact q.elim
    | exc x a =>
      rw [hr] at q
      exact q
    | stuck =>
      rw [hr] at q
      exact q
theorem hu64 {A : Around} {k : Nat} (hr : Room k A) : A.units + 64 < cLine := by
  have := hr.un
  omega
end
theorem EnvLe.noth {n : Nat} {env : Env} (h : env.length = n) : EnvLe (List.replicate n none) env := ⟨by rw [List.length_replicate, h], fun i d q => by
  rw [List.getElem?_replicate] at q
  split at q <;> cases q⟩
theorem okXN {P : Program} {w : World} {K : Fg} {mg : Str → Option Value} {base : Heap} {x qual : Str} {st : Stmt} {f : Addr} {fd : FuncData} {N ps : List Str} {k : Nat} {sp : Sp} (F : Fun K x qual st f fd) (S : FnScope N ps (defScope st)) (len : ∀ vs H Q E, sp vs H Q E → vs.length = ps.length)
    (hbody : ∀ (cdv : Value) (A : Around) (outer : List PySem.Env) (s : Shared) (H : Hp) (vs : List V) (Q : VK) (E : XK), Room k (A.deeper (PyProof.Rows.envOfC qual (defScope st) s.heap.objs.size f cdv)) → sp vs H Q E →
      ∃ t, PSs (cxOf (L2N.CX P w) P w K mg base N qual (defScope st) f cdv A outer s H E) (defBody st) t ∧ t { nx := fun _ H' => Q .non H', rt := Q } (L2.start N vs) H) : FnOk P w K mg base (L2N.CX P w) (k + 1) f fd ps sp := by
  obtain ⟨oc, od, kV, doc, pm, an, cdv, ct, osl, rfl, lk, hcd⟩ := F.ex
  exact fn_of lk hcd S len fun A outer s H vs Q E hr hsp => hbody cdv A outer s H vs Q E hr hsp
/-- a def -/
theorem fn_sim {P : Program} {w : World} {K : Fg} {mg : Str → Option Value} {base : Heap} {x qual : Str} {st : Stmt} {f : Addr} {fd : FuncData} {N ps : List Str} {k n : Nat} {τ : Type} {mk : τ → Env} {lp : Empty → Env} {mc : List D → M (Out τ Empty)} {g : List D → M D}
    (F : Fun K x qual st f fd) (S : FnScope N ps (defScope st)) (hn : ps.length = n) (hg : ∀ ds, ds.length = n → g ds = defM (mc ds))
    (h : ∀ (cdv : Value) (A : Around) (outer : List PySem.Env) (s : Shared) (H : Hp) (E : XK), Room k (A.deeper (PyProof.Rows.envOfC qual (defScope st) s.heap.objs.size f cdv)) → ∀ ds : List D, ds.length = n →
      DS (cxOf (L2N.CX P w) P w K mg base N qual (defScope st) f cdv A outer s H E) (fun c d _ H => E c d H) (List.replicate N.length none) (ds.map some ++ List.replicate (N.length - n) none) mk lp (defBody st) (mc ds)) :
    FnOk P w K mg base (L2N.CX P w) (k + 1) f fd ps (spD K mg n g) := by
  refine okXN F S (fun vs H Q E h => h.1.trans hn.symm) fun cdv A outer s H vs Q E hr hsp => ?_
  obtain ⟨hl, fr, F', m, ah, ds, S', r, q⟩ := hsp
  have hd : ds.length = n := by rw [← RepL.length r]; exact hl
  refine ⟨_, h cdv A outer s H E hr ds hd, fr, F', m, ah, S', ?_, ?_⟩
  · have hp : ps.length ≤ N.length := by
      have z := congrArg List.length S.pre
      rw [List.length_take] at z
      omega
    refine ⟨by unfold L2.start; simp [hl, hd], fun i d hi => ?_⟩
    by_cases hlt : i < ds.length
    · rw [List.getElem?_append_left (by simpa using hlt), List.getElem?_map] at hi
      cases hdi : ds[i]? with
      | none =>
        rw [hdi] at hi
        cases hi
      | some d' =>
        rw [hdi] at hi
        cases hi
        obtain ⟨v, hv, rv⟩ := RepL.get r hdi
        refine ⟨v, ?_, rv⟩
        unfold L2.start
        rw [List.getElem?_append_left (by simp; have := RepL.length r; omega), List.getElem?_map, hv]
        rfl
    · rw [List.getElem?_append_right (by simp; omega), List.getElem?_replicate] at hi
      split at hi <;> cases hi
  · rw [hg ds hd] at q
    have q : TK K mg fr (fun c d _ H => E c d H) (Rep K) [] F' m (dres (mc ds ah)) Q := q
    cases hm : mc ds ah with
    | ok o a =>
      rw [hm] at q
      cases o with
      | nx t => exact fun F2 m2 σ2 H2 e2 s2 r2 => q F2 m2 .non H2 e2 s2 Rep.non
      | ret d => exact fun F2 m2 v H2 e2 s2 r2 => q F2 m2 v H2 e2 s2 r2
      | bk b => exact b.elim
      | ct b => exact b.elim
    | exc y a =>
      rw [hm] at q
      exact fun F2 m2 C σ2 H2 e2 s2 r2 hC => q F2 m2 C H2 e2 s2 hC
    | stuck =>
      rw [hm] at q
      exact q
def app1 (f : D → M D) : List D → M D
  | [d1] => f d1
  | _ => stuck
def app2 (f : D → D → M D) : List D → M D
  | [d1, d2] => f d1 d2
  | _ => stuck
def app3 (f : D → D → D → M D) : List D → M D
  | [d1, d2, d3] => f d1 d2 d3
  | _ => stuck
def app4 (f : D → D → D → D → M D) : List D → M D
  | [d1, d2, d3, d4] => f d1 d2 d3 d4
  | _ => stuck
def app5 (f : D → D → D → D → D → M D) : List D → M D
  | [d1, d2, d3, d4, d5] => f d1 d2 d3 d4 d5
  | _ => stuck
section
variable {X : Cx} {W : WX} {env : Env} {pos : Pos} {k : Nat} {f : Addr} {fd : FuncData} {ps : List Str} {x : Str} {p : Pos}
theorem da1 {ex1 : Expr} {mm1 : M D} (hh1 : DE X W env ex1 mm1) (ss1 : starEach [ex1] X.env = (false, eval ex1 X.env) :: starEach [] X.env := by rfl) :
    DA X W env [ex1] (do let x1 ← mm1; pure [x1]) := by
  refine PA.from (pa_cons hh1 pa_nil ss1) fun σ H Q ⟨fr, F, m, ah, s, er, q⟩ => ?_
  refine TK.step s er q fun F1 m1' ah1 d1 v1 H1 x1 y1 z1 r1 q1 => ?_
  exact q1 F1 m1' _ H1 Ext.refl y1 (RepL.cons r1 RepL.nil)
theorem len1 {mm1 : M D} (ah : AH) (ds : List D) (ah' : AH) (h : (do let x1 ← mm1; pure [x1] : M (List D)) ah = .ok ds ah') : ds.length = 1 := by
  rw [bind_def] at h
  cases h1 : mm1 ah with
  | exc _ _ => rw [h1] at h; cases h
  | stuck => rw [h1] at h; cases h
  | ok d1 a1 =>
  rw [h1] at h; dsimp only at h
  cases h
  rfl
theorem assoc1 {mm1 : M D} {g : List D → M D} : ((do let x1 ← mm1; pure [x1] : M (List D)) >>= g) = (do let x1 ← mm1; g [x1]) := by
  simp only [bind_assoc, pure_bind]
theorem de_call1 {ex1 : Expr} {mm1 : M D} {g : D → M D} (G : FnOk X.prog X.w X.K X.mg X.base (L2N.CX X.prog X.w) k f fd ps (spD X.K X.mg 1 (app1 g))) (hr : Room k X.A) (hm : X.mg x = some (.ref f)) (hk : PySem.W.keepIn X.K (.ref f) = true) (hb : Binds X.K fd ps []) (tk : L2N.Takes X W) (hh1 : DE X W env ex1 mm1)
    (hg : Gl X x := by rfl) (hdb : (x == ("__debug__" : Str)) = false := by decide) (ss1 : starEach [ex1] X.env = (false, eval ex1 X.env) :: starEach [] X.env := by rfl) (hpl : (backTo pos (starEach [] X.env)).any (·.1) = false := by rfl) :
    DE X W env (.Call (.Name x p) [ex1] [] pos) (do let x1 ← mm1; g x1) := by
  have h := de_call (pos := pos) (p := p) 1 G hr hm hk hb tk (da1 hh1 ss1) len1 hg hdb ss1 hpl
  rw [assoc1] at h
  exact h
theorem de_pcall1 {ex1 : Expr} {mm1 : M D} {g : D → M D} (G : FnOk X.prog X.w X.K X.mg X.base (L2N.CX X.prog X.w) k f fd ps (spD X.K X.mg 1 (app1 g))) (hr : Room k X.A) (hm : X.mg x = some (.ref f)) (hk : PySem.W.keepIn X.K (.ref f) = true) (hb : Binds X.K fd ps []) (tk : L2N.Takes X W) (hh1 : DE X W env ex1 mm1)
    (hg : Gl X x := by rfl) (hdb : (x == ("__debug__" : Str)) = false := by decide) (ss1 : starEach [ex1] X.env = (false, eval ex1 X.env) :: starEach [] X.env := by rfl) (hpl : (backTo pos (starEach [] X.env)).any (·.1) = false := by rfl) :
    DE X W env (.Call (.Name x p) [ex1] [] pos) (do let x1 ← mm1; pcallM (app1 g) [x1]) := by
  have h := de_pcall (pos := pos) (p := p) 1 G hr hm hk hb tk (da1 hh1 ss1) len1 hg hdb ss1 hpl
  rw [assoc1] at h
  exact h
theorem da2 {ex1 ex2 : Expr} {mm1 mm2 : M D} (hh1 : DE X W env ex1 mm1) (hh2 : DE X W env ex2 mm2) (ss1 : starEach [ex1, ex2] X.env = (false, eval ex1 X.env) :: starEach [ex2] X.env := by rfl) (ss2 : starEach [ex2] X.env = (false, eval ex2 X.env) :: starEach [] X.env := by rfl) :
    DA X W env [ex1, ex2] (do let x1 ← mm1; let x2 ← mm2; pure [x1, x2]) := by
  refine PA.from (pa_cons hh1 (pa_cons hh2 pa_nil ss2) ss1) fun σ H Q ⟨fr, F, m, ah, s, er, q⟩ => ?_
  refine TK.step s er q fun F1 m1' ah1 d1 v1 H1 x1 y1 z1 r1 q1 => ?_
  refine TK.step y1 z1 q1 fun F2 m2' ah2 d2 v2 H2 x2 y2 z2 r2 q2 => ?_
  exact q2 F2 m2' _ H2 Ext.refl y2 (RepL.cons (Rep.ext x2 _ _ r1) (RepL.cons r2 RepL.nil))
theorem len2 {mm1 mm2 : M D} (ah : AH) (ds : List D) (ah' : AH) (h : (do let x1 ← mm1; let x2 ← mm2; pure [x1, x2] : M (List D)) ah = .ok ds ah') : ds.length = 2 := by
  rw [bind_def] at h
  cases h1 : mm1 ah with
  | exc _ _ => rw [h1] at h; cases h
  | stuck => rw [h1] at h; cases h
  | ok d1 a1 =>
  rw [h1] at h; dsimp only at h
  rw [bind_def] at h
  cases h2 : mm2 a1 with
  | exc _ _ => rw [h2] at h; cases h
  | stuck => rw [h2] at h; cases h
  | ok d2 a2 =>
  rw [h2] at h; dsimp only at h
  cases h
  rfl
theorem assoc2 {mm1 mm2 : M D} {g : List D → M D} : ((do let x1 ← mm1; let x2 ← mm2; pure [x1, x2] : M (List D)) >>= g) = (do let x1 ← mm1; let x2 ← mm2; g [x1, x2]) := by
  simp only [bind_assoc, pure_bind]
theorem de_call2 {ex1 ex2 : Expr} {mm1 mm2 : M D} {g : D → D → M D} (G : FnOk X.prog X.w X.K X.mg X.base (L2N.CX X.prog X.w) k f fd ps (spD X.K X.mg 2 (app2 g))) (hr : Room k X.A) (hm : X.mg x = some (.ref f)) (hk : PySem.W.keepIn X.K (.ref f) = true) (hb : Binds X.K fd ps []) (tk : L2N.Takes X W) (hh1 : DE X W env ex1 mm1) (hh2 : DE X W env ex2 mm2)
    (hg : Gl X x := by rfl) (hdb : (x == ("__debug__" : Str)) = false := by decide) (ss1 : starEach [ex1, ex2] X.env = (false, eval ex1 X.env) :: starEach [ex2] X.env := by rfl) (ss2 : starEach [ex2] X.env = (false, eval ex2 X.env) :: starEach [] X.env := by rfl) (hpl : (backTo pos (starEach [ex2] X.env)).any (·.1) = false := by rfl) :
    DE X W env (.Call (.Name x p) [ex1, ex2] [] pos) (do let x1 ← mm1; let x2 ← mm2; g x1 x2) := by
  have h := de_call (pos := pos) (p := p) 2 G hr hm hk hb tk (da2 hh1 hh2 ss1 ss2) len2 hg hdb ss1 hpl
  rw [assoc2] at h
  exact h
theorem de_pcall2 {ex1 ex2 : Expr} {mm1 mm2 : M D} {g : D → D → M D} (G : FnOk X.prog X.w X.K X.mg X.base (L2N.CX X.prog X.w) k f fd ps (spD X.K X.mg 2 (app2 g))) (hr : Room k X.A) (hm : X.mg x = some (.ref f)) (hk : PySem.W.keepIn X.K (.ref f) = true) (hb : Binds X.K fd ps []) (tk : L2N.Takes X W) (hh1 : DE X W env ex1 mm1) (hh2 : DE X W env ex2 mm2)
    (hg : Gl X x := by rfl) (hdb : (x == ("__debug__" : Str)) = false := by decide) (ss1 : starEach [ex1, ex2] X.env = (false, eval ex1 X.env) :: starEach [ex2] X.env := by rfl) (ss2 : starEach [ex2] X.env = (false, eval ex2 X.env) :: starEach [] X.env := by rfl) (hpl : (backTo pos (starEach [ex2] X.env)).any (·.1) = false := by rfl) :
    DE X W env (.Call (.Name x p) [ex1, ex2] [] pos) (do let x1 ← mm1; let x2 ← mm2; pcallM (app2 g) [x1, x2]) := by
  have h := de_pcall (pos := pos) (p := p) 2 G hr hm hk hb tk (da2 hh1 hh2 ss1 ss2) len2 hg hdb ss1 hpl
  rw [assoc2] at h
  exact h
theorem da3 {ex1 ex2 ex3 : Expr} {mm1 mm2 mm3 : M D} (hh1 : DE X W env ex1 mm1) (hh2 : DE X W env ex2 mm2) (hh3 : DE X W env ex3 mm3) (ss1 : starEach [ex1, ex2, ex3] X.env = (false, eval ex1 X.env) :: starEach [ex2, ex3] X.env := by rfl) (ss2 : starEach [ex2, ex3] X.env = (false, eval ex2 X.env) :: starEach [ex3] X.env := by rfl) (ss3 : starEach [ex3] X.env = (false, eval ex3 X.env) :: starEach [] X.env := by rfl) :
    DA X W env [ex1, ex2, ex3] (do let x1 ← mm1; let x2 ← mm2; let x3 ← mm3; pure [x1, x2, x3]) := by
  refine PA.from (pa_cons hh1 (pa_cons hh2 (pa_cons hh3 pa_nil ss3) ss2) ss1) fun σ H Q ⟨fr, F, m, ah, s, er, q⟩ => ?_
  refine TK.step s er q fun F1 m1' ah1 d1 v1 H1 x1 y1 z1 r1 q1 => ?_
  refine TK.step y1 z1 q1 fun F2 m2' ah2 d2 v2 H2 x2 y2 z2 r2 q2 => ?_
  refine TK.step y2 z2 q2 fun F3 m3' ah3 d3 v3 H3 x3 y3 z3 r3 q3 => ?_
  exact q3 F3 m3' _ H3 Ext.refl y3 (RepL.cons (Rep.ext (x2.trans x3) _ _ r1) (RepL.cons (Rep.ext x3 _ _ r2) (RepL.cons r3 RepL.nil)))
theorem len3 {mm1 mm2 mm3 : M D} (ah : AH) (ds : List D) (ah' : AH) (h : (do let x1 ← mm1; let x2 ← mm2; let x3 ← mm3; pure [x1, x2, x3] : M (List D)) ah = .ok ds ah') : ds.length = 3 := by
  rw [bind_def] at h
  cases h1 : mm1 ah with
  | exc _ _ => rw [h1] at h; cases h
  | stuck => rw [h1] at h; cases h
  | ok d1 a1 =>
  rw [h1] at h; dsimp only at h
  rw [bind_def] at h
  cases h2 : mm2 a1 with
  | exc _ _ => rw [h2] at h; cases h
  | stuck => rw [h2] at h; cases h
  | ok d2 a2 =>
  rw [h2] at h; dsimp only at h
  rw [bind_def] at h
  cases h3 : mm3 a2 with
  | exc _ _ => rw [h3] at h; cases h
  | stuck => rw [h3] at h; cases h
  | ok d3 a3 =>
  rw [h3] at h; dsimp only at h
  cases h
  rfl
theorem assoc3 {mm1 mm2 mm3 : M D} {g : List D → M D} : ((do let x1 ← mm1; let x2 ← mm2; let x3 ← mm3; pure [x1, x2, x3] : M (List D)) >>= g) = (do let x1 ← mm1; let x2 ← mm2; let x3 ← mm3; g [x1, x2, x3]) := by
  simp only [bind_assoc, pure_bind]
theorem de_pcall3 {ex1 ex2 ex3 : Expr} {mm1 mm2 mm3 : M D} {g : D → D → D → M D} (G : FnOk X.prog X.w X.K X.mg X.base (L2N.CX X.prog X.w) k f fd ps (spD X.K X.mg 3 (app3 g))) (hr : Room k X.A) (hm : X.mg x = some (.ref f)) (hk : PySem.W.keepIn X.K (.ref f) = true) (hb : Binds X.K fd ps []) (tk : L2N.Takes X W) (hh1 : DE X W env ex1 mm1) (hh2 : DE X W env ex2 mm2) (hh3 : DE X W env ex3 mm3)
    (hg : Gl X x := by rfl) (hdb : (x == ("__debug__" : Str)) = false := by decide) (ss1 : starEach [ex1, ex2, ex3] X.env = (false, eval ex1 X.env) :: starEach [ex2, ex3] X.env := by rfl) (ss2 : starEach [ex2, ex3] X.env = (false, eval ex2 X.env) :: starEach [ex3] X.env := by rfl) (ss3 : starEach [ex3] X.env = (false, eval ex3 X.env) :: starEach [] X.env := by rfl) (hpl : (backTo pos (starEach [ex2, ex3] X.env)).any (·.1) = false := by rfl) :
    DE X W env (.Call (.Name x p) [ex1, ex2, ex3] [] pos) (do let x1 ← mm1; let x2 ← mm2; let x3 ← mm3; pcallM (app3 g) [x1, x2, x3]) := by
  have h := de_pcall (pos := pos) (p := p) 3 G hr hm hk hb tk (da3 hh1 hh2 hh3 ss1 ss2 ss3) len3 hg hdb ss1 hpl
  rw [assoc3] at h
  exact h
end
theorem fn1 {P : Program} {w : World} {K : Fg} {mg : Str → Option Value} {base : Heap} {x qual : Str} {st : Stmt} {f : Addr} {fd : FuncData} {N ps : List Str} {k : Nat} {τ : Type} {mk : τ → Env} {lp : Empty → Env} {mc : D → M (Out τ Empty)}
    (F : Fun K x qual st f fd) (S : FnScope N ps (defScope st)) (hn : ps.length = 1)
    (h : ∀ (cdv : Value) (A : Around) (outer : List PySem.Env) (s : Shared) (H : Hp) (E : XK), Room k (A.deeper (PyProof.Rows.envOfC qual (defScope st) s.heap.objs.size f cdv)) → ∀ d1 : D,
      DS (cxOf (L2N.CX P w) P w K mg base N qual (defScope st) f cdv A outer s H E) (fun c d _ H => E c d H) (List.replicate N.length none) ([some d1] ++ List.replicate (N.length - 1) none) mk lp (defBody st) (mc d1)) :
    FnOk P w K mg base (L2N.CX P w) (k + 1) f fd ps (spD K mg 1 (app1 fun d1 => defM (mc d1))) :=
  fn_sim (mc := fun ds => match ds with | [d1] => mc d1 | _ => stuck) F S hn (fun ds hl => match ds, hl with | [_], _ => rfl) fun cdv A outer s H E hr ds hl => match ds, hl with | [d1], _ => h cdv A outer s H E hr d1
theorem fn2 {P : Program} {w : World} {K : Fg} {mg : Str → Option Value} {base : Heap} {x qual : Str} {st : Stmt} {f : Addr} {fd : FuncData} {N ps : List Str} {k : Nat} {τ : Type} {mk : τ → Env} {lp : Empty → Env} {mc : D → D → M (Out τ Empty)}
    (F : Fun K x qual st f fd) (S : FnScope N ps (defScope st)) (hn : ps.length = 2)
    (h : ∀ (cdv : Value) (A : Around) (outer : List PySem.Env) (s : Shared) (H : Hp) (E : XK), Room k (A.deeper (PyProof.Rows.envOfC qual (defScope st) s.heap.objs.size f cdv)) → ∀ d1 d2 : D,
      DS (cxOf (L2N.CX P w) P w K mg base N qual (defScope st) f cdv A outer s H E) (fun c d _ H => E c d H) (List.replicate N.length none) ([some d1, some d2] ++ List.replicate (N.length - 2) none) mk lp (defBody st) (mc d1 d2)) :
    FnOk P w K mg base (L2N.CX P w) (k + 1) f fd ps (spD K mg 2 (app2 fun d1 d2 => defM (mc d1 d2))) :=
  fn_sim (mc := fun ds => match ds with | [d1, d2] => mc d1 d2 | _ => stuck) F S hn (fun ds hl => match ds, hl with | [_, _], _ => rfl) fun cdv A outer s H E hr ds hl => match ds, hl with | [d1, d2], _ => h cdv A outer s H E hr d1 d2
theorem fn3 {P : Program} {w : World} {K : Fg} {mg : Str → Option Value} {base : Heap} {x qual : Str} {st : Stmt} {f : Addr} {fd : FuncData} {N ps : List Str} {k : Nat} {τ : Type} {mk : τ → Env} {lp : Empty → Env} {mc : D → D → D → M (Out τ Empty)}
    (F : Fun K x qual st f fd) (S : FnScope N ps (defScope st)) (hn : ps.length = 3)
    (h : ∀ (cdv : Value) (A : Around) (outer : List PySem.Env) (s : Shared) (H : Hp) (E : XK), Room k (A.deeper (PyProof.Rows.envOfC qual (defScope st) s.heap.objs.size f cdv)) → ∀ d1 d2 d3 : D,
      DS (cxOf (L2N.CX P w) P w K mg base N qual (defScope st) f cdv A outer s H E) (fun c d _ H => E c d H) (List.replicate N.length none) ([some d1, some d2, some d3] ++ List.replicate (N.length - 3) none) mk lp (defBody st) (mc d1 d2 d3)) :
    FnOk P w K mg base (L2N.CX P w) (k + 1) f fd ps (spD K mg 3 (app3 fun d1 d2 d3 => defM (mc d1 d2 d3))) :=
  fn_sim (mc := fun ds => match ds with | [d1, d2, d3] => mc d1 d2 d3 | _ => stuck) F S hn (fun ds hl => match ds, hl with | [_, _, _], _ => rfl) fun cdv A outer s H E hr ds hl => match ds, hl with | [d1, d2, d3], _ => h cdv A outer s H E hr d1 d2 d3
end Lw
/-! SimG: lists that are written, freezing them, raise, sorted. -/
namespace Lw
open PySem L2
/-! ### a cell is written -/
section
variable {K : Fg} {mg : Str → Option Value} {fr : Fm} {F H : Hp} {m : List Addr} {ah : AH}
theorem Sim.write {i : Nat} {a : Addr} {c c' : Cell} {o : HO} (S : Sim K mg fr F m ah H) (hi : ah[i]? = some c) (ha : m[i]? = some a) (hc : trk c = true) (ok : CellOk K mg F m (upd H a o) a c') : Sim K mg fr F m (ah.set i c') (upd H a o) := by
  have am : a ∈ m := List.mem_of_getElem? ha
  have fa : F a = none := by
    obtain ⟨a', q, ok'⟩ := S.cells i c hi
    rw [ha] at q
    cases q
    exact ok'.free hc
  refine ⟨fun b u h => ?_, by rw [List.length_set]; exact S.len, S.nod, fun j x h => ?_, fun b u h n => ?_, S.young, S.pre, fun b h => ?_, S.old⟩
  · have ne : b ≠ a := fun z => by rw [z, fa] at h; cases h
    rw [upd_ne ne]
    exact S.sub b u h
  · by_cases hj : i = j
    · subst hj
      rw [List.getElem?_set_self (List.getElem?_eq_some_iff.mp hi).1] at h
      cases h
      exact ⟨a, ha, ok⟩
    · rw [List.getElem?_set_ne hj] at h
      obtain ⟨b, q, okb⟩ := S.cells j x h
      have ne : b ≠ a := fun z => hj (by
        rw [z] at q
        obtain ⟨h1, e1⟩ := List.getElem?_eq_some_iff.mp ha
        obtain ⟨h2, e2⟩ := List.getElem?_eq_some_iff.mp q
        exact (List.getElem_inj S.nod).mp (e1.trans e2.symm))
      exact ⟨b, q, okb.ext Ext.refl (fun z => okb.free z) fun _ => upd_ne ne⟩
  · have ne : b ≠ a := fun z => by
      rw [z] at h n
      rw [S.young a am n] at h
      cases h
    rw [upd_ne ne]
    exact S.frame b u h n
  · by_cases z : b = a
    · rw [z, upd_same]
      exact ⟨_, rfl⟩
    · rw [upd_ne z]
      exact S.there b h
/-- a list of the heap is never written from now on -/
theorem Sim.freeze {i : Nat} {a : Addr} {xs : List D} (S : Sim K mg fr F m ah H) (hi : ah[i]? = some (.lst xs)) (ha : m[i]? = some a) : ∃ vs, Sim K mg fr (upd F a (.lst vs)) m (ah.set i .dead) H ∧ Ext F m (upd F a (.lst vs)) m ∧ RepL K F m xs vs := by
  have am : a ∈ m := List.mem_of_getElem? ha
  obtain ⟨a', q, ok⟩ := S.cells i _ hi
  rw [ha] at q
  cases q
  obtain ⟨fa, vs, hv, rv⟩ := ok
  have e : Ext F m (upd F a (.lst vs)) m := ⟨fun b u h => by rw [upd_ne (ne_of_none h fa)]; exact h, fun _ _ h => h⟩
  refine ⟨vs, ⟨fun b u h => ?_, by rw [List.length_set]; exact S.len, S.nod, fun j x h => ?_, S.frame, S.young, S.pre, S.there, fun b u h => ?_⟩, e, rv⟩
  · by_cases z : b = a
    · rw [z, upd_same] at h
      cases h
      rw [z]
      exact hv
    · rw [upd_ne z] at h
      exact S.sub b u h
  · by_cases hj : i = j
    · subst hj
      rw [List.getElem?_set_self (List.getElem?_eq_some_iff.mp hi).1] at h
      cases h
      exact ⟨a, ha, trivial⟩
    · rw [List.getElem?_set_ne hj] at h
      obtain ⟨b, q, okb⟩ := S.cells j x h
      have ne : b ≠ a := fun z => hj (by
        rw [z] at q
        obtain ⟨h1, e1⟩ := List.getElem?_eq_some_iff.mp ha
        obtain ⟨h2, e2⟩ := List.getElem?_eq_some_iff.mp q
        exact (List.getElem_inj S.nod).mp (e1.trans e2.symm))
      exact ⟨b, q, okb.ext e (fun z => by rw [upd_ne ne]; exact okb.free z) fun _ => rfl⟩
  · by_cases z : b = a
    · rw [z]
      by_cases y : a ∈ fr.m0
      · exact .inr (.inr y)
      · exact .inr (.inl (S.young a am y))
    · rw [upd_ne z] at h
      exact S.old b u h
end
/-- a list of the heap, from now on a value -/
def freezeM (d : D) : M D := fun h => match d with
  | .ref n => (match h[n]? with
    | some (.lst xs) => .ok (.lst xs) (h.set n .dead)
    | _ => .stuck)
  | _ => .stuck
section
variable {X : Cx} {W : WX} {ex env : Env} {pos : Pos} {τ β : Type} {mk : τ → Env} {lp : β → Env} {rest : List Stmt}
theorem ds_freeze (i : Nat) {d : D} {k : D → M (Out τ β)} (env' : D → Env) (hr : ∀ d, DS X W ex (env' d) mk lp rest (k d)) (he : env[i]? = some (some d) := by rfl) (hvv : ∀ d, env.set i (some d) = env' d := by intro _; rfl) : DS X W ex env mk lp rest (freezeM d >>= k) :=
  PSs.from (PSs.ex hr) fun Dn σ H ⟨fr, F, m, ah, s, er, q⟩ => by
    rw [bind_def] at q
    unfold freezeM at q
    obtain ⟨n, hd⟩ : ∃ n, d = .ref n := by
      cases d <;> first | exact ⟨_, rfl⟩ | exact q.elim
    subst hd
    obtain ⟨xs, hc⟩ : ∃ xs, ah[n]? = some (.lst xs) := by
      cases hc : ah[n]? with
      | none =>
        simp only [hc] at q
        exact q.elim
      | some c =>
        cases c <;> simp only [hc] at q <;> first | exact ⟨_, rfl⟩ | exact q.elim
    · simp only [hc] at q
      obtain ⟨v, hv, rv⟩ := er.2 i _ he
      unfold Rep at rv
      obtain ⟨a, ha, hva⟩ := rv
      obtain ⟨vs, s2, e2, r2⟩ := s.freeze hc ha
      refine ⟨.lst xs, fr, _, m, _, s2, ⟨by rw [← hvv, List.length_set]; exact er.1, fun j x hj => ?_⟩, TO.ext e2 q⟩
      rw [← hvv] at hj
      by_cases hij : i = j
      · subst hij
        rw [List.getElem?_set_self (List.getElem?_eq_some_iff.mp he).1] at hj
        cases hj
        refine ⟨v, hv, ?_⟩
        unfold Rep
        exact ⟨a, vs, hva, .inl (.inl upd_same), RepL.ext e2 _ _ r2⟩
      · rw [List.getElem?_set_ne hij] at hj
        obtain ⟨u, hu, ru⟩ := er.2 j x hj
        exact ⟨u, hu, Rep.ext e2 _ _ ru⟩
/-! ### methods of lists -/
def onLst (x : D) (f : List D → Option (D × List D)) : M D := fun h => match x with
  | .ref n => (match h[n]? with
    | some (.lst xs) => (match f xs with
      | some (d, ys) => .ok d (h.set n (.lst ys))
      | none => .stuck)
    | _ => .stuck)
  | _ => .stuck
def appendM (x y : D) : M D := onLst x fun xs => if lenOk (xs.length + 1) = true then some (.non, xs ++ [y]) else none
theorem onLst_of {fr : Fm} {σ : St} {F H : Hp} {m : List Addr} {ah : AH} {d : D} {v : V} {f : List D → Option (D × List D)} {Q : VK} (S : Sim X.K X.mg fr F m ah H) (r : Rep X.K F m d v) (k : TK X.K X.mg fr W (Rep X.K) σ F m (onLst d f ah) Q) :
    ∃ a xs vs z ys, v = .ref a ∧ H a = some (.lst vs) ∧ RepL X.K F m xs vs ∧ f xs = some (z, ys) ∧ ∀ us, RepL X.K F m ys us → ∀ u, Rep X.K F m z u → Q u (upd H a (.lst us)) := by
  unfold onLst at k
  cases d <;> try exact k.elim
  rename_i n
  cases hc : ah[n]? with
  | none =>
    simp only [hc] at k
    exact k.elim
  | some c =>
    cases c <;> simp only [hc] at k <;> try exact k.elim
    rename_i xs
    unfold Rep at r
    obtain ⟨a, ha, hva⟩ := r
    obtain ⟨a', q, ok⟩ := S.cells n _ hc
    rw [ha] at q
    cases q
    obtain ⟨fa, vs, hv, rv⟩ := ok
    cases hf : f xs with
    | none =>
      rw [hf] at k
      exact k.elim
    | some p =>
      obtain ⟨z, ys⟩ := p
      rw [hf] at k
      refine ⟨a, xs, vs, z, ys, hva, hv, rv, hf, fun us ru u rz => ?_⟩
      exact k F m u _ Ext.refl (S.write hc ha rfl ⟨fa, us, upd_same, ru⟩) rz
/-- it is a list -/
def lchk (x : D) : M Unit := fun h => match lstOf h x with
  | some _ => .ok () h
  | none => .stuck
theorem lchk_of {fr : Fm} {σ : St} {F H : Hp} {m : List Addr} {ah : AH} {α β : Type} {R : Hp → List Addr → α → β → Prop} {d : D} {v : V} {k : Unit → M α} {Q : β → Hp → Prop} (S : Sim X.K X.mg fr F m ah H) (r : Rep X.K F m d v) (q : TK X.K X.mg fr W R σ F m ((lchk d >>= k) ah) Q) :
    tyV X.K "list" v H ∧ TK X.K X.mg fr W R σ F m (k () ah) Q := by
  rw [bind_def] at q
  unfold lchk at q
  cases hx : lstOf ah d with
  | none =>
    simp only [hx] at q
    exact q.elim
  | some xs =>
    simp only [hx] at q
    obtain ⟨a, vs, h1, h2, h3⟩ := lst_of S r hx
    subst h1
    exact ⟨.inl ⟨rfl, vs, h2⟩, q⟩
/-- x.m(e), a method of lists -/
theorem de_lm1 {o e : Expr} {mo me : M D} {apos : Pos} {name : Str} {id : String} {r : V → List V → Hp → VK → Prop} {f : D → D → M D} (slot : Slot "list" name id) (hty : typeOf (.builtin id) = pure (.type "method_descriptor")) (hm : MtR X id r)
    (hr : ∀ (fr : Fm) (W : WX) (σ : St) (F : Hp) (m : List Addr) (ah : AH) (H : Hp) (d e : D) (v w : V) (Q : VK), Sim X.K X.mg fr F m ah H → Rep X.K F m d v → Rep X.K F m e w → TK X.K X.mg fr W (Rep X.K) σ F m (f d e ah) Q → r v [w] H Q)
    (ho : DE X W env o mo) (he : DE X W env e me) (hbase : attributeBase o name X.env (eval o X.env) = eval o X.env := by rfl)
    (hfew : ((backTo pos (starEach [e] X.env)).all (fun x => !x.1) && (backToKw pos (keywordEach [] X.env)).all (fun x => x.1.isSome)
      && decide ([e].length + ([] : List Keyword).length + (if ([] : List Keyword).isEmpty then 0 else 1) < 30)) = true := by rfl)
    (hline : (apos.endLine == pos.line) = true := by rfl) (hs : starEach [e] X.env = (false, eval e X.env) :: starEach [] X.env := by rfl) (hplain : (backTo pos (starEach [] X.env)).any (·.1) = false := by rfl) :
    DE X W env (.Call (.Attribute o name apos) [e] [] pos) (do let x ← mo; lchk x; let y ← me; f x y) :=
  PE.from (pe_bm PySem.F.plainAttrs_list slot hty hm ho (da_one he hs) hbase hfew hline hs hplain) fun σ H Q ⟨fr, F, m, ah, s, er, q⟩ => TK.step s er q fun F1 m1 ah1 d v H1 e1 s1 er1 r1 k1 => by
    obtain ⟨h1, k2⟩ := lchk_of s1 r1 k1
    refine ⟨h1, ?_⟩
    have k3 : TK X.K X.mg fr W (Rep X.K) σ F1 m1 (((do let y ← me; pure [y]) >>= fun ys => ap1 (f d) ys) ah1) Q := by
      rw [bind_assoc]
      exact k2
    refine TK.step (R := RepL X.K) s1 er1 k3 fun F2 m2 ah2 d2 v2 H2 e2 s2 er2 r2 k4 => ?_
    match d2, r2, k4 with
    | [], _, k4 => exact k4.elim
    | [d3], r2, k4 =>
      obtain ⟨w, rfl, r3⟩ := RepL.one r2
      exact hr fr W σ F2 m2 ah2 H2 d d3 v w Q s2 (Rep.ext e2 _ _ r1) r3 k4
    | _ :: _ :: _, _, k4 => exact k4.elim
theorem de_append {o e : Expr} {mo me : M D} {apos : Pos} (ho : DE X W env o mo) (he : DE X W env e me) (hbase : attributeBase o "append" X.env (eval o X.env) = eval o X.env := by rfl)
    (hfew : ((backTo pos (starEach [e] X.env)).all (fun x => !x.1) && (backToKw pos (keywordEach [] X.env)).all (fun x => x.1.isSome)
      && decide ([e].length + ([] : List Keyword).length + (if ([] : List Keyword).isEmpty then 0 else 1) < 30)) = true := by rfl)
    (hline : (apos.endLine == pos.line) = true := by rfl) (hs : starEach [e] X.env = (false, eval e X.env) :: starEach [] X.env := by rfl) (hplain : (backTo pos (starEach [] X.env)).any (·.1) = false := by rfl) :
    DE X W env (.Call (.Attribute o "append" apos) [e] [] pos) (do let x ← mo; lchk x; let y ← me; appendM x y) :=
  de_lm1 PySem.F.slot_list_append PySem.F.type_list_append mt_append (fun fr W σ F m ah H d e v w Q S r r2 k => by
    obtain ⟨a, xs, vs, z, ys, h1, h2, h3, h4, h5⟩ := onLst_of S r k
    by_cases hl : lenOk (xs.length + 1) = true
    · rw [if_pos hl] at h4
      cases h4
      refine ⟨a, vs, w, h1, rfl, h2, ?_, h5 _ (RepL.append h3 (RepL.cons r2 RepL.nil)) _ Rep.non⟩
      rw [RepL.length h3]
      exact of_decide_eq_true hl
    · rw [if_neg hl] at h4
      cases h4) ho he hbase hfew hline hs hplain
/-! ### raise -/
/-- a class of errors, of one's own, over ValueError, without __init__ -/
structure XcF (K : Fg) (mg : Str → Option Value) (x : Str) (C : Addr) : Prop where
  g : mg x = some (.ref C)
  q : PySem.W.excIn K C [.type "ValueError", .type "Exception", .type "BaseException", .type "object"] "ValueError.__new__" = true
  k : PySem.W.keepIn K (.ref C) = true
  b : PySem.W.subIn K (.ref C) (.type "BaseException") = some true
  t : PySem.W.typeIn K (.ref C) = some (.type "type")
theorem ds_raise {x msg : Str} {C : Addr} {j : Nat} {p p2 p3 : Pos} (T : XcF X.K X.mg x C) (hc : X.calm = true) (tk : L2N.Takes X W) (hx : EnvLe ex env) (hg : Gl X x := by rfl) (hdb : (x == ("__debug__" : Str)) = false := by decide) :
    DS X W ex env mk lp (.Raise (some (.Call (.Name x p) [.Constant (.str msg) j p2] [] p3)) none pos :: rest) (throwM x) :=
  PSs.from (pss_cons (L2N.ps_raise hc tk (L2N.pmk_own PySem.F.excBase_ValueError T.q T.g T.k (raises_own T.b T.t) hg hdb)) pss_never) fun Dn σ H ⟨fr, F, m, ah, s, er, q⟩ => q F m C σ H Ext.refl s (er.le hx) T.g
/-! ### sorted -/
end
section
open PySem PySem.W PyProof.Rows
end
section
variable {X : Cx} {W : WX} {env : Env} {pos : Pos}
theorem hu66 {A : Around} {k : Nat} (hr : Room k A) : A.units + 66 < cLine := by
  have := hr.un
  omega
theorem de_sum {e : Expr} {me : M D} {p : Pos} (hc : X.calm = true) (hm : X.mg "sum" = none) (ha : DE X W env e me) (hg : Gl X "sum" := by rfl) (he : starEach [e] X.env = [(false, eval e X.env)] := by rfl) (hpl : (backTo pos (starEach [] X.env)).any (·.1) = false := by rfl) :
    DE X W env (.Call (.Name "sum" p) [e] [] pos) (do let x ← me; sumM x) := de_b1 (cr_sum hc) sum_ok hm (by decide +kernel) ha hg (by decide) (by decide) he hpl
theorem de_all {e : Expr} {me : M D} {p : Pos} (hc : X.calm = true) (hm : X.mg "all" = none) (ha : DE X W env e me) (hg : Gl X "all" := by rfl) (he : starEach [e] X.env = [(false, eval e X.env)] := by rfl) (hpl : (backTo pos (starEach [] X.env)).any (·.1) = false := by rfl) :
    DE X W env (.Call (.Name "all" p) [e] [] pos) (do let x ← me; allM x) := de_b1 (cr_all hc) all_ok hm (by decide +kernel) ha hg (by decide) (by decide) he hpl
theorem de_max2 {a b : Expr} {ma mb : M D} {p : Pos} (hc : X.calm = true) (hm : X.mg "max" = none) (ha : DE X W env a ma) (hb : DE X W env b mb) (hg : Gl X "max" := by rfl)
    (he : starEach [a, b] X.env = (false, eval a X.env) :: starEach [b] X.env := by rfl) (he2 : starEach [b] X.env = (false, eval b X.env) :: starEach [] X.env := by rfl) (hpl : (backTo pos (starEach [b] X.env)).any (·.1) = false := by rfl) :
    DE X W env (.Call (.Name "max" p) [a, b] [] pos) (do let x ← ma; let y ← mb; maxM x y) := de_b2 (call_max2 hc) max2_ok hm (by decide +kernel) ha hb hg (by decide) (by decide) he he2 hpl
end
end Lw
/-! SimH: items stored, chains as tests, what stands of a def, the law's end. -/
namespace Lw
open PySem L2
section
variable {X : Cx} {W : WX} {ex env : Env} {pos : Pos} {τ β : Type} {mk : τ → Env} {lp : β → Env} {rest : List Stmt}
/-! ### o[i] = v -/
def setIxM (o i v : D) : M Unit := fun h => match o, i with
  | .ref n, .int k => (match h[n]? with
    | some (.lst xs) => (match ixN xs.length k with
      | some j => .ok () (h.set n (.lst (xs.set j v)))
      | none => .stuck)
    | _ => .stuck)
  | _, _ => .stuck
theorem RepL.set {K : Fg} {F : Hp} {m : List Addr} {d : D} {v : V} : ∀ {ds : List D} {vs : List V} (j : Nat), RepL K F m ds vs → Rep K F m d v → RepL K F m (ds.set j d) (vs.set j v)
  | [], vs, _, r, _ => by
    unfold RepL at r
    rw [r]
    exact RepL.nil
  | x :: ds, vs, 0, r, h => by
    unfold RepL at r
    obtain ⟨u, w, h1, h2, h3⟩ := r
    rw [h1]
    exact RepL.cons h h3
  | x :: ds, vs, j + 1, r, h => by
    unfold RepL at r
    obtain ⟨u, w, h1, h2, h3⟩ := r
    rw [h1]
    exact RepL.cons h2 (RepL.set j h3 h)
theorem ds_setix {o i e : Expr} {mo mi me : M D} {mc : M (Out τ β)} {tpos : Pos} (he : DE X W env e me) (ho : DE X W env o mo) (hi : DE X W env i mi) (hx : EnvLe ex env) (hr : DS X W ex env mk lp rest mc)
    (hs : swapsWithSole [.Subscript o i tpos] e pos.line X.env = pure false := by rfl) (hw : swappedStores [.Subscript o i tpos] e X.env = pure none := by rfl) (h1 : (assignEach [.Subscript o i tpos] X.env).map (·.2) = [assign (.Subscript o i tpos) X.env] := by rfl)
    (ha : ∀ v, assign (.Subscript o i tpos) X.env v = (do
      let ov ← holding [v] (eval o X.env)
      let iv ← holding [v, ov] (eval i X.env)
      standAt tpos
      holding [v, ov, iv] (setItem ov iv v)
      release [v, ov, iv] []) := by intro _; rfl) :
    DS X W ex env mk lp (.Assign [.Subscript o i tpos] e pos :: rest) (do let v ← me; let x ← mo; let y ← mi; let _ ← setIxM x y v; mc) :=
  PSs.from (pss_cons (ps_asg he (pg_sub ho hi set_list ha) hs hw h1) hr) fun Dn σ H ⟨fr, F, m, ah, s, er, q⟩ =>
    TO.step s er hx q fun F1 m1 ah1 d1 v1 H1 e1 s1 er1 r1 k1 => TO.step s1 er1 hx k1 fun F2 m2 ah2 d2 v2 H2 e2 s2 er2 r2 k2 => TO.step s2 er2 hx k2 fun F3 m3 ah3 d3 v3 H3 e3 s3 er3 r3 k3 => by
      rw [bind_def] at k3
      unfold setIxM at k3
      obtain ⟨n, k, hd2, hd3⟩ : ∃ n k, d2 = .ref n ∧ d3 = .int k := by
        cases d2 <;> cases d3 <;> first | exact ⟨_, _, rfl, rfl⟩ | exact k3.elim
      subst hd2 hd3
      obtain ⟨xs, hc⟩ : ∃ xs, ah3[n]? = some (.lst xs) := by
        cases hc : ah3[n]? with
        | none =>
          simp only [hc] at k3
          exact k3.elim
        | some c =>
          cases c <;> simp only [hc] at k3 <;> first | exact ⟨_, rfl⟩ | exact k3.elim
      simp only [hc] at k3
      cases hj : ixN xs.length k with
      | none =>
        rw [hj] at k3
        exact k3.elim
      | some j =>
        rw [hj] at k3
        have r2 := Rep.ext e3 _ _ r2
        have r1 := Rep.ext (e2.trans e3) _ _ r1
        unfold Rep at r2 r3
        obtain ⟨a, ha, hva⟩ := r2
        obtain ⟨a', q', ok⟩ := s3.cells n _ hc
        rw [ha] at q'
        cases q'
        obtain ⟨fa, vs, hv, rv⟩ := ok
        refine ⟨a, vs, k, j, hva, r3, hv, by rw [RepL.length rv]; exact hj, fr, F3, m3, _, s3.write (c' := .lst (xs.set j d1)) hc ha rfl ⟨fa, _, upd_same, RepL.set j rv r1⟩, er3, k3⟩
/-! ### a op b op c as a test -/
theorem tChain_from {ma mb mc : M D} {r r' : R2} {f g : D → D → M D} (hr : OpD X r f) (hr' : OpD X r' g) : ∀ σ H Q, TC X.K X.mg W (Rep X.K) env (do let x ← ma; let y ← mb; chainM f g x y mc) σ H Q →
    tChain r r' (TC X.K X.mg W (Rep X.K) env ma) (TC X.K X.mg W (Rep X.K) env mb) (TC X.K X.mg W (Rep X.K) env mc) σ H Q := fun σ H Q ⟨fr, F, m, ah, s, er, k⟩ => TK.step s er k fun F1 m1 ah1 d v H1 e1 s1 er1 r1 k1 => TK.step s1 er1 k1 fun F2 m2 ah2 d2 v2 H2 e2 s2 er2 r2 k2 => by
    refine hr fr W σ F2 m2 ah2 H2 d d2 v v2 _ s2 (Rep.ext e2 _ _ r1) r2 ?_
    have k3 : TK X.K X.mg fr W (Rep X.K) σ F2 m2 ((f d d2 >>= fun z => match z with | .bl true => (do let z ← mc; g d2 z) | .bl false => pure (.bl false) | _ => stuck) ah2) Q := k2
    rw [bind_def] at k3
    cases hf : f d d2 ah2 with
    | stuck =>
      rw [hf] at k3
      exact k3
    | exc x a =>
      rw [hf] at k3
      exact k3
    | ok z a =>
      rw [hf] at k3
      intro F3 m3 w H3 e3 s3 r3
      have k4 := TK.ext e3 k3
      cases z <;> try exact (TK.stuck_of k4).elim
      rename_i t
      unfold Rep at r3
      refine ⟨t, r3, ?_⟩
      cases t with
      | false => exact iteF (k4 F3 m3 _ H3 Ext.refl s3 Rep.bl)
      | true =>
        refine iteT ?_
        exact TK.step (R := Rep X.K) s3 ((er2.ext e3)) k4 fun F4 m4 ah4 d4 v4 H4 e4 s4 er4 r4 k5 => hr' fr W σ F4 m4 ah4 H4 d2 d4 v2 v4 Q s4 (Rep.ext (e3.trans e4) _ _ r2) r4 k5
theorem dt_chain {a b c : Expr} {ma mb mc : M D} {op op' : CmpOp} {r r' : R2} {f g : D → D → M D} (ho : OpR X (compareOp op) r) (hr : OpD X r f) (ho' : OpR X (compareOp op') r') (hr' : OpD X r' g) (ha : DE X W env a ma) (hb : DE X W env b mb) (hc : DE X W env c mc)
    (hm : lastMarks [op, op'] [b, c] = false := by with_unfolding_all rfl) : DT X W env (.Compare a [op, op'] [b, c] pos) (do let v ← (do let x ← ma; let y ← mb; chainM f g x y mc); asB v) := dt_of (pt_chain ho ho' ha hb hc hm) (tChain_from hr hr')
theorem gt_ok : OpD X (rI0 fun i j => .bl (decide (j < i))) gtM := int2_ok fun _ _ _ _ _ => Rep.bl
theorem ge_ok : OpD X (rI0 fun i j => .bl (decide (j ≤ i))) geM := int2_ok fun _ _ _ _ _ => Rep.bl
end
/-! ### what stands of a def; a def that keeps its promise -/
structure Dfn (K : Fg) (mg : Str → Option Value) (x qual : Str) (st : Stmt) (ps : List Str) : Prop where
  ex : ∃ (f : Addr) (fd : FuncData), Fun K x qual st f fd ∧ mg x = some (.ref f) ∧ PySem.W.keepIn K (.ref f) = true ∧ Binds K fd ps []
structure Cal (P : Program) (w : World) (K : Fg) (mg : Str → Option Value) (base : Heap) (x : Str) (k n : Nat) (g : List D → M D) : Prop where
  ex : ∃ (f : Addr) (fd : FuncData) (ps : List Str), FnOk P w K mg base (L2N.CX P w) k f fd ps (spD K mg n g) ∧ mg x = some (.ref f) ∧ PySem.W.keepIn K (.ref f) = true ∧ Binds K fd ps []
theorem Dfn.cal {P : Program} {w : World} {K : Fg} {mg : Str → Option Value} {base : Heap} {x qual : Str} {st : Stmt} {ps : List Str} {k n : Nat} {g : List D → M D} (D : Dfn K mg x qual st ps)
    (h : ∀ (f : Addr) (fd : FuncData), Fun K x qual st f fd → FnOk P w K mg base (L2N.CX P w) k f fd ps (spD K mg n g)) : Cal P w K mg base x k n g := by
  obtain ⟨f, fd, F, hm, hk, hb⟩ := D.ex
  exact ⟨f, fd, ps, h f fd F, hm, hk, hb⟩
section
variable {X : Cx} {W : WX} {env : Env} {pos : Pos} {k : Nat} {x : Str} {p : Pos}
theorem de_c1 {ex1 : Expr} {mm1 : M D} {g : D → M D} (C : Cal X.prog X.w X.K X.mg X.base x k 1 (app1 g)) (hr : Room k X.A) (tk : L2N.Takes X W) (hh1 : DE X W env ex1 mm1)
    (hg : Gl X x := by rfl) (hdb : (x == ("__debug__" : Str)) = false := by decide) (ss1 : starEach [ex1] X.env = (false, eval ex1 X.env) :: starEach [] X.env := by rfl) (hpl : (backTo pos (starEach [] X.env)).any (·.1) = false := by rfl) :
    DE X W env (.Call (.Name x p) [ex1] [] pos) (do let x1 ← mm1; g x1) := by
  obtain ⟨f, fd, ps, G, hm, hk, hb⟩ := C.ex
  exact de_call1 G hr hm hk hb tk hh1 hg hdb ss1 hpl
theorem de_p1 {ex1 : Expr} {mm1 : M D} {g : D → M D} (C : Cal X.prog X.w X.K X.mg X.base x k 1 (app1 g)) (hr : Room k X.A) (tk : L2N.Takes X W) (hh1 : DE X W env ex1 mm1)
    (hg : Gl X x := by rfl) (hdb : (x == ("__debug__" : Str)) = false := by decide) (ss1 : starEach [ex1] X.env = (false, eval ex1 X.env) :: starEach [] X.env := by rfl) (hpl : (backTo pos (starEach [] X.env)).any (·.1) = false := by rfl) :
    DE X W env (.Call (.Name x p) [ex1] [] pos) (do let x1 ← mm1; pcallM (app1 g) [x1]) := by
  obtain ⟨f, fd, ps, G, hm, hk, hb⟩ := C.ex
  exact de_pcall1 G hr hm hk hb tk hh1 hg hdb ss1 hpl
theorem de_c2 {ex1 ex2 : Expr} {mm1 mm2 : M D} {g : D → D → M D} (C : Cal X.prog X.w X.K X.mg X.base x k 2 (app2 g)) (hr : Room k X.A) (tk : L2N.Takes X W) (hh1 : DE X W env ex1 mm1) (hh2 : DE X W env ex2 mm2)
    (hg : Gl X x := by rfl) (hdb : (x == ("__debug__" : Str)) = false := by decide) (ss1 : starEach [ex1, ex2] X.env = (false, eval ex1 X.env) :: starEach [ex2] X.env := by rfl) (ss2 : starEach [ex2] X.env = (false, eval ex2 X.env) :: starEach [] X.env := by rfl) (hpl : (backTo pos (starEach [ex2] X.env)).any (·.1) = false := by rfl) :
    DE X W env (.Call (.Name x p) [ex1, ex2] [] pos) (do let x1 ← mm1; let x2 ← mm2; g x1 x2) := by
  obtain ⟨f, fd, ps, G, hm, hk, hb⟩ := C.ex
  exact de_call2 G hr hm hk hb tk hh1 hh2 hg hdb ss1 ss2 hpl
theorem de_p2 {ex1 ex2 : Expr} {mm1 mm2 : M D} {g : D → D → M D} (C : Cal X.prog X.w X.K X.mg X.base x k 2 (app2 g)) (hr : Room k X.A) (tk : L2N.Takes X W) (hh1 : DE X W env ex1 mm1) (hh2 : DE X W env ex2 mm2)
    (hg : Gl X x := by rfl) (hdb : (x == ("__debug__" : Str)) = false := by decide) (ss1 : starEach [ex1, ex2] X.env = (false, eval ex1 X.env) :: starEach [ex2] X.env := by rfl) (ss2 : starEach [ex2] X.env = (false, eval ex2 X.env) :: starEach [] X.env := by rfl) (hpl : (backTo pos (starEach [ex2] X.env)).any (·.1) = false := by rfl) :
    DE X W env (.Call (.Name x p) [ex1, ex2] [] pos) (do let x1 ← mm1; let x2 ← mm2; pcallM (app2 g) [x1, x2]) := by
  obtain ⟨f, fd, ps, G, hm, hk, hb⟩ := C.ex
  exact de_pcall2 G hr hm hk hb tk hh1 hh2 hg hdb ss1 ss2 hpl
theorem de_p3 {ex1 ex2 ex3 : Expr} {mm1 mm2 mm3 : M D} {g : D → D → D → M D} (C : Cal X.prog X.w X.K X.mg X.base x k 3 (app3 g)) (hr : Room k X.A) (tk : L2N.Takes X W) (hh1 : DE X W env ex1 mm1) (hh2 : DE X W env ex2 mm2) (hh3 : DE X W env ex3 mm3)
    (hg : Gl X x := by rfl) (hdb : (x == ("__debug__" : Str)) = false := by decide) (ss1 : starEach [ex1, ex2, ex3] X.env = (false, eval ex1 X.env) :: starEach [ex2, ex3] X.env := by rfl) (ss2 : starEach [ex2, ex3] X.env = (false, eval ex2 X.env) :: starEach [ex3] X.env := by rfl) (ss3 : starEach [ex3] X.env = (false, eval ex3 X.env) :: starEach [] X.env := by rfl) (hpl : (backTo pos (starEach [ex2, ex3] X.env)).any (·.1) = false := by rfl) :
    DE X W env (.Call (.Name x p) [ex1, ex2, ex3] [] pos) (do let x1 ← mm1; let x2 ← mm2; let x3 ← mm3; pcallM (app3 g) [x1, x2, x3]) := by
  obtain ⟨f, fd, ps, G, hm, hk, hb⟩ := C.ex
  exact de_pcall3 G hr hm hk hb tk hh1 hh2 hh3 hg hdb ss1 ss2 ss3 hpl
end
/-! ### the law's end -/
/-- what the law's def is asked -/
def spLawD (K : Fg) (mg : Str → Option Value) (f : D → M D) : Sp := spD K mg 1 (app1 f)
theorem law_sp {K : Fg} {mg : Str → Option Value} {f : D → M D} {H : Hp} {a : Addr} {ns : List Int} (hS : SqL K H a (ns.map V.int)) (h : ∃ ah, f (.lst (ns.map D.int)) [] = .ok (.bl true) ah) :
    spLawD K mg f [.ref a] H (fun v _ => v = .bl true) fun _ _ _ => False := by
  obtain ⟨ah, h⟩ := h
  have ri : ∀ ns : List Int, RepL K H [] (ns.map D.int) (ns.map V.int) := by
    intro ns
    induction ns with
    | nil => exact RepL.nil
    | cons n r ih => exact RepL.cons Rep.int ih
  refine ⟨rfl, ⟨H, H, []⟩, H, [], [], [.lst (ns.map D.int)], ⟨fun _ _ h => h, rfl, List.nodup_nil, (fun i c h => by simp at h), (fun _ _ h _ => h), (fun a h => nomatch h), (fun i a h => by simp at h), (fun a h => nomatch h), fun _ _ h => .inl h⟩, RepL.cons ?_ RepL.nil, ?_⟩
  · unfold Rep
    exact ⟨a, _, rfl, hS, ri ns⟩
  · show TK K mg _ _ (Rep K) [] H [] (f (.lst (ns.map D.int)) []) _
    rw [h]
    intro F' m' v H' e s r
    unfold Rep at r
    exact r
end Lw
/-! SimI: a def's facts, the law's end. -/
namespace Lw
open PySem L2
theorem dfn_mk {K : Fg} {h : Heap} {mg : Str → Option Value} {x qual : Str} {st : Stmt} {ps : List Str} {f : Addr} {od an : Option Addr} {sl : Array (Option Value)} {oc kV dc pm cd ct : Value}
    (b : ∀ (kV doc pm : Value) (an : Option Addr) (cdv ct : Value) (us : List Value), us.length = ps.length → bindArgs (PySem.W.fnOf x qual (defArgs st) (defBody st) (defScope st) .none kV doc pm an cdv ct) ⟨us, []⟩ = pure (ps.zip us))
    (X : K.In h) (G : h.Ns mainGlobals mg) (a : PySem.W.nsIn K mainGlobals x = some (some (.ref f)))
    (l : K.lookup f = some ⟨oc, od, .func (PySem.W.fnOf x qual (defArgs st) (defBody st) (defScope st) .none kV dc pm an cd ct), sl⟩)
    (c : PySem.W.codeIn K cd qual = true) (k : PySem.W.keepIn K (.ref f) = true) : Dfn K mg x qual st ps :=
  ⟨⟨f, _, fun_mk l c k, PySem.W.mg_of X G a, k, (fun_mk l c k).binds b⟩⟩
/-- what the law's def is asked, by the script alone -/
def spEnd (K : Fg) : Sp := fun vs H Q E => ∃ (a : Addr) (ns : List Int), vs = [.ref a] ∧ SqL K H a (ns.map V.int) ∧ ns.length ≤ 63 ∧ (∀ z ∈ ns, Builtin.Int.intBits z ≤ 1048576) ∧ Q = (fun v _ => v = .bl true) ∧ E = fun _ _ _ => False
end Lw
/-! SimJ: plain computations are run: rows to reckon with. -/
namespace Lw
open PySem L2
def Res.bd {α β : Type} (r : Res α) (f : α → M β) : Res β := match r with
  | .ok a h => f a h
  | .exc x h => .exc x h
  | .stuck => .stuck
section
variable {α β τ τ' : Type} {h : AH}
theorem r_bind (x : M α) (f : α → M β) : (x >>= f) h = (x h).bd f := by
  rw [bind_def]
  cases x h <;> rfl
theorem r_pure (a : α) : (pure a : M α) h = .ok a h := (rfl)
theorem r_ok (a : α) (f : α → M β) : (Res.ok a h).bd f = f a h := (rfl)
theorem r_exc (x : Str) (f : α → M β) : (Res.exc x h : Res α).bd f = .exc x h := (rfl)
theorem r_stuck (f : α → M β) : (Res.stuck : Res α).bd f = .stuck := (rfl)
theorem r_ite (c : Bool) (a b : M α) : (if c = true then a else b) h = if c = true then a h else b h := by
  cases c <;> rfl
theorem r_iteP (c : Prop) [Decidable c] (a b : M α) : (if c then a else b) h = if c then a h else b h := by
  by_cases q : c
  · rw [if_pos q, if_pos q]
  · rw [if_neg q, if_neg q]
theorem r_obind (x : M (Out τ' β)) (k : τ' → M (Out τ β)) : (obind x k) h = ores k (x h) := (rfl)
theorem r_nx (k : τ' → M (Out τ β)) (t : τ') : ores k (.ok (.nx t) h) = k t h := (rfl)
theorem r_ret (k : τ' → M (Out τ β)) (d : D) : ores k (.ok (.ret d) h) = .ok (.ret d) h := (rfl)
theorem r_bk (k : τ' → M (Out τ β)) (d : β) : ores k (.ok (.bk d) h) = .ok (.bk d) h := (rfl)
theorem r_ct (k : τ' → M (Out τ β)) (d : β) : ores k (.ok (.ct d) h) = .ok (.ct d) h := (rfl)
theorem r_oexc (k : τ' → M (Out τ β)) (x : Str) : ores k (.exc x h) = .exc x h := (rfl)
theorem r_lbind (x : M (Out τ τ)) (k : τ → M (Out τ β)) : (lbind x k) h = lres k (x h) := (rfl)
theorem r_lnx (k : τ → M (Out τ β)) (t : τ) : lres k (.ok (.nx t) h) = k t h := (rfl)
theorem r_lct (k : τ → M (Out τ β)) (t : τ) : lres k (.ok (.ct t) h) = k t h := (rfl)
theorem r_lbk (k : τ → M (Out τ β)) (t : τ) : lres k (.ok (.bk t) h) = .ok (.nx t) h := (rfl)
theorem r_lret (k : τ → M (Out τ β)) (d : D) : lres k (.ok (.ret d) h) = .ok (.ret d) h := (rfl)
theorem r_lexc (k : τ → M (Out τ β)) (x : Str) : lres k (.exc x h) = .exc x h := (rfl)
theorem r_for (x : D) (r : List D) (t : τ) (f : D → τ → M (Out τ τ)) : (forM (x :: r) t f : M (Out τ β)) h = lres (fun t' => forM r t' f) (f x t h) := (rfl)
theorem r_def (x : M (Out τ β)) : defM x h = dres (x h) := (rfl)
theorem r_dnx (t : τ) : dres (.ok (.nx t) h : Res (Out τ β)) = .ok .non h := (rfl)
theorem r_dret (d : D) : dres (.ok (.ret d) h : Res (Out τ β)) = .ok d h := (rfl)
theorem r_dexc (x : Str) : dres (.exc x h : Res (Out τ β)) = .exc x h := (rfl)
theorem r_lift (a : α) : (liftO (some a) : M α) h = .ok a h := (rfl)
theorem r_throw (x : Str) : (throwM x : M α) h = .exc x h := (rfl)
end
/-! ### ints, truths -/
section
variable {h : AH} {i j : Int}
theorem addM_int : addM (.int i) (.int j) h = .ok (.int (i + j)) h := (rfl)
theorem subM_int : subM (.int i) (.int j) h = .ok (.int (i - j)) h := (rfl)
theorem int2c_run {c : Int → Int → Bool} {f : Int → Int → D} (q : c i j = true) : int2c c f (.int i) (.int j) h = .ok (f i j) h := by
  show (if c i j = true then pure (f i j) else stuck : M D) h = _
  rw [if_pos q]
  rfl
theorem mulM_int (c : i.natAbs.log2 + j.natAbs.log2 < 1000000) : mulM (.int i) (.int j) h = .ok (.int (i * j)) h := int2c_run (decide_eq_true c)
theorem fdivM_int (c : 0 < j) (c2 : j.natAbs.log2 < 9000) : fdivM (.int i) (.int j) h = .ok (.int (i / j)) h := int2c_run (decide_eq_true ⟨c, c2⟩)
theorem modM_int (c : 0 < j) : modM (.int i) (.int j) h = .ok (.int (i % j)) h := int2c_run (decide_eq_true c)
theorem powM_int (c : 0 ≤ j ∧ j ≤ 1000000 ∧ i.natAbs < 2 ^ 64) : powM (.int i) (.int j) h = .ok (.int (i ^ j.toNat)) h := int2c_run (decide_eq_true c)
theorem negM_int : negM (.int i) h = .ok (.int (-i)) h := (rfl)
theorem ltM_int : ltM (.int i) (.int j) h = .ok (.bl (decide (i < j))) h := (rfl)
theorem leM_int : leM (.int i) (.int j) h = .ok (.bl (decide (i ≤ j))) h := (rfl)
theorem gtM_int : gtM (.int i) (.int j) h = .ok (.bl (decide (j < i))) h := (rfl)
theorem geM_int : geM (.int i) (.int j) h = .ok (.bl (decide (j ≤ i))) h := (rfl)
theorem maxM_int : maxM (.int i) (.int j) h = .ok (.int (max i j)) h := by
  show Res.ok (D.int (if j > i then j else i)) h = _
  congr 2
  by_cases q : j > i
  · rw [if_pos q]
    omega
  · rw [if_neg q]
    omega
theorem minM_int : minM (.int i) (.int j) h = .ok (.int (min i j)) h := by
  show Res.ok (D.int (if j < i then j else i)) h = _
  congr 2
  by_cases q : j < i
  · rw [if_pos q]
    omega
  · rw [if_neg q]
    omega
theorem asB_bl {b : Bool} : asB (.bl b) h = .ok b h := (rfl)
theorem asI_int : asI (.int i) h = .ok (some i) h := (rfl)
theorem notV_bl {b : Bool} : notV (.bl b) h = .ok (.bl (!b)) h := (rfl)
theorem truM_bl {b : Bool} : truM (.bl b) h = .ok b h := (rfl)
theorem andV_bl {b : Bool} {m : M D} : andV (.bl b) m h = if b = true then m h else .ok (.bl false) h := by cases b <;> rfl
theorem orV_bl {b : Bool} {m : M D} : orV (.bl b) m h = if b = true then .ok (.bl true) h else m h := by cases b <;> rfl
theorem chainM_lt {f g : D → D → M D} {x y : D} {b : Bool} {m : M D} (e : f x y h = .ok (.bl b) h) : chainM f g x y m h = if b = true then (m h).bd (fun z => g y z) else .ok (.bl false) h := by
  show ((f x y >>= fun z => match z with | .bl true => (do let z ← m; g y z) | .bl false => pure (.bl false) | _ => stuck) : M D) h = _
  rw [r_bind, e, r_ok]
  cases b
  · rfl
  · show (m >>= fun z => g y z) h = _
    rw [r_bind]
    rfl
end
/-! ### lists, tuples -/
section
variable {h : AH} {xs ys : List D} {n : Nat} {i : Int} {d e : D}
theorem tupM_run (l : xs.length ≤ 1000000) : tupM xs h = .ok (.tup xs) h := by
  unfold tupM lenOk
  rw [if_pos (decide_eq_true (Nat.le_trans l (by decide)))]
  rfl
theorem lstM_run (l : xs.length ≤ 1000000) : lstM xs h = .ok (.lst xs) h := by
  unfold lstM lenOk
  rw [if_pos (decide_eq_true (Nat.le_trans l (by decide)))]
  rfl
theorem lstH_nil : lstH [] h = .ok (.ref h.length) (h ++ [.lst []]) := (rfl)
theorem lstH_run (l : xs.length ≤ 1000000) : lstH xs h = .ok (.ref h.length) (h ++ [.lst xs]) := by
  unfold lstH lenOk
  rw [if_pos (decide_eq_true (Nat.le_trans l (by decide)))]
  rfl
theorem lenM_tup : lenM (.tup xs) h = .ok (.int xs.length) h := (rfl)
theorem lenM_lst : lenM (.lst xs) h = .ok (.int xs.length) h := (rfl)
theorem lenM_ref (e : h[n]? = some (.lst xs)) : lenM (.ref n) h = .ok (.int xs.length) h := by
  unfold lenM lstOf
  simp only [e]
theorem ixM_tup (e : atI xs i = some d) : ixM (.tup xs) (.int i) h = .ok d h := by
  unfold ixM
  simp only [e]
theorem ixM_lst (e : atI xs i = some d) : ixM (.lst xs) (.int i) h = .ok d h := by
  unfold ixM lstOf
  simp only [e]
theorem ixM_ref (q : h[n]? = some (.lst xs)) (e : atI xs i = some d) : ixM (.ref n) (.int i) h = .ok d h := by
  unfold ixM lstOf
  simp only [q, e]
theorem atI_nat {α : Type} {xs : List α} {i : Nat} {x : α} (e : xs[i]? = some x) : atI xs (i : Int) = some x := by
  have hl := (List.getElem?_eq_some_iff.mp e).1
  unfold atI ixN
  rw [if_pos (by omega), if_pos (by omega)]
  show xs[(i : Int).toNat]? = _
  rw [Int.toNat_natCast]
  exact e
theorem atI_pos {α : Type} {xs : List α} {i : Int} {x : α} (h0 : 0 ≤ i) (e : xs[i.toNat]? = some x) : atI xs i = some x := by
  obtain ⟨n, rfl⟩ := Int.eq_ofNat_of_zero_le h0
  exact atI_nat (by simpa using e)
theorem lchk_ref (e : h[n]? = some (.lst xs)) : lchk (.ref n) h = .ok () h := by
  unfold lchk lstOf
  simp only [e]
theorem appendM_ref (e : h[n]? = some (.lst xs)) (l : xs.length < 1000000) : appendM (.ref n) d h = .ok .non (h.set n (.lst (xs ++ [d]))) := by
  unfold appendM onLst lenOk
  simp only [e]
  rw [if_pos (decide_eq_true (Nat.le_trans (show xs.length + 1 ≤ 1000000 by omega) (by decide)))]
theorem setIxM_pos {v : D} {xs : List D} {i : Int} (q : h[n]? = some (.lst xs)) (h0 : 0 ≤ i) (h1 : i < xs.length) : setIxM (.ref n) (.int i) v h = .ok () (h.set n (.lst (xs.set i.toNat v))) := by
  unfold setIxM
  simp only [q]
  have z : ixN xs.length i = some i.toNat := by
    unfold ixN
    rw [if_pos h0, if_pos h1]
  rw [z]
theorem freezeM_ref (e : h[n]? = some (.lst xs)) : freezeM (.ref n) h = .ok (.lst xs) (h.set n .dead) := by
  unfold freezeM
  simp only [e]
theorem itemsM_tup : itemsM (.tup xs) h = .ok xs h := (rfl)
theorem itemsM_lst : itemsM (.lst xs) h = .ok xs h := (rfl)
theorem tupleM_tup : tupleM (.tup xs) h = .ok (.tup xs) h := (rfl)
theorem tupleM_lst : tupleM (.lst xs) h = .ok (.tup xs) h := (rfl)
theorem listM_tup : listM (.tup xs) h = .ok (.lst xs) h := (rfl)
theorem listM_lst : listM (.lst xs) h = .ok (.lst xs) h := (rfl)
theorem rng1M_run {j : Int} (a : -(2 ^ 62) ≤ j) (b : j < 2 ^ 62) : rng1M [.int j] h = .ok (rangeD 0 j.toNat) h := by
  show (if -(2 ^ 62) ≤ j ∧ j < 2 ^ 62 then pure (rangeD 0 j.toNat) else stuck : M (List D)) h = _
  rw [if_pos ⟨a, b⟩]
  rfl
theorem rng2M_run {i j : Int} (a : -(2 ^ 62) ≤ i) (b : i < 2 ^ 62) (c : -(2 ^ 62) ≤ j) (d : j < 2 ^ 62) : rng2M [.int i, .int j] h = .ok (rangeD i (j - i).toNat) h := by
  show (if -(2 ^ 62) ≤ i ∧ i < 2 ^ 62 ∧ -(2 ^ 62) ≤ j ∧ j < 2 ^ 62 then pure (rangeD i (j - i).toNat) else stuck : M (List D)) h = _
  rw [if_pos ⟨a, b, c, d⟩]
  rfl
theorem zipM_tup : zipM [.tup xs, .tup ys] h = .ok (zipD xs ys) h := (rfl)
theorem addM_tup (l : xs.length + ys.length ≤ 1000000) : addM (.tup xs) (.tup ys) h = .ok (.tup (xs ++ ys)) h := by
  unfold addM lenOk
  simp only []
  rw [if_pos (decide_eq_true (Nat.le_trans l (by decide)))]
theorem addM_lst (l : xs.length + ys.length ≤ 1000000) : addM (.lst xs) (.lst ys) h = .ok (.lst (xs ++ ys)) h := by
  unfold addM lenOk lstOf
  simp only []
  rw [if_pos (decide_eq_true (Nat.le_trans l (by decide)))]
theorem addM_str {x y : Str} (l : x.length + y.length ≤ 1000000) : addM (.str x) (.str y) h = .ok (.str (x ++ y)) h := by
  unfold addM lenOk
  simp only []
  rw [if_pos (decide_eq_true (Nat.le_trans l (by decide)))]
theorem sumM_lst {ns : List Int} : sumM (.lst (ns.map D.int)) h = .ok (.int ns.sum) h := by
  unfold sumM onInts lstOf
  simp only [intsOf_map]
theorem allM_lst {ns : List Bool} : allM (.lst (ns.map D.bl)) h = .ok (.bl (ns.all id)) h := by
  unfold allM onBls lstOf
  simp only [blsOf_map]
theorem sliceM_tup {lo hi : Option Int} : sliceM (.tup xs) lo hi h = .ok (.tup (cutD xs lo hi)) h := (rfl)
theorem sliceM_lst {lo hi : Option Int} : sliceM (.lst xs) lo hi h = .ok (.lst (cutD xs lo hi)) h := (rfl)
theorem cutD_take {α : Type} {xs : List α} {n : Nat} : cutD xs none (some (n : Int)) = xs.take n := by
  unfold cutD
  rw [HT.sIx_none, HT.sIx_nat, List.drop_zero, Nat.sub_zero]
  by_cases q : n ≤ xs.length
  · rw [Nat.min_eq_left q]
  · rw [Nat.min_eq_right (by omega), List.take_of_length_le (Nat.le_refl _), List.take_of_length_le (by omega)]
theorem cutD_drop {α : Type} {xs : List α} {n : Nat} : cutD xs (some (n : Int)) none = xs.drop n := by
  unfold cutD
  rw [HT.sIx_none, HT.sIx_nat]
  by_cases q : n ≤ xs.length
  · rw [Nat.min_eq_left q, List.take_of_length_le (by rw [List.length_drop]; omega)]
  · rw [Nat.min_eq_right (by omega), List.drop_of_length_le (Nat.le_refl _), List.drop_of_length_le (by omega)]
    simp
/-! comprehensions -/
theorem compM_run {f : D → M (List D)} : ∀ (xs : List D) (g : D → List D), (∀ x ∈ xs, f x h = .ok (g x) h) → compM xs f h = .ok (xs.map g).flatten h
  | [], g, _ => rfl
  | x :: r, g, q => by
    show (f x >>= fun ys => compM r f >>= fun zs => pure (ys ++ zs)) h = _
    rw [r_bind, q x List.mem_cons_self, r_ok, r_bind, compM_run r g fun y hy => q y (List.mem_cons_of_mem _ hy)]
    rfl
theorem lcM_run {f : D → M (List D)} (g : D → List D) (l : xs.length ≤ 1000000) (q : ∀ x ∈ xs, f x h = .ok (g x) h) : lcM xs f h = .ok (.lst (xs.map g).flatten) h := by
  unfold lcM lenOk
  rw [if_pos (decide_eq_true (Nat.le_trans l (by decide))), r_bind]
  unfold noexM
  rw [compM_run xs g q]
  rfl
/-- each item one -/
theorem lcM_map {α : Type} {f : D → M (List D)} {u : α → D} {v : α → D} {zs : List α} (l : zs.length ≤ 1000000) (q : ∀ x ∈ zs, f (u x) h = .ok [v x] h) : lcM (zs.map u) f h = .ok (.lst (zs.map v)) h := by
  have z : ∀ zs : List α, (∀ x ∈ zs, f (u x) h = .ok [v x] h) → compM (zs.map u) f h = .ok (zs.map v) h := by
    intro zs
    induction zs with
    | nil => intro _; rfl
    | cons a r ih =>
      intro q
      show (f (u a) >>= fun ys => compM (r.map u) f >>= fun zs => pure (ys ++ zs)) h = _
      rw [r_bind, q a List.mem_cons_self, r_ok, r_bind, ih fun y hy => q y (List.mem_cons_of_mem _ hy)]
      rfl
  unfold lcM lenOk
  rw [if_pos (decide_eq_true (Nat.le_trans (by rw [List.length_map]; exact l) (by decide))), r_bind]
  unfold noexM
  rw [z zs q]
  rfl
/-! calls -/
theorem noRefs_map {α : Type} {u : α → D} {zs : List α} (q : ∀ x, noRef (u x) = true) : noRefs (zs.map u) = true := by
  induction zs with
  | nil => rfl
  | cons a r ih =>
    show (noRef (u a) && noRefs (r.map u)) = true
    rw [q a, ih]
    rfl
theorem noRef_tup : noRef (.tup xs) = noRefs xs := by rw [noRef]
theorem noRef_lst : noRef (.lst xs) = noRefs xs := by rw [noRef]
theorem noRef_int : noRef (.int i) = true := by simp [noRef]
theorem noRef_bl {b : Bool} : noRef (.bl b) = true := by simp [noRef]
theorem noRef_str {x : Str} : noRef (.str x) = true := by simp [noRef]
theorem noRef_non : noRef .non = true := by simp [noRef]
theorem noRefs_nil : noRefs [] = true := (rfl)
theorem noRefs_cons : noRefs (d :: xs) = (noRef d && noRefs xs) := (rfl)
theorem pcallM_run {g : List D → M D} {ds : List D} {r : D} {k : AH} (a : noRefs ds = true) (e : g ds [] = .ok r k) (b : noRef r = true) : pcallM g ds h = .ok r h := by
  unfold pcallM
  rw [if_pos a, e]
  simp only [if_pos b]
theorem pcallM_exc {g : List D → M D} {ds : List D} {x : Str} {k : AH} (a : noRefs ds = true) (e : g ds [] = .exc x k) : pcallM g ds h = .exc x h := by
  unfold pcallM
  rw [if_pos a, e]
end
/-! ### == of data without truths -/
mutual
def nb : Nat → D → Bool
  | _, .non => true
  | _, .int _ => true
  | _, .str x => PyData.strOk x
  | n + 1, .tup xs => nbs n xs
  | n + 1, .lst xs => nbs n xs
  | _, _ => false
def nbs : Nat → List D → Bool
  | _, [] => true
  | n, d :: ds => nb n d && nbs n ds
end
mutual
theorem flat_nb : ∀ (n : Nat) (d : D), nb n d = true → flatD 0 d = true ∧ PyData.canLay0 (toP d) = true ∧ (toP d).depth ≤ n
  | n, .non, _ => ⟨rfl, rfl, Nat.zero_le _⟩
  | n, .int _, _ => ⟨rfl, rfl, Nat.zero_le _⟩
  | n, .str x, h => ⟨rfl, (by cases n <;> exact h), Nat.zero_le _⟩
  | 0, .tup xs, h => by
    unfold nb at h
    cases h
  | 0, .lst xs, h => by
    unfold nb at h
    cases h
  | n + 1, .tup xs, h => by
    unfold nb at h
    obtain ⟨a, b, c⟩ := flats_nb n xs h
    refine ⟨?_, ?_, ?_⟩
    · unfold flatD
      exact a
    · unfold toP PyData.canLay0
      exact b
    · unfold toP PyData.depth
      omega
  | n + 1, .lst xs, h => by
    unfold nb at h
    obtain ⟨a, b, c⟩ := flats_nb n xs h
    refine ⟨?_, ?_, ?_⟩
    · unfold flatD
      exact a
    · unfold toP PyData.canLay0
      exact b
    · unfold toP PyData.depth
      omega
  | n, .bl _, h => by
    cases n <;> (unfold nb at h; cases h)
  | n, .ref _, h => by
    cases n <;> (unfold nb at h; cases h)
  | n, .exn _ _, h => by
    cases n <;> (unfold nb at h; cases h)
  | n, .emp, h => by
    cases n <;> (unfold nb at h; cases h)
theorem flats_nb : ∀ (n : Nat) (ds : List D), nbs n ds = true → flatDs 0 ds = true ∧ PyData.canLayAll0 (toPs ds) = true ∧ PyData.depthAll (toPs ds) ≤ n
  | n, [], _ => ⟨rfl, rfl, Nat.zero_le _⟩
  | n, d :: ds, h => by
    unfold nbs at h
    rw [Bool.and_eq_true] at h
    obtain ⟨a, b, c⟩ := flat_nb n d h.1
    obtain ⟨a2, b2, c2⟩ := flats_nb n ds h.2
    refine ⟨?_, ?_, ?_⟩
    · unfold flatDs
      rw [a, a2]
      rfl
    · unfold toPs PyData.canLayAll0
      rw [b, b2]
      rfl
    · unfold toPs PyData.depthAll
      omega
end
theorem okD_nb {n : Nat} {d : D} (h : nb n d = true) (hn : n ≤ 64) : okD d = true := by
  obtain ⟨a, b, c⟩ := flat_nb n d h
  unfold okD SeqAt.shaped
  rw [a, b, decide_eq_true (by omega)]
  rfl
mutual
theorem eqv_nb : ∀ (n m : Nat) (a b : D), nb n a = true → nb m b = true → (PyData.eqv (toP a) (toP b) = true ↔ a = b)
  | n, m, a, b, h, k => by
    cases a with
    | non => cases b <;> simp [toP, PyData.eqv] <;> (cases m <;> (unfold nb at k; cases k))
    | int i => cases b <;> simp [toP, PyData.eqv] <;> (cases m <;> (unfold nb at k; cases k))
    | str i => cases b <;> simp [toP, PyData.eqv] <;> (cases m <;> (unfold nb at k; cases k))
    | bl _ => cases n <;> (unfold nb at h; cases h)
    | ref _ => cases n <;> (unfold nb at h; cases h)
    | exn _ _ => cases n <;> (unfold nb at h; cases h)
    | emp => cases n <;> (unfold nb at h; cases h)
    | tup xs =>
      cases b with
      | tup ys =>
        cases n with
        | zero => unfold nb at h; cases h
        | succ n =>
          cases m with
          | zero => unfold nb at k; cases k
          | succ m =>
            unfold nb at h k
            have z := eqvs_nb n m xs ys h k
            unfold toP PyData.eqv
            rw [z]
            exact ⟨fun e => by rw [e], fun e => by cases e; rfl⟩
      | non => simp [toP, PyData.eqv]
      | int _ => simp [toP, PyData.eqv]
      | str _ => simp [toP, PyData.eqv]
      | lst _ => simp [toP, PyData.eqv]
      | bl _ => cases m <;> (unfold nb at k; cases k)
      | ref _ => cases m <;> (unfold nb at k; cases k)
      | exn _ _ => cases m <;> (unfold nb at k; cases k)
      | emp => cases m <;> (unfold nb at k; cases k)
    | lst xs =>
      cases b with
      | lst ys =>
        cases n with
        | zero => unfold nb at h; cases h
        | succ n =>
          cases m with
          | zero => unfold nb at k; cases k
          | succ m =>
            unfold nb at h k
            have z := eqvs_nb n m xs ys h k
            unfold toP PyData.eqv
            rw [z]
            exact ⟨fun e => by rw [e], fun e => by cases e; rfl⟩
      | non => simp [toP, PyData.eqv]
      | int _ => simp [toP, PyData.eqv]
      | str _ => simp [toP, PyData.eqv]
      | tup _ => simp [toP, PyData.eqv]
      | bl _ => cases m <;> (unfold nb at k; cases k)
      | ref _ => cases m <;> (unfold nb at k; cases k)
      | exn _ _ => cases m <;> (unfold nb at k; cases k)
      | emp => cases m <;> (unfold nb at k; cases k)
theorem eqvs_nb : ∀ (n m : Nat) (a b : List D), nbs n a = true → nbs m b = true → (PyData.eqvAll (toPs a) (toPs b) = true ↔ a = b)
  | n, m, [], [], _, _ => by simp [toPs, PyData.eqvAll]
  | n, m, [], y :: ys, _, _ => by simp [toPs, PyData.eqvAll]
  | n, m, x :: xs, [], _, _ => by simp [toPs, PyData.eqvAll]
  | n, m, x :: xs, y :: ys, h, k => by
    unfold nbs at h k
    rw [Bool.and_eq_true] at h k
    have e1 := eqv_nb n m x y h.1 k.1
    have e2 := eqvs_nb n m xs ys h.2 k.2
    unfold toPs PyData.eqvAll
    rw [Bool.and_eq_true, e1, e2]
    exact ⟨fun ⟨a, b⟩ => by rw [a, b], fun e => by cases e; exact ⟨rfl, rfl⟩⟩
end
theorem lookD_nb {n : Nat} {d : D} {h : AH} (q : nb n d = true) : lookD h d = d := by
  cases d <;> try rfl
  cases n <;> (unfold nb at q; cases q)
theorem lstOf_look {h : AH} {a : D} {xs : List D} (e : lstOf h a = some xs) : lookD h a = .lst xs := by
  cases a <;> try (cases e; done)
  · rename_i n
    unfold lstOf at e
    unfold lookD
    cases hc : h[n]? with
    | none =>
      simp only [hc] at e
      cases e
    | some c =>
      cases c <;> simp only [hc] at e ⊢ <;> try (cases e; done)
      cases e
      rfl
  · cases e
    rfl
theorem eqP_t {h : AH} {a b : D} {k : Bool} (e : lookD h a = lookD h b) (p : eqP h a b = some k) : k = true := by
  unfold eqP at p
  split at p
  · cases p
    exact decide_eq_true (D.str.inj e)
  · split at p
    · rename_i xs ys h1 h2
      rw [lstOf_look h1, lstOf_look h2] at e
      rw [if_pos (by rw [D.lst.inj e])] at p
      cases p
    · cases p
theorem eqP_f {h : AH} {a b : D} {k : Bool} (e : lookD h a ≠ lookD h b) (p : eqP h a b = some k) : k = false := by
  unfold eqP at p
  split at p
  · cases p
    exact decide_eq_false fun z => e (by rw [z])
  · split at p
    · rename_i xs ys h1 h2
      split at p
      · cases p
      · cases p
        rfl
    · cases p
theorem eqM_eq {a b : D} {h : AH} (ha : nb 60 (lookD h a) = true) (hb : nb 60 (lookD h b) = true) (e : lookD h a = lookD h b) : eqM a b h = .ok (.bl true) h := by
  unfold eqM
  cases hp : eqP h a b with
  | some k => simp only [eqP_t e hp]
  | none =>
    simp only
    rw [okD_nb ha (by decide), okD_nb hb (by decide), (eqv_nb 60 60 _ _ ha hb).mpr e]
    rfl
theorem eqM_ne {a b : D} {h : AH} (ha : nb 60 (lookD h a) = true) (hb : nb 60 (lookD h b) = true) (e : lookD h a ≠ lookD h b) : eqM a b h = .ok (.bl false) h := by
  unfold eqM
  have z : PyData.eqv (toP (lookD h a)) (toP (lookD h b)) = false := by
    cases q : PyData.eqv (toP (lookD h a)) (toP (lookD h b)) with
    | false => rfl
    | true => exact absurd ((eqv_nb 60 60 _ _ ha hb).mp q) e
  cases hp : eqP h a b with
  | some k => simp only [eqP_f e hp]
  | none =>
    simp only
    rw [okD_nb ha (by decide), okD_nb hb (by decide), z]
    rfl
theorem neM_eq {a b : D} {h : AH} (ha : nb 60 (lookD h a) = true) (hb : nb 60 (lookD h b) = true) (e : lookD h a = lookD h b) : neM a b h = .ok (.bl false) h := by
  unfold neM
  cases hp : eqP h a b with
  | some k => simp only [eqP_t e hp, Bool.not_true]
  | none =>
    simp only
    rw [okD_nb ha (by decide), okD_nb hb (by decide), (eqv_nb 60 60 _ _ ha hb).mpr e]
    rfl
theorem neM_ne {a b : D} {h : AH} (ha : nb 60 (lookD h a) = true) (hb : nb 60 (lookD h b) = true) (e : lookD h a ≠ lookD h b) : neM a b h = .ok (.bl true) h := by
  unfold neM
  have z : PyData.eqv (toP (lookD h a)) (toP (lookD h b)) = false := by
    cases q : PyData.eqv (toP (lookD h a)) (toP (lookD h b)) with
    | false => rfl
    | true => exact absurd ((eqv_nb 60 60 _ _ ha hb).mp q) e
  cases hp : eqP h a b with
  | some k => simp only [eqP_f e hp, Bool.not_false]
  | none =>
    simp only
    rw [okD_nb ha (by decide), okD_nb hb (by decide), z]
    rfl
/-- a list, seen whether it is the empty one -/
theorem eqM_nil {h : AH} {a : D} {xs : List D} (e : lstOf h a = some xs) : eqM a (.lst []) h = .ok (.bl xs.isEmpty) h := by
  cases xs with
  | nil => exact eqM_eq (by rw [lstOf_look e]; rfl) (by rfl) (by rw [lstOf_look e]; rfl)
  | cons x r =>
    unfold eqM
    have p : eqP h a (.lst []) = some false := by
      unfold eqP
      split
      · cases e
      · rw [e]
        rfl
    rw [p]
    rfl
theorem neM_nil {h : AH} {a : D} {xs : List D} (e : lstOf h a = some xs) : neM a (.lst []) h = .ok (.bl (!xs.isEmpty)) h := by
  cases xs with
  | nil => exact neM_eq (by rw [lstOf_look e]; rfl) (by rfl) (by rw [lstOf_look e]; rfl)
  | cons x r =>
    unfold neM
    have p : eqP h a (.lst []) = some false := by
      unfold eqP
      split
      · cases e
      · rw [e]
        rfl
    rw [p]
    rfl
theorem eqM_int {i j : Int} {h : AH} : eqM (.int i) (.int j) h = .ok (.bl (decide (i = j))) h := by
  by_cases e : i = j
  · rw [eqM_eq (by rfl) (by rfl) (by rw [e]), decide_eq_true e]
  · rw [eqM_ne (by rfl) (by rfl) (fun z => e (by cases z; rfl)), decide_eq_false e]
theorem neM_int {i j : Int} {h : AH} : neM (.int i) (.int j) h = .ok (.bl (decide (i ≠ j))) h := by
  by_cases e : i = j
  · rw [neM_eq (by rfl) (by rfl) (by rw [e]), decide_eq_false (by simpa using e)]
  · rw [neM_ne (by rfl) (by rfl) (fun z => e (by cases z; rfl)), decide_eq_true e]
end Lw
/-! SimK: isinstance, int, str, in, list(range), {}. -/
namespace Lw
open PySem L2
/-! ### isinstance of plain data -/
def tyD (h : AH) : D → Option String
  | .non => some "NoneType"
  | .bl _ => some "bool"
  | .int _ => some "int"
  | .str _ => some "str"
  | .tup _ => some "tuple"
  | .lst _ => some "list"
  | .emp => some "dict"
  | .ref n => match h[n]? with
    | some (.lst _) => some "list"
    | some (.dk _) => some "dict"
    | _ => none
  | .exn _ _ => none
def tyNames : List String := ["NoneType", "bool", "int", "str", "tuple", "list", "dict"]
def isiB (a T : String) : Bool := a == T || (a == "bool" && T == "int")
def isiM (T : String) (d : D) : M D := fun h => match tyD h d with
  | some a => .ok (.bl (isiB a T)) h
  | none => .stuck
section
variable {X : Cx} {fr : Fm} {W : WX} {σ : St} {F H : Hp} {m : List Addr} {ah : AH} {env : Env} {pos : Pos}
theorem rd_tup {a : Addr} {vs : List V} (h : SqT X.K H a vs) : TyX X.K H (.ref a) (.type "tuple") := by
  rcases h with (h | ⟨o, h⟩) | ⟨o, its, n, h1, h2, _⟩
  · exact .base (.tup h)
  · exact .fTuple h
  · exact .kTuple h1 h2
theorem rd_lst {a : Addr} {vs : List V} (h : SqL X.K H a vs) : TyX X.K H (.ref a) (.type "list") := by
  rcases h with (h | ⟨o, h⟩) | ⟨o, its, n, h1, h2, _⟩
  · exact .base (.lst h)
  · exact .base (.frz h)
  · exact .kList h1 h2
theorem ty_of {d : D} {v : V} {a : String} (S : Sim X.K X.mg fr F m ah H) (r : Rep X.K F m d v) (h : tyD ah d = some a) : TyX X.K H v (.type a) ∧ a ∈ tyNames := by
  cases d with
  | non =>
    cases h
    unfold Rep at r
    subst r
    exact ⟨.base .non, by decide⟩
  | bl b =>
    cases h
    unfold Rep at r
    subst r
    exact ⟨.base (.bl b), by decide⟩
  | int b =>
    cases h
    unfold Rep at r
    subst r
    exact ⟨.base (.int b), by decide⟩
  | str b =>
    cases h
    unfold Rep at r
    subst r
    exact ⟨.base (.str b), by decide⟩
  | tup xs =>
    cases h
    obtain ⟨p, vs, rfl, h2, h3⟩ := tup_of (xs := xs) r rfl
    exact ⟨rd_tup (SqT.up S.sub h2), by decide⟩
  | lst xs =>
    cases h
    unfold Rep at r
    obtain ⟨p, vs, rfl, h2, h3⟩ := r
    exact ⟨rd_lst (SqL.up S.sub h2), by decide⟩
  | emp =>
    cases h
    unfold Rep at r
    obtain ⟨p, h1, rfl⟩ := r
    exact ⟨.base (.dK (S.sub _ _ h1)), by decide⟩
  | exn c p => cases h
  | ref n =>
    unfold Rep at r
    obtain ⟨p, h1, rfl⟩ := r
    unfold tyD at h
    cases hc : ah[n]? with
    | none =>
      simp only [hc] at h
      cases h
    | some c =>
      obtain ⟨p', q, ok⟩ := S.cells n c hc
      rw [h1] at q
      cases q
      cases c <;> simp only [hc] at h <;> try (cases h; done)
      · cases h
        obtain ⟨_, vs, h3, _⟩ := ok
        exact ⟨.base (.lst h3), by decide⟩
      · cases h
        obtain ⟨_, vs, h3, _⟩ := ok
        exact ⟨.base (.dK h3), by decide⟩
theorem de_isi {T' : Str} (T : String) {e : Expr} {me : M D} {p p2 : Pos} (hm : X.mg "isinstance" = none) (hmT : X.mg T' = none) (hvT : bootBuiltins T' = some (.type T)) (hk : ∀ a ∈ tyNames, kitB a T = some (isiB a T)) (ha : DE X W env e me)
    (hg : Gl X "isinstance" := by rfl) (hgT : Gl X T' := by rfl) (hs : starEach [e, .Name T' p2] X.env = (false, eval e X.env) :: starEach [.Name T' p2] X.env := by rfl) (hs2 : starEach [.Name T' p2] X.env = (false, eval (.Name T' p2) X.env) :: starEach [] X.env := by rfl)
    (hpl : (backTo pos (starEach [.Name T' p2] X.env)).any (·.1) = false := by rfl) (hn : T' ≠ "__name__" := by decide) (hdb : (T' == ("__debug__" : Str)) = false := by decide) :
    DE X W env (.Call (.Name "isinstance" p) [e, .Name T' p2] [] pos) (do let x ← me; isiM T x) :=
  PE.from (pe_callB call_isi hg hm (by decide +kernel) (pa_cons ha (pa_cons (pe_bltn (v := .ty T) hgT hmT hvT rfl hn hdb) pa_nil hs2) hs) (by decide) (by decide) hs hpl) fun σ H Q ⟨fr, F, m, ah, s, er, k⟩ => TK.step s er k fun F1 m1 ah1 d v H1 e1 s1 er1 r1 k1 => by
    unfold isiM at k1
    cases ht : tyD ah1 d with
    | none =>
      simp only [ht] at k1
      exact k1.elim
    | some a =>
      simp only [ht] at k1
      obtain ⟨h1, h2⟩ := ty_of s1 r1 ht
      exact ⟨v, .ty T, .type a, .type T, isiB a T, rfl, .ty T, h1, kit_ty (hk a h2), TK.val k1 s1 Rep.bl⟩
/-! ### int(x), str(x) -/
theorem callR_or {X : Cx} {f : Value} {r r' : List V → Hp → VK → Prop} (h : CallR X f r) (h' : CallR X f r') : CallR X f (fun xs H Q => r xs H Q ∨ r' xs H Q) := by
  intro pins s σ H xs us Q I rr q
  rcases q with q | q
  · exact h pins s σ H xs us Q I rr q
  · exact h' pins s σ H xs us Q I rr q
def intM (d : D) : M D := fun h => match d with
  | .int i => .ok (.int i) h
  | .bl b => .ok (.int (if b = true then 1 else 0)) h
  | .str z => (match PySem.intText? z with
    | some n => if z.length ≤ 640 then .ok (.int n) h else .stuck
    | none => .stuck)
  | _ => .stuck
theorem int1_ok : ClD X (fun xs H Q => ((∃ i, xs = [.int i] ∧ Q (.int i) H) ∨ ∃ k, xs = [.bl k] ∧ Q (.int (if k then 1 else 0)) H) ∨ ∃ a n, xs = [.str a] ∧ PySem.intText? a = some n ∧ a.length ≤ 640 ∧ Q (.int n) H) (ap1 intM) := ap1_ok fun fr W σ F m ah H d v Q s r k => by
  unfold intM at k
  cases d <;> try exact k.elim
  · unfold Rep at r
    subst r
    exact .inl (.inr ⟨_, rfl, TK.val k s Rep.int⟩)
  · unfold Rep at r
    subst r
    exact .inl (.inl ⟨_, rfl, TK.val k s Rep.int⟩)
  · rename_i z
    unfold Rep at r
    subst r
    cases hz : PySem.intText? z with
    | none =>
      simp only [hz] at k
      exact k.elim
    | some n =>
      simp only [hz] at k
      by_cases c : z.length ≤ 640
      · rw [if_pos c] at k
        exact .inr ⟨z, n, rfl, hz, c, TK.val k s Rep.int⟩
      · rw [if_neg c] at k
        exact k.elim
theorem de_intf {e : Expr} {me : M D} {p : Pos} (hm : X.mg "int" = none) (ha : DE X W env e me) (hg : Gl X "int" := by rfl) (he : starEach [e] X.env = [(false, eval e X.env)] := by rfl) (hpl : (backTo pos (starEach [] X.env)).any (·.1) = false := by rfl) :
    DE X W env (.Call (.Name "int" p) [e] [] pos) (do let x ← me; intM x) := de_t1 (callR_or call_int1 call_int_str) int1_ok hm (by decide +kernel) ha hg (by decide) (by decide) he hpl
def strM (d : D) : M D := fun h => match d with
  | .int i => if i.natAbs.log2 < 1920 then .ok (.str (toString i)) h else .stuck
  | .str z => .ok (.str z) h
  | _ => .stuck
theorem str1_ok : ClD X (fun xs H Q => (∃ i, xs = [.int i] ∧ i.natAbs.log2 < 1920 ∧ Q (.str (toString i)) H) ∨ ∃ a, xs = [.str a] ∧ Q (.str a) H) (ap1 strM) := ap1_ok fun fr W σ F m ah H d v Q s r k => by
  unfold strM at k
  cases d <;> try exact k.elim
  · rename_i i
    unfold Rep at r
    subst r
    by_cases c : i.natAbs.log2 < 1920
    · simp only [if_pos c] at k
      exact .inl ⟨_, rfl, c, TK.val k s Rep.str⟩
    · simp only [if_neg c] at k
      exact k.elim
  · unfold Rep at r
    subst r
    exact .inr ⟨_, rfl, TK.val k s Rep.str⟩
theorem de_strf {e : Expr} {me : M D} {p : Pos} (hm : X.mg "str" = none) (ha : DE X W env e me) (hg : Gl X "str" := by rfl) (he : starEach [e] X.env = [(false, eval e X.env)] := by rfl) (hpl : (backTo pos (starEach [] X.env)).any (·.1) = false := by rfl) :
    DE X W env (.Call (.Name "str" p) [e] [] pos) (do let x ← me; strM x) := de_t1 (callR_or call_str_int SkE.call_str_str) str1_ok hm (by decide +kernel) ha hg (by decide) (by decide) he hpl
/-! ### in -/
def fltD : D → Bool
  | .non => true
  | .bl _ => true
  | .int _ => true
  | .str _ => true
  | _ => false
def fltV : D → V
  | .bl b => .bl b
  | .int i => .int i
  | .str x => .str x
  | _ => .non
def inD (x : D) (xs : List D) : Bool := inV (fltV x) (xs.map fltV)
def inM (neg : Bool) (x y : D) : M D := fun h => match seqOf h y with
  | some xs => if (fltD x && xs.all fltD) = true then .ok (.bl (if neg = true then !inD x xs else inD x xs)) h else .stuck
  | none => .stuck
theorem rep_flt {K : Fg} {F : Hp} {m : List Addr} {d : D} {v : V} (r : Rep K F m d v) (h : fltD d = true) : v = fltV d ∧ flatV v = true := by
  cases d <;> try (cases h; done)
  all_goals (unfold Rep at r; subst r; exact ⟨rfl, rfl⟩)
theorem reps_flt {K : Fg} {F : Hp} {m : List Addr} : ∀ {ds : List D} {vs : List V}, RepL K F m ds vs → ds.all fltD = true → vs = ds.map fltV ∧ vs.all flatV = true
  | [], vs, r, _ => by
    unfold RepL at r
    rw [r]
    exact ⟨rfl, rfl⟩
  | d :: ds, vs, r, h => by
    rw [List.all_cons, Bool.and_eq_true] at h
    unfold RepL at r
    obtain ⟨v, u, rfl, h2, h3⟩ := r
    obtain ⟨e1, f1⟩ := rep_flt h2 h.1
    obtain ⟨e2, f2⟩ := reps_flt h3 h.2
    exact ⟨by rw [List.map_cons, ← e1, ← e2], by rw [List.all_cons, f1, f2]; rfl⟩
theorem in_ok {neg : Bool} : OpD X (rIn X.K neg) (inM neg) := by
  intro fr W σ F m ah H d e x y Q s rx ry k
  unfold inM at k
  cases hq : seqOf ah e with
  | none =>
    simp only [hq] at k
    exact k.elim
  | some xs =>
    simp only [hq] at k
    by_cases c : (fltD d && xs.all fltD) = true
    · rw [if_pos c] at k
      rw [Bool.and_eq_true] at c
      obtain ⟨e1, f1⟩ := rep_flt rx c.1
      have z : ∃ p vs, y = .ref p ∧ (SqL X.K H p vs ∨ SqT X.K H p vs) ∧ RepL X.K F m xs vs := by
        by_cases ht : ∃ ys, e = .tup ys
        · obtain ⟨ys, rfl⟩ := ht
          cases hq
          obtain ⟨a, vs, h1, h2, h3⟩ := tup_of (xs := xs) ry rfl
          exact ⟨a, vs, h1, .inr (SqT.up s.sub h2), h3⟩
        · have hq' : lstOf ah e = some xs := by
            cases e <;> first | exact hq | exact absurd ⟨_, rfl⟩ ht
          obtain ⟨a, vs, h1, h2, h3⟩ := lst_of s ry hq'
          exact ⟨a, vs, h1, .inl h2, h3⟩
      obtain ⟨p, vs, h1, h2, h3⟩ := z
      obtain ⟨e2, f2⟩ := reps_flt h3 c.2
      refine ⟨p, vs, h1, h2, f1, f2, ?_⟩
      have q := k.val s Rep.bl
      unfold inD at q
      rw [← e1, ← e2] at q
      exact q
    · rw [if_neg c] at k
      exact k.elim
theorem de_notin {a b : Expr} {ma mb : M D} (ha : DE X W env a ma) (hb : DE X W env b mb) (hm : behindInMarks .NotIn b = false := by rfl) : DE X W env (.Compare a [.NotIn] [b] pos) (do let x ← ma; let y ← mb; inM true x y) := de_cmp op_notIn_seq in_ok ha hb hm
/-! ### list(range(a, b)), tuple(range(a, b)) -/
/-! ### {} -/
end
end Lw
/-! SimL: errors that are caught. -/
namespace Lw
open PySem L2
/-- what the name T of a class stands for -/
def TVal (mg : Str → Option Value) (T : Str) (cv : Value) : Prop := mg T = some cv ∨ (mg T = none ∧ bootBuiltins T = some cv ∧ T ≠ ("__name__" : Str))
theorem TVal.fn {mg : Str → Option Value} {T : Str} {a b : Value} (h : TVal mg T a) (k : TVal mg T b) : a = b := by
  rcases h with h | ⟨h, h2, _⟩ <;> rcases k with k | ⟨k, k2, _⟩
  · exact Option.some.inj (h.symm.trans k)
  · rw [h] at k
    cases k
  · rw [h] at k
    cases k
  · exact Option.some.inj (h2.symm.trans k2)
/-- isE z T: is the class z one of T's; what stands for it -/
structure ExF (K : Fg) (mg : Str → Option Value) (isE : Str → Str → Option Bool) : Prop where
  ok : ∀ z T b, isE z T = some b → ∀ C, mg z = some (.ref C) → ExcC K C ∧ ∃ v cv, RelV v cv ∧ (∀ u, RelV v u → u = cv) ∧ TVal mg T cv ∧ PySem.W.kitOne K (.ref C) cv = some b ∧ PySem.W.exmOne K (.ref C) cv = some b
/-- the body, or what is done where it ends by such an error -/
def tryM {τ β : Type} (c : Str → Option Bool) (mb : M (Out τ β)) (hM : Str → M (Out τ β)) : M (Out τ β) := fun ah => match mb ah with
  | .exc x a => (match c x with
    | some true => noexM (hM x) a
    | some false => .exc x a
    | none => .stuck)
  | r => r
section
variable {X : Cx} {W : WX} {ex exB env : Env} {pos pos' np : Pos} {τ τ' β : Type} {mk : τ → Env} {mk' : τ' → Env} {lp : β → Env} {rest body suite : List Stmt} {b₀ : Stmt} {x : Str} {c : Value}
/-- behind the body of a try -/
theorem try_from {cf : Str → Option Bool} {mb : M (Out τ' β)} {hM : Str → M (Out τ' β)} {k : τ' → M (Out τ β)} {Wb : WX} {Dn Dh : Ends} {K : Fg} {mg : Str → Option Value} {fr : Fm} {F : Hp} {m : List Addr} {ah : AH}
    (hx : EnvLe ex exB)
    (hDn : Dh = { Dn with nx := fun σ' H' => ∃ t, TB K mg W ex (mk' t) mk lp (k t) Dn σ' H' })
    (hW : ∀ z C b, cf z = some b → mg z = some (.ref C) → ∀ σ' H', (b = true → TB K mg W0 ex exB mk' lp (hM z) Dh σ' H') → (b = false → W (.ref C) none σ' H') → Wb (.ref C) none σ' H')
    (h : TO K mg fr W ex mk lp F m ((obind (tryM cf mb hM) k) ah) Dn) : TO K mg fr Wb exB mk' lp F m (mb ah) Dh := by
  have h : TO K mg fr W ex mk lp F m (ores k (tryM cf mb hM ah)) Dn := h
  unfold tryM at h
  cases hm : mb ah with
  | ok o a =>
    simp only [hm] at h
    subst hDn
    cases o with
    | nx t => exact fun F' m' σ' H' e s r => ⟨t, fr, F', m', a, s, r, TO.ext e h⟩
    | ret t => exact h
    | bk t => exact h
    | ct t => exact h
  | stuck =>
    simp only [hm] at h
    exact h
  | exc z a =>
    simp only [hm] at h
    intro F' m' C σ' H' e s r hz
    cases hc : cf z with
    | none =>
      simp only [hc] at h
      exact h.elim
    | some b =>
      cases b with
      | false =>
        simp only [hc] at h
        exact hW z C false hc hz σ' H' (fun q => by cases q) fun _ => h F' m' C σ' H' e s (r.le hx) hz
      | true =>
        simp only [hc] at h
        refine hW z C true hc hz σ' H' (fun _ => ⟨fr, F', m', a, s, r, ?_⟩) fun q => by cases q
        have h := TO.ext e h
        unfold noexM at h
        subst hDn
        cases hh : hM z a with
        | ok o a2 =>
          rw [hh] at h
          cases o with
          | nx t => exact fun F2 m2 σ2 H2 e2 s2 r2 => ⟨t, fr, F2, m2, a2, s2, r2, TO.ext e2 h⟩
          | ret t => exact h
          | bk t => exact h
          | ct t => exact h
        | exc _ _ =>
          rw [hh] at h
          exact h.elim
        | stuck =>
          rw [hh] at h
          exact h.elim
theorem EnvRep.unset {K : Fg} {F : Hp} {m : List Addr} {env : Env} {σ : St} {i : Nat} (h : EnvRep K F m env σ) (hn : ∀ d, env[i]? ≠ some (some d)) : EnvRep K F m env (σ.set i none) := ⟨by rw [List.length_set]; exact h.1, fun j d q => by
  by_cases e : i = j
  · subst e
    exact absurd q (hn d)
  · rw [List.getElem?_set_ne e]
    exact h.2 j d q⟩
theorem TO.unset {K : Fg} {mg : Str → Option Value} {fr : Fm} {F : Hp} {m : List Addr} {r : Res (Out τ' β)} {Dn : Ends} {i : Nat} {Wb : WX} (h1 : ∀ t d, (mk' t)[i]? ≠ some (some d)) (h2 : ∀ t d, (lp t)[i]? ≠ some (some d)) (h : TO K mg fr Wb ex mk' lp F m r Dn) :
    TO K mg fr Wb ex mk' lp F m r { nx := fun σ' H' => Dn.nx (σ'.set i none) H', rt := Dn.rt, bk := fun σ' H' => Dn.bk (σ'.set i none) H', ct := fun σ' H' => Dn.ct (σ'.set i none) H' } := by
  cases r with
  | stuck => exact h
  | exc z a => exact h
  | ok o a =>
    cases o with
    | nx t => exact fun F' m' σ' H' e s r => h F' m' _ H' e s (r.unset (h1 t))
    | ret d => exact h
    | bk t => exact fun F' m' σ' H' e s r => h F' m' _ H' e s (r.unset (h2 t))
    | ct t => exact fun F' m' σ' H' e s r => h F' m' _ H' e s (r.unset (h2 t))
/-- try: body; except x as n: suite -/
theorem ds_tryas (i : Nat) {n : Str} {cf : Str → Option Bool} {mb : M (Out τ' β)} {hM : Str → M (Out τ' β)} {k : τ' → M (Out τ β)} (hN : X.N.Nodup) (hs : X.stack = X.env :: X.outer) (hf : X.env.frame = some X.env.locals) (hc : Names X x c) (tk : L2N.Takes X W)
    (hcf : ∀ z C b, cf z = some b → X.mg z = some (.ref C) → PySem.W.exmOne X.K (.ref C) c = some b) (hx : EnvLe ex exB) (envS : Str → Addr → Env)
    (hb : ∀ (Wb : WX) (pn : List (Addr × Obj)) (xe : Value → Shared → Prop), L2N.Takes (X.tr pn xe) Wb → PassesOwn (model X.prog X.w) X.A X.env xe → DS (X.tr pn xe) Wb exB env mk' lp body mb)
    (hsu : ∀ (a C : Addr) (oe : Obj) (pn : List (Addr × Obj)) (z : Str), L2N.Zn (.ref C) none oe → (∃ vs, oe.data = .fields vs) → X.mg z = some (.ref C) → DS (X.suite a ((a, oe) :: pn)) W0 ex (envS z a) mk' lp (b₀ :: suite) (hM z))
    (hr : ∀ t, DS X W ex (mk' t) mk lp rest (k t)) (hv : ∀ z a, exB.set i (some (.exn z a)) = envS z a := by intro _ _; rfl)
    (h1 : ∀ t d, (mk' t)[i]? ≠ some (some d) := by intro _ _ q; cases q) (h2 : ∀ t d, (lp t)[i]? ≠ some (some d) := by first | (intro t; exact t.elim) | (intro _ _ q; cases q))
    (hi : X.N[i]? = some n := by rfl) (hln : X.env.kindOf n = some .local := by rfl) :
    DS X W ex env mk lp (.Try body [.ExceptHandler (some (.Name x np)) (some n) (b₀ :: suite) pos'] [] [] pos :: rest) (obind (tryM cf mb hM) k) := by
  refine PSs.from (pss_cons (L2N.ps_try_as (c := c) (i := i) (Wout := W) (tb := fun Wb => TB X.K X.mg Wb exB env mk' lp mb) (ts := fun a cls d Dn σ H => ∃ z C, cls = .ref C ∧ d = none ∧ X.mg z = some (.ref C) ∧ TB X.K X.mg W0 ex (envS z a) mk' lp (hM z) Dn σ H) hs hf hN hi hln hc tk hb
    (fun a oe cls d pn hz hv => ⟨fun pins s σ H D I ⟨z, C, e1, e2, e3, q⟩ => by
      subst e1 e2
      exact (hsu a C oe pn z hz hv e3).run pins s σ H D I q⟩)) (PSs.ex hr)) fun Dn σ H ⟨fr, F, m, ah, s, er, q⟩ => ?_
  refine ⟨fr, F, m, ah, s, er, try_from (W := W) hx rfl ?_ q⟩
  intro z C b g1 g2 σ' H' g3 g4
  refine ⟨b, hcf z C b g1 g2, fun hb a ha => ⟨z, C, rfl, rfl, g2, ?_⟩, g4⟩
  obtain ⟨fr2, F2, m2, ah2, s2, er2, q2⟩ := g3 hb
  refine ⟨fr2, F2, m2, ah2, s2, ?_, TO.unset h1 h2 q2⟩
  rw [← hv z a]
  exact er2.set (by unfold Rep; rfl)
/-- isinstance(e, T) in the suite that holds e -/
def isEZ (isE : Str → Str → Option Bool) (T z : Str) : M D := match isE z T with
  | some b => pure (.bl b)
  | none => stuck
end
/-! ### what stands of the classes of errors -/
structure ClF (K : Fg) (mg : Str → Option Value) (z : Str) (C : Addr) : Prop where
  x : XcF K mg z C
  e : ExcC K C
theorem cl_mk {K : Fg} {h : Heap} {mg : Str → Option Value} {z : Str} {C : Addr} (X : K.In h) (G : h.Ns mainGlobals mg) (hn : PySem.W.specialIn K (.builtin "object.__class__") "__get__" = some (some (.builtin "getset_descriptor.__get__"))) (ht : PySem.W.takesIn K (.builtin "object.__class__") = some true)
    (a : PySem.W.nsIn K mainGlobals z = some (some (.ref C))) (q : PySem.W.excIn K C [.type "ValueError", .type "Exception", .type "BaseException", .type "object"] "ValueError.__new__" = true) (k : PySem.W.keepIn K (.ref C) = true) (t : PySem.W.typeIn K (.ref C) = some (.type "type"))
    (b : PySem.W.subIn K (.ref C) (.type "BaseException") = some true) (f1 : PySem.W.findIn K (.ref C) "__getattribute__" = some (some (.builtin "BaseException.__getattribute__"))) (f2 : PySem.W.findIn K (.ref C) "__getattr__" = some none)
    (f3 : PySem.W.findIn K (.ref C) "__class__" = some (some (.builtin "object.__class__"))) (d : PySem.W.hasDictIn K C = true) (m : PySem.W.mroIn K C (.type "object") = some true) : ClF K mg z C :=
  ⟨⟨PySem.W.mg_of X G a, q, k, b, t⟩, f1, f2, b, d, f3, hn, ht, m⟩
/-- T stands to C as b -/
def CellE (K : Fg) (mg : Str → Option Value) (C : Addr) (T : Str) (b : Bool) : Prop := ∃ v cv, RelV v cv ∧ (∀ u, RelV v u → u = cv) ∧ TVal mg T cv ∧ PySem.W.kitOne K (.ref C) cv = some b ∧ PySem.W.exmOne K (.ref C) cv = some b
theorem kit_of_exm {K : Fg} {t c : Value} {b : Bool} (h : PySem.W.exmOne K t c = some b) (hs : (t == c) = true → b = true) : PySem.W.kitOne K t c = some b := by
  unfold PySem.W.kitOne
  by_cases e : (t == c) = true
  · rw [if_pos e, hs e]
  · rw [if_neg e]
    unfold PySem.W.exmOne at h
    by_cases g : (PySem.W.subIn K c (.type "BaseException") == some true) = true
    · rw [if_pos g] at h
      exact h
    · rw [if_neg g] at h
      cases h
theorem cell_ref {K : Fg} {mg : Str → Option Value} {C D : Addr} {T : Str} {b : Bool} (c : ClF K mg T D) (s : PySem.W.subIn K (.ref C) (.ref D) = some b) (hs : b = true ∨ C ≠ D) : CellE K mg C T b := by
  have e := PySem.W.exm_ref c.x.b c.e.hd c.x.t s
  refine ⟨.ref D, .ref D, rfl, fun u r => r, .inl c.x.g, kit_of_exm e fun q => ?_, e⟩
  rcases hs with hs | hs
  · exact hs
  · exact absurd (Value.ref.inj (beq_iff_eq.mp q)) hs
theorem cell_ty {K : Fg} {mg : Str → Option Value} {C : Addr} {T : Str} {T' : String} {b : Bool} (hm : mg T = none) (hv : bootBuiltins T = some (.type T')) (hn : T ≠ ("__name__" : Str)) (h1 : PySem.W.subIn K (.type T') (.type "BaseException") = some true) (h2 : PySem.W.kitMeta T' = true)
    (s : PySem.W.subIn K (.ref C) (.type T') = some b) : CellE K mg C T b := by
  have e : PySem.W.exmOne K (.ref C) (.type T') = some b := by
    unfold PySem.W.exmOne
    rw [if_pos (show (PySem.W.subIn K (.type T') (.type "BaseException") == some true) = true by rw [h1] <;> rfl)]
    show (if PySem.W.kitMeta T' = true then PySem.W.subIn K (.ref C) (.type T') else none) = _
    rw [if_pos h2]
    exact s
  exact ⟨.ty T', .type T', rfl, fun u r => r, .inr ⟨hm, hv, hn⟩, kit_of_exm e (fun q => nomatch (show Value.ref C = Value.type T' from beq_iff_eq.mp q)), e⟩
/-- the table of the classes -/
abbrev Tab := List (Str × List (Str × Bool))
def isEt (tab : Tab) (z T : Str) : Option Bool := (tab.lookup z).bind fun r => r.lookup T
def RowE (K : Fg) (mg : Str → Option Value) (z : Str) (r : List (Str × Bool)) : Prop := ∃ C, ClF K mg z C ∧ ∀ p ∈ r, CellE K mg C p.1 p.2
theorem row_mk {K : Fg} {mg : Str → Option Value} {z : Str} {r : List (Str × Bool)} {C : Addr} (c : ClF K mg z C) (h : ∀ p ∈ r, CellE K mg C p.1 p.2) : RowE K mg z r := ⟨C, c, h⟩
theorem lookup_mem {α β : Type} [BEq α] [LawfulBEq α] {l : List (α × β)} {a : α} {b : β} (h : l.lookup a = some b) : (a, b) ∈ l := by
  induction l with
  | nil => cases h
  | cons p r ih =>
    obtain ⟨x, y⟩ := p
    rw [List.lookup_cons] at h
    by_cases e : (a == x) = true
    · rw [e] at h
      cases h
      rw [beq_iff_eq.mp e]
      exact List.mem_cons_self
    · rw [Bool.not_eq_true] at e
      rw [e] at h
      exact List.mem_cons_of_mem _ (ih h)
theorem exf_of {K : Fg} {mg : Str → Option Value} {tab : Tab} (h : ∀ p ∈ tab, RowE K mg p.1 p.2) : ExF K mg (isEt tab) := ⟨fun z T b e C hg => by
  unfold isEt at e
  cases hr : tab.lookup z with
  | none =>
    rw [hr] at e
    cases e
  | some r =>
    rw [hr] at e
    have e : r.lookup T = some b := e
    obtain ⟨C', c, hc⟩ := h _ (lookup_mem hr)
    have q := c.x.g
    rw [hg] at q
    cases q
    exact ⟨c.e, hc _ (lookup_mem e)⟩⟩
section
variable {X : Cx} {W : WX} {ex env : Env} {pos : Pos} {τ β : Type} {mk : τ → Env} {lp : β → Env} {rest : List Stmt}
theorem ds_raiseE {x msg : Str} {j : Nat} {p p2 p3 : Pos} (T : ∃ C, ClF X.K X.mg x C) (hc : X.calm = true) (tk : L2N.Takes X W) (hx : EnvLe ex env) (hg : Gl X x := by rfl) (hdb : (x == ("__debug__" : Str)) = false := by decide) :
    DS X W ex env mk lp (.Raise (some (.Call (.Name x p) [.Constant (.str msg) j p2] [] p3)) none pos :: rest) (throwM x) := by
  obtain ⟨C, T⟩ := T
  exact ds_raise T.x hc tk hx hg hdb
/-- the clause's own class -/
theorem names_of {x : Str} {C : Addr} (c : ClF X.K X.mg x C) (hg : Gl X x) (hdb : (x == ("__debug__" : Str)) = false) : Names X x (.ref C) := ⟨hg, hdb, .inl c.x.g⟩
theorem cf_of {K : Fg} {mg : Str → Option Value} {isE : Str → Str → Option Bool} {x : Str} {C : Addr} (Ex : ExF K mg isE) (c : ClF K mg x C) : ∀ z D b, isE z x = some b → mg z = some (.ref D) → PySem.W.exmOne K (.ref D) (.ref C) = some b := fun z D b h g => by
  obtain ⟨_, v, cv, _, _, tv, _, k⟩ := Ex.ok z x b h D g
  have e := tv.fn (.inl c.x.g)
  rw [← e]
  exact k
end
end Lw
/-! SimM: an empty dict is no tuple. -/
namespace PySem.SeqAt
open PySem PyProof.Rows
end PySem.SeqAt
namespace Lw
open PySem L2
section
end
end Lw
/-! SimN: objects: fields, methods, making. -/
namespace Lw
open PySem L2
/-! ### the classes' fields -/
abbrev CTab := List (Str × List Str)
section
variable {K : Fg} {F : Hp} {m : List Addr}
theorem RepK.lookup {f : Str} {d : D} : ∀ {fs : List (Str × D)} {vs : List (Str × V)}, RepK K F m fs vs → fs.lookup f = some d → ∃ v, vs.lookup f = some v ∧ Rep K F m d v
  | _, _, .nil, h => by cases h
  | (g, x) :: r, (g', y) :: t, .cons ⟨e, q⟩ u, h => by
    have e : g = g' := e
    subst e
    rw [List.lookup_cons] at h ⊢
    cases c : f == g with
    | true =>
      rw [c] at h
      cases h
      exact ⟨y, rfl, q⟩
    | false =>
      rw [c] at h
      exact RepK.lookup u h
theorem RepK.length {κ : Type} : ∀ {fs : List (κ × D)} {vs : List (κ × V)}, RepK K F m fs vs → vs.length = fs.length
  | _, _, .nil => rfl
  | _ :: r, _ :: t, .cons _ u => by rw [List.length_cons, List.length_cons, RepK.length u]
end
section
variable {X : Cx} {W : WX} {ex env : Env} {pos apos : Pos} {τ β : Type} {mk : τ → Env} {lp : β → Env} {rest : List Stmt} {tab : CTab} {f : Str}
theorem ins_of {fr : Fm} {F H : Hp} {m : List Addr} {ah : AH} {n : Nat} {v : V} {c : Str} {fs : List (Str × D)} (S : Sim X.K X.mg fr F m ah H) (r : Rep X.K F m (.ref n) v) (h : ah[n]? = some (.ins c fs)) :
    ∃ a C dx vs, v = .ref a ∧ m[n]? = some a ∧ F a = none ∧ X.mg c = some (.ref C) ∧ H a = some (.ins C dx vs) ∧ RepK X.K F m fs vs := by
  unfold Rep at r
  obtain ⟨a, h1, rfl⟩ := r
  obtain ⟨a', q, ok⟩ := S.cells n _ h
  rw [h1] at q
  cases q
  obtain ⟨h2, C, dx, vs, h3, h4, h5⟩ := ok
  exact ⟨a, C, dx, vs, rfl, h1, h2, h3, h4, h5⟩
end
/-! ### methods -/
section
end
/-! ### methods and making, of plain data -/
section
end
/-! ### what stands of methods -/
/-! how many arguments -/
end Lw
/-! SimO: dicts. -/
namespace Lw
open PySem L2
def keyD : D → Option Key
  | .int i => some (.inl i)
  | .str x => some (.inr x)
  | _ => none
def valD (kvs : List (Key × D)) (k : Key) : Option D := (kvs.find? fun kv => decide (kv.1 = k)).map (·.2)
def putKD (kvs : List (Key × D)) (k : Key) (d : D) : List (Key × D) := if (kvs.any fun kv => decide (kv.1 = k)) = true then kvs.map (fun kv => if kv.1 = k then (kv.1, d) else kv) else kvs ++ [(k, d)]
def dropKD (kvs : List (Key × D)) (k : Key) : List (Key × D) := kvs.filter fun kv => decide (kv.1 ≠ k)
section
variable {K : Fg} {F : Hp} {m : List Addr}
theorem key_rep {d : D} {v : V} {k : Key} (r : Rep K F m d v) (h : keyD d = some k) : v = kV k := by
  cases d <;> try (cases h; done)
  · cases h
    unfold Rep at r
    exact r
  · cases h
    unfold Rep at r
    exact r
theorem RepK.val {k : Key} : ∀ {kvs : List (Key × D)} {vs : List (Key × V)}, RepK K F m kvs vs → (∀ d, valD kvs k = some d → ∃ v, valV vs k = some v ∧ Rep K F m d v) ∧ (valD kvs k = none → valV vs k = none)
  | _, _, .nil => ⟨(fun d h => nomatch h), fun _ => rfl⟩
  | (g, x) :: r, (g', y) :: t, .cons ⟨e, q⟩ u => by
    have e : g = g' := e
    subst e
    obtain ⟨i1, i2⟩ := RepK.val (k := k) u
    by_cases c : g = k
    · have a : valD ((g, x) :: r) k = some x := by simp [valD, List.find?_cons, c]
      rw [a, valV_pos (p := (g, y)) c]
      exact ⟨(fun d h => by cases h; exact ⟨y, rfl, q⟩), (fun h => nomatch h)⟩
    · have a : valD ((g, x) :: r) k = valD r k := by simp [valD, List.find?_cons, c]
      rw [a, valV_neg (p := (g, y)) c]
      exact ⟨i1, i2⟩
theorem RepK.any {k : Key} : ∀ {kvs : List (Key × D)} {vs : List (Key × V)}, RepK K F m kvs vs → (vs.any fun kv => decide (kv.1 = k)) = (kvs.any fun kv => decide (kv.1 = k))
  | _, _, .nil => rfl
  | (g, x) :: r, (g', y) :: t, .cons ⟨e, q⟩ u => by
    have e : g = g' := e
    subst e
    rw [List.any_cons, List.any_cons, RepK.any u]
theorem RepK.snoc {k : Key} {d : D} {v : V} (h : Rep K F m d v) : ∀ {kvs : List (Key × D)} {vs : List (Key × V)}, RepK K F m kvs vs → RepK K F m (kvs ++ [(k, d)]) (vs ++ [(k, v)])
  | _, _, .nil => .cons ⟨rfl, h⟩ .nil
  | _ :: _, _ :: _, .cons q u => .cons q (RepK.snoc h u)
theorem RepK.repl {k : Key} {d : D} {v : V} (h : Rep K F m d v) : ∀ {kvs : List (Key × D)} {vs : List (Key × V)}, RepK K F m kvs vs → RepK K F m (kvs.map fun kv => if kv.1 = k then (kv.1, d) else kv) (vs.map fun kv => if kv.1 = k then (kv.1, v) else kv)
  | _, _, .nil => .nil
  | (g, x) :: r, (g', y) :: t, .cons ⟨e, q⟩ u => by
    have e : g = g' := e
    subst e
    rw [List.map_cons, List.map_cons]
    refine .cons ?_ (RepK.repl h u)
    by_cases c : g = k
    · rw [if_pos c, if_pos c]
      exact ⟨rfl, h⟩
    · rw [if_neg c, if_neg c]
      exact ⟨rfl, q⟩
theorem RepK.putK {k : Key} {d : D} {v : V} (h : Rep K F m d v) {kvs : List (Key × D)} {vs : List (Key × V)} (r : RepK K F m kvs vs) : RepK K F m (putKD kvs k d) (L2.putK vs k v) := by
  unfold putKD L2.putK
  rw [r.any]
  by_cases c : (kvs.any fun kv => decide (kv.1 = k)) = true
  · rw [if_pos c, if_pos c]
    exact RepK.repl h r
  · rw [if_neg c, if_neg c]
    exact RepK.snoc h r
theorem RepK.drop {k : Key} : ∀ {kvs : List (Key × D)} {vs : List (Key × V)}, RepK K F m kvs vs → RepK K F m (dropKD kvs k) (dropK vs k)
  | _, _, .nil => .nil
  | (g, x) :: r, (g', y) :: t, .cons ⟨e, q⟩ u => by
    have e : g = g' := e
    subst e
    have ih := RepK.drop (k := k) u
    unfold dropKD dropK at ih ⊢
    by_cases c : g ≠ k
    · rw [List.filter_cons_of_pos (by simpa using c), List.filter_cons_of_pos (by simpa using c)]
      exact .cons ⟨rfl, q⟩ ih
    · rw [List.filter_cons_of_neg (by simpa using c), List.filter_cons_of_neg (by simpa using c)]
      exact ih
end
/-- the dict that d is -/
def dkOf (h : AH) : D → Option (List (Key × D))
  | .ref n => match h[n]? with
    | some (.dk kvs) => some kvs
    | some (.dkL kvs) => some kvs
    | _ => none
  | _ => none
/-- it is a dict -/
def dchk (d : D) : M Unit := fun h => match dkOf h d with
  | some _ => .ok () h
  | none => .stuck
section
variable {X : Cx} {W : WX} {ex env : Env} {pos apos tpos : Pos} {τ β : Type} {mk : τ → Env} {lp : β → Env} {rest : List Stmt}
theorem dk_of {fr : Fm} {F H : Hp} {m : List Addr} {ah : AH} {d : D} {v : V} {kvs : List (Key × D)} (S : Sim X.K X.mg fr F m ah H) (r : Rep X.K F m d v) (h : dkOf ah d = some kvs) :
    ∃ a n vs, v = .ref a ∧ d = .ref n ∧ m[n]? = some a ∧ Rd H a (.dK vs) ∧ RepK X.K F m kvs vs := by
  cases d <;> try (cases h; done)
  rename_i n
  unfold dkOf at h
  cases hc : ah[n]? with
  | none =>
    simp only [hc] at h
    cases h
  | some c =>
    unfold Rep at r
    obtain ⟨a, h1, rfl⟩ := r
    obtain ⟨a', q, ok⟩ := S.cells n _ hc
    rw [h1] at q
    cases q
    cases c <;> simp only [hc] at h <;> try (cases h; done)
    · cases h
      obtain ⟨h2, vs, h3, h4⟩ := ok
      exact ⟨a, n, vs, rfl, rfl, h1, .inl h3, h4⟩
    · cases h
      obtain ⟨o, vs, h3, h4⟩ := ok
      exact ⟨a, n, vs, rfl, rfl, h1, .inr ⟨o, S.sub _ _ h3⟩, h4⟩
theorem dget_rd {H : Hp} {a : Addr} {kvs : List (Key × V)} {k : Key} (e : Rd H a (.dK kvs)) : DGet H a (kV k) (valV kvs k) := .inl ⟨kvs, k, e, rfl, rfl⟩
end
end Lw
/-! SimP: extend, in a dict. -/
namespace PySem.AutoSeq1
end PySem.AutoSeq1
namespace Lw
open PySem L2
section
/-! k in d -/
end
end Lw
/-! SimQ: a dict that is walked stands locked. -/
namespace Lw
open PySem L2
section
end
section
end
/-! ### a statement that runs while a dict stands locked -/
section
end
/-! ### the keys, the values of a locked dict -/
theorem RepK.at {κ : Type} {K : Fg} {F : Hp} {m : List Addr} : ∀ {ks : List (κ × D)} {vs : List (κ × V)} (i : Nat) {k : κ} {v : V}, RepK K F m ks vs → vs[i]? = some (k, v) → ∃ d, ks[i]? = some (k, d) ∧ Rep K F m d v
  | _, _, _, _, _, .nil, e => by simp at e
  | (g, x) :: r, (g', y) :: t, 0, k, v, .cons ⟨e, q⟩ u, h => by
    have e : g = g' := e
    subst e
    simp at h
    obtain ⟨rfl, rfl⟩ := h
    exact ⟨x, rfl, q⟩
  | _ :: r, _ :: t, i + 1, k, v, .cons q u, h => by
    obtain ⟨d, h1, h2⟩ := RepK.at i u (by simpa using h)
    exact ⟨d, by simpa using h1, h2⟩
section
end
/-! ### expressions that run while a dict stands locked -/
section
end
section
end
end Lw
/-! SimR: enumerate of lists and tuples. -/
namespace PySem
open Sem (wp)
open AutoSeq1 (wpAny_loadPart')
theorem lwEnumT (l : Addr) (xs : Array Value) (n : Nat) (dct : Option Addr) (sl : Array (Option Value)) :
    Meets (Builtin.«enumerate.__new__» ⟨[.type "enumerate", .ref l], []⟩) (fun _ R s => s.heap.get? l = some { cls := .type "tuple", dict := dct, data := .seq xs n, slots := sl } ∧
      R (.ok (.ret (.ref (s.heap.push { cls := .type "tuple_iterator", data := .fields #[.ref l, .int 0 0] }).objs.size)))
        { s with heap := (s.heap.push { cls := .type "tuple_iterator", data := .fields #[.ref l, .int 0 0] }).push { cls := .type "enumerate", data := .fields #[.none, .bool false, .ref s.heap.objs.size, rawInt 0, .none, .none] } }) :=
  .of_wp fun prog w A R s h => by
    obtain ⟨hp, g, d, tk, os⟩ := s
    obtain ⟨hl, h⟩ := h
    have hsub := sub_enumerate
    have hT : Heap.IsTuple (Shared.heap ⟨hp, g, d, tk, os⟩) l xs := ⟨_, hl, rfl, n, rfl⟩
    wp_walk using wpAny_loadPart' hl
    refine wpAny_stack_any fun st => wpAny_pure ?_
    split
    · rename_i c _ _ _ _ _
      cases (c == Value.type "enumerate")
      · wp_walk using wpAny_loadPart' hl, wpAny_pyIter_tuple hT
        exact ⟨_, rfl, h⟩
      · wp_walk using wpAny_loadPart' hl, wpAny_pyIter_tuple hT
        exact ⟨_, rfl, h⟩
    · wp_walk using wpAny_loadPart' hl, wpAny_pyIter_tuple hT
      exact ⟨_, rfl, h⟩
section
variable {prog : Program} {w : World} {A : Around} {E : Value → Shared → Prop} {s : Shared}
theorem lwCallEnumT {l : Addr} {xs : Array Value} {Q : Value → Shared → Prop} (hL : s.heap.IsTuple l xs)
    (h : ∀ h', IsEnum h' (s.heap.objs.size + 1) s.heap.objs.size 0 .none → h'.IsTupleIter s.heap.objs.size l 0 → h'.objs.size = s.heap.objs.size + 2 →
      (∀ b o, s.heap.get? b = some o → h'.get? b = some o) → Q (.ref (s.heap.objs.size + 1)) { s with heap := h' }) :
    wpAny (model prog w) A (call (.type "enumerate") [.ref l]) Q E s := by
  obtain ⟨⟨c, dct, dt, sl⟩, hl, hc, n, hd⟩ := hL
  replace hc : c = .type "tuple" := hc
  replace hd : dt = .seq xs n := hd
  subst hc hd
  refine callType_new F.called_enumerate (by decide) (F.typeCall_enumerate_1 _) (F.newCall_enumerate_1 _) (fun obj => F.args_object_init_2 obj _) F.entry_enumerate_new (lwEnumT l xs n dct sl) ⟨hl, ?_⟩
  have hz : (s.heap.push { cls := .type "tuple_iterator", data := .fields #[.ref l, .int 0 0] }).objs.size = s.heap.objs.size + 1 := Heap.size_push ..
  show _ ∧ _
  rw [hz]
  have he : IsEnum ((s.heap.push { cls := .type "tuple_iterator", data := .fields #[.ref l, .int 0 0] }).push
      { cls := .type "enumerate", data := .fields #[.none, .bool false, .ref s.heap.objs.size, rawInt 0, .none, .none] }) (s.heap.objs.size + 1) s.heap.objs.size 0 .none := by
    have q := Heap.get?_push_size (s.heap.push { cls := .type "tuple_iterator", data := .fields #[.ref l, .int 0 0] }) (o := { cls := .type "enumerate", data := .fields #[.none, .bool false, .ref s.heap.objs.size, rawInt 0, .none, .none] }) rfl
    rw [hz] at q
    exact q
  refine ⟨⟨_, he, rfl⟩, h _ he ⟨_, Heap.get?_push_of_some _ (Heap.get?_push_size _ rfl), rfl, rfl⟩ (by rw [Heap.size_push, hz]) fun b o x => Heap.get?_push_of_some _ (Heap.get?_push_of_some _ x)⟩
end
end PySem
namespace Lw
open PySem PySem.Spec PyProof.Rows L2
theorem takes0N {X : Cx} : L2N.Takes X W0 := fun _ _ x => by
  obtain ⟨_, _, _, _, _, _, _, _, _, _, _, _, _, _, _, _, z⟩ := x
  exact z.elim
/-- the tuple at a, each item in a new pair -/
def IteT (K : Fg) (a : Addr) : It :=
  ⟨fun i H => ∃ (xs : List V) (x : V), SqT K H a xs ∧ xs[i]? = some x, fun i H v H' => ∃ T x, v = .ref T ∧ H T = none ∧ H' = upd H T (.tup [.int (i : Nat), x]) ∧ ∀ xs, SqT K H a xs → xs[i]? = some x, fun i H => ∃ xs : List V, SqT K H a xs ∧ xs.length = i⟩
theorem turn_enumT {P : Program} {w : World} {K : Fg} {elts : List Expr} {kk : Nat} {tpos : Pos} (a e it : Addr) :
    Turn P w K (.Tuple elts kk tpos) (IteT K a) [e, it] e (fun i h => (∃ old, IsEnum h e it ((i : Nat) : Int) old) ∧ h.IsTupleIter it a i ∧ e ≠ it) where
  mem := by simp
  obj := fun i h st b hb => by
    obtain ⟨⟨old, he⟩, ⟨o, ho, hc, hd⟩, _⟩ := st
    have e' : b = e ∨ b = it := by simpa using hb
    rcases e' with z | z
    · rw [z]; exact ⟨_, he, fun v q => nomatch q⟩
    · rw [z]; exact ⟨o, ho, fun v q => by rw [hd] at q; cases q⟩
  keep := fun i h h' st k => let ⟨⟨old, he⟩, hi, hne⟩ := st; ⟨⟨old, k e (by simp) _ he⟩, hi.at fun o q => k it (by simp) o q, hne⟩
  item := by
    intro X hP hw hK hc i pins s σ H E I hf st hg
    subst hP hw hK
    obtain ⟨⟨old, he⟩, hit, hne⟩ := st
    obtain ⟨xs, x, hq, hx⟩ := hg
    obtain ⟨its, rv, p, hz⟩ := I.tuple hq
    obtain ⟨u, hu, ru⟩ := rv.get hx
    have hel : e < s.heap.objs.size := Heap.lt_size he
    have hil : it < s.heap.objs.size := by obtain ⟨_, q, _⟩ := hit; exact Heap.lt_size q
    have pt : s.heap.IsTuple a its.toArray := p
    have nai : a ≠ it := fun z => by
      obtain ⟨o1, q1, c1, _⟩ := pt
      obtain ⟨o2, q2, c2, _⟩ := hit
      rw [z, q2] at q1
      cases q1
      rw [c2] at c1
      simp at c1
    have nae : a ≠ e := fun z => by
      obtain ⟨o1, q1, c1, _⟩ := pt
      rw [z] at q1
      have q2 := he.symm.trans q1
      cases q2
      simp at c1
    refine wpAny_pyNext_enum_itemD (Draws.tuple (A := X.A.in1) (I.ok.hd hc) it a nai its.toArray) he ⟨hit, pt⟩ (by
      have := (List.getElem?_eq_some_iff.mp hu).1
      simpa using this) hne (by simp [hne, nae.symm]) fun y h' tk hy ho st' hT hsz hk => ?_
    have ey : y = u := by
      have hy : its.toArray[i]? = some y := hy
      rw [show its.toArray[i]? = its[i]? by simp, hu] at hy
      exact (Option.some.inj hy).symm
    subst ey
    obtain ⟨hit', _⟩ := st'
    refine ⟨_, rfl, wpAny_letOwnedTupleGo_enum (s := { s with heap := h', toks := tk + 1 }) ho fun h'' he' sb => ?_⟩
    have hT2 : h''.get? s.heap.objs.size = some { cls := .type "tuple", data := .seq #[.int i tk, y] } := (sb.2 _ (Nat.ne_of_gt hel)).trans hT
    have new : ObjOk X.prog X.w (upd H s.heap.objs.size (.tup [.int (i : Nat), x])) h'' s.heap.objs.size (.tup [.int (i : Nat), x]) :=
      ⟨by show 2 ≤ sizeLine; decide, [.int i tk, y], .cons ⟨_, rfl⟩ (.cons ru .nil), ⟨_, hT2, rfl, _, rfl⟩⟩
    have I1 : Inv X pins σ (upd H s.heap.objs.size (.tup [.int (i : Nat), x])) { s with heap := h'', toks := tk + 1 } :=
      I.turnedNew (ch := [e, it]) (fun b ob hb q => (sb.2 b (fun z => hb (by simp [z]))).trans (hk b ob (fun z => hb (by simp [z])) (fun z => hb (by simp [z])) q)) hf (Nat.le_refl _) new
    refine ⟨.ref s.heap.objs.size, _, I1, rfl, ⟨_, x, rfl, I.hok.fresh (Nat.le_refl _), rfl, fun ys hy => by rw [I.tuple_inj hy hq]; exact hx⟩, ⟨⟨y, ?_⟩, hit'.at fun o q => (sb.2 it (Ne.symm hne)).trans q, hne⟩, fun b hb => ?_⟩
    · have e1 : ((i + 1 : Nat) : Int) = (i : Int) + 1 := by omega
      rw [e1]; exact he'
    · have hb' : b < s.heap.objs.size := by
        have e' : b = e ∨ b = it := by simpa using hb
        rcases e' with z | z
        · rw [z]; exact hel
        · rw [z]; exact hil
      rw [upd_ne (Nat.ne_of_lt hb')]
      exact (hf b hb).1
  done := by
    intro X hP hw hK hc i pins s σ H E I hf st hg
    subst hP hw hK
    obtain ⟨⟨old, he⟩, hit, hne⟩ := st
    obtain ⟨xs, hq, hx⟩ := hg
    obtain ⟨its, rv, p, hz⟩ := I.tuple hq
    obtain ⟨f0, f1, f2, f3, f4, f5⟩ := hf it (by simp)
    have hl := rv.length
    have pt : s.heap.IsTuple a its.toArray := p
    have nai : a ≠ it := fun z => by
      obtain ⟨o1, q1, c1, _⟩ := pt
      obtain ⟨o2, q2, c2, _⟩ := hit
      rw [z, q2] at q1
      cases q1
      rw [c2] at c1
      simp at c1
    have hn : its.toArray.size = i := by rw [List.size_toArray]; omega
    exact wpAny_pyNext_enum_endD (Draws.tuple (A := X.A.in1) (I.ok.hd hc) it a nai its.toArray) he ⟨by rw [hn]; exact hit, pt⟩ fun h' eb => ⟨rfl, I.turned (t' := s.toks) (fun b o hb q => eb b o hb q) f0 f1 f3 f4 f5⟩
  self := fun A i s Q E st h => let ⟨⟨_, he⟩, _⟩ := st; wpAny_pyIter_enum he h
def iEnumA (K : Fg) (ta : TA) : TI := fun σ H R => ta σ H fun vs H1 => ∃ a xs, vs = [.ref a] ∧ ((SqL K H1 a xs ∧ R (Ite K a) H1) ∨ (SqT K H1 a xs ∧ R (IteT K a) H1))
theorem pi_enumA {X : Cx} {e : Expr} {ta : TA} {p pos tpos : Pos} {elts : List Expr} {kk : Nat} (hg : Gl X "enumerate") (hm : X.mg "enumerate" = none) (ha : PA X [e] ta) (hs : starEach [e] X.env = [(false, eval e X.env)] := by rfl) :
    PI X (.Tuple elts kk tpos) (.Call (.Name "enumerate" p) [e] [] pos) (iEnumA X.K ta) := by
  refine ⟨fun pins s σ H R I h => ?_⟩
  refine Call_ (ld_blt I hg hm boot_enumerate (PyProof.Rows.callWith_type1 (thn (ha.run pos pins s σ H _ I h) fun us s1 ⟨vs, H1, I1, r1, q1⟩ => ?_) hs rfl))
  obtain ⟨a, xs, ex, q⟩ := q1
  subst ex
  have frs : ∀ b ∈ [s1.heap.objs.size + 1, s1.heap.objs.size], FpOk X pins H1 b := fun b hb => by
    have e' : b = s1.heap.objs.size + 1 ∨ b = s1.heap.objs.size := by simpa using hb
    have hle : s1.heap.objs.size ≤ b := by
      rcases e' with z | z
      · rw [z]; exact Nat.le_add_right _ _
      · rw [z]; exact Nat.le_refl _
    exact I1.fpOk hle (I1.hok.fresh hle)
  cases r1 with
  | cons r rr =>
    cases rr
    cases r
    rcases q with ⟨hq, q⟩ | ⟨hq, q⟩
    · obtain ⟨its, rv, p', hz⟩ := I1.list hq
      refine call_enumerate_list p'.isList fun h' he hit hsz hk => wpAny_pyIter_enum he ?_
      have I2 : Inv X pins σ H1 { s1 with heap := h' } := I1.kept (t' := s1.toks) hk
      exact ⟨s1.heap.objs.size + 1, [s1.heap.objs.size + 1, s1.heap.objs.size], _, _, H1, rfl, I2, turn_enum a (s1.heap.objs.size + 1) s1.heap.objs.size, ⟨⟨.none, he⟩, hit, Nat.succ_ne_self _⟩, frs, q⟩
    · obtain ⟨its, rv, p', hz⟩ := I1.tuple hq
      refine lwCallEnumT (show s1.heap.IsTuple a its.toArray from p') fun h' he hit hsz hk => wpAny_pyIter_enum he ?_
      have I2 : Inv X pins σ H1 { s1 with heap := h' } := I1.kept (t' := s1.toks) hk
      exact ⟨s1.heap.objs.size + 1, [s1.heap.objs.size + 1, s1.heap.objs.size], _, _, H1, rfl, I2, turn_enumT a (s1.heap.objs.size + 1) s1.heap.objs.size, ⟨⟨.none, he⟩, hit, Nat.succ_ne_self _⟩, frs, q⟩
/-- each with its number -/
def enumD (lo : Int) (xs : List D) : List D := (List.range xs.length).zipWith (fun k x => D.tup [.int (lo + (k : Nat)), x]) xs
theorem enumD_length (lo : Int) (xs : List D) : (enumD lo xs).length = xs.length := by
  unfold enumD
  rw [List.length_zipWith, List.length_range, Nat.min_self]
theorem enumD_get {lo : Int} {xs : List D} {i : Nat} {d : D} (h : xs[i]? = some d) : (enumD lo xs)[i]? = some (.tup [.int (lo + (i : Nat)), d]) := by
  unfold enumD
  rw [List.getElem?_zipWith, List.getElem?_range (List.getElem?_eq_some_iff.mp h).1, h]
def enumM : D → M (List D)
  | .tup xs => pure (enumD 0 xs)
  | .lst xs => pure (enumD 0 xs)
  | _ => stuck
section
variable {K : Fg} {mg : Str → Option Value} {F : Hp} {m : List Addr} {a : Addr} {ds : List D} {vs : List V}
theorem yl_enumT (h : SqT K F a vs) (r : RepL K F m ds vs) : Yl K mg F m (enumD 0 ds) (IteT K a) where
  go := fun i fr F1 m1 ah1 H1 e s hi => by
    rw [enumD_length] at hi
    obtain ⟨v, hv, _⟩ := RepL.get r (List.getElem?_eq_getElem hi)
    exact ⟨vs, v, SqT.up s.sub (SqT.up e.sub h), hv⟩
  stop := fun fr F1 m1 ah1 H1 e s => ⟨vs, SqT.up s.sub (SqT.up e.sub h), by rw [enumD_length, RepL.length r]⟩
  yld := fun i fr F1 m1 ah1 H1 x H2 e s hi y => by
    rw [enumD_length] at hi
    obtain ⟨T, z, e1, e2, e3, y⟩ := y
    subst e1 e3
    have hd := List.getElem?_eq_getElem hi
    obtain ⟨v, hv, rv⟩ := RepL.get r hd
    have q := y vs (SqT.up s.sub (SqT.up e.sub h))
    rw [hv] at q
    cases q
    obtain ⟨S', e'⟩ := s.frozen (o := .tup [.int (i : Nat), z]) e2
    refine ⟨_, _, enumD_get hd, e', S', Rep.tup (.inl (.inl upd_same)) (RepL.cons ?_ (RepL.cons (Rep.ext (e.trans e') _ _ rv) RepL.nil))⟩
    rw [Int.zero_add]
    exact Rep.int
theorem yl_enumL (h : SqL K F a vs) (r : RepL K F m ds vs) : Yl K mg F m (enumD 0 ds) (Ite K a) where
  go := fun i fr F1 m1 ah1 H1 e s hi => by
    rw [enumD_length] at hi
    obtain ⟨v, hv, _⟩ := RepL.get r (List.getElem?_eq_getElem hi)
    exact ⟨vs, v, SqL.up s.sub (SqL.up e.sub h), hv⟩
  stop := fun fr F1 m1 ah1 H1 e s => ⟨vs, SqL.up s.sub (SqL.up e.sub h), by rw [enumD_length, RepL.length r]; exact Nat.le_refl _⟩
  yld := fun i fr F1 m1 ah1 H1 x H2 e s hi y => by
    rw [enumD_length] at hi
    obtain ⟨T, z, e1, e2, e3, y⟩ := y
    subst e1 e3
    have hd := List.getElem?_eq_getElem hi
    obtain ⟨v, hv, rv⟩ := RepL.get r hd
    have q := y vs (SqL.up s.sub (SqL.up e.sub h))
    rw [hv] at q
    cases q
    obtain ⟨S', e'⟩ := s.frozen (o := .tup [.int (i : Nat), z]) e2
    refine ⟨_, _, enumD_get hd, e', S', Rep.tup (.inl (.inl upd_same)) (RepL.cons ?_ (RepL.cons (Rep.ext (e.trans e') _ _ rv) RepL.nil))⟩
    rw [Int.zero_add]
    exact Rep.int
end
section
variable {X : Cx} {W : WX} {env : Env} {pos : Pos}
theorem di_enum {e : Expr} {me : M D} {p tpos : Pos} {elts : List Expr} {kk : Nat} (hm : X.mg "enumerate" = none) (he : DE X W env e me) (hg : Gl X "enumerate" := by rfl) (hst : starEach [e] X.env = (false, eval e X.env) :: starEach [] X.env := by rfl) (hs : starEach [e] X.env = [(false, eval e X.env)] := by rfl) :
    DI X W env (.Tuple elts kk tpos) (.Call (.Name "enumerate" p) [e] [] pos) (do let x ← me; enumM x) :=
  PI.from (pi_enumA (pos := pos) (p := p) hg hm (da_one he hst) hs) fun σ H Q ⟨fr, F, m, ah, s, er, k⟩ => by
    have e : ((do let x ← me; pure [x]) >>= fun l : List D => match l with | [x] => enumM x | _ => stuck) = (do let x ← me; enumM x) := by
      rw [bind_assoc]
      rfl
    have k' : TK X.K X.mg fr W (Yl X.K X.mg) σ F m (((do let x ← me; pure [x]) >>= fun l : List D => match l with | [x] => enumM x | _ => stuck) ah) (fun J H' => Q J H') := by
      rw [e]
      exact k
    refine TK.step (R := RepL X.K) s er k' fun F1 m1 ah1 d v H1 e1 s1 er1 r1 k1 => ?_
    rcases d with _ | ⟨d, _ | ⟨d2, ds⟩⟩
    · exact (TK.stuck_of k1).elim
    · unfold RepL at r1
      obtain ⟨v1, r, rfl, r2, r3⟩ := r1
      unfold RepL at r3
      subst r3
      replace k1 : TK X.K X.mg fr W (Yl X.K X.mg) σ F1 m1 (enumM d ah1) (fun J H' => Q J H') := k1
      cases d <;> try exact (TK.stuck_of k1).elim
      · rename_i xs
        obtain ⟨a, vs, rfl, h2, h3⟩ := tup_of (xs := xs) r2 rfl
        exact ⟨a, vs, rfl, .inr ⟨SqT.up s1.sub h2, k1 F1 m1 _ H1 Ext.refl s1 (yl_enumT h2 h3)⟩⟩
      · rename_i xs
        unfold Rep at r2
        obtain ⟨a, vs, rfl, h2, h3⟩ := r2
        exact ⟨a, vs, rfl, .inl ⟨SqL.up s1.sub h2, k1 F1 m1 _ H1 Ext.refl s1 (yl_enumL h2 h3)⟩⟩
    · exact (TK.stuck_of k1).elim
end
end Lw
/-! SimT: dict displays, pop; texts' methods; a list times a number. -/
namespace Lw
open PySem L2
section
variable {X : Cx} {W : WX} {ex env : Env} {pos apos : Pos}
/-! d.pop(k) -/
/-! ### texts' methods -/
def schk (x : D) : M Unit := fun h => match x with
  | .str _ => .ok () h
  | _ => .stuck
theorem de_sm1 {o e : Expr} {mo me : M D} {name : Str} {id : String} {r : V → List V → Hp → VK → Prop} {f : D → D → M D} (slot : Slot "str" name id) (hty : typeOf (.builtin id) = pure (.type "method_descriptor")) (hm : MtR X id r)
    (hr : ∀ (fr : Fm) (W : WX) (σ : St) (F : Hp) (m : List Addr) (ah : AH) (H : Hp) (d e : D) (v w : V) (Q : VK), Sim X.K X.mg fr F m ah H → Rep X.K F m d v → Rep X.K F m e w → TK X.K X.mg fr W (Rep X.K) σ F m (f d e ah) Q → r v [w] H Q)
    (ho : DE X W env o mo) (he : DE X W env e me) (hbase : attributeBase o name X.env (eval o X.env) = eval o X.env := by rfl)
    (hline : (apos.endLine == pos.line) = true := by rfl) (hs : starEach [e] X.env = [(false, eval e X.env)] := by rfl) :
    DE X W env (.Call (.Attribute o name apos) [e] [] pos) (do let x ← mo; let _ ← schk x; let y ← me; f x y) :=
  PE.from (pe_m1 slot hty hm ho he hs hbase hline) fun σ H Q ⟨fr, F, m, ah, s, er, q⟩ => TK.step s er q fun F1 m1 ah1 d v H1 e1 s1 er1 r1 k1 => by
    rw [bind_def] at k1
    unfold schk at k1
    cases d <;> try exact k1.elim
    rename_i x
    refine ⟨⟨x, by unfold Rep at r1; exact r1⟩, TK.step s1 er1 k1 fun F2 m2 ah2 d2 v2 H2 e2 s2 er2 r2 k2 => ?_⟩
    exact hr fr W σ F2 m2 ah2 H2 _ _ _ _ Q s2 (Rep.ext e2 _ _ r1) r2 k2
/-- texts in a row -/
def strsOf : List D → Option (List Str)
  | [] => some []
  | .str x :: r => (match strsOf r with
    | some ys => some (x :: ys)
    | none => none)
  | _ => none
theorem strs_rep {K : Fg} {F : Hp} {m : List Addr} : ∀ {ds : List D} {vs : List V} {ys : List Str}, RepL K F m ds vs → strsOf ds = some ys → vs = ys.map V.str
  | [], vs, ys, r, h => by
    cases h
    unfold RepL at r
    exact r
  | d :: ds, vs, ys, r, h => by
    unfold RepL at r
    obtain ⟨v, t, rfl, h1, h2⟩ := r
    cases d <;> try (cases h; done)
    rename_i x
    unfold strsOf at h
    cases hr : strsOf ds with
    | none =>
      rw [hr] at h
      cases h
    | some zs =>
      rw [hr] at h
      cases h
      unfold Rep at h1
      rw [h1, strs_rep h2 hr]
      rfl
def joinM (x y : D) : M D := fun h => match x, seqOf h y with
  | .str a, some ds => (match strsOf ds with
    | some ys => if (ys.map (·.length)).sum + ys.length * a.length ≤ 16777216 then .ok (.str (Txt.join a ys)) h else .stuck
    | none => .stuck)
  | _, _ => .stuck
theorem de_join {o e : Expr} {mo me : M D} (ho : DE X W env o mo) (he : DE X W env e me) (hbase : attributeBase o "join" X.env (eval o X.env) = eval o X.env := by rfl)
    (hline : (apos.endLine == pos.line) = true := by rfl) (hs : starEach [e] X.env = [(false, eval e X.env)] := by rfl) :
    DE X W env (.Call (.Attribute o "join" apos) [e] [] pos) (do let x ← mo; let _ ← schk x; let y ← me; joinM x y) :=
  de_sm1 PySem.F.slot_str_join PySem.F.type_str_join mt_join (fun fr W σ F m ah H d e v w Q S r1 r2 k => by
    unfold joinM at k
    cases d <;> try exact k.elim
    rename_i a
    unfold Rep at r1
    cases hy : seqOf ah e with
    | none =>
      simp only [hy] at k
      exact k.elim
    | some ds =>
      simp only [hy] at k
      cases hs : strsOf ds with
      | none =>
        simp only [hs] at k
        exact k.elim
      | some ys =>
        simp only [hs] at k
        by_cases hl : (ys.map (·.length)).sum + ys.length * a.length ≤ 16777216
        · rw [if_pos hl] at k
          have key : ∃ p, w = .ref p ∧ (SqL X.K H p (ys.map V.str) ∨ SqT X.K H p (ys.map V.str)) := by
            cases e <;> try (cases hy; done)
            · obtain ⟨p, us, g1, g2, g3⟩ := lst_of S r2 (show lstOf ah _ = some ds from hy)
              exact ⟨p, g1, .inl (by rw [← strs_rep g3 hs]; exact g2)⟩
            · cases hy
              obtain ⟨p, us, g1, g2, g3⟩ := tup_of r2 rfl
              exact ⟨p, g1, .inr (by rw [← strs_rep g3 hs]; exact SqT.up S.sub g2)⟩
            · obtain ⟨p, us, g1, g2, g3⟩ := lst_of S r2 (show lstOf ah _ = some ds from hy)
              exact ⟨p, g1, .inl (by rw [← strs_rep g3 hs]; exact g2)⟩
          obtain ⟨p, e1, e2⟩ := key
          exact ⟨a, p, ys, r1, by rw [e1], e2, hl, TK.val k S Rep.str⟩
        · rw [if_neg hl] at k
          exact k.elim) ho he hbase hline hs
/-! ### a list times a number -/
def repLM (x y : D) : M D := fun h => match x, y with
  | .ref n, .int k => (match h[n]? with
    | some (.lst xs) => if -(2 ^ 63) ≤ k ∧ k < 2 ^ 63 ∧ xs.length * k.toNat ≤ sizeLine then .ok (.lst (List.replicate k.toNat xs).flatten) h else .stuck
    | _ => .stuck)
  | _, _ => .stuck
theorem RepL.rep {K : Fg} {F : Hp} {m : List Addr} {ds : List D} {vs : List V} (r : RepL K F m ds vs) : ∀ n : Nat, RepL K F m (List.replicate n ds).flatten (List.replicate n vs).flatten
  | 0 => RepL.nil
  | n + 1 => by
    rw [List.replicate_succ, List.replicate_succ, List.flatten_cons, List.flatten_cons]
    exact RepL.append r (RepL.rep r n)
theorem repL_ok : OpD X rRep repLM := by
  intro fr W σ F m ah H d e x y Q S rx ry k
  unfold repLM at k
  cases d <;> try exact k.elim
  rename_i n
  cases e <;> try exact k.elim
  rename_i i
  cases hc : ah[n]? with
  | none =>
    simp only [hc] at k
    exact k.elim
  | some c =>
    cases c <;> simp only [hc] at k <;> try exact k.elim
    rename_i xs
    by_cases hl : -(2 ^ 63) ≤ i ∧ i < 2 ^ 63 ∧ xs.length * i.toNat ≤ sizeLine
    · rw [if_pos hl] at k
      unfold Rep at rx ry
      obtain ⟨a, h1, h2⟩ := rx
      obtain ⟨a', q, ok⟩ := S.cells n _ hc
      rw [h1] at q
      cases q
      obtain ⟨_, vs, h3, h4⟩ := ok
      refine ⟨a, i, vs, h2, ry, h3, hl.1, hl.2.1, by rw [RepL.length h4]; exact hl.2.2, fun p hp => ?_⟩
      exact TK.newL k S (RepL.rep h4 i.toNat) hp
    · rw [if_neg hl] at k
      exact k.elim
theorem de_repL {a b : Expr} {ma mb : M D} (ha : DE X W env a ma) (hb : DE X W env b mb) : DE X W env (.BinOp a .Mult b pos) (do let x ← ma; let y ← mb; repLM x y) := de_op op_rep repL_ok ha hb
/-! ### {k: v, ..} -/
abbrev RepP (K : Fg) (F : Hp) (m : List Addr) : List (D × D) → List (V × V) → Prop := Paired fun p q => Rep K F m p.1 q.1 ∧ Rep K F m p.2 q.2
theorem RepP.ext {K : Fg} {F F' : Hp} {m m' : List Addr} {xs : List (D × D)} {ys : List (V × V)} (e : Ext F m F' m') (h : RepP K F m xs ys) : RepP K F' m' xs ys :=
  Paired.imp (fun _ _ r => ⟨Rep.ext e _ _ r.1, Rep.ext e _ _ r.2⟩) h
structure DPs (X : Cx) (W : WX) (env : Env) (pos : Pos) (keys : List (Option Expr)) (values : List Expr) (ms : M (List (D × D))) : Prop where
  ex : ∃ trs, PPs X pos keys values trs ∧ ∀ σ H Q, TC X.K X.mg W (RepP X.K) env ms σ H Q → tPairs trs σ H Q
theorem dps_nil : DPs X W env pos [] [] (pure []) := ⟨[], pps_nil, fun σ H Q ⟨fr, F, m, ah, s, er, k⟩ => k F m [] H Ext.refl s .nil⟩
theorem dps_cons {k v : Expr} {ks : List (Option Expr)} {vs : List Expr} {mk mv : M D} {ms : M (List (D × D))} (hk : DE X W env k mk) (hv : DE X W env v mv) (hr : DPs X W env pos ks vs ms) :
    DPs X W env pos (some k :: ks) (v :: vs) (do let x ← mk; let y ← mv; let ps ← ms; pure ((x, y) :: ps)) := by
  obtain ⟨trs, h1, h2⟩ := hr.ex
  refine ⟨_, pps_cons hk hv h1, fun σ H Q ⟨fr, F, m, ah, s, er, q⟩ => TK.step s er q fun F1 m1 ah1 d1 v1 H1 e1 s1 er1 r1 k1 => TK.step s1 er1 k1 fun F2 m2 ah2 d2 v2 H2 e2 s2 er2 r2 k2 => ?_⟩
  refine h2 _ _ _ (TK.step (R := RepP X.K) s2 er2 k2 fun F3 m3 ah3 d3 v3 H3 e3 s3 er3 r3 k3 => ?_)
  exact k3 F3 m3 _ H3 Ext.refl s3 (.cons ⟨Rep.ext (e2.trans e3) _ _ r1, Rep.ext e3 _ _ r2⟩ r3)
def keysPs : List (D × D) → Option (List (Key × D))
  | [] => some []
  | (k, d) :: r => match keyD k, keysPs r with
    | some k, some t => some ((k, d) :: t)
    | _, _ => none
def mergeKD (kvs more : List (Key × D)) : List (Key × D) := more.foldl (fun acc kv => putKD acc kv.1 kv.2) kvs
theorem keysPs_rep {K : Fg} {F : Hp} {m : List Addr} : ∀ {ps : List (D × D)} {vs : List (V × V)} {kvs : List (Key × D)}, RepP K F m ps vs → keysPs ps = some kvs → ∃ us, vs = us.map (fun kv => (kV kv.1, kv.2)) ∧ RepK K F m kvs us
  | _, _, _, .nil, h => by
    cases h
    exact ⟨[], rfl, .nil⟩
  | (k, d) :: r, (v, u) :: t, kvs, .cons ⟨q1, q2⟩ qt, h => by
    unfold keysPs at h
    cases hk : keyD k with
    | none =>
      rw [hk] at h
      cases h
    | some kk =>
      cases hr : keysPs r with
      | none =>
        rw [hk, hr] at h
        cases h
      | some zs =>
        rw [hk, hr] at h
        cases h
        obtain ⟨us, rfl, h2⟩ := keysPs_rep qt hr
        exact ⟨(kk, u) :: us, by rw [List.map_cons, ← key_rep q1 hk], .cons ⟨rfl, q2⟩ h2⟩
theorem RepK.merge {K : Fg} {F : Hp} {m : List Addr} : ∀ {more : List (Key × D)} {us : List (Key × V)} {kvs : List (Key × D)} {vs : List (Key × V)}, RepK K F m more us → RepK K F m kvs vs → RepK K F m (mergeKD kvs more) (mergeK vs us)
  | _, _, _, _, .nil, h => h
  | (k, d) :: r, (k', u) :: t, kvs, vs, .cons ⟨e, q⟩ qt, h => by
    have e : k = k' := e
    subst e
    show RepK K F m (mergeKD (putKD kvs k d) r) (mergeK (L2.putK vs k u) t)
    exact RepK.merge qt (RepK.putK q h)
def dispM (r : D) (ps : List (D × D)) : M D := fun h => match r with
  | .ref n => (match h[n]?, keysPs ps with
    | some (.dk []), some kvs => if kvs.length ≤ 15 then .ok r (h.set n (.dk (mergeKD [] kvs))) else .stuck
    | _, _ => .stuck)
  | _ => .stuck
theorem de_disp {keys : List (Option Expr)} {values : List Expr} {ms : M (List (D × D))} (h : DPs X W env pos keys values ms) (hall : keys.all (·.isSome) = true := by rfl) (hl : keys.length = values.length := by rfl) (h0 : keys ≠ [] := by exact List.cons_ne_nil _ _)
    (h15 : keys.length ≤ 15 := by decide) : DE X W env (.Dict keys values pos) (do let r ← newM (.dk []); let ps ← ms; dispM r ps) := by
  obtain ⟨trs, h1, h2⟩ := h.ex
  refine PE.from (pe_disp h1 hall hl h0 h15) fun σ H Q ⟨fr, F, m, ah, s, er, q⟩ p hp => ?_
  obtain ⟨s1, e1⟩ := s.laid (o := .dK []) (c := .dk []) hp ⟨s.freeF hp, [], upd_same, .nil⟩
  have q : TK X.K X.mg fr W (Rep X.K) σ F m ((ms >>= fun ps => dispM (.ref ah.length) ps) (ah ++ [.dk []])) Q := q
  have hp1 : (m ++ [p])[ah.length]? = some p := by
    rw [← s.len, List.getElem?_append_right (Nat.le_refl _)]
    simp
  refine h2 _ _ _ (TK.step (R := RepP X.K) s1 (er.ext e1) (TK.ext e1 q) fun F2 m2 ah2 ps vs H2 e2 s2 er2 r2 k2 => ?_)
  unfold dispM at k2
  have hp2 := e2.pre _ _ hp1
  cases hc : ah2[ah.length]? with
  | none =>
    simp only [hc] at k2
    exact k2.elim
  | some c =>
    cases c <;> simp only [hc] at k2 <;> try exact k2.elim
    rename_i kv0
    cases hk : keysPs ps with
    | none =>
      cases kv0 <;> simp only [hk] at k2 <;> exact k2.elim
    | some kvs =>
      cases kv0 with
      | cons _ _ => simp only [hk] at k2; exact k2.elim
      | nil =>
        simp only [hk] at k2
        by_cases hl : kvs.length ≤ 15
        · rw [if_pos hl] at k2
          obtain ⟨a', q', ok⟩ := s2.cells _ _ hc
          rw [hp2] at q'
          cases q'
          obtain ⟨h3, us, h4, h5⟩ := ok
          cases h5
          obtain ⟨ws, rfl, h6⟩ := keysPs_rep r2 hk
          refine ⟨h4, ws, rfl, by rw [RepK.length h6]; exact hl, ?_⟩
          refine k2 F2 m2 (.ref p) _ Ext.refl (s2.write (c' := .dk (mergeKD [] kvs)) hc hp2 rfl ⟨h3, _, upd_same, RepK.merge h6 .nil⟩) ?_
          unfold Rep
          exact ⟨p, hp2, rfl⟩
        · rw [if_neg hl] at k2
          exact k2.elim
end
end Lw
/-! SimU: zip of a list and a tuple. -/
namespace Lw
open PySem PySem.Spec PyProof.Rows L2
def zipLTM : List D → M (List D)
  | [.lst xs, .tup ys] => pure (zipD xs ys)
  | _ => stuck
section
end
end Lw
/-! SimV: texts sign by sign, global constants, dict(list), sorted(dict), tuples compared. -/
namespace Lw
open PySem L2
section
variable {X : Cx} {W : WX} {ex env : Env} {pos apos : Pos}
/-! ### a text sign by sign -/
def signsD (x : Str) : List D := x.cps.toList.map fun c => D.str ⟨#[c]⟩
theorem yl_str {K : Fg} {mg : Str → Option Value} {F : Hp} {m : List Addr} (x : Str) : Yl K mg F m (signsD x) (Its x) where
  go := fun i fr F1 m1 ah1 H1 e s hi => by
    unfold signsD at hi
    rw [List.length_map, Array.length_toList] at hi
    exact hi
  stop := fun fr F1 m1 ah1 H1 e s => by
    unfold signsD
    rw [List.length_map, Array.length_toList]
    exact Nat.le_refl _
  yld := fun i fr F1 m1 ah1 H1 v H2 e s hi y => by
    obtain ⟨e2, c, hc, rfl⟩ := y
    subst e2
    refine ⟨F1, .str ⟨#[c]⟩, ?_, Ext.refl, s, Rep.str⟩
    unfold signsD
    rw [List.getElem?_map, Array.getElem?_toList, hc]
    rfl
def strItM : D → M (List D)
  | .str x => pure (signsD x)
  | _ => stuck
theorem di_str {tg e : Expr} {me : M D} (he : DE X W env e me) : DI X W env tg e (do let x ← me; strItM x) :=
  PI.from (pi_str he) fun σ H Q ⟨fr, F, m, ah, s, er, k⟩ => TK.step s er k fun F1 m1 ah1 d v H1 e1 s1 er1 r1 k1 => by
    cases d <;> try exact (TK.stuck_of k1).elim
    rename_i x
    unfold Rep at r1
    exact ⟨x, r1, k1 F1 m1 _ H1 Ext.refl s1 (yl_str x)⟩
/-- one sign in a text -/
def signInM (neg : Bool) (x y : D) : M D := match x, y with
  | .str ⟨⟨[c]⟩⟩, .str z => pure (.bl (xor neg (decide (c ∈ z.cps.toList))))
  | _, _ => stuck
theorem sign_ok {X : Cx} : OpD X (fun x y H Q => ∃ (c : Nat) (z : Str), x = .str ⟨#[c]⟩ ∧ y = .str z ∧ Q (.bl (decide (c ∈ z.cps.toList))) H) (signInM false) := by
  intro fr W σ F m ah H d e x y Q S rx ry k
  unfold signInM at k
  split at k
  · unfold Rep at rx ry
    rw [Bool.false_xor] at k
    exact ⟨_, _, rx, ry, TK.val k S Rep.bl⟩
  · exact k.elim
theorem signN_ok {X : Cx} : OpD X (fun x y H Q => ∃ (c : Nat) (z : Str), x = .str ⟨#[c]⟩ ∧ y = .str z ∧ Q (.bl (!decide (c ∈ z.cps.toList))) H) (signInM true) := by
  intro fr W σ F m ah H d e x y Q S rx ry k
  unfold signInM at k
  split at k
  · unfold Rep at rx ry
    rw [Bool.true_xor] at k
    exact ⟨_, _, rx, ry, TK.val k S Rep.bl⟩
  · exact k.elim
theorem de_signin {a b : Expr} {ma mb : M D} (ha : DE X W env a ma) (hb : DE X W env b mb) (hm : behindInMarks .In b = false := by rfl) : DE X W env (.Compare a [.In] [b] pos) (do let x ← ma; let y ← mb; signInM false x y) := de_cmp op_in_sign sign_ok ha hb hm
/-! ### tests: k in d -/
/-! ### constants of the module -/
/-- the name stands for d, whatever else is -/
structure GvF (K : Fg) (mg : Str → Option Value) (x : Str) (d : D) : Prop where
  ok : ∃ v u, mg x = some u ∧ RelV v u ∧ ∀ F m, Rep K F m d v
theorem de_glob {x : Str} {d : D} (G : GvF X.K X.mg x d) (hg : Gl X x := by rfl) (hdb : (x == ("__debug__" : Str)) = false := by decide) : DE X W env (.Name x pos) (pure d) := by
  obtain ⟨v, u, h1, h2, h3⟩ := G.ok
  exact PE.from (pe_glob hg h1 h2 hdb) fun σ H Q ⟨fr, F, m, ah, s, er, k⟩ => k F m _ H Ext.refl s (h3 F m)
/-! ### tuples of numbers compared -/
/-! ### dict(a list of pairs) -/
end
end Lw
/-! SimW: insert, reverse. -/
namespace Lw
open PySem L2
section
variable {X : Cx} {W : WX} {ex env : Env} {pos apos : Pos}
theorem RepL.reverse {K : Fg} {F : Hp} {m : List Addr} : ∀ {ds : List D} {vs : List V}, RepL K F m ds vs → RepL K F m ds.reverse vs.reverse
  | [], vs, r => by
    cases vs with
    | nil => exact r
    | cons v r2 => exact absurd (RepL.length r) (by simp)
  | d :: ds, vs, r => by
    cases vs with
    | nil => exact absurd (RepL.length r) (by simp)
    | cons v us =>
      unfold RepL at r
      obtain ⟨v2, r2, e, h1, h2⟩ := r
      cases e
      rw [List.reverse_cons, List.reverse_cons]
      exact RepL.append (RepL.reverse h2) (RepL.cons h1 RepL.nil)
/-! ### in a list, by data -/
def inDM (neg : Bool) (x y : D) : M D := fun h => match lookD h y with
  | .lst xs => if (okD (lookD h x) && okD (.lst xs)) = true then .ok (.bl (if neg = true then !xs.any fun z => PyData.eqv (toP z) (toP (lookD h x)) else xs.any fun z => PyData.eqv (toP z) (toP (lookD h x)))) h else .stuck
  | _ => .stuck
theorem any_toPs (d : PyData) : ∀ xs : List D, ((toPs xs).any fun z => PyData.eqv z d) = xs.any fun z => PyData.eqv (toP z) d
  | [] => rfl
  | x :: r => by
    unfold toPs
    rw [List.any_cons, List.any_cons, any_toPs d r]
theorem okD_two {d : D} (h : okD d = true) : flatD 0 d = true ∧ SeqAt.shaped (toP d) = true := by
  unfold okD at h
  exact Bool.and_eq_true_iff.mp h
theorem inD_ok : OpD X (rInD X.K) (inDM false) := by
  intro fr W σ F m ah H d e x y Q s rx ry k
  unfold inDM at k
  split at k
  · rename_i xs hq
    by_cases c : (okD (lookD ah d) && okD (.lst xs)) = true
    · rw [if_pos c] at k
      rw [Bool.and_eq_true] at c
      obtain ⟨c1, c2⟩ := okD_two c.1
      obtain ⟨c3, c4⟩ := okD_two c.2
      have d1 := dp_look s rx c1
      have d2 := dp_look s ry (by rw [hq]; exact c3)
      rw [hq] at d2
      unfold toP at d2 c4
      refine ⟨_, toPs xs, d1, d2, c2, c4, ?_⟩
      rw [any_toPs]
      exact k.val s Rep.bl
    · rw [if_neg c] at k
      exact k.elim
  · exact k.elim
end
section
end
end Lw
/-! SimX: comprehensions whose list is written. -/
namespace Lw
open PySem L2
section
end
end Lw
/-! ### calls without arguments -/
namespace Lw
open PySem L2
section
end
end Lw
/-! SimYw: a class made by its defaults; one of two methods by the object's class; what is not said. -/
namespace Lw
open PySem L2
/-! ### what is not said; two readings -/
section
end
/-! ### a def with defaults -/
/-! ### making by defaults -/
section
end
section
end
end Lw
/-! SimY: lists walked within an except suite. -/
namespace HotX
open PySem PySem.Spec PyProof.Rows
section
end
end HotX
namespace L2H
open PySem PySem.Spec PyProof.Rows L2 HotX
end L2H
namespace Lw
open PySem PySem.Spec PyProof.Rows L2 L2H HotX
theorem PIH.from {X : Cx} {tg it : Expr} {wi wj : TI} (h : PIH X tg it wi) (f : ∀ σ H R, wj σ H R → wi σ H R) : PIH X tg it wj := ⟨fun pins s σ H R I q => h.run pins s σ H R I (f σ H R q)⟩
abbrev DIH (X : Cx) (W : WX) (env : Env) (tg it : Expr) (mi : M (List D)) : Prop := PIH X tg it (TIM X.K X.mg W env mi)
section
end
end Lw
/-! SimZ: isinstance by a tuple of classes in a suite; count and index of lists; an object == a number. -/
namespace L2
open PySem PySem.Spec PyProof.Rows
section
end
end L2
namespace HN2
open PySem PySem.Spec PyProof.Rows PySem.SeqAt HN
section
end
end HN2
namespace Lw
open PySem L2
/-! ### a name that may not stand yet -/
/-! ### isinstance(e, (A, B, ..)) -/
section
variable {X : Cx} {W : WX} {env : Env} {pos : Pos} {C : Addr}
/-! ### count, index of lists of truths -/
/-! ### an object == a number -/
structure EqF (K : Fg) (mg : Str → Option Value) (c : Str) : Prop where
  ok : ∀ C, mg c = some (.ref C) → PySem.W.mroIn K C (.type "object") = some true ∧ PySem.W.findIn K (.ref C) "__eq__" = some (some (.builtin "object.__eq__"))
def eqOM (c : Str) (x y : D) : M D := fun h => match x, y with
  | .ref n, .int _ => (match h[n]? with
    | some (.ins c' _) => if c' = c then .ok (.bl false) h else .stuck
    | _ => .stuck)
  | .int i, .int j => .ok (.bl (decide (i = j))) h
  | _, _ => .stuck
def rEqOI (K : Fg) : R2 := fun x y H Q => ∃ a C dx fs i, x = .ref a ∧ y = .int i ∧ H a = some (.ins C dx fs) ∧ PySem.W.mroIn K C (.type "object") = some true ∧ PySem.W.findIn K (.ref C) "__eq__" = some (some (.builtin "object.__eq__")) ∧ Q (.bl false) H
theorem eqO_ok {c : Str} (hE : EqF X.K X.mg c) : OpD X (fun x y H Q => rEqOI X.K x y H Q ∨ rEqX X.K x y H Q) (eqOM c) := by
  intro fr W σ F m ah H d e x y Q s rx ry k
  unfold eqOM at k
  split at k
  · rename_i n i
    split at k
    · rename_i c' fs hc
      by_cases e : c' = c
      · rw [if_pos e] at k
        subst e
        obtain ⟨a, C, dx, vs, h1, h2, h3, h4, h5, h6⟩ := ins_of s rx hc
        obtain ⟨g1, g2⟩ := hE.ok C h4
        unfold Rep at ry
        exact .inl ⟨a, C, dx, vs, i, h1, ry, h5, g1, g2, k.val s Rep.bl⟩
      · rw [if_neg e] at k
        exact k.elim
    · exact k.elim
  · rename_i i j
    exact .inr (eq_ok fr W σ F m ah H (.int i) (.int j) x y Q s rx ry k)
  · exact k.elim
/-! ### x + y, a list that will be written -/
end
end Lw
/-! SimYp: a def that is called in a suite and told the error that the suite holds. -/
namespace L2H
open PySem PySem.Spec PyProof.Rows L2 HotX
/-- what a def promises where p is the error that is handled -/
structure FnP (P : Program) (w : World) (K : PySem.W.Frag) (mg : Str → Option Value) (base : Heap) (CX : CXT) (k : Nat) (f : Addr) (fd : FuncData) (ps : List Str) (p : Addr × Obj) (sp : Sp) : Prop where
  len : ∀ vs G Q E, sp vs G Q E → vs.length = ps.length
  run : ∀ (A : Around) (out : List Env) (s : Shared) (G : Hp) (ar : Args) (us : List Value) (vs : List V) (Q : VK) (E : XK), RoomH k A → Hot1 A p → PinOk out G s p → Env0 P w K mg base A out s G → BindsTo s fd ar (ps.zip us) → Vals vs us → sp vs G Q E → codeAny (model P w) A (.call (.ref f) ar) (CR CX out P w G s Q E) s
theorem fnP_of {CX : CXT} {P : Program} {w : World} {K : PySem.W.Frag} {mg : Str → Option Value} {base : Heap} {k : Nat} {f : Addr} {name qual : Str} {params : Arguments} {body : List Stmt} {scope : Scope} {dV kV doc pm cdv ct oc : Value} {an od : Option Addr} {osl : Array (Option Value)} {N ps : List Str} {sp : Sp} {p : Addr × Obj}
    (lk : K.lookup f = some ⟨oc, od, .func (PySem.W.fnOf name qual params body scope dV kV doc pm an cdv ct), osl⟩) (hcd : PySem.W.codeIn K cdv qual = true) (S : FnScope N ps scope) (len : ∀ vs G Q E, sp vs G Q E → vs.length = ps.length)
    (hb : ∀ (A : Around) (out : List Env) (s : Shared) (G : Hp) (vs : List V) (Q : VK) (E : XK), Hot1 A p → RoomH k (A.deeper (envOfC qual scope s.heap.objs.size f cdv)) → sp vs G Q E →
      ∃ t, PSs (cxH CX P w K mg base N qual scope f cdv A out s G E p) body t ∧ t { nx := fun _ G' => Q .non G', rt := Q } (L2.start N vs) G) :
    FnP P w K mg base CX (k + 1) f (PySem.W.fnOf name qual params body scope dV kV doc pm an cdv ct) ps p sp where
  len := len
  run := by
    intro A out s G ar us vs Q E room hot pin e0 bt rv hsp
    have hlen := len vs G Q E hsp
    have KI : K.In s.heap := e0.mod.kin.keeps fun b o e => (e0.bs b o e).1
    have nolim : s.heap.NoLimit := e0.mod.nolimit.keeps fun b o e => (e0.bs b o e).1
    have kinds : ∀ y ∈ ps.zip us, scope.names.lookup y.1 = some .local ∨ (scope.names.lookup y.1 = some .cell ∧ ((cellsFrom (s.heap.objs.size + 1) scope.names []).lookup y.1).isSome = true) := by
      rintro ⟨y, u⟩ hy
      cases S.par y (List.of_mem_zip hy).1 with
      | inl z => exact .inl z
      | inr z => exact .inr ⟨z, PySem.W.cellsFrom_some _ _ _ (.inl z)⟩
    refine codeAny_call_function room.depth (KI f _ lk) rfl S.co S.gen rfl (PySem.W.codeRec_of KI hcd) (bt _ _ _ _ (wpAny_newFunctionEnv_cells S.kind kinds ?_))
    rintro env rfl s1 x
    refine ⟨nolim.keeps x.toInCall.keep, codeAny_func ?_⟩
    obtain ⟨t, ht, ht2⟩ := hb A out s G vs Q E hot (room.deeper _) hsp
    have J0 := inv_startH (CX := CX) (mg := mg) (f := f) (cd := cdv) (E := E) S pin e0 hlen rv x
    refine wpAny_mono (ht.run [] s1 _ G _ J0 ht2) ?_ fun _ _ z => z
    intro fl s2 z
    match fl, z with
    | .ret u, ⟨v, _, G2, J, r, q⟩ => exact ⟨v, G2, J.os, J.bare, J.base, J.hok, r, q⟩
    | .next, ⟨_, G2, J, q⟩ => exact ⟨V.non, G2, J.os, J.bare, J.base, J.hok, rfl, q⟩
    | .brk, ⟨_, _, _, q⟩ => exact q.elim
    | .cont, ⟨_, _, _, q⟩ => exact q.elim
section
variable {X : Cx} {CX : CXT} {k : Nat} {f : Addr} {fd : FuncData} {ps : List Str} {sp : Sp} {E : St → XK} {x : Str} {q pos : Pos} {e : Expr} {es : List Expr} {t : TA} {p : Addr × Obj}
theorem run_fnP {pins : List (Addr × Obj)} {σ : St} {G : Hp} {s : Shared} {Q : VK} {us : List Value} {vs : List V} (F : FnP X.prog X.w X.K X.mg X.base CX k f fd ps p sp) (room : RoomH k X.A) (hot : Hot1 X.A p) (hp : p ∈ X.pn) (bi : Binds X.K fd ps []) (hx : PassesAt CX X σ (E σ))
    (I : Inv X pins σ G s) (r : Vals vs us) (hsp : sp vs G Q (E σ)) : wpAny (model X.prog X.w) X.A (call (.ref f) us) (EP X pins σ Q) X.xe s := by
  have ul : us.length = ps.length := r.length.symm.trans (F.len _ _ _ _ hsp)
  have bt := bi s us I.kIn (by simpa using ul)
  rw [List.append_nil] at bt
  obtain ⟨g1, g2, ⟨g3, g4, g5⟩⟩ := I.pin p (List.mem_append_left _ hp)
  have po : PinOk X.stack G s p := ⟨g1, g2, fun m => (List.mem_cons.mp (I.stkSub p.1 m)).elim g3 g4, g5⟩
  refine wpAny_call (codeAny_mono (F.run X.A X.stack s G _ us vs Q (E σ) room hot po I.env0 bt r hsp) ?_)
  intro r2 s2 z
  match r2, z with
  | .error er, z => exact hx pins G s er s2 I z
  | .ok (.ret u), z => exact I.after z
  | .ok .next, z => exact z.elim
  | .ok .brk, z => exact z.elim
  | .ok .cont, z => exact z.elim
theorem pe_callP (F : FnP X.prog X.w X.K X.mg X.base CX k f fd ps p sp) (room : RoomH k X.A) (hot : Hot1 X.A p) (hp : p ∈ X.pn) (hg : Gl X x) (hm : X.mg x = some (.ref f)) (hk : PySem.W.keepIn X.K (.ref f) = true) (bi : Binds X.K fd ps []) (hx : ∀ σ, PassesAt CX X σ (E σ))
    (ha : PA X (e :: es) t) (hdb : (x == ("__debug__" : Str)) = false := by decide) (he : starEach (e :: es) X.env = (false, eval e X.env) :: starEach es X.env := by rfl) (hpl : (backTo pos (starEach es X.env)).any (·.1) = false := by rfl) :
    PE X (.Call (.Name x q) (e :: es) [] pos) (tCallS sp E t) where
  run := fun pins s σ G Q I h => wpAny_Call_Name_kw (ld_glob I hg hm (PySem.W.callWith_K (h₀ := X.base) I.ok.mod.kin hk (thn (ha.run pos pins s σ G _ I h) fun us s1 z => by
    obtain ⟨vs, G1, I1, r, q1⟩ := z
    exact ⟨I1.kIn, run_fnP F room hot hp bi (hx σ) I1 r q1⟩) he hpl) hdb)
/-- isinstance of the error that stands pinned -/
theorem call_isP {D : Addr} (C : ExcC X.K D) (hp : p ∈ X.pn) (hz : Zc (.ref D) none p.2) (hf : ∃ vs, p.2.data = .fields vs) : CallR X (.builtin "isinstance") (rIsE X.K D p.1) := by
  rintro pins s σ G xs us Q I r ⟨c, cv, b, rfl, hcv, e, q⟩
  obtain ⟨u1, u2, rfl, r1, r2⟩ := vals2 r
  cases (show u1 = Value.ref p.1 from r1)
  cases hcv _ r2
  have g := (I.pin p (List.mem_append_left _ hp)).1
  have J : PySem.W.InstAt s.heap p.1 p.2 D none := by
    obtain ⟨vs, hv⟩ := hf
    obtain ⟨pa, ⟨oc, od, oda, osl⟩⟩ := p
    obtain ⟨z1, z2⟩ := hz
    dsimp only at z1 z2 hv
    subst z1 z2 hv
    exact ⟨g, rfl, rfl, trivial⟩
  exact PySem.W.kia_one (PySem.W.handS_kitx_exc C.hg C.hk C.hs C.hd C.ha C.hn C.ht C.hm) I.kIn J e (fun z => nomatch z) fun tk => ⟨.bl b, G, I.kept (t' := tk) fun _ _ z => z, rfl, q⟩
end
end L2H
namespace Lw
open PySem L2 L2H
section
variable {X : Cx} {W : WX} {ex env : Env} {pos : Pos}
theorem hot_of {a C : Addr} {oe : Obj} {A : Around} (hh : A.handled = some (.ref a)) (hz : L2N.Zn (.ref C) none oe) (hvs : ∃ vs, oe.data = .fields vs) : Hot1 A (a, oe) := by
  obtain ⟨vs, hv⟩ := hvs
  exact ⟨hh, vs, hv, hz.2.2 vs hv⟩
theorem hotC_of {A : Around} {p : Addr × Obj} (hot : Hot1 A p) (h : X.A.handled = A.handled := by rfl) (m : X.pn = [p] := by rfl) : HotC X := ⟨p, ⟨h.trans hot.1, hot.2⟩, by rw [m]; exact List.mem_cons_self⟩
/-- isinstance(e, T) where e is told -/
theorem de_isP {isE : Str → Str → Option Bool} {T : Str} {a C : Addr} {oe : Obj} {z : Str} (i : Nat) {n : Str} {p p2 p3 : Pos} (Ex : ExF X.K X.mg isE) (hpn : (a, oe) ∈ X.pn) (hz : L2N.Zn (.ref C) none oe) (hvs : ∃ vs, oe.data = .fields vs) (hg : X.mg z = some (.ref C)) (hm : X.mg "isinstance" = none)
    (he : env[i]? = some (some (.exn z a)) := by rfl) (hN : X.N[i]? = some n := by rfl) (hv : Vis X.env.scope n := by first | exact Or.inl rfl | exact Or.inr (Or.inl rfl) | exact Or.inr (Or.inr rfl)) (hgi : Gl X "isinstance" := by rfl) (hgT : Gl X T := by rfl)
    (hs : starEach [.Name n p3, .Name T p2] X.env = (false, eval (.Name n p3) X.env) :: starEach [.Name T p2] X.env := by rfl) (hs2 : starEach [.Name T p2] X.env = (false, eval (.Name T p2) X.env) :: starEach [] X.env := by rfl)
    (hpl : (backTo pos (starEach [.Name T p2] X.env)).any (·.1) = false := by rfl) (hdb : (T == ("__debug__" : Str)) = false := by decide) (hd : (n == ("__debug__" : Str)) = false := by decide) (hcd : (n == ("__classdict__" : Str)) = false := by decide) :
    DE X W env (.Call (.Name "isinstance" p) [.Name n p3, .Name T p2] [] pos) (isEZ isE T z) := by
  cases hb : isE z T with
  | none =>
    have e : isEZ isE T z = stuck := by
      unfold isEZ
      rw [hb]
    rw [e]
    exact ⟨fun pins s σ H Q I ⟨fr, F, m, ah, S, er, k⟩ => k.elim⟩
  | some b =>
    obtain ⟨E, v, cv, r1, r2, tv, k1, k2⟩ := Ex.ok z T b hb C hg
    have pe : PE X (.Name T p2) (tC v) := by
      rcases tv with t | ⟨t1, t2, t3⟩
      · exact pe_glob hgT t r1 hdb
      · exact pe_bltn hgT t1 t2 r1 t3 hdb
    have e : isEZ isE T z = pure (.bl b) := by
      unfold isEZ
      rw [hb]
    rw [e]
    refine PE.from (pe_callB (call_isP (p := (a, oe)) E hpn hz.zc hvs) hgi hm (by decide +kernel) (pa_cons (pv i hN hv hd hcd) (pa_cons pe pa_nil hs2) hs) (by decide) (by decide) hs hpl) fun σ H Q ⟨fr, F, m, ah, S, er, k⟩ => ?_
    obtain ⟨u, h1, h2⟩ := er.2 i _ he
    unfold Rep at h2
    subst h2
    exact ⟨_, h1, v, cv, b, rfl, r2, k1, k F m _ H Ext.refl S Rep.bl⟩
/-! ### such a def -/
def gE (z : Str) (a : Addr) (m : M D) : List D → M D
  | [.exn z' a'] => if z' = z ∧ a' = a then m else stuck
  | _ => stuck
theorem fnP1 {P : Program} {w : World} {K : Fg} {mg : Str → Option Value} {base : Heap} {x qual : Str} {st : Stmt} {f : Addr} {fd : FuncData} {N ps : List Str} {k : Nat} {τ : Type} {mk : τ → Env} {lp : Empty → Env} {mc : M (Out τ Empty)} {z : Str} {a : Addr} {oe : Obj}
    (F : Fun K x qual st f fd) (S : FnScope N ps (defScope st)) (hn : ps.length = 1)
    (h : ∀ (cdv : Value) (A : Around) (out : List PySem.Env) (s : Shared) (G : Hp) (E : XK), Hot1 A (a, oe) → RoomH k (A.deeper (PyProof.Rows.envOfC qual (defScope st) s.heap.objs.size f cdv)) →
      DS (cxH (L2N.CX P w) P w K mg base N qual (defScope st) f cdv A out s G E (a, oe)) (fun c d _ G => E c d G) (List.replicate N.length none) ([some (.exn z a)] ++ List.replicate (N.length - 1) none) mk lp (defBody st) mc) :
    FnP P w K mg base (L2N.CX P w) (k + 1) f fd ps (a, oe) (spD K mg 1 (gE z a (defM mc))) := by
  obtain ⟨oc, od, kV, doc, pm, an, cdv, ct, osl, rfl, lk, hcd⟩ := F.ex
  refine fnP_of lk hcd S (fun vs G Q E q => q.1.trans hn.symm) fun A out s G vs Q E hot hr hsp => ?_
  obtain ⟨hl, fr, F', m, ah, ds, S', r, q⟩ := hsp
  refine ⟨_, h cdv A out s G E hot hr, fr, F', m, ah, S', ?_⟩
  match ds, r, q with
  | [], r, q => exact q.elim
  | .exn z' a' :: [], r, q =>
    have q2 : TK K mg fr (fun c d _ G => E c d G) (Rep K) [] F' m ((if z' = z ∧ a' = a then defM mc else stuck) ah) Q := q
    clear q
    by_cases c : z' = z ∧ a' = a
    · rw [if_pos c] at q2
      obtain ⟨rfl, rfl⟩ := c
      refine ⟨⟨?_, fun i d hi => ?_⟩, ?_⟩
      · have pl : ps.length ≤ N.length := by
          have y := congrArg List.length S.pre
          rw [List.length_take] at y
          omega
        unfold L2.start
        simp [hl]
        omega
      · cases i with
        | zero =>
          cases hi
          obtain ⟨v, rfl, rv⟩ := RepL.one r
          exact ⟨v, rfl, rv⟩
        | succ i =>
          rw [List.getElem?_append_right (by simp), List.getElem?_replicate] at hi
          split at hi <;> cases hi
      · have q : TK K mg fr (fun c d _ G => E c d G) (Rep K) [] F' m (dres (mc ah)) Q := q2
        cases hm : mc ah with
        | ok o b =>
          rw [hm] at q
          cases o with
          | nx t => exact fun F2 m2 σ2 H2 e2 s2 r2 => q F2 m2 .non H2 e2 s2 Rep.non
          | ret d => exact fun F2 m2 v H2 e2 s2 r2 => q F2 m2 v H2 e2 s2 r2
          | bk b => exact b.elim
          | ct b => exact b.elim
        | exc y b =>
          rw [hm] at q
          exact fun F2 m2 C σ2 H2 e2 s2 r2 hC => q F2 m2 C H2 e2 s2 hC
        | stuck =>
          rw [hm] at q
          exact q
    · rw [if_neg c] at q2
      exact q2.elim
  | .non :: [], r, q => exact q.elim
  | .bl _ :: [], r, q => exact q.elim
  | .int _ :: [], r, q => exact q.elim
  | .str _ :: [], r, q => exact q.elim
  | .ref _ :: [], r, q => exact q.elim
  | .emp :: [], r, q => exact q.elim
  | .tup _ :: [], r, q => exact q.elim
  | .lst _ :: [], r, q => exact q.elim
  | d :: _ :: _, r, q => cases d <;> exact q.elim
/-- for every error of the suite -/
structure CalP (P : Program) (w : World) (K : Fg) (mg : Str → Option Value) (base : Heap) (x : Str) (k : Nat) (g : Str → M D) : Prop where
  ex : ∃ (f : Addr) (fd : FuncData) (ps : List Str), (∀ (z : Str) (a C : Addr) (oe : Obj), L2N.Zn (.ref C) none oe → (∃ vs, oe.data = .fields vs) → mg z = some (.ref C) → FnP P w K mg base (L2N.CX P w) k f fd ps (a, oe) (spD K mg 1 (gE z a (g z)))) ∧ mg x = some (.ref f) ∧ PySem.W.keepIn K (.ref f) = true ∧ Binds K fd ps []
theorem Dfn.calP {P : Program} {w : World} {K : Fg} {mg : Str → Option Value} {base : Heap} {x qual : Str} {st : Stmt} {ps : List Str} {k : Nat} {g : Str → M D} (D : Dfn K mg x qual st ps)
    (h : ∀ (f : Addr) (fd : FuncData), Fun K x qual st f fd → ∀ (z : Str) (a C : Addr) (oe : Obj), L2N.Zn (.ref C) none oe → (∃ vs, oe.data = .fields vs) → mg z = some (.ref C) → FnP P w K mg base (L2N.CX P w) k f fd ps (a, oe) (spD K mg 1 (gE z a (g z)))) : CalP P w K mg base x k g := by
  obtain ⟨f, fd, F, hm, hk, hb⟩ := D.ex
  exact ⟨f, fd, ps, h f fd F, hm, hk, hb⟩
/-- f(e) in the suite that holds e -/
theorem de_cP {a C : Addr} {oe : Obj} {pn : List (Addr × Obj)} {z x : Str} {k j : Nat} {g : Str → M D} (c : CalP X.prog X.w X.K X.mg X.base x k g) (hr : Room j X.A) (hj : k ≤ j) (i : Nat) {n : Str} {p p3 : Pos} (hz : L2N.Zn (.ref C) none oe) (hvs : ∃ vs, oe.data = .fields vs) (hg : X.mg z = some (.ref C))
    (he : env[i]? = some (some (.exn z a)) := by rfl) (hN : X.N[i]? = some n := by rfl) (hv : Vis X.env.scope n := by first | exact Or.inl rfl | exact Or.inr (Or.inl rfl) | exact Or.inr (Or.inr rfl)) (hgx : Gl X x := by rfl)
    (hs : starEach [.Name n p3] X.env = (false, eval (.Name n p3) X.env) :: starEach [] X.env := by rfl) (hpl : (backTo pos (starEach [] X.env)).any (·.1) = false := by rfl) (hdb : (x == ("__debug__" : Str)) = false := by decide) (hd : (n == ("__debug__" : Str)) = false := by decide) (hcd : (n == ("__classdict__" : Str)) = false := by decide) :
    DE (X.suite a ((a, oe) :: pn)) W0 env (.Call (.Name x p) [.Name n p3] [] pos) (g z) := by
  obtain ⟨f, fd, ps, G, hm, hk, hb⟩ := c.ex
  have room : RoomH k (X.A.mark (some (.ref a))) := (⟨hr.dp, by rw [Around.mark_units]; exact hr.un⟩ : RoomH j (X.A.mark (some (.ref a)))).mono hj
  refine PE.from (pe_callP (X := X.suite a ((a, oe) :: pn)) (E := fun σ => fun c d H => W0 c d σ H) (G z a C oe hz hvs hg) room (hot_of rfl hz hvs) List.mem_cons_self hgx hm hk hb (fun σ pins H s e s' I z => by
    obtain ⟨_, _, _, _, _, _, _, _, _, _, _, _, y⟩ := z
    exact y.elim) (pa_cons (pv i hN hv hd hcd) pa_nil hs) hdb hs hpl) fun σ H Q ⟨fr, F, m, ah, S, er, q⟩ => ?_
  obtain ⟨u, h1, h2⟩ := er.2 i _ he
  unfold Rep at h2
  subst h2
  refine ⟨_, h1, rfl, fr, F, m, ah, [.exn z a], S, RepL.cons (by unfold Rep; rfl) RepL.nil, ?_⟩
  have e : gE z a (g z) [.exn z a] = g z := by
    show (if z = z ∧ a = a then g z else stuck) = g z
    rw [if_pos ⟨rfl, rfl⟩]
  rw [e]
  exact TK.wish q
end
end Lw
/-! SimYd: dicts of the module's own top (texts to numbers), read; upper. -/
namespace Lw
open PySem L2 PySem.Spec PyProof.Rows
def kval (kvs : List (Str × Int)) (z : Str) : Option Int := (kvs.find? fun p => decide (p.1 = z)).map (·.2)
theorem kval_val (z : Str) : ∀ kvs : List (Str × Int), valV (kvs.map fun p => ((Sum.inr p.1 : Key), V.int p.2)) (.inr z) = (kval kvs z).map V.int
  | [] => rfl
  | (y, i) :: r => by
    have ih := kval_val z r
    unfold valV kval at ih ⊢
    rw [List.map_cons, List.find?_cons, List.find?_cons]
    by_cases h : y = z
    · subst h
      simp
    · rw [decide_eq_false (show ¬(Sum.inr y : Key) = .inr z from fun e => h (Sum.inr.inj e)), decide_eq_false h]
      exact ih
/-- the name stands for a dict of texts to numbers -/
structure KdF (w : World) (K : Fg) (mg : Str → Option Value) (x : Str) (kvs : List (Str × Int)) : Prop where
  ok : ∃ a vs, mg x = some (.ref a) ∧ (a == sysModules) = false ∧ KV (kvs.map fun p => ((Sum.inr p.1 : Key), V.int p.2)) vs ∧ ∀ (P : Program) (h : Heap), K.In h → h.DictOf (mixKind P w) a vs
section
variable {X : Cx} {i : Expr} {p pos : Pos} {ti : TE} {x : Str} {kvs : List (Str × Int)}
theorem pe_kget (G : KdF X.w X.K X.mg x kvs) (hg : Gl X x) (hi : PE X i ti) (hs : NoSl i) (hdb : (x == ("__debug__" : Str)) = false := by decide) :
    PE X (.Subscript (.Name x p) i pos) (fun σ H Q => ti σ H fun y H1 => ∃ z j, y = .str z ∧ kval kvs z = some j ∧ Q (.int j) H1) := by
  obtain ⟨a, vs, hm, hd, rel, dk⟩ := G.ok
  refine ⟨fun pins s σ H Q I h => ?_⟩
  refine subD_of PySem.F.slot_dict_getitem.lookup hs (thn ((pe_glob hg hm (show RelV (.ref a) (.ref a) from rfl) hdb).run pins s σ H (fun v H' => v = .ref a ∧ H' = H) I ⟨rfl, rfl⟩) fun u s1 ⟨x', H1, I1, rx, ex, eH⟩ => ?_)
  subst ex eH
  obtain rfl : u = Value.ref a := rx
  refine thn (hi.run pins s1 σ H1 _ I1 h) fun iv s2 ⟨y, H2, I2, ry, z, j, ey, hv, q2⟩ => ?_
  have dd := dk X.prog s2.heap I2.kIn
  refine ⟨dd.typeIs, ?_⟩
  subst ey
  obtain ⟨w', hw, rw'⟩ := RelO.some_of (v := .int j) (o := valueAt vs (.inr z)) (by
    have r := rel.val (.inr z)
    rw [kval_val, hv] at r
    exact r)
  exact wpAny_getItem_of (kV_is (k := .inr z) ry) dd.mapOf hw ⟨_, H2, I2.tok _, rw', q2⟩
theorem pc_kin (G : KdF X.w X.K X.mg x kvs) (hg : Gl X x) (hi : PE X i ti) (hdb : (x == ("__debug__" : Str)) = false := by decide) :
    PC X .In i (.Name x p) (fun σ H Q => ti σ H fun y H1 => ∃ z, y = .str z ∧ Q (.bl (kval kvs z).isSome) H1) := by
  obtain ⟨a, vs, hm, hd, rel, dk⟩ := G.ok
  refine ⟨fun pins s σ H Q I h => ?_⟩
  refine thn (hi.run pins s σ H _ I h) fun iv s1 ⟨y, H1, I1, ry, z, ey, q1⟩ => thn ((pe_glob hg hm (show RelV (.ref a) (.ref a) from rfl) hdb).run pins s1 σ H1 (fun v H' => v = .ref a ∧ H' = H1) I1 ⟨rfl, rfl⟩) fun u s2 ⟨x', H2, I2, rx, ex, eH⟩ => ?_
  subst ex eH ey
  obtain rfl : u = Value.ref a := rx
  have dd := dk X.prog s2.heap I2.kIn
  refine wpAny_in_of (kV_is (k := .inr z) ry) hd dd.mapOf ?_
  have r := (rel.val (.inr z)).isSome_eq
  rw [kval_val, Option.isSome_map] at r
  rw [← r]
  exact ⟨.bl _, H2, I2.tok _, rfl, q1⟩
end
/-- the entries of such a dict -/
inductive EsOf (P : Params) : List DictEntry → List (Str × Int) → Prop
  | nil : EsOf P [] []
  | cons {z : Str} {t u : Tok} {i : Int} {es : List DictEntry} {kvs : List (Str × Int)} : EsOf P es kvs → EsOf P (⟨PyData.keyHash P z, .str z t, .int i u⟩ :: es) ((z, i) :: kvs)
theorem kdf_mk {w : World} {K : Fg} {h : Heap} {mg : Str → Option Value} {x : Str} {kvs : List (Str × Int)} {a : Addr} {es : Array DictEntry} {ep : Nat} (X : K.In h) (G : h.Ns mainGlobals mg)
    (q : PySem.W.nsIn K mainGlobals x = some (some (.ref a))) (l : K.lookup a = some { cls := .type "dict", data := .dict es ep }) (s : (a == sysModules) = false) (nd : (kvs.map fun p => p.1).Nodup) (e : EsOf w.params es.toList kvs) : KdF w K mg x kvs := by
  have vs0 : ∃ vs : List (Key × Value), KV (kvs.map fun p => ((Sum.inr p.1 : Key), V.int p.2)) vs ∧ ∀ P : Program, Pairs (mixKind P w) es.toList vs ∧ vs.map (·.1) = kvs.map (fun p => (Sum.inr p.1 : Key)) ∧ ∀ e ∈ es.toList, ∃ k : Key, (mixKind P w).is k e.key = true ∧ e.hash = (mixKind P w).hash k := by
    generalize es.toList = el at e
    clear l nd
    induction e with
    | nil => exact ⟨[], .nil, fun P => ⟨.nil, rfl, fun _ h => nomatch h⟩⟩
    | @cons z t u i es kvs _ ih =>
      obtain ⟨vs, h1, h2⟩ := ih
      refine ⟨(.inr z, .int i u) :: vs, .cons ⟨rfl, u, rfl⟩ h1, fun P => ⟨.cons (mixKind_str P w z t) rfl (h2 P).1, ?_, ?_⟩⟩
      · rw [List.map_cons, List.map_cons, (h2 P).2.1]
      · intro e he
        rcases List.mem_cons.mp he with rfl | he
        · exact ⟨.inr z, mixKind_str P w z t, rfl⟩
        · exact (h2 P).2.2 e he
  obtain ⟨vs, h1, h2⟩ := vs0
  refine ⟨a, vs, PySem.W.mg_of X G q, s, h1, fun P h' X' => ?_⟩
  obtain ⟨h3, h4, h5⟩ := h2 P
  refine ⟨_, es, ep, X' _ _ l, ⟨rfl, rfl, rfl⟩, rfl, fun e he => h5 e (Array.mem_toList_iff.mpr he), h3, ?_⟩
  rw [h4]
  refine List.pairwise_map.mpr ((List.pairwise_map.mp nd).imp fun hn he => hn (Sum.inr.inj he))
theorem hu64H {A : Around} {k : Nat} (hr : L2H.RoomH k A) : A.units + 64 < cLine := by
  have := hr.un
  omega
def kgetM (kvs : List (Str × Int)) (y : D) : M D := fun h => match y with
  | .str z => (match kval kvs z with
    | some j => .ok (.int j) h
    | none => .stuck)
  | _ => .stuck
def kinM (neg : Bool) (kvs : List (Str × Int)) (y : D) : M D := fun h => match y with
  | .str z => .ok (.bl (xor neg (kval kvs z).isSome)) h
  | _ => .stuck
section
variable {X : Cx} {W : WX} {env : Env} {p pos apos : Pos} {i o : Expr} {mi mo : M D} {x : Str} {kvs : List (Str × Int)}
theorem de_kget (G : KdF X.w X.K X.mg x kvs) (hi : DE X W env i mi) (hg : Gl X x := by rfl) (hs : NoSl i := by intro _ _; rfl) (hdb : (x == ("__debug__" : Str)) = false := by decide) :
    DE X W env (.Subscript (.Name x p) i pos) (do let y ← mi; kgetM kvs y) :=
  PE.from (pe_kget G hg hi hs hdb) fun σ H Q ⟨fr, F, m, ah, s, er, q⟩ => TK.step s er q fun F1 m1 ah1 d v H1 e1 s1 er1 r1 k1 => by
    unfold kgetM at k1
    cases d <;> try exact k1.elim
    rename_i z
    unfold Rep at r1
    cases hv : kval kvs z with
    | none =>
      simp only [hv] at k1
      exact k1.elim
    | some j =>
      simp only [hv] at k1
      exact ⟨z, j, r1, hv, TK.val k1 s1 Rep.int⟩
theorem kin_from {neg : Bool} : ∀ σ H Q, TC X.K X.mg W (Rep X.K) env (do let y ← mi; kinM neg kvs y) σ H Q →
    TC X.K X.mg W (Rep X.K) env mi σ H fun y H1 => ∃ z, y = .str z ∧ Q (.bl (xor neg (kval kvs z).isSome)) H1 := fun σ H Q ⟨fr, F, m, ah, s, er, q⟩ => TK.step s er q fun F1 m1 ah1 d v H1 e1 s1 er1 r1 k1 => by
    unfold kinM at k1
    cases d <;> try exact k1.elim
    rename_i z
    unfold Rep at r1
    exact ⟨z, r1, TK.val k1 s1 Rep.bl⟩
theorem de_kin (G : KdF X.w X.K X.mg x kvs) (hi : DE X W env i mi) (hg : Gl X x := by rfl) (hdb : (x == ("__debug__" : Str)) = false := by decide) (hm : behindInMarks .In (.Name x p) = false := by rfl) :
    DE X W env (.Compare i [.In] [.Name x p] pos) (do let y ← mi; kinM false kvs y) :=
  PE.from (pe_cmp (pc_kin G hg hi hdb) hm) fun σ H Q q => by
    have z := kin_from σ H Q q
    simp only [Bool.false_xor] at z
    exact z
end
end Lw
/-! SimYx: texts taken apart; slices by steps; range of three; tuples of the module's top; isinstance of two. -/
namespace Lw
open PySem L2 PySem.Spec PyProof.Rows
section
variable {X : Cx} {W : WX} {env : Env} {p p1 p2 p3 pos apos : Pos}
theorem rep_strs {K : Fg} {F : Hp} {m : List Addr} : ∀ ys : List Str, RepL K F m (ys.map D.str) (ys.map V.str)
  | [] => RepL.nil
  | y :: ys => RepL.cons Rep.str (rep_strs ys)
/-! x.split(y), x.strip(y), x.rfind(y) -/
def splitM (x y : D) : M D := fun h => match x, y with
  | .str a, .str b => if (lenOk (a.length + 2) && !(b.length == 0)) = true then .ok (.lst ((Txt.split a b).map D.str)) h else .stuck
  | _, _ => .stuck
theorem de_split {o e : Expr} {mo me : M D} (ho : DE X W env o mo) (he : DE X W env e me) (hbase : attributeBase o "split" X.env (eval o X.env) = eval o X.env := by rfl)
    (hline : (apos.endLine == pos.line) = true := by rfl) (hs : starEach [e] X.env = [(false, eval e X.env)] := by rfl) :
    DE X W env (.Call (.Attribute o "split" apos) [e] [] pos) (do let x ← mo; let _ ← schk x; let y ← me; splitM x y) :=
  de_sm1 PySem.F.slot_str_split PySem.F.type_str_split mt_split (fun fr W σ F m ah H d e v w Q S r1 r2 k => by
    unfold splitM at k
    cases d <;> try exact k.elim
    cases e <;> try exact k.elim
    rename_i a b
    unfold Rep at r1 r2
    subst r1 r2
    by_cases hc : (lenOk (a.length + 2) && !(b.length == 0)) = true
    · simp only [hc, if_true] at k
      rw [Bool.and_eq_true] at hc
      exact ⟨a, b, rfl, rfl, by simpa using hc.2, of_decide_eq_true hc.1, fun p hp => TK.newL k S (rep_strs _) hp⟩
    · simp only [hc] at k
      exact k.elim) ho he hbase hline hs
def stripCM (x y : D) : M D := fun h => match x, y with
  | .str a, .str b => if lenOk a.length = true then .ok (.str (Txt.stripChars a b)) h else .stuck
  | _, _ => .stuck
theorem de_stripC {o e : Expr} {mo me : M D} (ho : DE X W env o mo) (he : DE X W env e me) (hbase : attributeBase o "strip" X.env (eval o X.env) = eval o X.env := by rfl)
    (hline : (apos.endLine == pos.line) = true := by rfl) (hs : starEach [e] X.env = [(false, eval e X.env)] := by rfl) :
    DE X W env (.Call (.Attribute o "strip" apos) [e] [] pos) (do let x ← mo; let _ ← schk x; let y ← me; stripCM x y) :=
  de_sm1 PySem.F.slot_str_strip PySem.F.type_str_strip mt_stripChars (fun fr W σ F m ah H d e v w Q S r1 r2 k => by
    unfold stripCM at k
    cases d <;> try exact k.elim
    cases e <;> try exact k.elim
    rename_i a b
    unfold Rep at r1 r2
    subst r1 r2
    by_cases hc : lenOk a.length = true
    · simp only [hc, if_true] at k
      exact ⟨a, b, rfl, rfl, of_decide_eq_true hc, TK.val k S Rep.str⟩
    · simp only [hc] at k
      exact k.elim) ho he hbase hline hs
/-! xs[lo::k] of a list -/
def stepD {α : Type} (xs : List α) (lo : Option Int) (k : Int) : List α := (sliceRange (sliceBounds lo none (some k) xs.length).1 (sliceBounds lo none (some k) xs.length).2.1 (sliceBounds lo none (some k) xs.length).2.2).filterMap (xs[·]?)
theorem stepD_le {α : Type} (xs : List α) (lo : Option Int) (k : Int) (hk : 0 < k) : (stepD xs lo k).length ≤ xs.length := by
  unfold stepD
  refine Nat.le_trans (List.length_filterMap_le _ _) (sliceRange_length_le _ _ _ _ (fun _ => ?_) fun h => absurd (show (sliceBounds lo none (some k) xs.length).2.2 > 0 from hk) h)
  unfold sliceBounds
  simp only [Option.getD_some, show k > 0 from hk, if_true]
  refine ⟨?_, Int.le_refl _⟩
  cases lo with
  | none => exact Int.le_refl _
  | some i => exact Int.le_max_left _ _
theorem RepL.pick {K : Fg} {F : Hp} {m : List Addr} {ds : List D} {vs : List V} (r : RepL K F m ds vs) : ∀ is : List Nat, RepL K F m (is.filterMap (ds[·]?)) (is.filterMap (vs[·]?))
  | [] => RepL.nil
  | i :: is => by
    rw [List.filterMap_cons, List.filterMap_cons]
    have ih := RepL.pick r is
    cases h : ds[i]? with
    | none =>
      have h2 : vs[i]? = none := by
        rw [List.getElem?_eq_none_iff] at h ⊢
        rw [RepL.length r]
        exact h
      rw [h2]
      exact ih
    | some d =>
      obtain ⟨v, h2, h3⟩ := RepL.get r h
      rw [h2]
      exact RepL.cons h3 ih
theorem RepL.step {K : Fg} {F : Hp} {m : List Addr} {ds : List D} {vs : List V} {lo : Option Int} {k : Int} (r : RepL K F m ds vs) : RepL K F m (stepD ds lo k) (stepD vs lo k) := by
  unfold stepD
  rw [RepL.length r]
  exact RepL.pick r _
theorem Vals.pick {xs : List V} {ys : List Value} (r : Vals xs ys) : ∀ is : List Nat, Vals (is.filterMap (xs[·]?)) (is.filterMap (ys[·]?))
  | [] => .nil
  | i :: is => by
    rw [List.filterMap_cons, List.filterMap_cons]
    have ih := Vals.pick r is
    have hl := Paired.length r
    have key : ∀ (i : Nat), (xs[i]? = none ∧ ys[i]? = none) ∨ ∃ x y, xs[i]? = some x ∧ ys[i]? = some y ∧ RelV x y := by
      clear ih hl
      induction r with
      | nil => intro i; left; simp
      | cons h t ih =>
        intro i
        cases i with
        | zero => right; exact ⟨_, _, rfl, rfl, h⟩
        | succ i => simpa using ih i
    rcases key i with ⟨h1, h2⟩ | ⟨x, y, h1, h2, h3⟩
    · rw [h1, h2]
      exact ih
    · rw [h1, h2]
      exact .cons h3 ih
def tStep (K : PySem.W.Frag) (k : Int) (te : TE) (tl : L2.TO) : TE := fun σ H Q => te σ H fun x H1 => tl σ H1 fun l H2 => ∃ a xs, x = .ref a ∧ SqL K H2 a xs ∧ ∀ p, H2 p = none → Q (.ref p) (upd H2 p (.lst (stepD xs l k)))
theorem pe_step {e : Expr} {lo : Option Expr} {te : TE} {tl : L2.TO} {j} {k : Int} (hk : 0 < k) (he : PE X e te) (hl : PO X lo tl) : PE X (.Subscript e (.Slice lo none (some (.Constant (.int k) j p1)) p3) pos) (tStep X.K k te tl) := by
  refine ⟨fun pins s σ H Q I h => ?_⟩
  refine Subscript_ (thn (he.run pins s σ H _ I h) fun v s1 ⟨x, H1, I1, r1, q1⟩ => ?_)
  have hst : PO X (some (.Constant (.int k) j p1)) (tPart (tC (.int k))) := po_some pe_int
  refine wpAny_Slice (thn (hl.run pins s1 σ H1 _ I1 q1) fun vl s2 ⟨l, H2, I2, pl, q2⟩ => ?_)
  refine thn (po_none.run pins s2 σ H2 (fun o H3 => o = none ∧ H3 = H2) I2 ⟨rfl, rfl⟩) fun vu s3 ⟨u, H3, I3, pu, eu, e3⟩ => ?_
  subst eu e3
  refine thn (hst.run pins s3 σ H3 (fun o H4 => o = some k ∧ H4 = H3) I3 ⟨k, rfl, rfl, rfl⟩) fun vs s4 ⟨o, H4, I4, ps, eo, e4⟩ => ?_
  subst eo e4
  obtain ⟨a, xs, ex, hx, q⟩ := q2
  subst ex
  cases r1
  have I5 : Inv X pins σ H4 { s4 with heap := s4.heap.push { cls := .type "slice", data := .fields #[vl, vu, vs] } } := I4.kept (t' := s4.toks) fun b ob q => Heap.get?_push_of_some _ q
  obtain ⟨its, r, ht, hz⟩ := I5.list hx
  have hlen := r.length
  show wpAny (model X.prog X.w) X.A (subscriptTail e (.Slice lo none (some (.Constant (.int k) j p1)) p3) (.ref a) (.ref s4.heap.objs.size)) (EP X pins σ Q) X.xe { s4 with heap := s4.heap.push { cls := .type "slice", data := .fields #[vl, vu, vs] } }
  refine tail_any (ops := [.ref a, .ref s4.heap.objs.size]) ht.isList.typeIs (PySem.slot_list_getitem.lookup) ?_ (by with_unfolding_all rfl)
  refine wpAny_getItem_list_slice ht.isList (Heap.IsSliceOf.new _ vl vu vs) pl pu ps (by simp; omega) ?_ (by rw [List.size_toArray]; omega)
  have e : slicePick its.toArray l none (some k) = (stepD its l k).toArray := by
    unfold slicePick stepD
    simp
  rw [e]
  refine ⟨.ref _, _, I5.laid (t' := s4.toks) (o := .lst (stepD xs l k)) (fun b ob q => Heap.get?_push_of_some _ q) (Nat.le_refl _) ?_, rfl, q _ (I5.hok.fresh (Nat.le_refl _))⟩
  refine ⟨Nat.le_trans (stepD_le xs l k hk) hz, _, 0, ?_, Heap.get?_push_size _ rfl⟩
  show Vals (stepD xs l k) (stepD its l k)
  unfold stepD
  rw [hlen]
  exact Vals.pick r _
def stepM (k : Int) (x : D) (lo : Option Int) : M D := fun h => match lstOf h x with
  | some xs => .ok (.lst (stepD xs lo k)) h
  | none => .stuck
theorem de_step {e : Expr} {lo : Option Expr} {me : M D} {ml : M (Option Int)} {j} {k : Int} (hk : (0 < k) := by decide) (he : DE X W env e me) (hl : DO X W env lo ml) : DE X W env (.Subscript e (.Slice lo none (some (.Constant (.int k) j p1)) p3) pos) (do let x ← me; let l ← ml; stepM k x l) :=
  PE.from (pe_step hk he hl) fun σ H Q ⟨fr, F, m, ah, s, er, q⟩ => TK.step s er q fun F1 m1 ah1 d v H1 e1 s1 er1 r1 k1 => TK.step s1 er1 k1 fun F2 m2 ah2 d2 v2 H2 e2 s2 er2 r2 k2 => by
    cases r2
    unfold stepM at k2
    cases hx : lstOf ah2 d with
    | none =>
      simp only [hx] at k2
      exact k2.elim
    | some xs =>
      simp only [hx] at k2
      obtain ⟨a, us, h1, h2, h3⟩ := lst_of s2 (Rep.ext e2 _ _ r1) hx
      exact ⟨a, us, h1, h2, fun p hp => TK.newL k2 s2 (RepL.step h3) hp⟩
/-! range(a, b, c) -/
def rangeC (lo c : Int) (n : Nat) : List D := (List.range n).map fun k => D.int (lo + (k : Nat) * c)
theorem yl_rangeC {K : Fg} {mg : Str → Option Value} {F : Hp} {m : List Addr} (lo c : Int) (n : Nat) : Yl K mg F m (rangeC lo c n) (Itc lo c n) where
  go := fun i fr F1 m1 ah1 H1 e s hi => by
    unfold rangeC at hi
    rw [List.length_map, List.length_range] at hi
    exact hi
  stop := fun fr F1 m1 ah1 H1 e s => by
    unfold rangeC
    rw [List.length_map, List.length_range]
    exact Nat.le_refl _
  yld := fun i fr F1 m1 ah1 H1 x H2 e s hi y => by
    obtain ⟨e2, y⟩ := y
    subst e2 y
    unfold rangeC at hi
    rw [List.length_map, List.length_range] at hi
    exact ⟨F1, .int (lo + (i : Nat) * c), by unfold rangeC; rw [List.getElem?_map, List.getElem?_range hi]; rfl, Ext.refl, s, Rep.int⟩
def rng3M : List D → M (List D)
  | [.int i, .int j, .int c] => if (!decide (c = 0) && decide (c.natAbs < 1073741824) && (Builtin.Range.small i j c && decide (0 ≤ Builtin.Range.rangeSize i j c))) = true then pure (rangeC i c (Builtin.Range.rangeSize i j c).toNat) else stuck
  | _ => stuck
theorem di_range3 {tg a b c : Expr} {ma mb mc : M D} (hm : X.mg "range" = none) (ha : DE X W env a ma) (hb : DE X W env b mb) (hc : DE X W env c mc) (hg : Gl X "range" := by rfl) (hs : starEach [a, b, c] X.env = (false, eval a X.env) :: starEach [b, c] X.env := by rfl)
    (hs1 : starEach [b, c] X.env = (false, eval b X.env) :: starEach [c] X.env := by rfl) (hs2 : starEach [c] X.env = [(false, eval c X.env)] := by rfl) (hpl : (backTo pos (starEach [b, c] X.env)).any (·.1) = false := by rfl) :
    DI X W env tg (.Call (.Name "range" p) [a, b, c] [] pos) (do let x ← ma; let y ← mb; let z ← mc; rng3M [x, y, z]) :=
  PI.from (pi_range3 (pos := pos) (p := p) hg hm (da_cons ha (da_two hb hc hs1 hs2) hs) hs hpl) fun σ H Q ⟨fr, F, m, ah, s, er, k⟩ => by
    have e : ((do let x ← ma; let xs ← (do let x ← mb; let y ← mc; pure [x, y]); pure (x :: xs)) >>= rng3M) = (do let x ← ma; let y ← mb; let z ← mc; rng3M [x, y, z]) := by
      rw [bind_assoc]
      congr 1
      funext x
      rw [bind_assoc, bind_assoc]
      congr 1
      funext y
      rw [bind_assoc]
      rfl
    have k' : TK X.K X.mg fr W (Yl X.K X.mg) σ F m (((do let x ← ma; let xs ← (do let x ← mb; let y ← mc; pure [x, y]); pure (x :: xs)) >>= rng3M) ah) (fun J H' => Q J H') := by
      rw [e]
      exact k
    refine TK.step (R := RepL X.K) s er k' fun F1 m1 ah1 d v H1 e1 s1 er1 r1 k1 => ?_
    unfold rng3M at k1
    split at k1
    · rename_i i j c
      by_cases h : (!decide (c = 0) && decide (c.natAbs < 1073741824) && (Builtin.Range.small i j c && decide (0 ≤ Builtin.Range.rangeSize i j c))) = true
      · rw [if_pos h] at k1
        unfold RepL at r1
        obtain ⟨v1, u1, rfl, q1, r1⟩ := r1
        obtain ⟨v2, v3, rfl, q2, q3⟩ := RepL.two r1
        unfold Rep at q1 q2 q3
        subst q1 q2 q3
        rw [Bool.and_eq_true, Bool.and_eq_true, Bool.and_eq_true] at h
        refine ⟨i, j, c, _, rfl, ⟨by simpa using h.1.1, of_decide_eq_true h.1.2, h.2.1, (Int.toNat_of_nonneg (of_decide_eq_true h.2.2)).symm⟩, k1 F1 m1 _ H1 Ext.refl s1 (yl_rangeC i c _)⟩
      · rw [if_neg h] at k1
        exact (TK.stuck_of k1).elim
    · exact (TK.stuck_of k1).elim
end
/-! a tuple of texts of the module's top -/
theorem gv_tups {K : Fg} {h : Heap} {mg : Str → Option Value} {x : Str} {zs : List Str} {a : Addr} {its : Array Value} {n : Nat} (X : K.In h) (G : h.Ns mainGlobals mg) (q : PySem.W.nsIn K mainGlobals x = some (some (.ref a)))
    (l : K.lookup a = some { cls := .type "tuple", data := .seq its n }) (hl : its.size ≤ sizeLine) (hv : Vals (zs.map V.str) its.toList) : GvF K mg x (.tup (zs.map D.str)) :=
  ⟨.ref a, .ref a, PySem.W.mg_of X G q, rfl, fun F m => by
    unfold Rep
    exact ⟨a, zs.map V.str, rfl, .inr ⟨_, its, n, l, rfl, rfl, hl, hv⟩, rep_strs zs⟩⟩
/-! isinstance(x, (S, T)) -/
section
end
end Lw
/-! SimHd: the law's head by one run of the top; facts read off the heap, by names. -/
namespace Lw
open PySem PySem.Spec PyProof.Rows L2 He
/-- the law's end, the written part by existence -/
theorem walkE {l : PySem.W.OpenLaw} {q : Program} {loose : List Str} {XP : (Str → Option Value) → Heap → Prop} {YP : World → Heap → Prop} {d : DefRec} {g : D → M D} {k : Nat} {x : Str} {st : Stmt}
    (hn : l.most = some 63) (hdf : d.params.defaults = []) (hr : Room k callerA) (hd : d.name = ("law" : Str))
    (b : ∀ (kV doc pm : Value) (an : Option Addr) (cdv ct : Value) (s : Shared) (u : Value), BindsTo s (PySem.W.fnOf ("law" : Str) ("law" : Str) (defArgs st) (defBody st) (defScope st) .none kV doc pm an cdv ct) ⟨[u], []⟩ [(x, u)])
    (F : ∀ (w : World) (mg : Str → Option Value) (h : Heap), YP w h → h.Ns mainGlobals mg → ∃ K : Fg, K.In h ∧ Dfn K mg "law" "law" st [x] ∧
      ∀ (base : Heap) (f : Addr) (fd : FuncData), Fun K "law" "law" st f fd → FnOk l.prog w K mg base (L2N.CX l.prog w) k f fd [x] (spD K mg 1 (app1 g)))
    (G : ∀ ns : List Int, ns.length ≤ 63 → (∀ z ∈ ns, Builtin.Int.intBits z ≤ 1048576) → ∃ ah, g (.lst (ns.map D.int)) [] = .ok (.bl true) ah) :
    PySem.W.WalkO q loose XP YP l.row.toRowW d [] (fun f vs => PySem.call f vs) := by
  refine Att.attach_callB hn hdf fun w s₀ s₁ mg mb fa o pm cd doc a vs ns G' Y ho hd' hcd hmg hobj hints hlen hbits hg => ?_
  obtain ⟨K, KX, ⟨⟨f, fd, Fn, hm, hk, hb⟩⟩, hF⟩ := F w mg _ Y G'.T.g
  rw [hd, hm] at hmg
  cases hmg
  have hb2 : ∀ (s : Shared) (u : Value), BindsTo s fd ⟨[u], []⟩ [(x, u)] := by
    obtain ⟨oc, od, kV, doc, pm, an, cdv, ct, osl, rfl, lk, hcd⟩ := Fn.ex
    exact fun s u => b kV doc pm an cdv ct s u
  refine law_call (sp := spEnd K) KX G'.T.g G'.T.b G'.T.builtins G'.T.nolimit hg hobj hints (Nat.le_trans hlen (by decide)) hr (fun base _ _ => (hF base _ fd Fn).imp fun vs H Q E hs => ?_) hb2 (fun H hO hS => ⟨a, ns, rfl, hS, hlen, hbits, rfl, rfl⟩) fun H e s' z => ?_
  · obtain ⟨a, ns, rfl, hS, hl, hb, rfl, rfl⟩ := hs
    exact law_sp (f := g) hS (G ns hl hb)
  · obtain ⟨_, _, _, _, _, _, _, _, _, _, _, _, z⟩ := z
    exact z
/-! ### the hook -/
section
variable {fa : List Fa} {fn : List FnD} {dn : List DefD} {ex : Fg → Bool} {K : Fg} {h : Heap} {mg : Str → Option Value}
theorem dfn_h {x qual : Str} {st : Stmt} {ps : List Str} (b : ∀ (kV doc pm : Value) (an : Option Addr) (cdv ct : Value) (us : List Value), us.length = ps.length → bindArgs (PySem.W.fnOf x qual (defArgs st) (defBody st) (defScope st) .none kV doc pm an cdv ct) ⟨us, []⟩ = pure (ps.zip us))
    (X : K.In h) (G : h.Ns mainGlobals mg) (c : SaysE fa fn K) (i j k : Nat) (h1 : fa[i]? = some (.glo x) := by rfl) (h2 : fa[j]? = some (.keep x) := by rfl) (h3 : fn[k]? = some ⟨(x, none), x, qual, defArgs st, defBody st, defScope st⟩ := by rfl) : Dfn K mg x qual st ps := by
  obtain ⟨oc, od, osl, kV, dc, pm, an, cd, ct, l, cc⟩ := c.def_ k h3
  exact dfn_mk b X G (He.eqO_ok (c.fact i h1)) l cc (c.fact j h2)
theorem gvs_h {x z : Str} (X : K.In h) (G : h.Ns mainGlobals mg) (s : SaysE fa fn K) (i : Nat) (h1 : fa[i]? = some (.str x z) := by rfl) : GvF K mg x (.str z) := by
  obtain ⟨t, e⟩ := str_ok X G (s.fact i h1)
  exact ⟨.str z, .str z t, e, ⟨t, rfl⟩, fun _ _ => Rep.str⟩
theorem gvi_h {x : Str} {z : Int} (X : K.In h) (G : h.Ns mainGlobals mg) (s : SaysE fa fn K) (i : Nat) (h1 : fa[i]? = some (.int x z) := by rfl) : GvF K mg x (.int z) := by
  obtain ⟨t, e⟩ := int_ok X G (s.fact i h1)
  exact ⟨.int z, .int z t, e, ⟨t, rfl⟩, fun _ _ => Rep.int⟩
/-! ### classes of errors -/
def clB (K : Fg) (z : Str) : Bool := eqO (PySem.W.findIn K (.ref (ga K z)) "__getattribute__") (some (some (.builtin "BaseException.__getattribute__"))) && (eqO (PySem.W.findIn K (.ref (ga K z)) "__getattr__") (some none) &&
  (eqO (PySem.W.findIn K (.ref (ga K z)) "__class__") (some (some (.builtin "object.__class__"))) && (PySem.W.hasDictIn K (ga K z) && decide (PySem.W.mroIn K (ga K z) (.type "object") = some true))))
def allB (K : Fg) : Bool := eqO (PySem.W.specialIn K (.builtin "object.__class__") "__get__") (some (some (.builtin "getset_descriptor.__get__"))) && decide (PySem.W.takesIn K (.builtin "object.__class__") = some true)
/-- all of the table's cells: cs the classes by their names, T the module's, b whether z is one of T's -/
def cellB (K : Fg) (z : Str) (p : Str × Bool) : Bool := if p.1 = ("ValueError" : Str) then decide (PySem.W.subIn K (.ref (ga K z)) (.type "ValueError") = some p.2) else decide (PySem.W.subIn K (.ref (ga K z)) (.ref (ga K p.1)) = some p.2) && (p.2 || decide (ga K z ≠ ga K p.1))
def tabB (K : Fg) (tab : Tab) : Bool := tab.all fun r => r.2.all fun p => cellB K r.1 p
theorem exf_h {tab : Tab} (e : tabB K tab = true) (row : ∀ r ∈ tab, ClF K mg r.1 (ga K r.1)) (col : ∀ r ∈ tab, ∀ p ∈ r.2, p.1 ≠ ("ValueError" : Str) → ClF K mg p.1 (ga K p.1)) (no : mg "ValueError" = none) : ExF K mg (isEt tab) := exf_of fun r hr => row_mk (row r hr) fun p hp => by
  have c := List.all_eq_true.mp (List.all_eq_true.mp e r hr) p hp
  unfold cellB at c
  by_cases v : p.1 = ("ValueError" : Str)
  · rw [if_pos v] at c
    rw [v]
    exact cell_ty (T' := "ValueError") no (by decide +kernel) (by decide) (by rfl) (by decide +kernel) (of_decide_eq_true c)
  · rw [if_neg v] at c
    obtain ⟨c1, c2⟩ := ba c
    refine cell_ref (col r hr p hp v) (of_decide_eq_true c1) ?_
    rcases Bool.or_eq_true_iff.mp c2 with z | z
    · exact .inl z
    · exact .inr (of_decide_eq_true z)
theorem factE (c : SaysE fa fn K) {f : Fa} (m : f ∈ fa) : f.ok K = true := by
  obtain ⟨i, hi, e⟩ := List.mem_iff_getElem.mp m
  exact c.fact i (f := f) (by rw [List.getElem?_eq_getElem hi, e])
theorem cla_h {cs : List Str} {fp : List Fa} (X : K.In h) (G : h.Ns mainGlobals mg) (e : fa = fp ++ (cs.map Fa.glo ++ cs.map Fa.exc)) (s : SaysE fa fn K) (a : allB K = true) (c : (cs.all fun z => clB K z) = true) : ∀ z ∈ cs, ClF K mg z (ga K z) := fun z hz => by
  obtain ⟨a1, a2⟩ := ba a
  obtain ⟨c1, c⟩ := ba (List.all_eq_true.mp c z hz)
  obtain ⟨c2, c⟩ := ba c
  obtain ⟨c3, c⟩ := ba c
  obtain ⟨c4, c5⟩ := ba c
  have m1 : Fa.glo z ∈ fa := by rw [e]; exact List.mem_append_right _ (List.mem_append_left _ (List.mem_map_of_mem hz))
  have m2 : Fa.exc z ∈ fa := by rw [e]; exact List.mem_append_right _ (List.mem_append_right _ (List.mem_map_of_mem hz))
  obtain ⟨e1, e2, e3, e4⟩ := exc_ok (factE s m2)
  exact cl_mk X G (He.eqO_ok a1) (of_decide_eq_true a2) (He.eqO_ok (factE s m1)) e1 e2 e4 e3 (He.eqO_ok c1) (He.eqO_ok c2) (He.eqO_ok c3) c4 (of_decide_eq_true c5)
theorem exf_c {cs : List Str} {tab : Tab} (e : tabB K tab = true) (cl : ∀ z ∈ cs, ClF K mg z (ga K z)) (r1 : (tab.all fun r => decide (r.1 ∈ cs)) = true) (r2 : (tab.all fun r => r.2.all fun p => decide (p.1 = ("ValueError" : Str)) || decide (p.1 ∈ cs)) = true) (no : mg "ValueError" = none) : ExF K mg (isEt tab) :=
  exf_h e (fun r hr => cl _ (of_decide_eq_true (List.all_eq_true.mp r1 r hr))) (fun r hr p hp ne => by
    rcases Bool.or_eq_true_iff.mp (List.all_eq_true.mp (List.all_eq_true.mp r2 r hr) p hp) with z | z
    · exact absurd (of_decide_eq_true z) ne
    · exact cl _ (of_decide_eq_true z)) no
end
/-! ### dicts and tuples of texts of the top -/
abbrev AlK : Type := Option (List (Option (Str × (Int × Int))))
def itOf (e : DictEntry) : Option (Str × (Int × Int)) := match e.key with
  | .str x _ => (match e.val with
    | .int i _ => some (x, (e.hash, i))
    | _ => none)
  | _ => none
def itsIn (P : Params) (kvs : List (Str × Int)) : List (Option (Str × (Int × Int))) := kvs.map fun p => some (p.1, (PyData.keyHash P p.1, p.2))
def dkW (K : Fg) (x : Str) : AlK := match PySem.W.nsIn K mainGlobals x with
  | some (some (.ref a)) => (match K.lookup a with
    | some ⟨.type c, none, .dict es _, sl⟩ => (match decide (c = "dict") && (sl.isEmpty && !(a == sysModules)) with
      | true => some (es.toList.map itOf)
      | false => none)
    | _ => none)
  | _ => none
theorem esOf_of {P : Params} : ∀ {l : List DictEntry} {kvs : List (Str × Int)}, l.map itOf = itsIn P kvs → EsOf P l kvs
  | [], [], _ => .nil
  | [], _ :: _, h => nomatch h
  | _ :: _, [], h => nomatch h
  | ⟨hs, k, v⟩ :: r, p :: kvs, h => by
    have h1 : itOf ⟨hs, k, v⟩ :: r.map itOf = some (p.1, (PyData.keyHash P p.1, p.2)) :: itsIn P kvs := h
    injection h1 with h2 h3
    unfold itOf at h2
    dsimp only at h2
    split at h2
    · split at h2
      · obtain ⟨h5, h6⟩ := Prod.mk.inj (Option.some.inj h2)
        obtain ⟨h7, h8⟩ := Prod.mk.inj h6
        subst h5 h7 h8
        exact .cons (esOf_of h3)
      · cases h2
    · cases h2
theorem dkW_ok {w : World} {K : Fg} {h : Heap} {mg : Str → Option Value} {x : Str} {kvs : List (Str × Int)} (X : K.In h) (G : h.Ns mainGlobals mg) (nd : (kvs.map fun p => p.1).Nodup) (e : dkW K x = some (itsIn w.params kvs)) : KdF w K mg x kvs := by
  unfold dkW at e
  split at e
  · rename_i a q
    split at e
    · rename_i c es n sl l
      cases z : decide (c = "dict") && (sl.isEmpty && !(a == sysModules)) with
      | false =>
        rw [z] at e
        cases e
      | true =>
        rw [z] at e
        obtain ⟨z1, z2⟩ := ba z
        obtain ⟨z3, z4⟩ := ba z2
        have e1 : c = "dict" := of_decide_eq_true z1
        have e2 : sl = #[] := Array.isEmpty_iff.mp z3
        have e3 : (a == sysModules) = false := by
          cases y : a == sysModules with
          | false => rfl
          | true =>
            rw [y] at z4
            cases z4
        subst e1 e2
        exact kdf_mk X G q l e3 nd (esOf_of (Option.some.inj e))
    · cases e
  · cases e
def strsB : List Value → List Str → Bool
  | [], [] => true
  | .str y _ :: r, z :: zs => decide (y = z) && strsB r zs
  | _, _ => false
theorem strsB_ok : ∀ {l : List Value} {zs : List Str}, strsB l zs = true → Vals (zs.map V.str) l
  | [], [], _ => .nil
  | [], _ :: _, h => by cases h
  | v :: r, [], h => by cases v <;> cases h
  | v :: r, z :: zs, h => by
    cases v with
    | str y t =>
      obtain ⟨h1, h2⟩ := ba (show (decide (y = z) && strsB r zs) = true from h)
      have e := of_decide_eq_true h1
      subst e
      exact .cons ⟨t, rfl⟩ (strsB_ok h2)
    | _ => cases h
def tupB (K : Fg) (x : Str) (zs : List Str) : Bool := match PySem.W.nsIn K mainGlobals x with
  | some (some (.ref a)) => (match K.lookup a with
    | some ⟨.type c, none, .seq its _, sl⟩ => decide (c = "tuple") && (sl.isEmpty && (decide (its.size ≤ sizeLine) && strsB its.toList zs))
    | _ => false)
  | _ => false
theorem tupB_ok {K : Fg} {h : Heap} {mg : Str → Option Value} {x : Str} {zs : List Str} (X : K.In h) (G : h.Ns mainGlobals mg) (e : tupB K x zs = true) : GvF K mg x (.tup (zs.map D.str)) := by
  unfold tupB at e
  split at e
  · rename_i a q
    split at e
    · rename_i c its n sl l
      obtain ⟨z1, z2⟩ := ba e
      obtain ⟨z3, z4⟩ := ba z2
      obtain ⟨z5, z6⟩ := ba z4
      have e1 : c = "tuple" := of_decide_eq_true z1
      have e2 : sl = #[] := Array.isEmpty_iff.mp z3
      subst e1 e2
      exact gv_tups X G q l (of_decide_eq_true z5) (strsB_ok z6)
    · cases e
  · cases e
/-! ### the hook, in parts: each part's run is a declaration of its own -/
abbrev AlP : Type := List Al × (AlD × (List Bool × List AlK))
def obsP (parts : List (List Fa × List FnD)) (dn : List DefD) (exs : List (Fg → Bool)) (dks : List (Str × List (Str × Int))) (K : Fg) : AlP := (parts.map fun p => obsE p.1 p.2 K, (obsD [] dn K, (exs.map fun e => e K, dks.map fun d => dkW K d.1)))
def valP (parts : List (List Fa × List FnD)) (dn : List DefD) (exs : List (Fg → Bool)) (dks : List (Str × List (Str × Int))) (w : World) : AlP := (parts.map fun p => valE p.2, (He.valD dn, (exs.map fun _ => true, dks.map fun d => some (itsIn w.params d.2))))
/-- a list of objects, told out one by one -/
def frK {α : Type} : Fg → (Fg → α) → α
  | [], k => k []
  | (a, o) :: r, k => HandSHeadRun.frNat a fun a => match o with
    | ⟨c, d, dt, sl⟩ => frK r fun r => k ((a, ⟨c, d, dt, sl⟩) :: r)
theorem frK_eq {α : Type} : ∀ (K : Fg) (k : Fg → α), frK K k = k K
  | [], _ => rfl
  | (a, o) :: r, k => by
    obtain ⟨c, d, dt, sl⟩ := o
    show HandSHeadRun.frNat a (fun a => frK r fun r => k ((a, ⟨c, d, dt, sl⟩) :: r)) = _
    rw [HandSHeadRun.frNat_eq, frK_eq r]
/-- the addresses that are looked at -/
def asN (n : Nat) : List Addr := mainGlobals :: List.range n
/-- the written part, off the tree -/
def KS (n : Nat) (s : PySem.W.SharedT) : Fg := frG (HandSHeadRun.getT s) (asN n)
theorem ks_map {β : Type} {x : Option PySem.W.SharedT} {n : Nat} {f : Fg → β} {v : β} (h : (x.map fun s => frK (KS n s) f) = some v) : (x.map fun s => f (KS n s)) = some v := by
  have e : (fun s => frK (KS n s) f) = fun s => f (KS n s) := funext fun s => frK_eq _ _
  rw [e] at h
  exact h
def hookP (n : Nat) (parts : List (List Fa × List FnD)) (dn : List DefD) (exs : List (Fg → Bool)) (dks : List (Str × List (Str × Int))) : PySem.W.Hook where
  α := AlP
  obs := fun s => obsP parts dn exs dks (frG s.heap.get? (asN n))
  val := fun w => valP parts dn exs dks w
  says := fun w h => ∃ K : Fg, K.In h ∧ obsP parts dn exs dks K = valP parts dn exs dks w
  of := fun _ _ e => ⟨_, frG_in, e⟩
  keeps := fun _ _ _ ⟨K, hK, c⟩ k => ⟨K, PySem.W.Frag.In.keeps hK k, c⟩
theorem obsP_eq {n : Nat} {parts : List (List Fa × List FnD)} {dn : List DefD} {exs : List (Fg → Bool)} {dks : List (Str × List (Str × Int))} (s : PySem.W.SharedT) : obsP parts dn exs dks (KS n s) = (hookP n parts dn exs dks).obs s.abs := by
  have e : HandSHeadRun.getT s = s.abs.heap.get? := funext (HandSHeadRun.getT_eq s)
  unfold KS
  rw [e] <;> rfl
theorem saysP {parts : List (List Fa × List FnD)} {dn : List DefD} {exs : List (Fg → Bool)} {dks : List (Str × List (Str × Int))} {K : Fg} {w : World} (c : obsP parts dn exs dks K = valP parts dn exs dks w) :
    (∀ (i : Nat) (fa : List Fa) (fn : List FnD), parts[i]? = some (fa, fn) → SaysE fa fn K) ∧ SaysD [] dn K ∧ (∀ (i : Nat) (e : Fg → Bool), exs[i]? = some e → e K = true) ∧ ∀ (i : Nat) (x : Str) (kvs : List (Str × Int)), dks[i]? = some (x, kvs) → dkW K x = some (itsIn w.params kvs) := by
  have e1 : (parts.map fun p => obsE p.1 p.2 K) = parts.map fun p => valE p.2 := congrArg (fun z : AlP => z.1) c
  have e2 : obsD [] dn K = He.valD dn := congrArg (fun z : AlP => z.2.1) c
  have e3 : (exs.map fun e => e K) = exs.map fun _ => true := congrArg (fun z : AlP => z.2.2.1) c
  have e4 : (dks.map fun d => dkW K d.1) = dks.map fun d => some (itsIn w.params d.2) := congrArg (fun z : AlP => z.2.2.2) c
  refine ⟨fun i fa fn h => ?_, e2, fun i e h => ?_, fun i x kvs h => ?_⟩
  · have z : (parts.map fun p => obsE p.1 p.2 K)[i]? = (parts.map fun p => valE p.2)[i]? := by rw [e1]
    rw [List.getElem?_map, List.getElem?_map, h] at z
    exact Option.some.inj z
  · have z : (exs.map fun e => e K)[i]? = (exs.map fun _ => true)[i]? := by rw [e3]
    rw [List.getElem?_map, List.getElem?_map, h] at z
    exact Option.some.inj z
  · have z : (dks.map fun d => dkW K d.1)[i]? = (dks.map fun d => some (itsIn w.params d.2))[i]? := by rw [e4]
    rw [List.getElem?_map, List.getElem?_map, h] at z
    exact Option.some.inj z
theorem map_at {σ β : Type} {x : Option σ} {s : σ} (e : x = some s) {f : σ → β} {v : β} (h : x.map f = some v) : f s = v := by
  rw [e] at h
  exact Option.some.inj h
end Lw
/-! SimYg: for over a list that lies on the heap; it shall stand at each turn. -/
namespace Lw
open PySem PySem.Spec PyProof PyProof.Rows L2
section
end
end Lw
/-! SimYt: tuples unpacked within a suite. -/
namespace HotX
open PySem PySem.Spec PyProof.Rows
section
variable {prog : Program} {w : World} {A : Around} {E : Value → Shared → Prop} {s : Shared}
theorem tupEndHot {J t x1 : Addr} {n : Nat} {xs : Array Value} {Q : Option Value → Shared → Prop} (hot : HotAt A x1 s.heap) (hJ : s.heap.IsTupleIter J t n) (hT : s.heap.IsTuple t xs) (no : xs[n]? = none) (k : ∀ h', Heap.ExtBut J s.heap h' → Q none { s with heap := h' }) :
    wpAny (model prog w) A (pyNext (.ref J)) Q E s := by
  obtain ⟨oj, j1, j2, j3⟩ := id hJ
  obtain ⟨ot, u1, _, nt, u2⟩ := hT
  obtain ⟨hh, o1, vs1, h1, d1, c1⟩ := hot
  have apart : x1 ≠ J := fun z => by
    rw [z, j1] at h1
    cases h1
    rw [j3] at d1
    cases d1
    cases c1
  unfold pyNext
  refine wpAny_bind (wpAny_attempt (wpAny_callSpecial?_slot (name := Str.ofString "__next__") hJ.typeIs F.slot_tuple_iterator_next (wpAny_call_entry F.slot_tuple_iterator_next hJ.typeIs F.entry_tuple_iterator_next ?_ (F.args_tuple_iterator_next_1 _))))
  show wpAny _ _ (field (.ref J) 0 >>= _) _ _ s
  refine wpAny_bind (wpAny_field j1 j3 (x := .ref t) rfl ?_)
  show wpAny _ _ (if (Value.ref t == Value.none) = true then _ else _) _ _ _
  rw [if_neg (show ¬ (Value.ref t == Value.none) = true from Bool.false_ne_true)]
  show wpAny _ _ (field (.ref J) 1 >>= _) _ _ s
  refine wpAny_bind (wpAny_field j1 j3 (x := .int n 0) rfl (wpAny_bind (wpAny_seqItems u1 u2 ?_)))
  simp only [Int.toNat_natCast, no]
  refine wpAny_bind (wpAny_rule (wpAny_bind (wpAny_setField j1 j3 (by simp) ?_)))
  have stay : ∀ f, (s.heap.update J f).get? x1 = some o1 := fun f => (Heap.get?_update_other _ _ apart.symm).trans h1
  show wpAny _ _ (newExc (.type "StopIteration") [] >>= _) _ _ _
  refine wpAny_bind ?_
  simp only [newExc, newTuple]
  refine wpAny_bind (wpAny_newObj_type (wpAny_bind (m := firstArgMember _ _) (wpAny_of_eq (a := Value.none) (by first | rfl | (simp only [firstArgMember]; rfl)) (wpAny_newObj_type ?_ (by size_fits)))) (by size_fits))
  have up := Heap.get?_push_of_some ({ cls := .type "tuple", data := .seq #[] 0 } : Obj) (stay (fun o => o.mapFields fun f => f))
  refine raiseNew_hot ⟨hh, o1, vs1, Heap.get?_push_of_some _ (Heap.get?_push_of_some _ (stay _)), d1, c1⟩ (Nat.ne_of_lt (Heap.lt_size (Heap.get?_push_of_some _ (stay _)))) (Heap.get?_push_size _ rfl) rfl (by first | (simp; done) | (simp; omega) | (simp only [Array.size_append]; simp; omega)) ?_
  refine wpAny_bind (wpAny_isInstance (T := "StopIteration") (b := true) ⟨_, Heap.get?_update_self _ (Heap.get?_push_size _ rfl) rfl, rfl⟩ isSubtype_stop (wpAny_pure (k _ fun c oc hc e => ?_)))
  have e2 : ∀ f, (s.heap.update J f).get? c = some oc := fun f => (Heap.get?_update_other _ _ hc.symm).trans e
  rw [Heap.get?_update_other _ _ (Nat.ne_of_gt (Heap.lt_size (Heap.get?_push_of_some _ (e2 _))))]
  exact Heap.get?_push_of_some _ (Heap.get?_push_of_some _ (e2 _))
theorem unpackHot {t x1 : Addr} {xs : Array Value} {Q : List Value → Shared → Prop} (hot : HotAt A x1 s.heap) (hT : s.heap.IsTuple t xs) (k : ∀ h', Heap.ExtBut s.heap.objs.size s.heap h' → Q xs.toList { s with heap := h' }) : wpAny (model prog w) A (unpackItems (.ref t) xs.size none) Q E s := by
  have tl : t < s.heap.objs.size := by
    obtain ⟨o, e, _⟩ := hT
    exact Heap.lt_size e
  have ne := Nat.ne_of_lt tl
  obtain ⟨hh, o1, vs1, h1, d1, c1⟩ := hot
  have x1l : x1 ≠ s.heap.objs.size := Nat.ne_of_lt (Heap.lt_size h1)
  unfold unpackItems
  refine wpAny_bind ?_
  unfold notIterableAtAll
  refine wpAny_bind (wpAny_specialOf hT.typeIs F.slot_tuple_iter.lookup (wpAny_pure ?_))
  simp only [Bool.false_eq_true, if_false]
  refine wpAny_bind (wpAny_holding (wpAny_pyIter_tuple hT (wpAny_bind (wpAny_holding (wpAny_draw_tuple ne xs.size 0 _ _ ⟨_, Heap.get?_push_size _ rfl, rfl, rfl⟩ (hT.push _) (by omega) fun g st sb => ?_)))))
  have all : List.take xs.size (List.drop 0 xs.toList) = xs.toList := by
    rw [List.drop_zero]
    exact List.take_of_length_le (by simp)
  rw [all, if_neg (by simp)]
  have gx : g.get? x1 = some o1 := sb.extBut x1 o1 x1l (Heap.get?_push_of_some _ h1)
  refine wpAny_bind (wpAny_holding (tupEndHot (s := { s with heap := g }) ⟨hh, o1, vs1, gx, d1, c1⟩ st ((hT.push _).extBut sb.extBut ne) (by simp) fun g2 eb => ?_))
  simp only [Option.isSome_none, Bool.false_eq_true, if_false]
  exact wpAny_pure (k g2 fun b o hb e => eb b o hb (sb.extBut b o hb (Heap.get?_push_of_some _ e)))
end
end HotX
namespace Lw
open PySem PySem.Spec PyProof.Rows L2 L2H HotX
theorem pg_tupH {X : Cx} {es : List Expr} {kk : Nat} {pos : Pos} {t : TGs} {n : Nat} (hc : HotC X) (h : PGs X es t) (hn : (assignEach es X.env).length = n := by rfl) (hst : (assignEach es X.env).findIdx? (·.1) = none := by rfl) : PG X (.Tuple es kk pos) (gTup X.K n t) where
  run := fun pins s σ H v u Q I r hw => by
    obtain ⟨a, xs, rfl, hq, hl, hw⟩ := hw
    cases r
    obtain ⟨its, rv, ht, hz⟩ := I.tuple hq
    obtain ⟨x1, hot⟩ := hc.at I
    have sz : (assignEach es X.env).length = its.toArray.size := by simp [hn, ← hl, rv.length]
    rw [arm_assign_Tuple]
    refine wpAny_bind (wpAny_standAt ?_)
    unfold unpack
    rw [sz, hst]
    refine wpAny_bind (wpAny_holding (unpackHot hot ht fun g hx => ?_))
    have I1 : Inv X pins σ H { s with heap := g } := I.kept (t' := s.toks) fun b o e => hx b o (Nat.ne_of_lt (Heap.lt_size e)) e
    exact h.run pins _ σ H xs _ Q I1 (by simpa using rv) hw
theorem dg_tupH {X : Cx} {π : Type} {es : List Expr} {k : Nat} {pos : Pos} {sl : List Nat} {us : List D → Option π} {sets : π → Env → Env} {n : Nat} (hc : HotC X) (h : DGs X es sl us sets) (hl : ∀ ds p, us ds = some p → ds.length = n)
    (hn : (assignEach es X.env).length = n := by rfl) (hst : (assignEach es X.env).findIdx? (·.1) = none := by rfl) : DG X (.Tuple es k pos) sl (fun d => match d with | .tup _ => unpT us d | _ => none) sets :=
  PG.from (pg_tupH hc h hn hst) fun v σ H Q ⟨fr, F, m, ah, env, d, p, s, er, r, e, q⟩ => by
    cases d <;> try (cases e; done)
    rename_i xs
    have e : us xs = some p := e
    unfold Rep at r
    obtain ⟨a, vs, h1, h2, h3⟩ := r
    exact ⟨a, vs, h1, SqT.up s.sub h2, by rw [RepL.length h3]; exact hl xs p e, fr, F, m, ah, env, xs, p, s, er, h3, e, q⟩
/-- as a tuple -/
def unpH {π : Type} (us : List D → Option π) (d : D) : Option π := match d with | .tup _ => unpT us d | _ => none
theorem dg_tupHh {X : Cx} {π : Type} {es : List Expr} {k : Nat} {pos : Pos} {sl : List Nat} {us : List D → Option π} {sets : π → Env → Env} {n : Nat} (hc : HotC X) (h : DGs X es sl us sets) (hl : ∀ ds p, us ds = some p → ds.length = n)
    (hn : (assignEach es X.env).length = n := by rfl) (hst : (assignEach es X.env).findIdx? (·.1) = none := by rfl) : DG X (.Tuple es k pos) sl (unpH us) sets := dg_tupH hc h hl hn hst
end Lw
/-! SimYh: comprehensions over zip(..) within an except suite. -/
namespace HotX
open PySem PySem.Spec PyProof.Rows
section
variable {prog : Program} {w : World} {A : Around} {E : Value → Shared → Prop} {s : Shared}
theorem nextOf_list_end_hot {it l x1 : Addr} {i : Nat} {items} {Q : Value → Shared → Prop} (hot : HotAt A x1 s.heap)
    (hit : s.heap.IsListIter it l i) (hl : s.heap.IsList l items) (hx : items[i]? = none)
    (hE : ∀ h' e, Heap.ExtBut it s.heap h' → (∃ o, h'.get? e = some o ∧ o.cls = .type "StopIteration") → E (.ref e) { s with heap := h' }) :
    wpAny (model prog w) A (Builtin.SmallTypes.nextOf (.ref it)) Q E s := by
  obtain ⟨o, ho, hc, hd⟩ := id hit
  obtain ⟨ol, hol, _, nl, hdl⟩ := hl
  obtain ⟨hh, o1, vs1, h1, d1, c1⟩ := hot
  have ne : x1 ≠ it := fun z => by
    rw [z, ho] at h1
    cases h1
    rw [hd] at d1
    cases d1
    cases c1
  unfold Builtin.SmallTypes.nextOf
  refine wpAny_bind (wpAny_callSpecial?_slot (name := Str.ofString "__next__") hit.typeIs slot_listiter_next
    (wpAny_call_entry slot_listiter_next hit.typeIs entry_listiter_next ?_ (args_listiter_next _)))
  show wpAny _ _ (field (.ref it) 0 >>= _) _ _ s
  refine wpAny_bind (wpAny_field ho hd (x := .ref l) rfl ?_)
  show wpAny _ _ (if (Value.ref l == Value.none) = true then _ else _) _ _ s
  rw [if_neg (show ¬ ((Value.ref l == Value.none) = true) from Bool.false_ne_true)]
  show wpAny _ _ (field (.ref it) 1 >>= _) _ _ s
  refine wpAny_bind (wpAny_field ho hd (x := .int i 0) rfl ?_)
  show wpAny _ _ (seqItems? (.ref l) >>= _) _ _ s
  refine wpAny_bind (wpAny_seqItems hol hdl ?_)
  simp only [Int.toNat_natCast, hx]
  refine wpAny_bind (wpAny_rule (wpAny_bind (wpAny_setField ho hd (by simp) ?_)))
  have h2 : ∀ f, (s.heap.update it f).get? x1 = some o1 := fun f => by
    rw [Heap.get?_update_other _ _ (Ne.symm ne)]
    exact h1
  show wpAny _ _ (newExc (.type "StopIteration") [] >>= _) _ _ _
  refine wpAny_bind ?_
  simp only [newExc, newTuple]
  refine wpAny_bind (wpAny_newObj_type ?_ (by size_fits))
  refine wpAny_bind (m := firstArgMember _ _) (wpAny_of_eq (a := Value.none) (by first | rfl | (simp only [firstArgMember]; rfl)) ?_)
  refine wpAny_newObj_type ?_ (by size_fits)
  refine raiseNew_hot ⟨hh, o1, vs1, Heap.get?_push_of_some _ (Heap.get?_push_of_some _ (h2 _)), d1, c1⟩ (Nat.ne_of_lt (Heap.lt_size (Heap.get?_push_of_some _ (h2 _)))) (Heap.get?_push_size _ rfl) rfl (by first | (simp; done) | (simp; omega) | (simp only [Array.size_append]; simp; omega)) ?_
  refine hE _ _ (fun b o hb e => ?_) ⟨_, Heap.get?_update_self _ (Heap.get?_push_size _ rfl) rfl, rfl⟩
  have e2 : ∀ f, (s.heap.update it f).get? b = some o := fun f => by
    rw [Heap.get?_update_other _ _ (Ne.symm hb)]
    exact e
  rw [Heap.get?_update_other _ _ (Nat.ne_of_gt (Heap.lt_size (Heap.get?_push_of_some _ (e2 _))))]
  exact Heap.get?_push_of_some _ (Heap.get?_push_of_some _ (e2 _))
theorem HotAt.keep {A : Around} {x1 it : Addr} {h h' : Heap} (hot : HotAt A x1 h) (ne : x1 ≠ it) (k : Heap.ExtBut it h h') : HotAt A x1 h' := by
  obtain ⟨hh, o1, vs1, h1, d1, c1⟩ := hot
  exact ⟨hh, o1, vs1, k _ _ ne h1, d1, c1⟩
theorem HotAt.ne_iter {A : Around} {x1 it l : Addr} {h : Heap} {i : Nat} (hot : HotAt A x1 h) (hit : h.IsListIter it l i) : x1 ≠ it := fun z => by
  obtain ⟨o, ho, hc, hd⟩ := hit
  obtain ⟨hh, o1, vs1, h1, d1, c1⟩ := hot
  rw [z, ho] at h1
  cases h1
  rw [hd] at d1
  cases d1
  cases c1
theorem HotAt.ne_zip {A : Around} {x1 z TI TO : Addr} {f : Value} {h : Heap} (hot : HotAt A x1 h) (hz : IsZip h z TI TO f) : x1 ≠ z := fun e => by
  obtain ⟨hh, o1, vs1, h1, d1, c1⟩ := hot
  rw [e, hz] at h1
  cases h1
  cases d1
  cases c1
theorem HotAt.ne_pair {A : Around} {x1 T : Addr} {a b : Value} {h : Heap} (hot : HotAt A x1 h) (hz : IsPair h T a b) : x1 ≠ T := fun e => by
  obtain ⟨hh, o1, vs1, h1, d1, c1⟩ := hot
  rw [e, hz] at h1
  cases h1
  cases d1
theorem zip_next_end_hot {z TI TO i1 i2 l1 l2 x1 : Addr} {k1 k2 : Nat} {xs ys : Array Value} {a b : Value} {Q : Fin → Shared → Prop} (hot : HotAt A x1 s.heap) (D : ZipApart z TI TO i1 i2 l1 l2)
    (hz : IsZip s.heap z TI TO .none) (hTI : IsPair s.heap TI (.ref i1) (.ref i2)) (hTO : IsPair s.heap TO a b)
    (h1 : s.heap.IsListIter i1 l1 k1) (h2 : s.heap.IsListIter i2 l2 k2) (hl1 : s.heap.IsList l1 xs) (hl2 : s.heap.IsList l2 ys) (hend : xs[k1]? = none ∨ ys[k2]? = none)
    (hE : ∀ h' e, (∀ c o, c ≠ z → c ≠ TO → c ≠ i1 → c ≠ i2 → s.heap.get? c = some o → h'.get? c = some o) → (∃ o, h'.get? e = some o ∧ o.cls = .type "StopIteration") → E (.ref e) { s with heap := h' }) :
    wpAny (model prog w) A (Builtin.«zip.__next__» ⟨[.ref z], []⟩) Q E s := by
  show wpAny _ _ (field (.ref z) 2 >>= _) _ _ _
  refine wpAny_bind (wpAny_field hz rfl (x := .bool false) rfl ?_)
  show wpAny _ _ (field (.ref z) 3 >>= _) _ _ _
  refine wpAny_bind (wpAny_field hz rfl (x := .ref TI) rfl ?_)
  refine wpAny_bind (wpAny_seqItems hTI rfl ?_)
  show wpAny _ _ (Builtin.SmallTypes.ownedTupleIsFree (.ref z) >>= _) _ _ _
  refine wpAny_bind ?_
  unfold Builtin.SmallTypes.ownedTupleIsFree
  refine wpAny_bind (wpAny_field hz rfl (x := .none) rfl (wpAny_pure ?_))
  simp only [if_true]
  refine wpAny_bind (wpAny_rule ?_)
  refine wpAny_bind (wpAny_field hz rfl (x := .ref TO) rfl ?_)
  refine wpAny_bind (wpAny_setField_rec hz (by simp) fun h₁ hz₁ hs₁ => ?_)
  replace hz₁ : IsZip h₁ z TI TO .ellipsis := hz₁
  have hot1 : HotAt A x1 h₁ := hot.keep (hot.ne_zip hz) hs₁.extBut
  refine wpAny_bind ?_
  simp only [List.zipIdx_cons, List.zipIdx_nil, List.forIn_cons, List.forIn_nil]
  refine wpAny_bind (wpAny_bind (wpAny_onRaise ?_))
  show wpAny _ _ (Builtin.SmallTypes.nextOf (.ref i1) >>= _) _ _ _
  cases hx : xs[k1]? with
  | none =>
    refine wpAny_bind (nextOf_list_end_hot (x1 := x1) hot1 (h1.extBut hs₁.extBut D.i1z) (hl1.extBut hs₁.extBut D.l1z) hx fun h₂ e hs₂ he => ?_)
    obtain ⟨oe, hoe, hce⟩ := he
    have hz₂ : IsZip h₂ z TI TO .ellipsis := hs₂ _ _ D.i1z.symm hz₁
    have hez : e ≠ z := fun x => by subst x; rw [hz₂] at hoe; cases hoe; simp at hce
    refine wpAny_setField_rec hz₂ (by simp) fun h₃ _ hs₃ => hE h₃ e (fun c o c1 _ c3 _ x => hs₃.extBut _ _ c1 (hs₂ _ _ c3 (hs₁.extBut _ _ c1 x))) ⟨oe, hs₃.extBut _ _ hez hoe, hce⟩
  | some x =>
    have hy : ys[k2]? = none := by rcases hend with h | h; rw [hx] at h; cases h; exact h
    refine wpAny_bind (wpAny_nextOf_list_item (h1.extBut hs₁.extBut D.i1z) (hl1.extBut hs₁.extBut D.l1z) hx fun h₂ h1₂ hs₂ => wpAny_pure ?_)
    have hTO₂ : IsPair h₂ TO a b := hs₂.extBut _ _ D.TOi1 (hs₁.extBut _ _ D.TOz hTO)
    have hot2 : HotAt A x1 h₂ := hot1.keep (hot1.ne_iter (h1.extBut hs₁.extBut D.i1z)) hs₂.extBut
    refine wpAny_bind (wpAny_seqItems hTO₂ rfl ?_)
    refine wpAny_bind (wpAny_updateSeq_pair hTO₂ fun h₃ hTO₃ hs₃ => ?_)
    have hot3 : HotAt A x1 h₃ := hot2.keep (hot2.ne_pair hTO₂) hs₃.extBut
    refine wpAny_bind (wpAny_letGo (wpAny_pure ?_))
    refine wpAny_bind (wpAny_bind (wpAny_onRaise ?_))
    show wpAny _ _ (Builtin.SmallTypes.nextOf (.ref i2) >>= _) _ _ _
    refine wpAny_bind (nextOf_list_end_hot (x1 := x1) hot3 (((h2.extBut hs₁.extBut D.i2z).extBut hs₂.extBut D.i12.symm).extBut hs₃.extBut D.TOi2.symm)
      (((hl2.extBut hs₁.extBut D.l2z).extBut hs₂.extBut D.l2i1).extBut hs₃.extBut D.l2TO) hy fun h₄ e hs₄ he => ?_)
    obtain ⟨oe, hoe, hce⟩ := he
    have hz₄ : IsZip h₄ z TI TO .ellipsis := hs₄ _ _ D.i2z.symm (hs₃.extBut _ _ D.TOz.symm (hs₂.extBut _ _ D.i1z.symm hz₁))
    have hez : e ≠ z := fun x => by subst x; rw [hz₄] at hoe; cases hoe; simp at hce
    refine wpAny_setField_rec hz₄ (by simp) fun h₅ _ hs₅ => hE h₅ e (fun c o c1 c2 c3 c4 x => hs₅.extBut _ _ c1 (hs₄ _ _ c4 (hs₃.extBut _ _ c2 (hs₂.extBut _ _ c3 (hs₁.extBut _ _ c1 x))))) ⟨oe, hs₅.extBut _ _ hez hoe, hce⟩
theorem pyNext_zip_end_hot {z TI TO i1 i2 l1 l2 x1 : Addr} {k1 k2 : Nat} {xs ys : Array Value} {a b : Value} {Q : Option Value → Shared → Prop} (hot : HotAt A x1 s.heap) (D : ZipApart z TI TO i1 i2 l1 l2)
    (hz : IsZip s.heap z TI TO .none) (hTI : IsPair s.heap TI (.ref i1) (.ref i2)) (hTO : IsPair s.heap TO a b)
    (h1 : s.heap.IsListIter i1 l1 k1) (h2 : s.heap.IsListIter i2 l2 k2) (hl1 : s.heap.IsList l1 xs) (hl2 : s.heap.IsList l2 ys) (hend : xs[k1]? = none ∨ ys[k2]? = none)
    (hQ : ∀ h', (∀ c o, c ≠ z → c ≠ TO → c ≠ i1 → c ≠ i2 → s.heap.get? c = some o → h'.get? c = some o) → Q none { s with heap := h' }) : wpAny (model prog w) A (pyNext (.ref z)) Q E s := by
  have hT : s.TypeIs (.ref z) "zip" := ⟨_, hz, rfl⟩
  unfold pyNext
  refine wpAny_bind (wpAny_attempt (wpAny_callSpecial?_slot (name := Str.ofString "__next__") hT F.slot_zip_next
    (wpAny_call_entry F.slot_zip_next hT F.entry_zip_next (zip_next_end_hot (x1 := x1) hot D hz hTI hTO h1 h2 hl1 hl2 hend fun h' e hk he => ?_) (F.args_zip_next_1 _))))
  obtain ⟨o, ho, hc⟩ := he
  refine wpAny_bind (wpAny_isInstance (T := "StopIteration") (b := true) ⟨o, ho, hc⟩ isSubtype_stop ?_)
  exact wpAny_pure (hQ _ hk)
end
end HotX
namespace L2H
open PySem PySem.Spec PyProof.Rows L2 HotX
theorem turn_zipH {P : Program} {w : World} {K : PySem.W.Frag} {elts : List Expr} {kk : Nat} {tpos : Pos} {a b z TI TO i1 i2 : Addr} (D : ZipApart z TI TO i1 i2 a b) :
    TurnH P w K (.Tuple elts kk tpos) (Itz K a b) [z, TI, TO, i1, i2] z (fun i h => IsZip h z TI TO .none ∧ IsPair h TI (.ref i1) (.ref i2) ∧ (∃ x y, IsPair h TO x y) ∧ h.IsListIter i1 a i ∧ h.IsListIter i2 b i) where
  mem := by simp
  obj := (turn_zip (P := P) (w := w) (K := K) (elts := elts) (kk := kk) (tpos := tpos) D).obj
  keep := (turn_zip (P := P) (w := w) (K := K) (elts := elts) (kk := kk) (tpos := tpos) D).keep
  item := by
    intro X hP hw hK hc i pins s σ H E I hf st hg
    subst hP hw hK
    obtain ⟨hz, hTI, ⟨x0, y0, hTO⟩, h1, h2⟩ := st
    obtain ⟨xs, ys, x, y, hqx, hqy, hx, hy⟩ := hg
    obtain ⟨its, rv, p, _⟩ := I.list hqx
    obtain ⟨its2, rv2, p2, _⟩ := I.list hqy
    obtain ⟨u, hu, ru⟩ := rv.get hx
    obtain ⟨u2, hu2, ru2⟩ := rv2.get hy
    have hzl : z < s.heap.objs.size := Heap.lt_size hz
    refine wpAny_pyNext_zip_item D hz hTI hTO h1 h2 p.isList p2.isList (x := u) (y := u2) (by simpa using hu) (by simpa using hu2) fun h' z' TO' h1' h2' hT hsz hk => ?_
    refine ⟨_, rfl, wpAny_letOwnedTupleGo_zip (s := { s with heap := h' }) z' fun h'' z'' sb => ?_⟩
    have hT2 : h''.get? s.heap.objs.size = some { cls := .type "tuple", data := .seq #[u, u2] } := (sb.2 _ (Nat.ne_of_gt hzl)).trans hT
    have new : ObjOk X.prog X.w (upd H s.heap.objs.size (.tup [x, y])) h'' s.heap.objs.size (.tup [x, y]) :=
      ⟨by show 2 ≤ sizeLine; decide, [u, u2], .cons ru (.cons ru2 .nil), ⟨_, hT2, rfl, _, rfl⟩⟩
    have I1 : Inv X pins σ (upd H s.heap.objs.size (.tup [x, y])) { s with heap := h'' } :=
      I.turnedNew (t' := s.toks) (ch := [z, TI, TO, i1, i2]) (fun c o hb q => (sb.2 c (fun q' => hb (by simp [q']))).trans (hk c o (fun q' => hb (by simp [q'])) (fun q' => hb (by simp [q'])) (fun q' => hb (by simp [q'])) (fun q' => hb (by simp [q'])) q)) hf (Nat.le_refl _) new
    refine ⟨.ref s.heap.objs.size, _, I1, rfl, ⟨_, x, y, rfl, I.hok.fresh (Nat.le_refl _), rfl, fun l hl => by rw [I.list_inj hl hqx]; exact hx, fun l hl => by rw [I.list_inj hl hqy]; exact hy⟩, ⟨z'', ?_, ⟨u, u2, ?_⟩, ?_, ?_⟩, fun c hcm => ?_⟩
    · exact (sb.2 _ D.TIz).trans (hk _ _ D.TIz D.TITO D.TIi1 D.TIi2 hTI)
    · exact (sb.2 _ D.TOz).trans TO'
    · exact h1'.at fun o q => (sb.2 _ D.i1z).trans q
    · exact h2'.at fun o q => (sb.2 _ D.i2z).trans q
    · have hlt : c < s.heap.objs.size := by
        have e' : c = z ∨ c = TI ∨ c = TO ∨ c = i1 ∨ c = i2 := by simpa using hcm
        rcases e' with q | q | q | q | q
        · rw [q]; exact hzl
        · rw [q]; exact Heap.lt_size hTI
        · rw [q]; exact Heap.lt_size hTO
        · rw [q]; obtain ⟨_, e1, _⟩ := h1; exact Heap.lt_size e1
        · rw [q]; obtain ⟨_, e2, _⟩ := h2; exact Heap.lt_size e2
      rw [upd_ne (Nat.ne_of_lt hlt)]
      exact (hf c hcm).1
  done := by
    intro X hP hw hK hc i pins s σ H E I hf st hg
    subst hP hw hK
    obtain ⟨hz, hTI, ⟨x0, y0, hTO⟩, h1, h2⟩ := st
    obtain ⟨xs, ys, hqx, hqy, hend⟩ := hg
    obtain ⟨its, rv, p, _⟩ := I.list hqx
    obtain ⟨its2, rv2, p2, _⟩ := I.list hqy
    have l1 := rv.length
    have l2 := rv2.length
    have he : its.toArray[i]? = none ∨ its2.toArray[i]? = none := by
      rcases hend with q | q
      · exact .inl (by simp; omega)
      · exact .inr (by simp; omega)
    obtain ⟨x1, hot⟩ := hc.at I
    exact pyNext_zip_end_hot (x1 := x1) hot D hz hTI hTO h1 h2 p.isList p2.isList he fun h' hk => ⟨rfl, I.turnedL (t' := s.toks) (ch := [z, TI, TO, i1, i2]) (fun c o hb q =>
      hk c o (fun q' => hb (by simp [q'])) (fun q' => hb (by simp [q'])) (fun q' => hb (by simp [q'])) (fun q' => hb (by simp [q'])) q) hf⟩
  self := (turn_zip (P := P) (w := w) (K := K) (elts := elts) (kk := kk) (tpos := tpos) D).self
theorem pi_zipH {X : Cx} {e e2 : Expr} {ta : TA} {p pos tpos : Pos} {elts : List Expr} {kk : Nat} (hg : Gl X "zip") (hm : X.mg "zip" = none) (ha : PA X [e, e2] ta)
    (hs : starEach [e, e2] X.env = (false, eval e X.env) :: starEach [e2] X.env := by rfl) (hpl : (backTo pos (starEach [e2] X.env)).any (·.1) = false := by rfl) :
    PIH X (.Tuple elts kk tpos) (.Call (.Name "zip" p) [e, e2] [] pos) (iZip X.K ta) := by
  refine ⟨fun pins s σ H R I h => ?_⟩
  refine Call_ (ld_blt I hg hm PyProof.Rows.boot_zip (PyProof.Rows.callWith_type1 (thn (ha.run pos pins s σ H _ I h) fun us s1 ⟨vs, H1, I1, r1, q1⟩ => ?_) hs hpl))
  obtain ⟨a, b, xs, ys, ex, hqx, hqy, q⟩ := q1
  subst ex
  cases r1 with
  | cons r rr =>
    cases rr with
    | cons r' rr =>
      cases rr
      cases r
      cases r'
      obtain ⟨its, rv, p1, _⟩ := I1.list hqx
      obtain ⟨its2, rv2, p2, _⟩ := I1.list hqy
      have la : a < s1.heap.objs.size := p1.lt
      have lb : b < s1.heap.objs.size := p2.lt
      refine call_zip_2 p1.isList p2.isList fun h' hz hTI hTO h1 h2 hsz hk => wpAny_pyIter_zip hz ?_
      have I2 : Inv X pins σ H1 { s1 with heap := h' } := I1.kept (t' := s1.toks) hk
      refine ⟨s1.heap.objs.size + 4, [s1.heap.objs.size + 4, s1.heap.objs.size + 2, s1.heap.objs.size + 3, s1.heap.objs.size, s1.heap.objs.size + 1], _, _, H1, rfl, I2, turn_zipH (PySem.W.ktu_apart s1.heap.objs.size a b la lb), ⟨hz, hTI, ⟨_, _, hTO⟩, h1, h2⟩, fun c hcm => ?_, q⟩
      have e' : c = s1.heap.objs.size + 4 ∨ c = s1.heap.objs.size + 2 ∨ c = s1.heap.objs.size + 3 ∨ c = s1.heap.objs.size ∨ c = s1.heap.objs.size + 1 := by simpa using hcm
      have hle : s1.heap.objs.size ≤ c := by
        rcases e' with z | z | z | z | z
        · rw [z]; exact Nat.le_add_right _ _
        · rw [z]; exact Nat.le_add_right _ _
        · rw [z]; exact Nat.le_add_right _ _
        · rw [z]; exact Nat.le_refl _
        · rw [z]; exact Nat.le_add_right _ _
      exact I1.fpOk hle (I1.hok.fresh hle)
end L2H
namespace L2H
open PySem PySem.Spec PyProof.Rows L2 HotX
/-- the context of a block within a suite: the pins of the def stay -/
abbrev blkH (X : Cx) (s : Shared) (H : Hp) (scope : Scope) (cenv : Env) (fp : List Addr) : Cx := { X.blk s H scope cenv fp with pn := X.pn }
theorem hot_blk {X : Cx} (hc : HotC X) (s : Shared) (H : Hp) (scope : Scope) (cenv : Env) (fp : List Addr) : HotC (blkH X s H scope cenv fp) := hc
theorem Inv.blkH {X : Cx} {s s1 : Shared} {H H' : Hp} {scope : Scope} {cenv : Env} {fp : List Addr} {σ : St} {pins : List (Addr × Obj)} (I : Inv (X.blk s H scope cenv fp) [] σ H' s1)
    (h : ∀ p ∈ X.pn ++ pins, s1.heap.get? p.1 = some p.2 ∧ H' p.1 = none ∧ p.1 ≠ cenv.locals ∧ p.1 ∉ frs X.stack ∧ ∀ v, p.2.data ≠ .cell v) : Inv (blkH X s H scope cenv fp) pins σ H' s1 :=
  ⟨⟨I.ok.mod, I.ok.kind, I.ok.glob, I.ok.blt, I.ok.above, I.ok.inj, I.ok.has, I.ok.cab, I.ok.hd, I.ok.frames, I.ok.stk, I.ok.exf, I.ok.bs, I.ok.bsz, I.ok.noex, I.ok.exfs, I.ok.funs, I.ok.frf⟩, I.os, I.bare, I.base, I.loc, I.cell, I.free, I.freeC, h, I.hok, I.len⟩
theorem block_startH {X : Cx} {pins : List (Addr × Obj)} {σ : St} {H : Hp} {s : Shared} {scope : Scope} {own : List (Str × Nat)} {fp : List Addr} (I : Inv X pins σ H s) (ok : BlkOk X.N X.env.scope scope own) (hN : X.N.Nodup) (hfp : ∀ b ∈ fp, FpOk X pins H b ∧ b < s.heap.objs.size) :
    Inv (blkH X s H scope (compEnvC scope (cellsFrom (s.heap.objs.size + 1) scope.names (cloFrom X.env.cells scope.names [])) s.heap.objs.size X.env) fp) [] (wipe σ (own.map (·.2))) H { s with heap := pushCells (s.heap.push { cls := .type "dict", data := .dict #[] }) scope.names } := by
  refine Inv.blkH (block_start I ok hN hfp) fun p hp => ?_
  obtain ⟨h1, h2, h3, h4, h5⟩ := I.pin p (List.mem_append_left _ (by simpa using hp))
  refine ⟨pushCells_keeps _ _ _ _ (Heap.get?_push_of_some _ h1), h2, Nat.ne_of_lt (Heap.lt_size h1), fun z => ?_, h5⟩
  rcases I.ok.stk with e | ⟨e, f⟩
  · rw [e] at z
    exact h4 z
  · rw [e] at z
    unfold frs at z
    rw [List.filterMap_cons, f] at z
    rcases List.mem_cons.mp z with z | z
    · exact h3 z
    · exact h4 z
theorem lc_coreH {X : Cx} {pins : List (Addr × Obj)} {s : Shared} {σ : St} {H : Hp} {Q : VK} {elt tg iter : Expr} {ifs : List Expr} {scope : Scope} {own : List (Str × Nat)} {pos pos' : Pos} {wi : TI} {g : TG} {tt : TT} {te : TE} {use : Option (Value → Sem Unit)} {Qf : Value → Shared → Prop}
    (hc : HotC X) (hN : X.N.Nodup) (I : Inv X pins σ H s) (hi : PIH X tg iter wi) (ok : BlkOk X.N X.env.scope scope own)
    (hg : ∀ (s : Shared) (H : Hp) (C : Addr) (cl : List (Str × Addr)) (fp : List Addr), PG (blkH X s H scope (compEnvC scope cl C X.env) fp) tg g) (ht : ∀ (s : Shared) (H : Hp) (C : Addr) (cl : List (Str × Addr)) (fp : List Addr), PTs (blkH X s H scope (compEnvC scope cl C X.env) fp) ifs tt)
    (he : ∀ (s : Shared) (H : Hp) (C : Addr) (cl : List (Str × Addr)) (fp : List Addr), PE (blkH X s H scope (compEnvC scope cl C X.env) fp) elt te) (hs : ∀ x, foldedSetIterable iter X.env x = pure x)
    (h : tLc wi g tt te (own.map (·.2)) σ H Q)
    (hRR : ∀ D C s' m H', Inv X pins σ H' s' → Q (.ref D) H' → s'.heap.Ns C m → FpOk X pins H' C → compPost (model X.prog X.w) X.A X.xe use Qf (.ref D) C (.ok .next) s') :
    wpAny (model X.prog X.w) X.A (comprehension (.ListComp elt [⟨tg, iter, ifs, 0⟩] scope pos) scope X.env pos' (newList []) false (eval iter X.env) use) Qf X.xe s := by
  have hfree : ∀ y ∈ scope.names, y.2 = .free → ∃ c, X.env.cells.lookup y.1 = some c := fun y hy e => by
    rcases ok.free y hy e with k | k
    · exact I.ok.has _ (.inl k)
    · exact I.ok.has _ (.inr k)
  refine wpAny_comprehension_free (use := use) rfl hs (closure_ok hfree) ok.kind (fun y hy e => by rw [ok.uniq y hy, e])
    (thn (hi.run pins s σ H _ I h) fun xv s1 hx => thn hx fun itv s2 h2 => ?_)
  obtain ⟨it, fp, tn, J, H2, e, I2, T, st2, f2, q⟩ := h2
  subst e
  refine wpAny_newObj_type (newEnv_comp ?_) (by show 0 ≤ sizeLine; decide)
  generalize hD : s2.heap.objs.size = D
  have hDn : H2 D = none := I2.hok.fresh (Nat.le_of_eq hD)
  obtain ⟨W, ⟨m0, w0⟩, turn⟩ := q D hDn
  -- the new list
  generalize hs3 : ({ s2 with heap := s2.heap.push { cls := .type "list", data := .seq ([] : List Value).toArray } } : Shared) = s3
  have I3 : Inv X pins σ (upd H2 D (.lst [])) s3 := by
    rw [← hs3]
    refine I2.laid (t' := s2.toks) (fun b o e => Heap.get?_push_of_some _ e) (Nat.le_of_eq hD) ⟨Nat.zero_le _, [], 0, .nil, ?_⟩
    rw [← hD]
    exact Heap.get?_push_size _ rfl
  have h3 : s3.heap = s2.heap.push { cls := .type "list", data := .seq ([] : List Value).toArray } := by rw [← hs3]
  have sz : ∀ b ∈ fp, b < s2.heap.objs.size := fun b hb => by
    obtain ⟨o, e, _⟩ := T.obj _ _ st2 b hb
    exact Heap.lt_size e
  have f3 : ∀ b ∈ fp, FpOk X pins (upd H2 D (.lst [])) b ∧ b < s3.heap.objs.size := fun b hb => by
    have hlt := sz b hb
    refine ⟨⟨?_, (f2 b hb).2⟩, by rw [h3, Heap.size_push]; exact Nat.lt_succ_of_lt hlt⟩
    rw [upd_ne (by rw [← hD]; exact Nat.ne_of_lt hlt)]
    exact (f2 b hb).1
  have st3 : tn 0 s3.heap := T.keep _ _ _ st2 fun b _ o e => by rw [h3]; exact Heap.get?_push_of_some _ e
  have I4 := block_startH I3 ok hN f3
  have pg := hg s3 (upd H2 D (.lst [])) s3.heap.objs.size (cellsFrom (s3.heap.objs.size + 1) scope.names (cloFrom X.env.cells scope.names [])) fp
  have pt := ht s3 (upd H2 D (.lst [])) s3.heap.objs.size (cellsFrom (s3.heap.objs.size + 1) scope.names (cloFrom X.env.cells scope.names [])) fp
  have pe := he s3 (upd H2 D (.lst [])) s3.heap.objs.size (cellsFrom (s3.heap.objs.size + 1) scope.names (cloFrom X.env.cells scope.names [])) fp
  show codeAny _ _ (.compStart (.ListComp elt [⟨tg, iter, ifs, 0⟩] scope pos) 0 (.ref it) (.ref D) (compEnvC scope (cellsFrom (s3.heap.objs.size + 1) scope.names (cloFrom X.env.cells scope.names [])) s3.heap.objs.size X.env)) (compPost (model X.prog X.w) X.A X.xe use Qf (.ref D) s3.heap.objs.size) { s3 with heap := pushCells (s3.heap.push { cls := .type "dict", data := .dict #[] }) scope.names }
  have nfp : ∀ b ∈ fp, (upd H2 D (.lst [])) b = none := fun b hb => (f3 b hb).1.1
  generalize hce : compEnvC scope (cellsFrom (s3.heap.objs.size + 1) scope.names (cloFrom X.env.cells scope.names [])) s3.heap.objs.size X.env = ce at I4 pg pt pe ⊢
  have cL : ce.locals = s3.heap.objs.size := by subst hce; rfl
  generalize hH3 : upd H2 D (.lst []) = H3 at I3 I4 pg pt pe w0 nfp f3
  generalize hs4 : ({ s3 with heap := pushCells (s3.heap.push { cls := .type "dict", data := .dict #[] }) scope.names } : Shared) = s4 at I4 ⊢
  have st4 : tn 0 s4.heap := T.keep _ _ _ st3 fun b _ o e => by rw [← hs4]; exact pushCells_keeps _ _ _ _ (Heap.get?_push_of_some _ e)
  have stat : ∀ {σ' : St} {H' : Hp} {s' : Shared}, Inv (blkH X s3 H3 scope ce fp) [] σ' H' s' → (∀ b ∈ fp, H' b = none) → ∀ b ∈ fp, FpOk (blkH X s3 H3 scope ce fp) [] H' b := fun {σ' H' s'} I' hn b hb =>
    ⟨hn b hb, (I'.ok.exf b hb).1, I'.ok.exfs b hb, .inl hb, fun x c e => (I'.ok.exf b hb).2 x c e, fun p hp => (f3 b hb).1.2.2.2.2.2 p (List.mem_append_left _ (by simpa using hp))⟩
  have loop : codeAny (model X.prog X.w) X.A (.compLoop (.ListComp elt [⟨tg, iter, ifs, 0⟩] scope pos) 0 (.ref it) (.ref D) ce) (compPost (model X.prog X.w) X.A X.xe use Qf (.ref D) s3.heap.objs.size) s4 := by
    refine compLoop_any (fun n s' => ∃ i H', Inv (blkH X s3 H3 scope ce fp) [] (wipe σ (own.map (·.2))) H' s' ∧ tn i s'.heap ∧ (∀ b ∈ fp, H' b = none) ∧ W i n H') ?_ m0 ⟨0, H3, I4, st4, nfp, w0⟩
    rintro n s5 ⟨i, H5, I5, st5, n5, w5⟩
    rcases turn i n H5 w5 with ⟨stop, qq⟩ | ⟨go, Nx, hNx, step⟩
    · have td := T.done (blkH X s3 H3 scope ce fp) rfl rfl rfl (hot_blk hc _ _ _ _ _) i [] s5 _ H5 (fun _ _ => False) I5 (stat I5 n5) st5 stop
      refine thnF td fun r s6 ⟨hr, I6⟩ => ?_
      subst hr
      -- back in the def's context
      have I7 : Inv X pins σ H5 s6 := I3.call' (ch := fp) I6.os I6.base I6.hok I6.bare fun b hb => ⟨(f3 b hb).1.2.2.2.1, (f3 b hb).1.2.1, (f3 b hb).1.2.2.2.2.1, (f3 b hb).1.2.2.2.2.2⟩
      have nC : H5 s3.heap.objs.size = none := by
        have z : H5 ce.locals = none := I6.free
        rw [cL] at z
        exact z
      obtain ⟨m, hn, _⟩ := I6.loc
      have hn : s6.heap.Ns ce.locals m := hn
      rw [cL] at hn
      exact hRR D s3.heap.objs.size s6 m H5 I7 qq hn (I3.fpOk (Nat.le_refl _) nC)
    · have ti := T.item (blkH X s3 H3 scope ce fp) rfl rfl rfl (hot_blk hc _ _ _ _ _) i [] s5 _ H5 (fun _ _ => False) I5 (stat I5 n5) st5 go
      refine thnF ti fun r s6 ⟨u, hr, h6⟩ => ?_
      subst hr
      refine thnF h6 fun _ s7 ⟨x, H7, I7, r7, y7, st7, n7⟩ => ?_
      have I7' := I7.pinned (stat I7 n7) (T.obj _ _ st7)
      refine thnF (pg.run _ s7 _ H7 x u _ I7' r7 (step x H7 y7)) fun _ s8 ⟨σ8, H8, I8, hw8, q8⟩ => ?_
      refine thnF (pt.run _ s8 σ8 H8 _ I8 q8) fun b s9 ⟨H9, I9, q9⟩ => ?_
      -- the turn's end
      have fin : ∀ {s' : Shared} {H' : Hp}, Inv (blkH X s3 H3 scope ce fp) ([] ++ pinsAt fp s7.heap) σ8 H' s' → Nx H' → ∃ m, m < n ∧ ∃ i H', Inv (blkH X s3 H3 scope ce fp) [] (wipe σ (own.map (·.2))) H' s' ∧ tn i s'.heap ∧ (∀ b ∈ fp, H' b = none) ∧ W i m H' := fun {s' H'} I' nx => by
        obtain ⟨m', hm, w'⟩ := hNx H' nx
        have pin' : ∀ b ∈ fp, ∀ o, s7.heap.get? b = some o → s'.heap.get? b = some o ∧ H' b = none := fun b hb o e =>
          let z := I'.pin (b, o) (List.mem_append_right _ (List.mem_append_right _ (mem_pinsAt hb e)))
          ⟨z.1, z.2.1⟩
        have hl : (wipe σ (own.map (·.2))).length = σ8.length := by rw [← hw8, wipe_length]
        refine ⟨m', hm, i + 1, H', (I'.unpinned (pins := [])).weak hl (fun j v e => ?_), T.keep _ _ _ st7 fun b hb o e => (pin' b hb o e).1, fun b hb => ?_, w'⟩
        · rw [← hw8] at e
          exact (wipe_some e).1
        · obtain ⟨o, e, _⟩ := T.obj _ _ st7 b hb
          exact (pin' b hb o e).2
      cases b with
      | false =>
        simp only [Bool.false_eq_true, if_false] at q9 ⊢
        exact fin I9 q9
      | true =>
        simp only [if_true] at q9 ⊢
        refine thnF (pe.run _ s9 σ8 H9 _ I9 q9) fun z s10 ⟨yv, H10, I10, r10, acc, hD10, hz10, nx⟩ => ?_
        exact app_ok (X := blkH X s3 H3 scope ce fp) I10 hD10 hz10 r10 fun s11 I11 => fin I11 nx
  exact codeAny_compStart_list loop (T.self X.A 0 _ _ _ st4 loop)
/-- name = [..] on one line, the name a local, within a suite -/
theorem ps_setLcH {X : Cx} {i : Nat} {y : Str} {py : Pos} {elt tg iter : Expr} {ifs : List Expr} {scope : Scope} {own : List (Str × Nat)} {pos spos : Pos} {wi : TI} {g : TG} {tt : TT} {te : TE} (hc : HotC X) (hN : X.N.Nodup) (hy : X.N[i]? = some y) (hyl : X.env.scope.names.lookup y = some .local)
    (hsw : swapsWith (.ListComp elt [⟨tg, iter, ifs, 0⟩] scope pos) (some (.Name y py)) spos.line X.env = pure true) (hi : PIH X tg iter wi) (ok : BlkOk X.N X.env.scope scope own)
    (hg : ∀ (s : Shared) (H : Hp) (C : Addr) (cl : List (Str × Addr)) (fp : List Addr), PG (blkH X s H scope (compEnvC scope cl C X.env) fp) tg g) (ht : ∀ (s : Shared) (H : Hp) (C : Addr) (cl : List (Str × Addr)) (fp : List Addr), PTs (blkH X s H scope (compEnvC scope cl C X.env) fp) ifs tt)
    (he : ∀ (s : Shared) (H : Hp) (C : Addr) (cl : List (Str × Addr)) (fp : List Addr), PE (blkH X s H scope (compEnvC scope cl C X.env) fp) elt te) (hs : ∀ x, foldedSetIterable iter X.env x = pure x) :
    PS X (.Assign [.Name y py] (.ListComp elt [⟨tg, iter, ifs, 0⟩] scope pos) spos) (tAsg (tLc wi g tt te (own.map (·.2))) (gName i)) := by
  refine ⟨fun pins s σ H D I h => ?_⟩
  rw [exec_Assign_Name_used _ _ _ _ hsw]
  refine wpAny_bind (wpAny_standAt (wpAny_bind ?_))
  show wpAny _ X.A (do let _ ← comprehension (.ListComp elt [⟨tg, iter, ifs, 0⟩] scope pos) scope X.env (firstIterPos [⟨tg, iter, ifs, 0⟩] pos) (newList []) false (eval iter X.env) (some (assign (.Name y py) X.env))) _ _ s
  have h : tLc wi g tt te (own.map (·.2)) σ H (fun x H1 => gName i x σ H1 D.nx) := h
  refine wpAny_bind (thn (lc_coreH (Qf := fun _ s' => SP X pins D .next s') hc hN I hi ok hg ht he hs h fun L C s' m H' I' q hn f => ?_) fun _ s' hq => wpAny_pure (wpAny_pure hq))
  show wpAny _ _ (assign (.Name y py) X.env (.ref L)) _ _ _
  refine wpAny_assign_Name (store_ok2 (v := V.ref L) I' hN hy (.inl hyl) rfl (fun s2 I2 ⟨a, sb, ha⟩ => ?_) (.inr hyl))
  obtain ⟨f0, f1, f2, f3, f4, f5⟩ := f
  have haC : C ≠ a := by
    rcases ha with z | z
    · rw [z]; exact f1
    · exact fun e => f4 y a z e.symm
  refine ⟨m, hn.sameBut sb haC, fun h3 sb3 => ?_⟩
  exact ⟨_, H', I2.turned (t' := s2.toks) (fun b o hb e => (sb3.2 b hb).trans e) f0 f1 f3 f4 f5, q⟩
end L2H
namespace Lw
open PySem PySem.Spec PyProof.Rows L2 L2H HotX
def zipLM : List D → M (List D)
  | [.lst xs, .lst ys] => pure (zipD xs ys)
  | _ => stuck
theorem di_zipH {X : Cx} {W : WX} {env : Env} {pos : Pos} {a b : Expr} {ma mb : M D} {p tpos : Pos} {elts : List Expr} {kk : Nat} (hm : X.mg "zip" = none) (ha : DE X W env a ma) (hb : DE X W env b mb) (hg : Gl X "zip" := by rfl) (hs : starEach [a, b] X.env = (false, eval a X.env) :: starEach [b] X.env := by rfl)
    (hs2 : starEach [b] X.env = (false, eval b X.env) :: starEach [] X.env := by rfl) (hpl : (backTo pos (starEach [b] X.env)).any (·.1) = false := by rfl) :
    DIH X W env (.Tuple elts kk tpos) (.Call (.Name "zip" p) [a, b] [] pos) (do let x ← ma; let y ← mb; zipLM [x, y]) :=
  PIH.from (pi_zipH (pos := pos) (p := p) hg hm (da_two ha hb hs hs2) hs hpl) fun σ H Q ⟨fr, F, m, ah, s, er, k⟩ => by
    have e : ((do let x ← ma; let y ← mb; pure [x, y]) >>= zipLM) = (do let x ← ma; let y ← mb; zipLM [x, y]) := by
      rw [bind_assoc]
      congr 1
      funext x
      rw [bind_assoc]
      rfl
    have k' : TK X.K X.mg fr W (Yl X.K X.mg) σ F m (((do let x ← ma; let y ← mb; pure [x, y]) >>= zipLM) ah) (fun J H' => Q J H') := by
      rw [e]
      exact k
    refine TK.step (R := RepL X.K) s er k' fun F1 m1 ah1 d v H1 e1 s1 er1 r1 k1 => ?_
    unfold zipLM at k1
    split at k1
    · obtain ⟨v, w, rfl, r, r2⟩ := RepL.two r1
      unfold Rep at r r2
      obtain ⟨a1, vs, h1, h2, h3⟩ := r
      obtain ⟨a2, us, h1', h2', h3'⟩ := r2
      exact ⟨a1, a2, vs, us, by rw [h1, h1'], SqL.up s1.sub h2, SqL.up s1.sub h2', k1 F1 m1 _ H1 Ext.refl s1 (yl_zipL h2 h2' h3 h3')⟩
    · exact (TK.stuck_of k1).elim
/-- name = [.. for .. in .. if ..] within a suite -/
theorem ds_setLcQ {X : Cx} {W : WX} {env : Env} (i : Nat) {y : Str} {py spos pos : Pos} {ex : Env} {τ β : Type} {mk : τ → Env} {lp : β → Env} {rest : List Stmt} {k : D → M (Out τ β)} {elt tg iter : Expr} {ifs : List Expr} {scope : Scope} {own : List (Str × Nat)} {π : Type} {sl : List Nat} {mi : M (List D)} {unp : D → Option π} {sets : π → Env → Env} {mt : π → M Bool} {me : π → M D}
    (hc : HotC X) (hN : X.N.Nodup) (hi : DIH X W env tg iter mi) (ok : BlkOk X.N X.env.scope scope own) (hsl : ∀ i ∈ sl, i ∈ own.map (·.2))
    (hg : ∀ (s : Shared) (H : Hp) (C : Addr) (cl : List (Str × Addr)) (fp : List Addr), DG (blkH X s H scope (compEnvC scope cl C X.env) fp) tg sl unp sets)
    (ht : ∀ (s : Shared) (H : Hp) (C : Addr) (cl : List (Str × Addr)) (fp : List Addr) (p : π), PTs (blkH X s H scope (compEnvC scope cl C X.env) fp) ifs (TC X.K X.mg W0 RB (sets p (wipeE env (own.map (·.2)))) (mt p)))
    (he : ∀ (s : Shared) (H : Hp) (C : Addr) (cl : List (Str × Addr)) (fp : List Addr) (p : π), DE (blkH X s H scope (compEnvC scope cl C X.env) fp) W0 (sets p (wipeE env (own.map (·.2)))) elt (me p))
    (env' : D → Env) (hx : EnvLe ex env) (hr : ∀ d, DS X W ex (env' d) mk lp rest (k d)) (hs : ∀ x, foldedSetIterable iter X.env x = pure x := by intro _; rfl) (hv : ∀ d, env.set i (some d) = env' d := by intro _; rfl) (hy : X.N[i]? = some y := by rfl) (hyl : X.env.scope.names.lookup y = some .local := by rfl)
    (hsw : swapsWith (.ListComp elt [⟨tg, iter, ifs, 0⟩] scope pos) (some (.Name y py)) spos.line X.env = pure true := by exact sw_true rfl rfl rfl (by decide +kernel)) :
    DS X W ex env mk lp (.Assign [.Name y py] (.ListComp elt [⟨tg, iter, ifs, 0⟩] scope pos) spos :: rest) ((do let xs ← mi; lcM xs (fun x => do let p ← liftO (unp x); let t ← mt p; if t = true then (do let y ← me p; pure [y]) else pure [])) >>= k) :=
  PSs.from (pss_cons (ps_setLcH (g := gD X.K X.mg sl unp sets) hc hN hy hyl hsw hi ok hg (fun s H C cl fp => (⟨fun pins s' σ H' Q I ⟨p, q⟩ => (ht s H C cl fp p).run pins s' σ H' Q I q⟩ : PTs _ ifs (fun σ H Q => ∃ p, TC X.K X.mg W0 RB (sets p (wipeE env (own.map (·.2)))) (mt p) σ H Q)))
    (fun s H C cl fp => (⟨fun pins s' σ H' Q I ⟨p, q⟩ => (he s H C cl fp p).run pins s' σ H' Q I q⟩ : PE _ elt (fun σ H Q => ∃ p, TC X.K X.mg W0 (Rep X.K) (sets p (wipeE env (own.map (·.2)))) (me p) σ H Q))) hs) (PSs.ex hr)) fun Dn σ H ⟨fr, F, m, ah, s, er, q⟩ => lc_from (sets := sets) hsl σ H (fun x H1 => gName i x σ H1 fun σ' H' => ∃ a, TB X.K X.mg W ex (env' a) mk lp (k a) Dn σ' H') (TO.step s er hx q fun F1 m1 ah1 d v H1 e1 s1 er1 r1 k1 => ⟨d, fr, F1, m1, ah1, s1, by rw [← hv d]; exact er1.set r1, k1⟩)
end Lw
/-! SimYz: enumerate(list, start=k); two except clauses. -/
namespace Lw
open PySem PySem.Spec PyProof.Rows L2
section
end
section
end
section
end
/-! ### two except clauses -/
section
end
end Lw
/-! SimZb: a list comprehension whose element may raise. -/
namespace CwC
open PySem PySem.Spec PyProof.Rows L2
theorem note_same {e : Value} {c env : Env} (h : c.frame = env.frame) : noteFrame e c = noteFrame e env := by
  unfold noteFrame PySem.frameOf
  simp only [h]
section
variable {M : Model} {A : Around} {E : Value → Shared → Prop} {s : Shared} {env : Env}
/-- behind the block: as the library has it, the block's own env told -/
def postX (M : Model) (A : Around) (E : Value → Shared → Prop) (use : Option (Value → Sem Unit)) (Q : Value → Shared → Prop) (acc : Value) (ce : Env) (r : Result) (s' : Shared) : Prop :=
  match r, use with
  | .ok _, none => ∃ m, s'.heap.Ns ce.locals m ∧ ∀ h', Heap.SameBut ce.locals s'.heap h' → Q acc { s' with heap := h' }
  | .ok _, some u => wpAny M A (u acc) (fun _ s'' => ∃ m, s''.heap.Ns ce.locals m ∧ ∀ h', Heap.SameBut ce.locals s''.heap h' → Q .none { s'' with heap := h' }) E s'
  | .error x, _ => ∃ m, s'.heap.Ns ce.locals m ∧ ∀ h', Heap.SameBut ce.locals s'.heap h' → wpAny M A (passOn "comprehension.variables-let-go" x ce : Sem Value) (fun _ _ => False) E { s' with heap := h' }
theorem comp_free {e : Expr} {scope : Scope} {pos : Pos} {newAcc first : Sem Value} {g : Comprehension} {gs : List Comprehension} {cl : List (Str × Addr)} {use : Option (Value → Sem Unit)}
    {Q : Value → Shared → Prop}
    (hcl : clausesOf e = g :: gs) (hs : ∀ x, foldedSetIterable g.iter env x = pure x) (hclos : closureFor scope env = pure cl)
    (hkind : scope.kind = .function) (hnames : ∀ x ∈ scope.names, x.2 = .local → scope.names.lookup x.1 = some .local)
    (h : wpAny M A first (fun x s₁ => wpAny M A (pyIter x) (fun it s₂ => wpAny M A newAcc (fun acc s₃ =>
      wpAny M A (newFunctionEnv scope env.globals cl [] env.qual none .none (some env)) (fun cenv s₄ =>
        codeAny M A (.compStart e 0 it acc { cenv with scope := relabel scope env }) (postX M A E use Q acc { cenv with scope := relabel scope env }) s₄) E s₃) E s₂) E s₁) E s) :
    wpAny M A (comprehension e scope env pos newAcc false first use) Q E s := by
  unfold comprehension
  rw [hclos, hcl]
  refine wpAny_bind (wpAny_mono h (fun x s₁ h₁ => wpAny_bind (wpAny_standAt (wpAny_bind (wpAny_of_eq (hs x) (wpAny_bind (wpAny_holding (wpAny_mono h₁ (fun it s₂ h₂ =>
    wpAny_standIf (wpAny_bind (wpAny_mono h₂ (fun acc s₃ h₃ => wpAny_bind (wpAny_pure (wpAny_bind (wpAny_mono h₃ (fun cenv s₄ h₄ => ?_) fun _ _ h' => h')))) fun _ _ h' => h')))
      fun _ _ h' => h'))))))) fun _ _ h' => h')
  dsimp only
  have hv : ∀ x ∈ (scope.names.filter fun x => (x.2 == .local || x.2 == .cell) && x.1 != (".0" : Str)).reverse, x.2 = .local →
      Env.kindOf { cenv with scope := relabel scope env } x.1 = some .local := fun x hx hl => lookup_relabel_local (hnames x (List.mem_filter.mp (List.mem_reverse.mp hx)).1 hl)
  have hv' : ∀ x ∈ (scope.names.filter fun x => (x.2 == .local || x.2 == .cell) && x.1 != (".0" : Str)).reverse.drop 1 ++ (scope.names.filter fun x => (x.2 == .local || x.2 == .cell) && x.1 != (".0" : Str)).reverse.take 1,
      x.2 = .local → Env.kindOf { cenv with scope := relabel scope env } x.1 = some .local := fun x hx hl => by
    rcases List.mem_append.mp hx with h1 | h1
    · exact hv x (List.mem_of_mem_drop h1) hl
    · exact hv x (List.mem_of_mem_take h1) hl
  refine wpAny_holding (wpAny_bind (wpAny_attempt (wpAny_holding (wpAny_run (codeAny_mono h₄ fun r s' hr => ?_)))))
  cases r with
  | ok f =>
    cases use with
    | none =>
      obtain ⟨m, hn, hr⟩ := hr
      exact wpAny_bind (wpAny_holding (wpAny_comp_letGo (cenv := { cenv with scope := relabel scope env }) hkind _ s' m hv hn fun h' m' _ hs' => wpAny_pure (hr h' hs')))
    | some u =>
      refine wpAny_bind (wpAny_rule (wpAny_bind (wpAny_holding (wpAny_mono hr (fun _ s'' hr' => ?_) fun _ _ h' => h'))))
      obtain ⟨m, hn, hr'⟩ := hr'
      exact wpAny_bind (wpAny_comp_letGo (cenv := { cenv with scope := relabel scope env }) hkind _ s'' m hv' hn fun h' m' _ hs' => wpAny_pure (hr' h' hs'))
  | error x =>
    have hr' : ∃ m, s'.heap.Ns cenv.locals m ∧ ∀ h', Heap.SameBut cenv.locals s'.heap h' → wpAny M A (passOn "comprehension.variables-let-go" x { cenv with scope := relabel scope env } : Sem Value) (fun _ _ => False) E { s' with heap := h' } := by cases use <;> exact hr
    obtain ⟨m, hn, hr⟩ := hr'
    exact wpAny_bind (wpAny_holding (wpAny_comp_letGo (cenv := { cenv with scope := relabel scope env }) hkind _ s' m hv hn fun h' m' _ hs' => wpAny_mono (hr h' hs') (fun _ _ f => f.elim) fun _ _ y => y))
end
/-! ### the air over a block -/
section
variable {M : Model} {A : Around} {E : Value → Shared → Prop} {s : Shared} {Z : Obj → Prop} {base : Heap} {env : Env} {outer l : List Env} {L C e : Addr}
open HandSPX
/-- noted by another frame: noted once more -/
theorem looks_heldZ {Q : Unit → Shared → Prop} (hZ : PXN.Steady1 Z) (hfr : A.frames = some (env :: outer)) (hf : env.frame = some L) (ne : C ≠ L) (hfl : HeldZ base (env :: outer) e Z C s.heap)
    (hQ : ∀ h', HeldZ base (env :: outer) e Z L h' → s.heap.UpToSlots h' → Q () { s with heap := h' }) : wpAny M A (noteFrame (.ref e) env) Q E s := by
  obtain ⟨hkb, hen, hl, oe, vs, T, oT, ts, he, hz, hd, h1, hnT, hTe, hT, hdT, h3⟩ := hfl
  unfold noteFrame
  simp only [hf]
  refine wpAny_bind (wpAny_field he hd h1 ?_)
  rw [if_pos (show (Value.ref T != Value.none) = true from by simp)]
  refine wpAny_bind (wpAny_field hT hdT h3 ?_)
  rw [if_neg (show ¬ ((rawInt C == rawInt L) = true) from by
    intro z
    have z : (C : Int) = (L : Int) := by simpa [rawInt] using z
    exact ne (Int.ofNat.inj z))]
  refine wpAny_bind (wpAny_setField hT hdT (Array.getElem?_eq_some_iff.mp h3).1 ?_)
  have other : ∀ b, b ≠ T → (s.heap.update T (Obj.mapFields (·.setIfInBounds 3 Value.none))).get? b = s.heap.get? b := fun b hb => Heap.get?_update_other _ _ (Ne.symm hb)
  have noRecord : ∀ b o, s.heap.get? b = some o → (∀ vs, o.data ≠ .fields vs) → b ≠ T := fun b o hb hnf q => by
    rw [q, hT] at hb; injection hb with hb; subst hb; exact hnf ts hdT
  refine PXN.wpAny_entryZ hZ hfr (hl.of_keeps fun b o hb hnf => ⟨o, (other b (noRecord b o hb hnf)).trans hb, rfl⟩) hf ((other e (Ne.symm hTe)).trans he)
    (fun b o hbo => (other b fun q => by rw [q, hnT] at hbo; cases hbo).trans (hkb b o hbo)) hen hd (Array.getElem?_eq_some_iff.mp h1).1 hz fun h' hN => ?_
  obtain ⟨x1, x2, x3, x4⟩ := hN
  exact hQ h' ⟨x1, hen, x2, x3⟩ fun b o hb hnf => x4 b o ((other b (noRecord b o hb hnf)).trans hb) hnf
theorem funFrames_to {h h' base base' : Heap} : ∀ {l : List Env}, (∀ b ∈ frs l, (base.get? b = none → base'.get? b = none) ∧ h'.get? b = h.get? b) → h.FunFrames base l → h'.FunFrames base' l
  | [], _, _ => trivial
  | env :: rest, k, hl => by
    obtain ⟨h0, ⟨L, o, hf, hn, ho, hd⟩, hr⟩ := hl
    have kL := k L (by unfold frs; rw [List.filterMap_cons, hf]; exact List.mem_cons_self)
    refine ⟨h0, ⟨L, o, hf, kL.1 hn, kL.2.trans ho, hd⟩, funFrames_to (fun b hb => k b ?_) hr⟩
    unfold frs
    rw [List.filterMap_cons, hf]
    exact List.mem_cons_of_mem _ hb
end
section
variable {X : Cx}
theorem blk_exc {pins : List (Addr × Obj)} {σ : L2.St} {H3 : Hp} {s3 : Shared} {scope : Scope} {ce : Env} {fp : List Addr} {Wout : WX} (I3 : L2.Inv X pins σ H3 s3) (hs0 : X.stack = X.env :: X.outer) (hf0 : X.env.frame = some X.env.locals) (tk : L2N.Takes X Wout)
    (cL : ce.locals = s3.heap.objs.size) (cF : ce.frame = X.env.frame) (f3 : ∀ b ∈ fp, FpOk X pins H3 b) {u : Value} {s' : Shared} (xx : L2N.XE (X.blk s3 H3 scope ce fp) (fun cls d _ H' => Wout cls d σ H') u s')
    {use : Option (Value → Sem Unit)} {Qf : Value → Shared → Prop} {acc : Value} {E' : Value → Shared → Prop} :
    wpAny (model X.prog X.w) X.A (noteFrame u ce) (fun _ s'' => postX (model X.prog X.w) X.A X.xe use Qf acc ce (.error u) s'') E' s' := by
  obtain ⟨a, B, sI, pins', σ', H', cls, d, rfl, J', nb, up, sky, na, os, ag, w⟩ := xx
  rw [note_same cF]
  have hfr : X.A.frames = some (X.env :: X.outer) := by rw [I3.ok.frames, hs0]
  have J : L2.Inv X pins σ H' sI := I3.call' (ch := fp) J'.os J'.base J'.hok J'.bare fun b hb => ⟨(f3 b hb).2.2.2.1, (f3 b hb).2.1, (f3 b hb).2.2.2.2.1, (f3 b hb).2.2.2.2.2⟩
  have nC : H' ce.locals = none := J'.free
  have fC := I3.fpOk (H' := H') (b := ce.locals) (by rw [cL]; exact Nat.le_refl _) nC
  obtain ⟨f0, f1, f2, f3', f4, f5⟩ := fC
  have nst : ce.locals ∉ frs X.stack := fun z => by
    rw [hs0] at z
    unfold frs at z
    rw [List.filterMap_cons, hf0] at z
    rcases List.mem_cons.mp z with z | z
    · exact f1 z
    · exact f2 z
  obtain ⟨m, hn, _⟩ := J'.loc
  have hn : sI.heap.Ns ce.locals m := hn
  have bC : ∃ o, B.get? ce.locals = some o := by
    obtain ⟨o, _, _, ho, _⟩ := id hn
    exact ⟨o, nb _ o ho nst⟩
  obtain ⟨oC, bC⟩ := bC
  have fin : ∀ h1, HandSPX.HeldZ B (X.env :: X.outer) a (L2N.Zn cls d) X.env.locals h1 → s'.heap.UpToSlots h1 → postX (model X.prog X.w) X.A X.xe use Qf acc ce (.error (.ref a)) { s' with heap := h1 } := by
    intro h1 hh up1
    have key : ∃ m, h1.Ns ce.locals m ∧ ∀ h', Heap.SameBut ce.locals h1 h' → wpAny (model X.prog X.w) X.A (passOn "comprehension.variables-let-go" (.ref a) ce : Sem Value) (fun _ _ => False) X.xe { s' with heap := h' } := by
      refine ⟨m, (up.trans up1).ns hn, fun h' sb => ?_⟩
      obtain ⟨st, an, ff, oe, vs, T, oT, ts, he, hz, hd, g1, hnT, hTe, hT, hdT, h3⟩ := hh
      obtain ⟨B2, k1, k2⟩ := L2.restrict B fun b => decide (b ≠ ce.locals)
      have k1 : ∀ b, b ≠ ce.locals → B2.get? b = B.get? b := fun b hb => k1 b (decide_eq_true hb)
      have k2 : B2.get? ce.locals = none := k2 _ (by simp)
      obtain ⟨G, q1, q2⟩ := L2.restrict sI.heap fun b => decide (b ≠ ce.locals)
      have q1 : ∀ b, b ≠ ce.locals → G.get? b = sI.heap.get? b := fun b hb => q1 b (decide_eq_true hb)
      have q2 : G.get? ce.locals = none := q2 _ (by simp)
      have sub2 : ∀ b o, B2.get? b = some o → b ≠ ce.locals ∧ B.get? b = some o := fun b o e => by
        by_cases z : b = ce.locals
        · rw [z, k2] at e
          cases e
        · exact ⟨z, (k1 b z).symm.trans e⟩
      have none2 : ∀ b, B.get? b = none → B2.get? b = none := fun b e => by
        by_cases z : b = ce.locals
        · rw [z]
          exact k2
        · exact (k1 b z).trans e
      have subG : ∀ b o, G.get? b = some o → b ≠ ce.locals ∧ sI.heap.get? b = some o := fun b o e => by
        by_cases z : b = ce.locals
        · rw [z, q2] at e
          cases e
        · exact ⟨z, (q1 b z).symm.trans e⟩
      have aC : a ≠ ce.locals := fun z => by rw [z, bC] at an; cases an
      have TC' : T ≠ ce.locals := fun z => by rw [z, bC] at hnT; cases hnT
      have st2 : B2.StaysIn h' := fun b o e => by
        obtain ⟨z, e⟩ := sub2 b o e
        exact (sb.2 b z).trans (st b o e)
      have ff2 : h'.FunFrames B2 (X.env :: X.outer) := funFrames_to (fun b hb => ⟨none2 b, sb.2 b fun z => nst (by rw [hs0]; rw [z] at hb; exact hb)⟩) ff
      have he2 : h'.get? a = some oe := (sb.2 a aC).trans he
      have tr2 : HandSPX.TracedZ h' B2 a (L2N.Zn cls d) (rawInt X.env.locals) := ⟨oe, vs, T, oT, ts, he2, hz, hd, g1, none2 T hnT, hTe, (sb.2 T TC').trans hT, hdT, h3⟩
      have J2 : L2.Inv X pins σ H' { sI with heap := G, toks := s'.toks } := J.turned (fun b o hb e => (q1 b hb).trans e) f0 f1 f3' f4 f5
      have go : wpAny (model X.prog X.w) X.A (setFlight (.ref a) ce.frame) (fun _ s4 => wpAny (model X.prog X.w) X.A (throw (.ref a) : Sem Value) (fun _ _ => False) X.xe s4) X.xe { s' with heap := h' } := by
        rw [cF, hf0]
        refine HandSPX.setFlight_anyZ (base := B2) (l := X.env :: X.outer) (Z := L2N.Zn cls d) (fl := rawInt X.env.locals) st2 ff2 tr2 fun h4 x1 x2 x3 x4 => wpAny_throw (tk _ _ ?_)
        refine ⟨a, B2, { sI with heap := G, toks := s'.toks }, pins, σ, H', cls, d, rfl, J2, fun b o e hb => ?_, fun b o e hnf => ?_, .inr (.inr ?_), na, os, ag, w⟩
        · obtain ⟨z, e⟩ := subG b o e
          exact (k1 b z).trans (nb b o e hb)
        · obtain ⟨z, e⟩ := subG b o e
          obtain ⟨sl, e1⟩ := (up.trans up1) b o e hnf
          obtain ⟨sl2, e2⟩ := x4 b { o with slots := sl } ((sb.2 b z).trans e1) hnf
          exact ⟨sl2, e2⟩
        · rw [hs0]
          exact ⟨x1, none2 a an, x2, x3⟩
      unfold PySem.passOn
      refine wpAny_bind (wpAny_field he2 hd g1 ?_)
      rw [if_neg (show ¬ ((Value.ref T == Value.none) = true) from by simp)]
      first
        | exact wpAny_bind (wpAny_pure (wpAny_bind go))
        | exact wpAny_bind go
    cases use <;> exact key
  have sky' : Sky B (X.env :: X.outer) a (L2N.Zn cls d) ce.locals s'.heap := by rw [← hs0]; exact sky
  rcases sky' with ⟨hB, hn, hl, oe, vs, he, hz, hd, h1⟩ | fl | hh
  · exact PXN.look_newZ L2N.Zn.steady hfr hl hf0 he hB hn hd h1 hz fin
  · exact PXN.looks_onZ L2N.Zn.steady hfr hf0 fl fin
  · exact looks_heldZ L2N.Zn.steady hfr hf0 f1 hh fin
end
end CwC
/-! SimZc: a list comprehension whose element may raise (the library's core, its block's exceptions let out). -/
namespace CwC
open PySem PySem.Spec PyProof.Rows L2
section
variable {X : Cx}
theorem lcx_core {pins : List (Addr × Obj)} {s : Shared} {σ : L2.St} {H : Hp} {Q : VK} {elt tg iter : Expr} {ifs : List Expr} {scope : Scope} {own : List (Str × Nat)} {pos pos' : Pos} {wi : TI} {g : TG} {tt : TT} {te : WX → TE} {Wout : WX} {use : Option (Value → Sem Unit)} {Qf : Value → Shared → Prop}
    (hc : X.calm = true) (hN : X.N.Nodup) (hs0 : X.stack = X.env :: X.outer) (hf0 : X.env.frame = some X.env.locals) (tk : L2N.Takes X Wout) (I : L2.Inv X pins σ H s) (hi : PI X tg iter wi) (ok : BlkOk X.N X.env.scope scope own)
    (hg : ∀ (s : Shared) (H : Hp) (C : Addr) (cl : List (Str × Addr)) (fp : List Addr), PG (X.blk s H scope (compEnvC scope cl C X.env) fp) tg g) (ht : ∀ (s : Shared) (H : Hp) (C : Addr) (cl : List (Str × Addr)) (fp : List Addr), PTs (X.blk s H scope (compEnvC scope cl C X.env) fp) ifs tt)
    (he : ∀ (s : Shared) (H : Hp) (C : Addr) (cl : List (Str × Addr)) (fp : List Addr) (pn : List (Addr × Obj)) (W : WX) (xe : Value → Shared → Prop), L2N.Takes ((X.blk s H scope (compEnvC scope cl C X.env) fp).tr pn xe) W → PE ((X.blk s H scope (compEnvC scope cl C X.env) fp).tr pn xe) elt (te W)) (hs : ∀ x, foldedSetIterable iter X.env x = pure x)
    (h : tLc wi g tt (te fun cls d _ H' => Wout cls d σ H') (own.map (·.2)) σ H Q)
    (hRR : ∀ D (ce : Env) s' m H', L2.Inv X pins σ H' s' → Q (.ref D) H' → s'.heap.Ns ce.locals m → FpOk X pins H' ce.locals → postX (model X.prog X.w) X.A X.xe use Qf (.ref D) ce (.ok .next) s') :
    wpAny (model X.prog X.w) X.A (comprehension (.ListComp elt [⟨tg, iter, ifs, 0⟩] scope pos) scope X.env pos' (newList []) false (eval iter X.env) use) Qf X.xe s := by
  have hfree : ∀ y ∈ scope.names, y.2 = .free → ∃ c, X.env.cells.lookup y.1 = some c := fun y hy e => by
    rcases ok.free y hy e with k | k
    · exact I.ok.has _ (.inl k)
    · exact I.ok.has _ (.inr k)
  refine comp_free (use := use) rfl hs (closure_ok hfree) ok.kind (fun y hy e => by rw [ok.uniq y hy, e])
    (thn (hi.run pins s σ H _ I h) fun xv s1 hx => thn hx fun itv s2 h2 => ?_)
  obtain ⟨it, fp, tn, J, H2, e, I2, T, st2, f2, q⟩ := h2
  subst e
  refine wpAny_newObj_type (newEnv_comp ?_) (by show 0 ≤ sizeLine; decide)
  generalize hD : s2.heap.objs.size = D
  have hDn : H2 D = none := I2.hok.fresh (Nat.le_of_eq hD)
  obtain ⟨W, ⟨m0, w0⟩, turn⟩ := q D hDn
  -- the new list
  generalize hs3 : ({ s2 with heap := s2.heap.push { cls := .type "list", data := .seq ([] : List Value).toArray } } : Shared) = s3
  have I3 : L2.Inv X pins σ (upd H2 D (.lst [])) s3 := by
    rw [← hs3]
    refine I2.laid (t' := s2.toks) (fun b o e => Heap.get?_push_of_some _ e) (Nat.le_of_eq hD) ⟨Nat.zero_le _, [], 0, .nil, ?_⟩
    rw [← hD]
    exact Heap.get?_push_size _ rfl
  have h3 : s3.heap = s2.heap.push { cls := .type "list", data := .seq ([] : List Value).toArray } := by rw [← hs3]
  have sz : ∀ b ∈ fp, b < s2.heap.objs.size := fun b hb => by
    obtain ⟨o, e, _⟩ := T.obj _ _ st2 b hb
    exact Heap.lt_size e
  have f3 : ∀ b ∈ fp, FpOk X pins (upd H2 D (.lst [])) b ∧ b < s3.heap.objs.size := fun b hb => by
    have hlt := sz b hb
    refine ⟨⟨?_, (f2 b hb).2⟩, by rw [h3, Heap.size_push]; exact Nat.lt_succ_of_lt hlt⟩
    rw [upd_ne (by rw [← hD]; exact Nat.ne_of_lt hlt)]
    exact (f2 b hb).1
  have st3 : tn 0 s3.heap := T.keep _ _ _ st2 fun b _ o e => by rw [h3]; exact Heap.get?_push_of_some _ e
  have I4 := block_start I3 ok hN f3
  have pg := hg s3 (upd H2 D (.lst [])) s3.heap.objs.size (cellsFrom (s3.heap.objs.size + 1) scope.names (cloFrom X.env.cells scope.names [])) fp
  have pt := ht s3 (upd H2 D (.lst [])) s3.heap.objs.size (cellsFrom (s3.heap.objs.size + 1) scope.names (cloFrom X.env.cells scope.names [])) fp
  have pe := he s3 (upd H2 D (.lst [])) s3.heap.objs.size (cellsFrom (s3.heap.objs.size + 1) scope.names (cloFrom X.env.cells scope.names [])) fp
  show codeAny _ _ (.compStart (.ListComp elt [⟨tg, iter, ifs, 0⟩] scope pos) 0 (.ref it) (.ref D) (compEnvC scope (cellsFrom (s3.heap.objs.size + 1) scope.names (cloFrom X.env.cells scope.names [])) s3.heap.objs.size X.env)) (postX (model X.prog X.w) X.A X.xe use Qf (.ref D) (compEnvC scope (cellsFrom (s3.heap.objs.size + 1) scope.names (cloFrom X.env.cells scope.names [])) s3.heap.objs.size X.env)) { s3 with heap := pushCells (s3.heap.push { cls := .type "dict", data := .dict #[] }) scope.names }
  have nfp : ∀ b ∈ fp, (upd H2 D (.lst [])) b = none := fun b hb => (f3 b hb).1.1
  generalize hce : compEnvC scope (cellsFrom (s3.heap.objs.size + 1) scope.names (cloFrom X.env.cells scope.names [])) s3.heap.objs.size X.env = ce at I4 pg pt pe ⊢
  have cL : ce.locals = s3.heap.objs.size := by subst hce; rfl
  have cF : ce.frame = X.env.frame := by subst hce; rfl
  generalize hH3 : upd H2 D (.lst []) = H3 at I3 I4 pg pt pe w0 nfp f3
  generalize hs4 : ({ s3 with heap := pushCells (s3.heap.push { cls := .type "dict", data := .dict #[] }) scope.names } : Shared) = s4 at I4 ⊢
  have st4 : tn 0 s4.heap := T.keep _ _ _ st3 fun b _ o e => by rw [← hs4]; exact pushCells_keeps _ _ _ _ (Heap.get?_push_of_some _ e)
  have stat : ∀ {σ' : L2.St} {H' : Hp} {s' : Shared}, L2.Inv (X.blk s3 H3 scope ce fp) [] σ' H' s' → (∀ b ∈ fp, H' b = none) → ∀ b ∈ fp, FpOk (X.blk s3 H3 scope ce fp) [] H' b := fun {σ' H' s'} I' hn b hb =>
    ⟨hn b hb, (I'.ok.exf b hb).1, I'.ok.exfs b hb, .inl hb, fun x c e => (I'.ok.exf b hb).2 x c e, fun p hp => absurd (show p ∈ ([] : List (Addr × Obj)) ++ [] from hp) (by simp)⟩
  have loop : codeAny (model X.prog X.w) X.A (.compLoop (.ListComp elt [⟨tg, iter, ifs, 0⟩] scope pos) 0 (.ref it) (.ref D) ce) (postX (model X.prog X.w) X.A X.xe use Qf (.ref D) ce) s4 := by
    refine compLoop_any (fun n s' => ∃ i H', L2.Inv (X.blk s3 H3 scope ce fp) [] (wipe σ (own.map (·.2))) H' s' ∧ tn i s'.heap ∧ (∀ b ∈ fp, H' b = none) ∧ W i n H') ?_ m0 ⟨0, H3, I4, st4, nfp, w0⟩
    rintro n s5 ⟨i, H5, I5, st5, n5, w5⟩
    rcases turn i n H5 w5 with ⟨stop, qq⟩ | ⟨go, Nx, hNx, step⟩
    · have td := T.done (X.blk s3 H3 scope ce fp) rfl rfl rfl hc i [] s5 _ H5 (fun _ _ => False) I5 (stat I5 n5) st5 stop
      refine thnF td fun r s6 ⟨hr, I6⟩ => ?_
      subst hr
      -- back in the def's context
      have I7 : L2.Inv X pins σ H5 s6 := I3.call' (ch := fp) I6.os I6.base I6.hok I6.bare fun b hb => ⟨(f3 b hb).1.2.2.2.1, (f3 b hb).1.2.1, (f3 b hb).1.2.2.2.2.1, (f3 b hb).1.2.2.2.2.2⟩
      have nC : H5 s3.heap.objs.size = none := by
        have z : H5 ce.locals = none := I6.free
        rw [cL] at z
        exact z
      obtain ⟨m, hn, _⟩ := I6.loc
      have hn : s6.heap.Ns ce.locals m := hn
      exact hRR D ce s6 m H5 I7 qq hn (I3.fpOk (by rw [cL]; exact Nat.le_refl _) (by rw [cL]; exact nC))
    · have ti := T.item (X.blk s3 H3 scope ce fp) rfl rfl rfl hc i [] s5 _ H5 (fun _ _ => False) I5 (stat I5 n5) st5 go
      refine thnF ti fun r s6 ⟨u, hr, h6⟩ => ?_
      subst hr
      refine thnF h6 fun _ s7 ⟨x, H7, I7, r7, y7, st7, n7⟩ => ?_
      have I7' := I7.pinned (stat I7 n7) (T.obj _ _ st7)
      refine thnF (pg.run _ s7 _ H7 x u _ I7' r7 (step x H7 y7)) fun _ s8 ⟨σ8, H8, I8, hw8, q8⟩ => ?_
      refine thnF (pt.run _ s8 σ8 H8 _ I8 q8) fun b s9 ⟨H9, I9, q9⟩ => ?_
      -- the turn's end
      have fin : ∀ {s' : Shared} {H' : Hp}, L2.Inv (X.blk s3 H3 scope ce fp) ([] ++ pinsAt fp s7.heap) σ8 H' s' → Nx H' → ∃ m, m < n ∧ ∃ i H', L2.Inv (X.blk s3 H3 scope ce fp) [] (wipe σ (own.map (·.2))) H' s' ∧ tn i s'.heap ∧ (∀ b ∈ fp, H' b = none) ∧ W i m H' := fun {s' H'} I' nx => by
        obtain ⟨m', hm, w'⟩ := hNx H' nx
        have pin' : ∀ b ∈ fp, ∀ o, s7.heap.get? b = some o → s'.heap.get? b = some o ∧ H' b = none := fun b hb o e =>
          let z := I'.pin (b, o) (List.mem_append_right _ (List.mem_append_right _ (mem_pinsAt hb e)))
          ⟨z.1, z.2.1⟩
        have hl : (wipe σ (own.map (·.2))).length = σ8.length := by rw [← hw8, wipe_length]
        refine ⟨m', hm, i + 1, H', (I'.unpinned (pins := [])).weak hl (fun j v e => ?_), T.keep _ _ _ st7 fun b hb o e => (pin' b hb o e).1, fun b hb => ?_, w'⟩
        · rw [← hw8] at e
          exact (wipe_some e).1
        · obtain ⟨o, e, _⟩ := T.obj _ _ st7 b hb
          exact (pin' b hb o e).2
      cases b with
      | false =>
        simp only [Bool.false_eq_true, if_false] at q9 ⊢
        exact fin I9 q9
      | true =>
        simp only [if_true] at q9 ⊢
        have okY := I9.ok
        refine wpAny_mono ((pe ([] ++ pinsAt fp s7.heap) (fun cls d _ H' => Wout cls d σ H') (L2N.XE (X.blk s3 H3 scope ce fp) (fun cls d _ H' => Wout cls d σ H')) (fun u s' ⟨a, B, sI, pins', σ', H', cls, d, e, J', nb, up, sky, na, os, ag, w⟩ => ⟨a, B, sI, [] ++ pinsAt fp s7.heap, σ', H', cls, d, e, L2.Inv.ofTry (X := X.blk s3 H3 scope ce fp) (pins := [] ++ pinsAt fp s7.heap) J' okY, nb, up, sky, na, os, ag, w⟩)).run [] s9 σ8 H9 _ (L2.Inv.toTry I9 _) q9) (fun z s10 ⟨yv, H10, I10', r10, acc, hD10, hz10, nx⟩ => ?_) fun u s' xx => blk_exc I3 hs0 hf0 tk cL cF (fun b hb => (f3 b hb).1) xx
        have I10 := L2.Inv.ofTry (X := X.blk s3 H3 scope ce fp) (pins := [] ++ pinsAt fp s7.heap) I10' okY
        exact app_ok (X := X.blk s3 H3 scope ce fp) I10 hD10 hz10 r10 fun s11 I11 => fin I11 nx
  exact codeAny_compStart_list loop (T.self X.A 0 _ _ _ st4 loop)
theorem pe_lcx {elt tg iter : Expr} {ifs : List Expr} {scope : Scope} {own : List (Str × Nat)} {pos : Pos} {wi : TI} {g : TG} {tt : TT} {te : WX → TE} {Wout : WX} (hc : X.calm = true) (hN : X.N.Nodup) (hs0 : X.stack = X.env :: X.outer) (hf0 : X.env.frame = some X.env.locals) (tk : L2N.Takes X Wout) (hi : PI X tg iter wi) (ok : BlkOk X.N X.env.scope scope own)
    (hg : ∀ (s : Shared) (H : Hp) (C : Addr) (cl : List (Str × Addr)) (fp : List Addr), PG (X.blk s H scope (compEnvC scope cl C X.env) fp) tg g) (ht : ∀ (s : Shared) (H : Hp) (C : Addr) (cl : List (Str × Addr)) (fp : List Addr), PTs (X.blk s H scope (compEnvC scope cl C X.env) fp) ifs tt)
    (he : ∀ (s : Shared) (H : Hp) (C : Addr) (cl : List (Str × Addr)) (fp : List Addr) (pn : List (Addr × Obj)) (W : WX) (xe : Value → Shared → Prop), L2N.Takes ((X.blk s H scope (compEnvC scope cl C X.env) fp).tr pn xe) W → PE ((X.blk s H scope (compEnvC scope cl C X.env) fp).tr pn xe) elt (te W)) (hs : ∀ x, foldedSetIterable iter X.env x = pure x := by intro _; rfl) :
    PE X (.ListComp elt [⟨tg, iter, ifs, 0⟩] scope pos) (fun σ H Q => tLc wi g tt (te fun cls d _ H' => Wout cls d σ H') (own.map (·.2)) σ H Q) := by
  refine ⟨fun pins s σ H Q I h => ?_⟩
  rw [eval_ListComp]
  refine lcx_core hc hN hs0 hf0 tk I hi ok hg ht he hs h fun D C s' m H' I' q hn f => ⟨m, hn, fun h'' sb => ?_⟩
  obtain ⟨f0, f1, f2, f3, f4, f5⟩ := f
  exact ⟨.ref D, H', I'.turned (t' := s'.toks) (fun b o hb e => (sb.2 b hb).trans e) f0 f1 f3 f4 f5, rfl, q⟩
end
end CwC
/-! SimZd: [f(x) for x in xs], where f may raise. -/
namespace Lw
open PySem L2
def lcxM (xs : List D) (f : D → M (List D)) : M D := if lenOk xs.length = true then (do let ys ← compM xs f; pure (.lst ys)) else stuck
abbrev lcxD (xs : List D) {π : Type} (unp : D → Option π) (me : π → M D) : M D := lcxM xs (fun x => do let p ← liftO (unp x); let t ← (pure true : M Bool); if t = true then (do let y ← me p; pure [y]) else pure [])
section
variable {X : Cx} {W : WX} {env : Env} {pos : Pos}
theorem TK.innerX {K : Fg} {mg : Str → Option Value} {fr : Fm} {W : WX} {σ : St} {F H : Hp} {m : List Addr} {ah : AH} {α β γ δ : Type} {R : Hp → List Addr → α → β → Prop} {S : Hp → List Addr → γ → δ → Prop} {envB : Env} {σB : St} {ma : M α} {k : α → M γ} {Q : δ → Hp → Prop} {P : β → Hp → Prop}
    (s : Sim K mg fr F m ah H) (er : EnvRep K F m envB σB) (h : TK K mg fr W S σ F m ((ma >>= k) ah) Q)
    (hP : ∀ F1 m1 ah1 d v H1, Ext F m F1 m1 → Sim K mg ⟨H, F, m⟩ F1 m1 ah1 H1 → EnvRep K F1 m1 envB σB → R F1 m1 d v → TK K mg fr W S σ F1 m1 (k d ah1) Q → P v H1) : TC K mg (fun cls d _ H2 => W cls d σ H2) R envB ma σB H P := by
  refine ⟨⟨H, F, m⟩, F, m, ah, s.re, er, ?_⟩
  rw [bind_def] at h
  cases hr : ma ah with
  | ok d a =>
    rw [hr] at h
    exact fun F' m' v H' e s' r => hP F' m' a d v H' e s' (er.ext e) r (TK.ext e h)
  | exc x a =>
    rw [hr] at h
    exact fun F' m' C H' e s' g => h F' m' C H' e (s.back s') g
  | stuck =>
    rw [hr] at h
    exact h.elim
theorem lcx_from {own : List (Str × Nat)} {π : Type} {sl : List Nat} {mi : M (List D)} {unp : D → Option π} {sets : π → Env → Env} {me : π → M D} (hsl : ∀ i ∈ sl, i ∈ own.map (·.2)) :
    ∀ σ H Q, TC X.K X.mg W (Rep X.K) env (do let xs ← mi; lcxD xs unp me) σ H Q → tLc (TIM X.K X.mg W env mi) (gD X.K X.mg sl unp sets) (fun σ H Q => ∃ p, TC X.K X.mg W0 RB (sets p (wipeE env (own.map (·.2)))) (pure true) σ H Q)
      (fun σ' H' Q' => ∃ p, TC X.K X.mg (fun cls d _ H2 => W cls d σ H2) (Rep X.K) (sets p (wipeE env (own.map (·.2)))) (me p) σ' H' Q') (own.map (·.2)) σ H Q := by
  intro σ H Q ⟨fr, F, m, ah, s, er, q⟩
  refine ⟨fr, F, m, ah, s, er, ?_⟩
  rw [bind_def] at q
  cases hi' : mi ah with
  | stuck =>
    rw [hi'] at q
    exact q
  | exc x a =>
    rw [hi'] at q
    exact q
  | ok xs a =>
    rw [hi'] at q
    intro F1 m1 J H1 e1 s1 y L hL
    have q1 : TK X.K X.mg fr W (Rep X.K) σ F1 m1 (lcxM xs (fun x => do let p ← liftO (unp x); let t ← (pure true : M Bool); if t = true then (do let y ← me p; pure [y]) else pure []) a) Q := TK.ext e1 q
    have er1 := er.ext e1
    clear q e1 er s
    by_cases hl : lenOk xs.length = true
    case neg =>
      unfold lcxM at q1
      rw [if_neg hl] at q1
      exact q1.elim
    have hlen : xs.length ≤ sizeLine := of_decide_eq_true hl
    have fL : F1 L = none := s1.freeF hL
    have mL : L ∉ m1 := fun z => by
      obtain ⟨u, hu⟩ := s1.there L z
      rw [hL] at hu
      cases hu
    have hL0 := s1.fresh0 hL
    generalize hf : (fun x : D => do let p ← liftO (unp x); let t ← (pure true : M Bool); if t = true then (do let y ← me p; pure [y]) else pure [] : D → M (List D)) = f at q1
    have q2 : TK X.K X.mg fr W (Rep X.K) σ F1 m1 ((compM xs f >>= fun ys => pure (D.lst ([] ++ ys))) a) Q := by
      have z := q1
      unfold lcxM at z
      rw [if_pos hl] at z
      exact z
    refine ⟨fun i n H => n = xs.length - i ∧ i ≤ xs.length ∧ ∃ F2 m2 ah2 acc vs, Ext F1 m1 F2 m2 ∧ Sim X.K X.mg fr F2 m2 ah2 H ∧ H L = some (.lst vs) ∧ F2 L = none ∧ L ∉ m2 ∧ RepL X.K F2 m2 acc vs ∧ acc.length ≤ i ∧
      TK X.K X.mg fr W (Rep X.K) σ F2 m2 (((compM (xs.drop i) f >>= fun ys => pure (D.lst (acc ++ ys))) ah2)) Q,
      ⟨_, rfl, Nat.zero_le _, F1, m1, a, [], [], Ext.refl, s1.other fL mL hL0, upd_same, fL, mL, RepL.nil, Nat.zero_le _, by rw [List.drop_zero]; exact q2⟩, ?_⟩
    rintro i n H2 ⟨rfl, hi2, F2, m2, ah2, acc, vs, e2, s2, hL2, fL2, mL2, ra, la, k2⟩
    by_cases hlt : i < xs.length
    · refine .inr ⟨y.go i fr F2 m2 ah2 H2 e2 s2 hlt, fun H => ∃ F2 m2 ah2 acc vs, Ext F1 m1 F2 m2 ∧ Sim X.K X.mg fr F2 m2 ah2 H ∧ H L = some (.lst vs) ∧ F2 L = none ∧ L ∉ m2 ∧ RepL X.K F2 m2 acc vs ∧ acc.length ≤ i + 1 ∧
        TK X.K X.mg fr W (Rep X.K) σ F2 m2 (((compM (xs.drop (i + 1)) f >>= fun ys => pure (D.lst (acc ++ ys))) ah2)) Q, fun H' z => ⟨xs.length - (i + 1), by omega, rfl, hlt, z⟩, fun v H3 yy => ?_⟩
      obtain ⟨F3, d, hd, e3, s3', r3⟩ := y.yld i _ F2 m2 ah2 H2 v H3 e2 s2.re hlt yy
      obtain ⟨hL3, fL3, mL3⟩ := s3'.kept hL2 fL2 mL2
      have s3 := s2.back s3'
      have er3 := ((er1.ext e2).ext e3)
      have hdrop : xs.drop i = d :: xs.drop (i + 1) := by
        rw [List.drop_eq_getElem_cons hlt]
        rw [List.getElem?_eq_getElem hlt] at hd
        cases hd
        rfl
      have k3 : TK X.K X.mg fr W (Rep X.K) σ F3 m2 ((((liftO (unp d) >>= fun p => (pure true : M Bool) >>= fun t => (if t = true then (me p >>= fun y => pure [y]) else pure [])) >>= fun ys => compM (xs.drop (i + 1)) f >>= fun zs => pure (D.lst (acc ++ (ys ++ zs)))) ah2)) Q := by
        have z := TK.ext e3 k2
        rw [hdrop] at z
        have z2 : (compM (d :: xs.drop (i + 1)) f >>= fun ys => pure (D.lst (acc ++ ys))) = (f d >>= fun ys => compM (xs.drop (i + 1)) f >>= fun zs => pure (D.lst (acc ++ (ys ++ zs)))) := by
          show ((f d >>= fun ys => compM (xs.drop (i + 1)) f >>= fun zs => pure (ys ++ zs)) >>= fun ys => pure (D.lst (acc ++ ys))) = _
          rw [bind_assoc]
          congr 1
          funext ys
          rw [bind_assoc]
          rfl
        rw [z2, ← hf] at z
        rw [← hf]
        exact z
      cases hu : unp d with
      | none =>
        rw [hu] at k3
        exact k3.elim
      | some p =>
        rw [hu] at k3
        have k4 : TK X.K X.mg fr W (Rep X.K) σ F3 m2 ((((pure true : M Bool) >>= fun t => ((if t = true then (me p >>= fun y => pure [y]) else pure []) >>= fun ys => compM (xs.drop (i + 1)) f >>= fun zs => pure (D.lst (acc ++ (ys ++ zs))))) ah2)) Q := by
          rw [← bind_assoc]
          exact k3
        refine ⟨fr, F3, m2, ah2, wipeE env (own.map (·.2)), d, p, s3, er3.wipe _, r3, hu, fun σ4 er4 hw => ⟨?_, p, ?_⟩⟩
        · have z := hw (own.map (·.2)) hsl
          rw [z]
          clear z hw er4 σ4
          have ww : ∀ (vs ws : List Nat) (σ : St), (∀ i ∈ vs, i ∈ ws) → wipe (wipe σ vs) ws = wipe σ ws := by
            intro vs
            induction vs with
            | nil => intro _ _ _; rfl
            | cons v vs ih =>
              intro ws σ h
              show wipe ((wipe σ vs).set v none) ws = _
              rw [wipe_set (h v List.mem_cons_self), ih ws σ fun i hi => h i (List.mem_cons_of_mem _ hi)]
          exact ww _ _ _ fun i hi => hi
        · refine ⟨⟨H3, F3, m2⟩, F3, m2, ah2, s3.re, er4, ?_⟩
          intro F5 m5 t H5 e5 s5' r5
          have r5 : true = t := r5
          subst r5
          have er5 := er4.ext e5
          obtain ⟨hL5, fL5, mL5⟩ := s5'.kept hL3 fL3 mL3
          have s5 := s3.back s5'
          have k5 := TK.ext e5 k4
          refine iteT ⟨p, ?_⟩
          have k6 : TK X.K X.mg fr W (Rep X.K) σ F5 m5 (((me p >>= fun y => compM (xs.drop (i + 1)) f >>= fun zs => pure (D.lst (acc ++ ([y] ++ zs)))) ah2)) Q := by
            have z : ((me p >>= fun y => pure [y]) >>= fun ys => compM (xs.drop (i + 1)) f >>= fun zs => pure (D.lst (acc ++ (ys ++ zs)))) = (me p >>= fun y => compM (xs.drop (i + 1)) f >>= fun zs => pure (D.lst (acc ++ ([y] ++ zs)))) := by
              rw [bind_assoc]
              rfl
            rw [← z]
            exact k5
          refine TK.innerX s5 er5 k6 fun F7 m7 ah7 y7 v7 H7 e7 s7' er7 r7 k7 => ?_
          obtain ⟨hL7, fL7, mL7⟩ := s7'.kept hL5 fL5 mL5
          have s7 := s5.back s7'
          refine ⟨vs, hL7, ?_, F7, m7, ah7, acc ++ [y7], vs ++ [v7], ((e2.trans e3).trans e5).trans e7, s7.other fL7 mL7 hL0, upd_same, fL7, mL7, RepL.append (RepL.ext ((e3.trans e5).trans e7) _ _ ra) (RepL.cons r7 RepL.nil), by rw [List.length_append, List.length_singleton]; omega, ?_⟩
          · rw [RepL.length ra]
            omega
          · have z : (fun zs => (pure (D.lst (acc ++ ([y7] ++ zs))) : M D)) = fun zs => pure (D.lst ((acc ++ [y7]) ++ zs)) := by
              funext zs
              rw [List.append_assoc]
            rw [z] at k7
            exact k7
    · have ei : i = xs.length := by omega
      subst ei
      refine .inl ⟨y.stop fr F2 m2 ah2 H2 e2 s2, ?_⟩
      rw [List.drop_length] at k2
      have k3 : TK X.K X.mg fr W (Rep X.K) σ F2 m2 (.ok (.lst acc) ah2) Q := by
        have z : (compM [] f >>= fun ys => (pure (D.lst (acc ++ ys)) : M D)) = pure (D.lst acc) := by
          show (pure (D.lst (acc ++ [])) : M D) = _
          rw [List.append_nil]
        rw [z] at k2
        exact k2
      obtain ⟨s3, e3⟩ := s2.seal fL2 mL2 hL0 hL2
      refine k3 _ _ _ _ e3 s3 ?_
      unfold Rep
      exact ⟨L, vs, rfl, .inl (.inl upd_same), RepL.ext e3 _ _ ra⟩
theorem de_lcx {elt tg iter : Expr} {scope : Scope} {own : List (Str × Nat)} {π : Type} {sl : List Nat} {mi : M (List D)} {unp : D → Option π} {sets : π → Env → Env} {me : π → M D}
    (hc : X.calm = true) (hN : X.N.Nodup) (hs0 : X.stack = X.env :: X.outer) (hf0 : X.env.frame = some X.env.locals) (tk : L2N.Takes X W) (hi : DI X W env tg iter mi) (ok : BlkOk X.N X.env.scope scope own) (hsl : ∀ i ∈ sl, i ∈ own.map (·.2))
    (hg : ∀ (s : Shared) (H : Hp) (C : Addr) (cl : List (Str × Addr)) (fp : List Addr), DG (X.blk s H scope (compEnvC scope cl C X.env) fp) tg sl unp sets)
    (he : ∀ (s : Shared) (H : Hp) (C : Addr) (cl : List (Str × Addr)) (fp : List Addr) (pn : List (Addr × Obj)) (W : WX) (xe : Value → Shared → Prop) (tk : L2N.Takes ((X.blk s H scope (compEnvC scope cl C X.env) fp).tr pn xe) W) (p : π), DE ((X.blk s H scope (compEnvC scope cl C X.env) fp).tr pn xe) W (sets p (wipeE env (own.map (·.2)))) elt (me p))
    (hs : ∀ x, foldedSetIterable iter X.env x = pure x := by intro _; rfl) :
    DE X W env (.ListComp elt [⟨tg, iter, [], 0⟩] scope pos) (do let xs ← mi; lcxM xs (fun x => do let p ← liftO (unp x); let t ← (pure true : M Bool); if t = true then (do let y ← me p; pure [y]) else pure [])) :=
  PE.from (CwC.pe_lcx (g := gD X.K X.mg sl unp sets) (te := fun W σ H Q => ∃ p, TC X.K X.mg W (Rep X.K) (sets p (wipeE env (own.map (·.2)))) (me p) σ H Q) hc hN hs0 hf0 tk hi ok hg (fun s H C cl fp => (⟨fun pins s' σ H' Q I ⟨p, q⟩ => (dts_nil (X := X.blk s H scope (compEnvC scope cl C X.env) fp)).run pins s' σ H' Q I q⟩ : PTs _ [] (fun σ H Q => ∃ p, TC X.K X.mg W0 RB (sets p (wipeE env (own.map (·.2)))) (pure true) σ H Q)))
    (fun s H C cl fp pn W xe tk => (⟨fun pins s' σ H' Q I ⟨p, q⟩ => (he s H C cl fp pn W xe tk p).run pins s' σ H' Q I q⟩ : PE _ elt (fun σ H Q => ∃ p, TC X.K X.mg W (Rep X.K) (sets p (wipeE env (own.map (·.2)))) (me p) σ H Q))) hs) (fun σ H Q q => lcx_from hsl σ H Q q)
end
end Lw
/-! SimZe: d.get(k, x). -/
namespace Lw
open PySem L2
def dget2M (d k x : D) : M D := fun h => match dkOf h d, keyD k with
  | some kvs, some k => .ok ((valD kvs k).getD x) h
  | _, _ => .stuck
section
variable {X : Cx} {W : WX} {env : Env} {pos apos : Pos}
theorem de_dget2 {o i f : Expr} {mo mi mf : M D} (hu : X.A.units + 64 < cLine) (ho : DE X W env o mo) (hi : DE X W env i mi) (hf : DE X W env f mf) (hm : M2 X o "get" apos i f pos := by exact ⟨rfl, rfl, rfl, rfl⟩) : DE X W env (.Call (.Attribute o "get" apos) [i, f] [] pos) (do let x ← mo; let _ ← dchk x; let y ← mi; let z ← mf; dget2M x y z) :=
  PE.from (pe_dget2 (by omega) ho hi hf hm) fun σ H Q ⟨fr, F, m, ah, s, er, q⟩ => TK.step s er q fun F1 m1 ah1 d v H1 e1 s1 er1 r1 k0 => by
    rw [bind_def] at k0
    unfold dchk at k0
    cases hd0 : dkOf ah1 d with
    | none =>
      simp only [hd0] at k0
      exact k0.elim
    | some kv0 =>
      simp only [hd0] at k0
      obtain ⟨a, n, vs, rfl, rfl, g1, g4, g5⟩ := dk_of s1 r1 hd0
      refine ⟨a, rfl, .inl ⟨vs, g4⟩, TK.step s1 er1 k0 fun F2 m2 ah2 d2 v2 H2 e2 s2 er2 r2 k2 => TK.step s2 er2 k2 fun F3 m3 ah3 d3 v3 H3 e3 s3 er3 r3 k3 => ?_⟩
      have r1 := Rep.ext (e2.trans e3) _ _ r1
      have r2 := Rep.ext e3 _ _ r2
      unfold dget2M at k3
      cases hd : dkOf ah3 (.ref n) with
      | none =>
        simp only [hd] at k3
        exact k3.elim
      | some kvs =>
        cases hk : keyD d2 with
        | none =>
          simp only [hd, hk] at k3
          exact k3.elim
        | some k =>
          simp only [hd, hk] at k3
          obtain ⟨a', n', vs', e4, _, h1, h4, h5⟩ := dk_of s3 r1 hd
          cases e4
          obtain ⟨i1, i2⟩ := h5.val (k := k)
          refine ⟨valV vs' k, by rw [key_rep r2 hk]; exact dget_rd h4, ?_⟩
          cases hv : valD kvs k with
          | none =>
            rw [hv] at k3
            rw [i2 hv]
            exact TK.val k3 s3 r3
          | some w =>
            rw [hv] at k3
            obtain ⟨u, h6, h7⟩ := i1 w hv
            rw [h6]
            exact TK.val k3 s3 h7
end
end Lw
/-! SimZg: min of a tuple of numbers; x.split(y) as a list that will be written; xs.pop(i). -/
namespace Lw
open PySem PySem.Spec PyProof.Rows L2
section
variable {X : Cx} {W : WX} {env : Env} {p pos apos : Pos}
def rMinT (K : PySem.W.Frag) : List V → Hp → VK → Prop := fun vs H Q => ∃ (a : Addr) (ns : List Int), vs = [V.ref a] ∧ SqT K H a (ns.map V.int) ∧ 0 < ns.length ∧ ∀ m, m ∈ ns → (∀ y, y ∈ ns → m ≤ y) → Q (.int m) H
theorem call_minT (hc : X.calm = true) : CallR X (.builtin "min") (rMinT X.K) := by
  intro pins s σ H vs us Q I r h
  obtain ⟨a, ns, rfl, hs, hne, q⟩ := h
  obtain ⟨its, rv, hl, _⟩ := I.tuple hs
  rw [Vals.ref1 r]
  have ii : IntsAre its ns := rv.ints
  obtain ⟨xs, e⟩ := ii.allInts.items
  have hn : numsOf (intItems xs).toList = ns := by rw [← e]; exact ii.numsOf
  rw [nums_intItems] at hn
  subst hn
  have hl : s.heap.IsTuple a its.toArray := hl
  rw [e] at hl
  have hsz : 0 < xs.size := by simpa using hne
  refine call_min_walk ?_
  refine wpAny_pyIter_tuple hl ?_
  have ha : a < s.heap.objs.size := by
    obtain ⟨o, ho, _⟩ := hl
    exact Heap.lt_size ho
  refine ⟨s.heap.objs.size, [s.heap.objs.size, a], [s.heap.objs.size], _, _, _, _, rfl, Walks.tuple (A := X.A.in1) (show X.A.in1.handled = none from I.ok.hd hc) _ a (Nat.ne_of_lt ha) (intItems xs), ⟨⟨_, Heap.get?_push_size _ rfl, rfl, rfl⟩, hl.push _⟩, fun b hb => ?_, by simpa [intItems] using hsz, CmpOf.ints_lt (numAt xs) (fun _ _ => intItems_at), fun v h' tk hv' hk => ?_⟩
  · show b < (s.heap.push _).objs.size
    rw [size_push']
    rcases List.mem_cons.mp hb with z | z
    · rw [z]
      exact Nat.lt_succ_self _
    · rw [List.mem_singleton.mp z]
      exact Nat.lt_succ_of_lt ha
  · obtain ⟨t, rfl⟩ := intItems_at hv'
    have sz : (intItems xs).size = xs.size := by simp [intItems]
    rw [sz]
    obtain ⟨h1, h2⟩ := argBest_lt (numAt xs) (xs.size - 1)
    have hk2 : ∀ b o, s.heap.get? b = some o → h'.get? b = some o := fun b o e => hk b o (fun z => by rw [List.mem_singleton.mp z] at e; exact absurd (Heap.lt_size e) (Nat.lt_irrefl _)) (Heap.get?_push_of_some _ e)
    refine ⟨.int _, H, I.kept (t' := tk) hk2, ⟨t, rfl⟩, q _ ?_ fun y hy => ?_⟩
    · rw [numAt_eq]; exact PySem.getD_mem (by rw [List.length_map, Array.length_toList]; omega)
    · obtain ⟨j, hj, rfl⟩ := mem_getD hy
      rw [List.length_map, Array.length_toList] at hj
      rw [← numAt_eq]; exact h2 j (by omega)
def minI : Int → List Int → Int
  | k, [] => k
  | k, x :: r => minI (min k x) r
theorem minI_le : ∀ (r : List Int) (k : Int), minI k r ≤ k ∧ (∀ x ∈ r, minI k r ≤ x) ∧ minI k r ∈ k :: r
  | [], k => ⟨Int.le_refl _, (by intro x h; cases h), List.mem_cons_self⟩
  | x :: r, k => by
    obtain ⟨h1, h2, h3⟩ := minI_le r (min k x)
    refine ⟨by show minI (min k x) r ≤ k; omega, fun y hy => ?_, ?_⟩
    · rcases List.mem_cons.mp hy with rfl | hy
      · show minI (min k y) r ≤ y
        omega
      · exact h2 y hy
    · show minI (min k x) r ∈ k :: x :: r
      rcases List.mem_cons.mp h3 with e | e
      · rw [e]
        by_cases c : k ≤ x
        · rw [Int.min_eq_left c]
          exact List.mem_cons_self
        · rw [Int.min_eq_right (by omega)]
          exact List.mem_cons_of_mem _ List.mem_cons_self
      · exact List.mem_cons_of_mem _ (List.mem_cons_of_mem _ e)
theorem rep_ints {K : Fg} {F : Hp} {m : List Addr} : ∀ {is : List Int} {vs : List V}, RepL K F m (is.map D.int) vs → vs = is.map V.int
  | [], vs, r => by
    unfold RepL at r
    exact r
  | i :: t, vs, r => by
    unfold RepL at r
    obtain ⟨v, u, rfl, r1, r2⟩ := r
    rw [rep_ints (is := t) r2]
    unfold Rep at r1
    rw [r1]
    rfl
def minTM (d : D) : M D := fun h => match d with
  | .tup xs => (match intsOf xs with
    | some (k :: r) => .ok (.int (minI k r)) h
    | _ => .stuck)
  | _ => .stuck
theorem minT_ok : ClD X (rMinT X.K) (ap1 minTM) := ap1_ok fun fr W σ F m ah H d v Q s r k => by
  unfold minTM at k
  cases d <;> try exact k.elim
  rename_i xs
  dsimp only at k
  cases hk : intsOf xs with
  | none =>
    rw [hk] at k
    exact k.elim
  | some ks =>
    rw [hk] at k
    cases ks with
    | nil => exact k.elim
    | cons k0 r0 =>
      dsimp only at k
      obtain ⟨a, vs, h1, h2, h3⟩ := tup_of (xs := xs) r rfl
      subst h1
      rw [intsOf_eq hk] at h3
      rw [rep_ints h3] at h2
      refine ⟨a, k0 :: r0, rfl, SqT.up s.sub h2, by simp, fun m' hm hy => ?_⟩
      obtain ⟨g1, g2, g3⟩ := minI_le r0 k0
      have e : m' = minI k0 r0 := by
        have a1 := hy _ g3
        rcases List.mem_cons.mp hm with e | e
        · omega
        · have := g2 _ e
          omega
      subst e
      exact TK.val k s Rep.int
theorem de_minT {e : Expr} {me : M D} {p : Pos} (hc : X.calm = true) (hm : X.mg "min" = none) (ha : DE X W env e me) (hg : Gl X "min" := by rfl) (he : starEach [e] X.env = [(false, eval e X.env)] := by rfl) (hpl : (backTo pos (starEach [] X.env)).any (·.1) = false := by rfl) :
    DE X W env (.Call (.Name "min" p) [e] [] pos) (do let x ← me; minTM x) := by
  have h := de_callB (pos := pos) (p := p) (call_minT hc) (minT_ok (X := X)) hm (by decide +kernel) (da_one ha he) hg (by decide) (by decide) he hpl
  rw [bind_assoc] at h
  exact h
/-! ### split, to be written -/
def splitHM (x y : D) : M D := fun h => match x, y with
  | .str a, .str b => if (lenOk (a.length + 2) && !(b.length == 0)) = true then newM (.lst ((Txt.split a b).map D.str)) h else .stuck
  | _, _ => .stuck
theorem de_splitH {o e : Expr} {mo me : M D} (ho : DE X W env o mo) (he : DE X W env e me) (hbase : attributeBase o "split" X.env (eval o X.env) = eval o X.env := by rfl)
    (hline : (apos.endLine == pos.line) = true := by rfl) (hs : starEach [e] X.env = [(false, eval e X.env)] := by rfl) :
    DE X W env (.Call (.Attribute o "split" apos) [e] [] pos) (do let x ← mo; let _ ← schk x; let y ← me; splitHM x y) :=
  de_sm1 PySem.F.slot_str_split PySem.F.type_str_split mt_split (fun fr W σ F m ah H d e v w Q S r1 r2 k => by
    unfold splitHM at k
    cases d <;> try exact k.elim
    cases e <;> try exact k.elim
    rename_i a b
    unfold Rep at r1 r2
    subst r1 r2
    by_cases hc : (lenOk (a.length + 2) && !(b.length == 0)) = true
    · simp only [hc, if_true] at k
      rw [Bool.and_eq_true] at hc
      exact ⟨a, b, rfl, rfl, by simpa using hc.2, of_decide_eq_true hc.1, fun p hp => TK.newH k S (rep_strs _) hp⟩
    · simp only [hc] at k
      exact k.elim) ho he hbase hline hs
/-! ### pop at a place -/
theorem RepL.erase {K : Fg} {F : Hp} {m : List Addr} : ∀ {ds : List D} {vs : List V} (k : Nat), RepL K F m ds vs → RepL K F m (ds.eraseIdx k) (vs.eraseIdx k)
  | [], vs, k, r => by
    unfold RepL at r
    rw [r]
    exact RepL.nil
  | d :: ds, vs, k, r => by
    unfold RepL at r
    obtain ⟨v, u, rfl, r1, r2⟩ := r
    cases k with
    | zero => exact r2
    | succ k => exact RepL.cons r1 (RepL.erase k r2)
def popLM (x y : D) : M D := match y with
  | .int i => if 0 ≤ i ∧ i < 2 ^ 62 then onLst x fun xs => match xs[i.toNat]? with
    | some d => some (d, xs.eraseIdx i.toNat)
    | none => none
    else stuck
  | _ => stuck
theorem de_popL {o e : Expr} {mo me : M D} {apos : Pos} (ho : DE X W env o mo) (he : DE X W env e me) (hbase : attributeBase o "pop" X.env (eval o X.env) = eval o X.env := by rfl)
    (hfew : ((backTo pos (starEach [e] X.env)).all (fun x => !x.1) && (backToKw pos (keywordEach [] X.env)).all (fun x => x.1.isSome)
      && decide ([e].length + ([] : List Keyword).length + (if ([] : List Keyword).isEmpty then 0 else 1) < 30)) = true := by rfl)
    (hline : (apos.endLine == pos.line) = true := by rfl) (hs : starEach [e] X.env = (false, eval e X.env) :: starEach [] X.env := by rfl) (hplain : (backTo pos (starEach [] X.env)).any (·.1) = false := by rfl) :
    DE X W env (.Call (.Attribute o "pop" apos) [e] [] pos) (do let x ← mo; lchk x; let y ← me; popLM x y) :=
  de_lm1 PySem.F.slot_list_pop PySem.F.type_list_pop mt_popAt (fun fr W σ F m ah H d e v w Q S r r2 k => by
    unfold popLM at k
    cases e <;> try exact k.elim
    rename_i i
    by_cases hi : 0 ≤ i ∧ i < 2 ^ 62
    · dsimp only at k
      rw [if_pos hi] at k
      obtain ⟨a, xs, vs, z, ys, h1, h2, h3, h4, h5⟩ := onLst_of S r k
      cases hx : xs[i.toNat]? with
      | none =>
        rw [hx] at h4
        cases h4
      | some d0 =>
        rw [hx] at h4
        cases h4
        unfold Rep at r2
        subst r2
        obtain ⟨y, hy, ry⟩ := RepL.get h3 hx
        have lt : i.toNat < xs.length := (List.getElem?_eq_some_iff.mp hx).1
        refine ⟨a, vs, i, i.toNat, y, h1, rfl, h2, by omega, by omega, ?_, hy, h5 _ (RepL.erase _ h3) _ ry⟩
        rw [RepL.length h3]
        unfold seqIndex?
        have h0 : ¬ i < 0 := by omega
        have h5 : (decide (0 ≤ i) && decide (i < (xs.length : Int))) = true := by
          rw [Bool.and_eq_true, decide_eq_true_eq, decide_eq_true_eq]
          omega
        simp only [h0, if_false, h5, if_true]
    · dsimp only at k
      rw [if_neg hi] at k
      exact k.elim) ho he hbase hfew hline hs hplain
/-! ### a text, some times -/
def repS (z : Str) (k : Int) : Str := ⟨(List.replicate k.toNat z.cps).foldl (· ++ ·) #[]⟩
theorem fold_rep {α : Type} (a : Array α) : ∀ (n : Nat) (b : Array α), ((List.replicate n a).foldl (· ++ ·) b).size = b.size + a.size * n
  | 0, b => by simp
  | n + 1, b => by
    rw [List.replicate_succ, List.foldl_cons, fold_rep a n, Array.size_append, Nat.mul_succ]
    omega
theorem repS_len (z : Str) (k : Int) : (repS z k).cps.size = z.length * k.toNat := by
  unfold repS
  rw [fold_rep]
  show 0 + z.cps.size * k.toNat = z.cps.size * k.toNat
  omega
theorem op_mulS : OpR X (binaryOp .Mult) (fun x y H Q => ∃ z k, x = .str z ∧ y = .int k ∧ 2 ≤ k ∧ k ≤ 1000 ∧ 1 ≤ z.length ∧ z.length ≤ 1000 ∧ Q (.str (repS z k)) H) := by
  intro pins s σ H x y v u Q I rx ry h
  obtain ⟨z, k, rfl, rfl, k2, kl, z1, zl, q⟩ := h
  obtain ⟨t, rfl⟩ := rx
  obtain ⟨t', rfl⟩ := ry
  have c1 : ¬ k < 1 := by omega
  have c2 : (k == 1 || z.length == 0) = false := by
    rw [Bool.or_eq_false_iff]
    exact ⟨by rw [beq_eq_false_iff_ne]; omega, by rw [beq_eq_false_iff_ne]; omega⟩
  refine P.mul_str (by rw [Bool.or_eq_false_iff]; exact ⟨decide_eq_false (by omega), decide_eq_false (by omega)⟩) (fun _ _ => ?_) (fun _ _ => ?_) ?_
  · have e : (1000 : Int) ≤ (2 ^ 63 - 1) / k := Int.le_ediv_of_mul_le (by omega) (by omega)
    omega
  · unfold Builtin.Str.tooLong
    have : z.length * k.toNat ≤ 1000 * 1000 := Nat.mul_le_mul zl (by omega)
    rw [sizeLine_eq]
    exact decide_eq_false (by omega)
  · rw [if_neg c1, c2, if_neg Bool.false_ne_true]
    refine ⟨?_, ⟨.str (repS z k), H, I.tok _, ⟨_, rfl⟩, q⟩⟩
    have : z.length * k.toNat ≤ 1000 * 1000 := Nat.mul_le_mul zl (by omega)
    have e := repS_len z k
    rw [sizeLine_eq]
    show (repS z k).cps.size ≤ _
    omega
def mulSM (x y : D) : M D := fun h => match x, y with
  | .str z, .int k => if 2 ≤ k ∧ k ≤ 1000 ∧ 1 ≤ z.length ∧ z.length ≤ 1000 then .ok (.str (repS z k)) h else .stuck
  | _, _ => .stuck
theorem mulS_ok : OpD X (fun x y H Q => ∃ z k, x = .str z ∧ y = .int k ∧ 2 ≤ k ∧ k ≤ 1000 ∧ 1 ≤ z.length ∧ z.length ≤ 1000 ∧ Q (.str (repS z k)) H) mulSM := by
  intro fr W σ F m ah H d e x y Q S rx ry k
  unfold mulSM at k
  cases d <;> try exact k.elim
  cases e <;> try exact k.elim
  rename_i z i
  unfold Rep at rx ry
  subst rx ry
  dsimp only at k
  by_cases c : 2 ≤ i ∧ i ≤ 1000 ∧ 1 ≤ z.length ∧ z.length ≤ 1000
  · rw [if_pos c] at k
    exact ⟨z, i, rfl, rfl, c.1, c.2.1, c.2.2.1, c.2.2.2, TK.val k S Rep.str⟩
  · rw [if_neg c] at k
    exact k.elim
theorem de_mulS {a b : Expr} {ma mb : M D} (ha : DE X W env a ma) (hb : DE X W env b mb) : DE X W env (.BinOp a .Mult b pos) (do let x ← ma; let y ← mb; mulSM x y) := de_op op_mulS mulS_ok ha hb
theorem dt_inD {a b : Expr} {ma mb : M D} (hu : X.A.units + 66 < cLine) (ha : DE X W env a ma) (hb : DE X W env b mb) (hm : behindInMarks .In b = false := by rfl) :
    DT X W env (.Compare a [.In] [b] pos) (do let v ← (do let x ← ma; let y ← mb; inDM false x y); asB v) := dt_cmp (op_inD (by omega)) inD_ok ha hb hm
end
end Lw
/-! SetQ: what a plain computation ends in, wished for: Wp. -/
namespace Lw
open PySem L2
def Wp {α : Type} (r : Res α) (P : α → AH → Prop) (E : Str → AH → Prop) : Prop := match r with
  | .ok a h => P a h
  | .exc x h => E x h
  | .stuck => False
/-- no error -/
abbrev NoE : Str → AH → Prop := fun _ _ => False
section
variable {α β γ τ τ' : Type} {h : AH} {P : α → AH → Prop} {Q : β → AH → Prop} {E : Str → AH → Prop}
theorem Wp.mono {r : Res α} {P' : α → AH → Prop} {E' : Str → AH → Prop} (w : Wp r P E) (hp : ∀ a h, P a h → P' a h) (he : ∀ x h, E x h → E' x h) : Wp r P' E' := by
  cases r with
  | ok a h => exact hp a h w
  | exc x h => exact he x h w
  | stuck => exact w
theorem Wp.imp {r : Res α} {P' : α → AH → Prop} (w : Wp r P E) (hp : ∀ a h, P a h → P' a h) : Wp r P' E := w.mono hp fun _ _ z => z
theorem Wp.get {r : Res α} (w : Wp r P NoE) : ∃ a h, r = .ok a h ∧ P a h := by
  cases r with
  | ok a h => exact ⟨a, h, rfl, w⟩
  | exc x h => exact w.elim
  | stuck => exact w.elim
theorem Wp.of_eq {r : Res α} {a : α} {h' : AH} (e : r = .ok a h') (p : P a h') : Wp r P E := by
  rw [e]
  exact p
theorem w_ok {a : α} : Wp (.ok a h) P E ↔ P a h := Iff.rfl
theorem w_bind {x : M β} {f : β → M α} : Wp ((x >>= f) h) P E ↔ Wp (x h) (fun a h' => Wp (f a h') P E) E := by
  rw [bind_def]
  cases x h <;> exact Iff.rfl
theorem w_pure {a : α} : Wp ((pure a : M α) h) P E ↔ P a h := Iff.rfl
theorem w_throw {x : Str} : Wp ((throwM x : M α) h) P E ↔ E x h := Iff.rfl
theorem w_ite {c : Bool} {a b : M α} : Wp ((if c = true then a else b) h) P E ↔ if c = true then Wp (a h) P E else Wp (b h) P E := by
  cases c <;> exact Iff.rfl
theorem w_iteP {c : Prop} [Decidable c] {a b : M α} : Wp ((if c then a else b) h) P E ↔ if c then Wp (a h) P E else Wp (b h) P E := by
  by_cases q : c
  · rw [if_pos q, if_pos q]
  · rw [if_neg q, if_neg q]
def oK (k : τ' → M (Out τ β)) (P : Out τ β → AH → Prop) (E : Str → AH → Prop) : Out τ' β → AH → Prop := fun o h => match o with
  | .nx t => Wp (k t h) P E
  | .ret d => P (.ret d) h
  | .bk b => P (.bk b) h
  | .ct b => P (.ct b) h
section
variable {k : τ' → M (Out τ β)} {O : Out τ β → AH → Prop}
theorem w_obind {x : M (Out τ' β)} : Wp (obind x k h) O E ↔ Wp (x h) (oK k O E) E := by
  show Wp (ores k (x h)) O E ↔ _
  cases x h with
  | ok o h' => cases o <;> exact Iff.rfl
  | exc _ _ => exact Iff.rfl
  | stuck => exact Iff.rfl
theorem oK_nx {t : τ'} : oK k O E (.nx t) h ↔ Wp (k t h) O E := Iff.rfl
theorem oK_ret {d : D} : oK k O E (.ret d) h ↔ O (.ret d) h := Iff.rfl
theorem oK_bk {d : β} : oK k O E (.bk d) h ↔ O (.bk d) h := Iff.rfl
theorem oK_ct {d : β} : oK k O E (.ct d) h ↔ O (.ct d) h := Iff.rfl
end
def dK (P : D → AH → Prop) : Out τ β → AH → Prop := fun o h => match o with
  | .nx _ => P .non h
  | .ret d => P d h
  | _ => False
section
variable {P : D → AH → Prop}
theorem w_def {x : M (Out τ β)} : Wp (defM x h) P E ↔ Wp (x h) (dK P) E := by
  show Wp (dres (x h)) P E ↔ _
  cases x h with
  | ok o h' => cases o <;> exact Iff.rfl
  | exc _ _ => exact Iff.rfl
  | stuck => exact Iff.rfl
theorem dK_nx {t : τ} : (dK P : Out τ β → AH → Prop) (.nx t) h ↔ P .non h := Iff.rfl
theorem dK_ret {d : D} : (dK P : Out τ β → AH → Prop) (.ret d) h ↔ P d h := Iff.rfl
end
def lK (k : τ → M (Out τ β)) (P : Out τ β → AH → Prop) (E : Str → AH → Prop) : Out τ τ → AH → Prop := fun o h => match o with
  | .nx t => Wp (k t h) P E
  | .ct t => Wp (k t h) P E
  | .bk t => P (.nx t) h
  | .ret d => P (.ret d) h
section
variable {k : τ → M (Out τ β)} {O : Out τ β → AH → Prop}
theorem w_lbind {x : M (Out τ τ)} : Wp (lbind x k h) O E ↔ Wp (x h) (lK k O E) E := by
  show Wp (lres k (x h)) O E ↔ _
  cases x h with
  | ok o h' => cases o <;> exact Iff.rfl
  | exc _ _ => exact Iff.rfl
  | stuck => exact Iff.rfl
theorem lK_nx {t : τ} : lK k O E (.nx t) h ↔ Wp (k t h) O E := Iff.rfl
theorem lK_ct {t : τ} : lK k O E (.ct t) h ↔ Wp (k t h) O E := Iff.rfl
theorem lK_bk {t : τ} : lK k O E (.bk t) h ↔ O (.nx t) h := Iff.rfl
theorem lK_ret {d : D} : lK k O E (.ret d) h ↔ O (.ret d) h := Iff.rfl
theorem w_for0 {t : τ} {f : D → τ → M (Out τ τ)} : Wp ((forM [] t f : M (Out τ β)) h) O E ↔ O (.nx t) h := Iff.rfl
theorem w_for1 {x : D} {r : List D} {t : τ} {f : D → τ → M (Out τ τ)} : Wp ((forM (x :: r) t f : M (Out τ β)) h) O E ↔ Wp (f x t h) (lK (fun t' => forM r t' f) O E) E := w_lbind
/-- what a loop's turn ends in -/
def tK (N : τ → AH → Prop) (O : Out τ β → AH → Prop) : Out τ τ → AH → Prop := fun o h => match o with
  | .nx t => N t h
  | .ct t => N t h
  | .bk t => O (.nx t) h
  | .ret d => O (.ret d) h
theorem tK_nx {N : τ → AH → Prop} {t : τ} : tK N O (.nx t) h ↔ N t h := Iff.rfl
theorem tK_ct {N : τ → AH → Prop} {t : τ} : tK N O (.ct t) h ↔ N t h := Iff.rfl
theorem tK_bk {N : τ → AH → Prop} {t : τ} : tK N O (.bk t) h ↔ O (.nx t) h := Iff.rfl
theorem tK_ret {N : τ → AH → Prop} {d : D} : tK N O (.ret d) h ↔ O (.ret d) h := Iff.rfl
theorem lK_of {N : τ → AH → Prop} {o : Out τ τ} {h : AH} (q : tK N O o h) (n : ∀ t h, N t h → Wp (k t h) O E) : lK k O E o h := by
  cases o with
  | nx t => exact n t h q
  | ct t => exact n t h q
  | bk t => exact q
  | ret d => exact q
/-- a loop by what stays true: I k t h ahead of item k -/
theorem w_for_at {f : D → τ → M (Out τ τ)} (I : Nat → τ → AH → Prop) {xs : List D} (hs : ∀ (k : Nat) x t h, xs[k]? = some x → I k t h → Wp (f x t h) (tK (I (k + 1)) O) E) (he : ∀ t h, I xs.length t h → O (.nx t) h) :
    ∀ (r : List D) (n : Nat) (t : τ) (h : AH), xs.drop n = r → n ≤ xs.length → I n t h → Wp ((forM r t f : M (Out τ β)) h) O E
  | [], n, t, h, e, l, i => by
    have : n = xs.length := by
      have z := congrArg List.length e
      rw [List.length_drop, List.length_nil] at z
      omega
    subst this
    exact he t h i
  | x :: r, n, t, h, e, l, i => by
    have hx : xs[n]? = some x := by
      have z : (xs.drop n)[0]? = some x := by rw [e]; rfl
      rw [List.getElem?_drop] at z
      simpa using z
    have hl := (List.getElem?_eq_some_iff.mp hx).1
    refine w_for1.mpr ((hs n x t h hx i).imp fun o h' q => lK_of q fun t' h' q' => w_for_at I hs he r (n + 1) t' h' ?_ (by omega) q')
    rw [← List.drop_drop, e]
    rfl
theorem w_for {f : D → τ → M (Out τ τ)} (I : Nat → τ → AH → Prop) {xs : List D} {t : τ} (h0 : I 0 t h) (hs : ∀ (k : Nat) x t h, xs[k]? = some x → I k t h → Wp (f x t h) (tK (I (k + 1)) O) E) (he : ∀ t h, I xs.length t h → O (.nx t) h) :
    Wp ((forM xs t f : M (Out τ β)) h) O E := w_for_at I hs he xs 0 t h rfl (Nat.zero_le _) h0
end
theorem w_lift {a : α} : Wp ((liftO (some a) : M α) h) P E ↔ P a h := Iff.rfl
theorem w_noex {x : M α} : Wp (noexM x h) P E ↔ Wp (x h) P NoE := by
  show Wp (nores (x h)) P E ↔ _
  cases x h <;> exact Iff.rfl
def hK (c : Str → Option Bool) (hM : Str → M (Out τ β)) (O : Out τ β → AH → Prop) (E : Str → AH → Prop) : Str → AH → Prop := fun x h => match c x with
  | some true => Wp (hM x h) O NoE
  | some false => E x h
  | none => False
theorem hK_t {c : Str → Option Bool} {hM : Str → M (Out τ β)} {O : Out τ β → AH → Prop} {x : Str} (e : c x = some true) : hK c hM O E x h ↔ Wp (hM x h) O NoE := by
  unfold hK
  rw [e]
theorem w_try {c : Str → Option Bool} {mb : M (Out τ β)} {hM : Str → M (Out τ β)} {O : Out τ β → AH → Prop} : Wp (tryM c mb hM h) O E ↔ Wp (mb h) O (hK c hM O E) := by
  unfold tryM
  cases mb h with
  | ok o h' => exact Iff.rfl
  | stuck => exact Iff.rfl
  | exc x h' =>
    show Wp (match c x with | some true => noexM (hM x) h' | some false => .exc x h' | none => .stuck) O E ↔ hK c hM O E x h'
    unfold hK
    cases c x with
    | none => exact Iff.rfl
    | some b =>
      cases b with
      | true => exact w_noex
      | false => exact Iff.rfl
theorem w_pcall {P : D → AH → Prop} {g : List D → M D} {ds : List D} : Wp (pcallM g ds h) P E ↔ noRefs ds = true ∧ Wp (g ds []) (fun d _ => noRef d = true ∧ P d h) (fun x _ => E x h) := by
  unfold pcallM
  by_cases n : noRefs ds = true
  · simp only [n, if_true, true_and]
    cases g ds [] with
    | ok d h' =>
      by_cases m : noRef d = true
      · simp only [m, if_true]
        exact ⟨fun z => ⟨m, z⟩, fun z => z.2⟩
      · simp only [m]
        exact ⟨fun z => z.elim, fun z => absurd z.1 m⟩
    | exc x h' => exact Iff.rfl
    | stuck => exact Iff.rfl
  · simp only [n]
    exact ⟨fun z => z.elim, fun z => nomatch z.1⟩
/-! comprehensions -/
theorem w_comp {f : D → M (List D)} {P : List D → AH → Prop} (I : Nat → List D → AH → Prop) {xs : List D} (hs : ∀ (k : Nat) x acc h, xs[k]? = some x → I k acc h → Wp (f x h) (fun ys h' => I (k + 1) (acc ++ ys) h') E) :
    ∀ (r : List D) (n : Nat) (acc : List D) (h : AH), xs.drop n = r → n ≤ xs.length → I n acc h → (∀ ys h', I xs.length (acc ++ ys) h' → P ys h') → Wp (compM r f h) P E
  | [], n, acc, h, e, l, i, he => by
    have : n = xs.length := by
      have z := congrArg List.length e
      rw [List.length_drop, List.length_nil] at z
      omega
    subst this
    exact he [] h (by rw [List.append_nil]; exact i)
  | x :: r, n, acc, h, e, l, i, he => by
    have hx : xs[n]? = some x := by
      have z : (xs.drop n)[0]? = some x := by rw [e]; rfl
      rw [List.getElem?_drop] at z
      simpa using z
    have hl := (List.getElem?_eq_some_iff.mp hx).1
    show Wp ((f x >>= fun ys => compM r f >>= fun zs => pure (ys ++ zs)) h) P E
    rw [w_bind]
    refine (hs n x acc h hx i).imp fun ys h' q => ?_
    rw [w_bind]
    exact w_comp (P := fun zs h' => P (ys ++ zs) h') I hs r (n + 1) (acc ++ ys) h' (by rw [← List.drop_drop, e]; rfl) (by omega) q fun zs h2 z => he (ys ++ zs) h2 (by rw [← List.append_assoc]; exact z)
theorem w_lc {f : D → M (List D)} {P : D → AH → Prop} (I : Nat → List D → AH → Prop) {xs : List D} (l : xs.length ≤ 1000000) (h0 : I 0 [] h) (hs : ∀ (k : Nat) x acc h, xs[k]? = some x → I k acc h → Wp (f x h) (fun ys h' => I (k + 1) (acc ++ ys) h') NoE)
    (he : ∀ ys h', I xs.length ys h' → P (.lst ys) h') : Wp (lcM xs f h) P E := by
  unfold lcM
  rw [if_pos (show lenOk xs.length = true from decide_eq_true (Nat.le_trans l (by decide))), w_bind, w_noex]
  exact w_comp I hs xs 0 [] h rfl (Nat.zero_le _) h0 fun ys h' q => he ys h' q
/-- each item by itself, the heap stays -/
theorem w_lc_map {f : D → M (List D)} {P : D → AH → Prop} (g : D → List D) {xs : List D} (l : xs.length ≤ 1000000) (hs : ∀ x ∈ xs, f x h = .ok (g x) h) (he : P (.lst (xs.map g).flatten) h) : Wp (lcM xs f h) P E :=
  Wp.of_eq (lcM_run g l hs) he
/-! locked dicts -/
end
/-! ### operations -/
section
variable {h : AH} {E : Str → AH → Prop} {P : D → AH → Prop} {i j : Int} {n : Nat} {xs ys : List D} {x y z : D}
theorem w_add : Wp (addM (.int i) (.int j) h) P E ↔ P (.int (i + j)) h := Iff.rfl
theorem w_sub : Wp (subM (.int i) (.int j) h) P E ↔ P (.int (i - j)) h := Iff.rfl
theorem w_neg : Wp (negM (.int i) h) P E ↔ P (.int (-i)) h := Iff.rfl
theorem w_lt : Wp (ltM (.int i) (.int j) h) P E ↔ P (.bl (decide (i < j))) h := Iff.rfl
theorem w_le : Wp (leM (.int i) (.int j) h) P E ↔ P (.bl (decide (i ≤ j))) h := Iff.rfl
theorem w_gt : Wp (gtM (.int i) (.int j) h) P E ↔ P (.bl (decide (j < i))) h := Iff.rfl
theorem w_ge : Wp (geM (.int i) (.int j) h) P E ↔ P (.bl (decide (j ≤ i))) h := Iff.rfl
theorem w_max : Wp (maxM (.int i) (.int j) h) P E ↔ P (.int (max i j)) h := by rw [maxM_int] <;> exact Iff.rfl
theorem w_min : Wp (minM (.int i) (.int j) h) P E ↔ P (.int (min i j)) h := by rw [minM_int] <;> exact Iff.rfl
theorem w_eqi : Wp (eqM (.int i) (.int j) h) P E ↔ P (.bl (decide (i = j))) h := by rw [eqM_int] <;> exact Iff.rfl
theorem w_nei : Wp (neM (.int i) (.int j) h) P E ↔ P (.bl (decide (i ≠ j))) h := by rw [neM_int] <;> exact Iff.rfl
theorem w_eqs {a b : Str} : Wp (eqM (.str a) (.str b) h) P E ↔ P (.bl (decide (a = b))) h := Iff.rfl
theorem w_nes {a b : Str} : Wp (neM (.str a) (.str b) h) P E ↔ P (.bl (!decide (a = b))) h := Iff.rfl
theorem w_eqn (e : lstOf h x = some xs) : Wp (eqM x (.lst []) h) P E ↔ P (.bl xs.isEmpty) h := by rw [eqM_nil e] <;> exact Iff.rfl
theorem w_nen (e : lstOf h x = some xs) : Wp (neM x (.lst []) h) P E ↔ P (.bl (!xs.isEmpty)) h := by rw [neM_nil e] <;> exact Iff.rfl
theorem w_mul (c : i.natAbs.log2 + j.natAbs.log2 < 1000000) : Wp (mulM (.int i) (.int j) h) P E ↔ P (.int (i * j)) h := by rw [mulM_int c] <;> exact Iff.rfl
theorem w_fdiv (c : 0 < j) (c2 : j.natAbs.log2 < 9000) : Wp (fdivM (.int i) (.int j) h) P E ↔ P (.int (i / j)) h := by rw [fdivM_int c c2] <;> exact Iff.rfl
theorem w_mod (c : 0 < j) : Wp (modM (.int i) (.int j) h) P E ↔ P (.int (i % j)) h := by rw [modM_int c] <;> exact Iff.rfl
theorem w_pow (c : 0 ≤ j ∧ j ≤ 1000000 ∧ i.natAbs < 2 ^ 64) : Wp (powM (.int i) (.int j) h) P E ↔ P (.int (i ^ j.toNat)) h := by rw [powM_int c] <;> exact Iff.rfl
theorem w_asB {b : Bool} {P : Bool → AH → Prop} : Wp (asB (.bl b) h) P E ↔ P b h := Iff.rfl
theorem w_asI {P : Option Int → AH → Prop} : Wp (asI (.int i) h) P E ↔ P (some i) h := Iff.rfl
theorem w_not {b : Bool} : Wp (notV (.bl b) h) P E ↔ P (.bl (!b)) h := Iff.rfl
theorem w_tru {b : Bool} {P : Bool → AH → Prop} : Wp (truM (.bl b) h) P E ↔ P b h := Iff.rfl
theorem w_and {b : Bool} {m : M D} : Wp (andV (.bl b) m h) P E ↔ if b = true then Wp (m h) P E else P (.bl false) h := by cases b <;> exact Iff.rfl
theorem w_or {b : Bool} {m : M D} : Wp (orV (.bl b) m h) P E ↔ if b = true then P (.bl true) h else Wp (m h) P E := by cases b <;> exact Iff.rfl
theorem w_chlt {b : Bool} {f g : D → D → M D} {m : M D} (e : f x y h = .ok (.bl b) h) : Wp (chainM f g x y m h) P E ↔ if b = true then Wp (m h) (fun z h' => Wp (g y z h') P E) E else P (.bl false) h := by
  rw [chainM_lt e]
  cases b with
  | true =>
    simp only [if_true]
    cases m h <;> exact Iff.rfl
  | false => exact Iff.rfl
theorem w_tup (l : xs.length ≤ 1000000) : Wp (tupM xs h) P E ↔ P (.tup xs) h := by rw [tupM_run l] <;> exact Iff.rfl
theorem w_lst (l : xs.length ≤ 1000000) : Wp (lstM xs h) P E ↔ P (.lst xs) h := by rw [lstM_run l] <;> exact Iff.rfl
theorem w_lstH (l : xs.length ≤ 1000000) : Wp (lstH xs h) P E ↔ P (.ref h.length) (h ++ [.lst xs]) := by rw [lstH_run l] <;> exact Iff.rfl
theorem w_tup0 : Wp (tupM [] h) P E ↔ P (.tup []) h := w_tup (Nat.le_of_ble_eq_true rfl)
theorem w_lst0 : Wp (lstM [] h) P E ↔ P (.lst []) h := w_lst (Nat.le_of_ble_eq_true rfl)
theorem w_lsH0 : Wp (lstH [] h) P E ↔ P (.ref h.length) (h ++ [.lst []]) := w_lstH (Nat.le_of_ble_eq_true rfl)
theorem w_tup1 {x0 : D} : Wp (tupM [x0] h) P E ↔ P (.tup [x0]) h := w_tup (Nat.le_of_ble_eq_true rfl)
theorem w_lst1 {x0 : D} : Wp (lstM [x0] h) P E ↔ P (.lst [x0]) h := w_lst (Nat.le_of_ble_eq_true rfl)
theorem w_lsH1 {x0 : D} : Wp (lstH [x0] h) P E ↔ P (.ref h.length) (h ++ [.lst [x0]]) := w_lstH (Nat.le_of_ble_eq_true rfl)
theorem w_tup2 {x0 x1 : D} : Wp (tupM [x0, x1] h) P E ↔ P (.tup [x0, x1]) h := w_tup (Nat.le_of_ble_eq_true rfl)
theorem w_lst2 {x0 x1 : D} : Wp (lstM [x0, x1] h) P E ↔ P (.lst [x0, x1]) h := w_lst (Nat.le_of_ble_eq_true rfl)
theorem w_lsH2 {x0 x1 : D} : Wp (lstH [x0, x1] h) P E ↔ P (.ref h.length) (h ++ [.lst [x0, x1]]) := w_lstH (Nat.le_of_ble_eq_true rfl)
theorem w_tup3 {x0 x1 x2 : D} : Wp (tupM [x0, x1, x2] h) P E ↔ P (.tup [x0, x1, x2]) h := w_tup (Nat.le_of_ble_eq_true rfl)
theorem w_lst3 {x0 x1 x2 : D} : Wp (lstM [x0, x1, x2] h) P E ↔ P (.lst [x0, x1, x2]) h := w_lst (Nat.le_of_ble_eq_true rfl)
theorem w_lsH3 {x0 x1 x2 : D} : Wp (lstH [x0, x1, x2] h) P E ↔ P (.ref h.length) (h ++ [.lst [x0, x1, x2]]) := w_lstH (Nat.le_of_ble_eq_true rfl)
theorem w_tup4 {x0 x1 x2 x3 : D} : Wp (tupM [x0, x1, x2, x3] h) P E ↔ P (.tup [x0, x1, x2, x3]) h := w_tup (Nat.le_of_ble_eq_true rfl)
theorem w_lst4 {x0 x1 x2 x3 : D} : Wp (lstM [x0, x1, x2, x3] h) P E ↔ P (.lst [x0, x1, x2, x3]) h := w_lst (Nat.le_of_ble_eq_true rfl)
theorem w_lsH4 {x0 x1 x2 x3 : D} : Wp (lstH [x0, x1, x2, x3] h) P E ↔ P (.ref h.length) (h ++ [.lst [x0, x1, x2, x3]]) := w_lstH (Nat.le_of_ble_eq_true rfl)
theorem w_tup5 {x0 x1 x2 x3 x4 : D} : Wp (tupM [x0, x1, x2, x3, x4] h) P E ↔ P (.tup [x0, x1, x2, x3, x4]) h := w_tup (Nat.le_of_ble_eq_true rfl)
theorem w_lst5 {x0 x1 x2 x3 x4 : D} : Wp (lstM [x0, x1, x2, x3, x4] h) P E ↔ P (.lst [x0, x1, x2, x3, x4]) h := w_lst (Nat.le_of_ble_eq_true rfl)
theorem w_lsH5 {x0 x1 x2 x3 x4 : D} : Wp (lstH [x0, x1, x2, x3, x4] h) P E ↔ P (.ref h.length) (h ++ [.lst [x0, x1, x2, x3, x4]]) := w_lstH (Nat.le_of_ble_eq_true rfl)
theorem w_tup6 {x0 x1 x2 x3 x4 x5 : D} : Wp (tupM [x0, x1, x2, x3, x4, x5] h) P E ↔ P (.tup [x0, x1, x2, x3, x4, x5]) h := w_tup (Nat.le_of_ble_eq_true rfl)
theorem w_lst6 {x0 x1 x2 x3 x4 x5 : D} : Wp (lstM [x0, x1, x2, x3, x4, x5] h) P E ↔ P (.lst [x0, x1, x2, x3, x4, x5]) h := w_lst (Nat.le_of_ble_eq_true rfl)
theorem w_lsH6 {x0 x1 x2 x3 x4 x5 : D} : Wp (lstH [x0, x1, x2, x3, x4, x5] h) P E ↔ P (.ref h.length) (h ++ [.lst [x0, x1, x2, x3, x4, x5]]) := w_lstH (Nat.le_of_ble_eq_true rfl)
theorem w_tup7 {x0 x1 x2 x3 x4 x5 x6 : D} : Wp (tupM [x0, x1, x2, x3, x4, x5, x6] h) P E ↔ P (.tup [x0, x1, x2, x3, x4, x5, x6]) h := w_tup (Nat.le_of_ble_eq_true rfl)
theorem w_lst7 {x0 x1 x2 x3 x4 x5 x6 : D} : Wp (lstM [x0, x1, x2, x3, x4, x5, x6] h) P E ↔ P (.lst [x0, x1, x2, x3, x4, x5, x6]) h := w_lst (Nat.le_of_ble_eq_true rfl)
theorem w_lsH7 {x0 x1 x2 x3 x4 x5 x6 : D} : Wp (lstH [x0, x1, x2, x3, x4, x5, x6] h) P E ↔ P (.ref h.length) (h ++ [.lst [x0, x1, x2, x3, x4, x5, x6]]) := w_lstH (Nat.le_of_ble_eq_true rfl)
theorem w_tup8 {x0 x1 x2 x3 x4 x5 x6 x7 : D} : Wp (tupM [x0, x1, x2, x3, x4, x5, x6, x7] h) P E ↔ P (.tup [x0, x1, x2, x3, x4, x5, x6, x7]) h := w_tup (Nat.le_of_ble_eq_true rfl)
theorem w_lst8 {x0 x1 x2 x3 x4 x5 x6 x7 : D} : Wp (lstM [x0, x1, x2, x3, x4, x5, x6, x7] h) P E ↔ P (.lst [x0, x1, x2, x3, x4, x5, x6, x7]) h := w_lst (Nat.le_of_ble_eq_true rfl)
theorem w_lsH8 {x0 x1 x2 x3 x4 x5 x6 x7 : D} : Wp (lstH [x0, x1, x2, x3, x4, x5, x6, x7] h) P E ↔ P (.ref h.length) (h ++ [.lst [x0, x1, x2, x3, x4, x5, x6, x7]]) := w_lstH (Nat.le_of_ble_eq_true rfl)
theorem w_new {c : Cell} : Wp (newM c h) P E ↔ P (.ref h.length) (h ++ [c]) := Iff.rfl
theorem w_lenT : Wp (lenM (.tup xs) h) P E ↔ P (.int xs.length) h := Iff.rfl
theorem w_lenL : Wp (lenM (.lst xs) h) P E ↔ P (.int xs.length) h := Iff.rfl
theorem w_lenR (e : h[n]? = some (.lst xs)) : Wp (lenM (.ref n) h) P E ↔ P (.int xs.length) h := by rw [lenM_ref e] <;> exact Iff.rfl
theorem w_ixT (e : atI xs i = some x) : Wp (ixM (.tup xs) (.int i) h) P E ↔ P x h := by rw [ixM_tup e] <;> exact Iff.rfl
theorem w_ixL (e : atI xs i = some x) : Wp (ixM (.lst xs) (.int i) h) P E ↔ P x h := by rw [ixM_lst e] <;> exact Iff.rfl
theorem w_ixR (q : h[n]? = some (.lst xs)) (e : atI xs i = some x) : Wp (ixM (.ref n) (.int i) h) P E ↔ P x h := by rw [ixM_ref q e] <;> exact Iff.rfl
theorem w_lchk {P : Unit → AH → Prop} (e : h[n]? = some (.lst xs)) : Wp (lchk (.ref n) h) P E ↔ P () h := by rw [lchk_ref e] <;> exact Iff.rfl
theorem w_append (e : h[n]? = some (.lst xs)) (l : xs.length < 1000000) : Wp (appendM (.ref n) x h) P E ↔ P .non (h.set n (.lst (xs ++ [x]))) := by rw [appendM_ref e l] <;> exact Iff.rfl
theorem w_setix {P : Unit → AH → Prop} (q : h[n]? = some (.lst xs)) (h0 : 0 ≤ i) (h1 : i < xs.length) : Wp (setIxM (.ref n) (.int i) x h) P E ↔ P () (h.set n (.lst (xs.set i.toNat x))) := by rw [setIxM_pos q h0 h1] <;> exact Iff.rfl
theorem w_freeze (e : h[n]? = some (.lst xs)) : Wp (freezeM (.ref n) h) P E ↔ P (.lst xs) (h.set n .dead) := by rw [freezeM_ref e] <;> exact Iff.rfl
theorem w_itT {P : List D → AH → Prop} : Wp (itemsM (.tup xs) h) P E ↔ P xs h := Iff.rfl
theorem w_itL {P : List D → AH → Prop} : Wp (itemsM (.lst xs) h) P E ↔ P xs h := Iff.rfl
theorem w_tupT : Wp (tupleM (.tup xs) h) P E ↔ P (.tup xs) h := Iff.rfl
theorem w_tupL : Wp (tupleM (.lst xs) h) P E ↔ P (.tup xs) h := Iff.rfl
theorem w_listT : Wp (listM (.tup xs) h) P E ↔ P (.lst xs) h := Iff.rfl
theorem w_listL : Wp (listM (.lst xs) h) P E ↔ P (.lst xs) h := Iff.rfl
theorem w_rng1 {P : List D → AH → Prop} (a : -(2 ^ 62) ≤ j) (b : j < 2 ^ 62) : Wp (rng1M [.int j] h) P E ↔ P (rangeD 0 j.toNat) h := by rw [rng1M_run a b] <;> exact Iff.rfl
theorem w_rng2 {P : List D → AH → Prop} (a : -(2 ^ 62) ≤ i) (b : i < 2 ^ 62) (c : -(2 ^ 62) ≤ j) (d : j < 2 ^ 62) : Wp (rng2M [.int i, .int j] h) P E ↔ P (rangeD i (j - i).toNat) h := by rw [rng2M_run a b c d] <;> exact Iff.rfl
theorem w_addT (l : xs.length + ys.length ≤ 1000000) : Wp (addM (.tup xs) (.tup ys) h) P E ↔ P (.tup (xs ++ ys)) h := by rw [addM_tup l] <;> exact Iff.rfl
theorem w_addL (l : xs.length + ys.length ≤ 1000000) : Wp (addM (.lst xs) (.lst ys) h) P E ↔ P (.lst (xs ++ ys)) h := by rw [addM_lst l] <;> exact Iff.rfl
theorem w_addS {a b : Str} (l : a.length + b.length ≤ 1000000) : Wp (addM (.str a) (.str b) h) P E ↔ P (.str (a ++ b)) h := by rw [addM_str l] <;> exact Iff.rfl
theorem w_sum {ns : List Int} : Wp (sumM (.lst (ns.map D.int)) h) P E ↔ P (.int ns.sum) h := by rw [sumM_lst] <;> exact Iff.rfl
theorem w_all {ns : List Bool} : Wp (allM (.lst (ns.map D.bl)) h) P E ↔ P (.bl (ns.all id)) h := by rw [allM_lst] <;> exact Iff.rfl
theorem w_slT {lo hi : Option Int} : Wp (sliceM (.tup xs) lo hi h) P E ↔ P (.tup (cutD xs lo hi)) h := Iff.rfl
theorem w_slL {lo hi : Option Int} : Wp (sliceM (.lst xs) lo hi h) P E ↔ P (.lst (cutD xs lo hi)) h := Iff.rfl
theorem w_isn : Wp (isM false x .non h) P E ↔ P (.bl (isC x .non)) h := by
  show P (.bl (xor false (isC x .non))) h ↔ _
  rw [Bool.false_xor]
theorem w_isnn : Wp (isM true x .non h) P E ↔ P (.bl (!isC x .non)) h := by
  show P (.bl (xor true (isC x .non))) h ↔ _
  rw [Bool.true_xor]
theorem w_inti : Wp (intM (.int i) h) P E ↔ P (.int i) h := Iff.rfl
theorem w_intb {b : Bool} : Wp (intM (.bl b) h) P E ↔ P (.int (if b = true then 1 else 0)) h := Iff.rfl
theorem w_strs {a : Str} : Wp (strM (.str a) h) P E ↔ P (.str a) h := Iff.rfl
theorem w_schk {a : Str} {P : Unit → AH → Prop} : Wp (schk (.str a) h) P E ↔ P () h := Iff.rfl
theorem w_zipT {P : List D → AH → Prop} : Wp (zipM [.tup xs, .tup ys] h) P E ↔ P (zipD xs ys) h := Iff.rfl
theorem w_zipL {P : List D → AH → Prop} : Wp (zipM [.lst xs, .lst ys] h) P E ↔ P (zipD xs ys) h := Iff.rfl
theorem w_zipLT {P : List D → AH → Prop} : Wp (zipLTM [.lst xs, .tup ys] h) P E ↔ P (zipD xs ys) h := Iff.rfl
theorem w_enumT {P : List D → AH → Prop} : Wp (enumM (.tup xs) h) P E ↔ P (enumD 0 xs) h := Iff.rfl
theorem w_enumL {P : List D → AH → Prop} : Wp (enumM (.lst xs) h) P E ↔ P (enumD 0 xs) h := Iff.rfl
theorem w_app1 {g : D → M D} : Wp (app1 g [x] h) P E ↔ Wp (g x h) P E := Iff.rfl
theorem w_app2 {g : D → D → M D} : Wp (app2 g [x, y] h) P E ↔ Wp (g x y h) P E := Iff.rfl
theorem w_app3 {g : D → D → D → M D} : Wp (app3 g [x, y, z] h) P E ↔ Wp (g x y z h) P E := Iff.rfl
theorem w_app4 {g : D → D → D → D → M D} {u : D} : Wp (app4 g [x, y, z, u] h) P E ↔ Wp (g x y z u h) P E := Iff.rfl
theorem w_app5 {g : D → D → D → D → D → M D} {u v : D} : Wp (app5 g [x, y, z, u, v] h) P E ↔ Wp (g x y z u v h) P E := Iff.rfl
theorem w_eq_t {a b : D} (ha : nb 60 (lookD h a) = true) (hb : nb 60 (lookD h b) = true) (e : lookD h a = lookD h b) : Wp (eqM a b h) P E ↔ P (.bl true) h := by rw [eqM_eq ha hb e] <;> exact Iff.rfl
theorem w_eq_f {a b : D} (ha : nb 60 (lookD h a) = true) (hb : nb 60 (lookD h b) = true) (e : lookD h a ≠ lookD h b) : Wp (eqM a b h) P E ↔ P (.bl false) h := by rw [eqM_ne ha hb e] <;> exact Iff.rfl
theorem w_ne_f {a b : D} (ha : nb 60 (lookD h a) = true) (hb : nb 60 (lookD h b) = true) (e : lookD h a = lookD h b) : Wp (neM a b h) P E ↔ P (.bl false) h := by rw [neM_eq ha hb e] <;> exact Iff.rfl
theorem w_ne_t {a b : D} (ha : nb 60 (lookD h a) = true) (hb : nb 60 (lookD h b) = true) (e : lookD h a ≠ lookD h b) : Wp (neM a b h) P E ↔ P (.bl true) h := by rw [neM_ne ha hb e] <;> exact Iff.rfl
end
/-! ### objects, dicts -/
section
variable {h : AH} {E : Str → AH → Prop} {P : D → AH → Prop} {U : Unit → AH → Prop} {n : Nat} {tab : CTab} {c f : Str} {fs : List (Str × D)} {v x : D} {kvs : List (Key × D)} {k : Key}
theorem w_dchk (e : dkOf h x = some kvs) : Wp (dchk x h) U E ↔ U () h := by
  unfold dchk
  simp only [e] <;> exact Iff.rfl
end
/-! the rows that a plain reading is simplified by, all in one; WQS: but w_obind -/
def WPS := And.intro @w_bind (And.intro @w_pure (And.intro @w_throw (And.intro @w_tup0 (And.intro @w_lst0 (And.intro @w_lsH0 (And.intro @w_tup1 (And.intro @w_lst1 (And.intro @w_lsH1 (And.intro @w_tup2 (And.intro @w_lst2 (And.intro @w_lsH2 (And.intro @w_tup3 (And.intro @w_lst3 (And.intro @w_lsH3 (And.intro @w_tup4 (And.intro @w_lst4 (And.intro @w_lsH4 (And.intro @w_tup5 (And.intro @w_lst5 (And.intro @w_lsH5 (And.intro @w_tup6 (And.intro @w_lst6 (And.intro @w_lsH6 (And.intro @w_tup7 (And.intro @w_lst7 (And.intro @w_lsH7 (And.intro @w_tup8 (And.intro @w_lst8 (And.intro @w_lsH8 (And.intro @w_ite (And.intro @w_iteP (And.intro @w_obind (And.intro @oK_nx (And.intro @oK_ret (And.intro @oK_bk (And.intro @oK_ct (And.intro @w_def (And.intro @dK_nx (And.intro @dK_ret (And.intro @w_lift (And.intro @w_noex (And.intro @w_add (And.intro @w_sub (And.intro @w_neg (And.intro @w_lt (And.intro @w_le (And.intro @w_gt (And.intro @w_ge (And.intro @w_max (And.intro @w_min (And.intro @w_eqi (And.intro @w_nei (And.intro @w_eqs (And.intro @w_nes (And.intro @w_asB (And.intro @w_asI (And.intro @w_not (And.intro @w_tru (And.intro @w_and (And.intro @w_or (And.intro @w_new (And.intro @w_lenT (And.intro @w_lenL (And.intro @w_itT (And.intro @w_itL (And.intro @w_tupT (And.intro @w_tupL (And.intro @w_listT (And.intro @w_listL (And.intro @w_slT (And.intro @w_slL (And.intro @w_isn (And.intro @w_isnn (And.intro @w_inti (And.intro @w_intb (And.intro @w_strs (And.intro @w_schk (And.intro @w_zipT (And.intro @w_zipL (And.intro @w_zipLT (And.intro @w_enumT (And.intro @w_enumL (And.intro @w_app1 (And.intro @w_app2 (And.intro @w_app3 (And.intro @w_app4 (And.intro @w_app5 (And.intro @tK_nx (And.intro @tK_ct (And.intro @tK_bk (And.intro @tK_ret (And.intro @lK_nx (And.intro @lK_ct (And.intro @lK_bk (And.intro @lK_ret (And.intro @decide_eq_true_eq (And.intro @if_true.{1} (And.intro @if_false.{1} (And.intro @Bool.false_eq_true (And.intro @Bool.not_true (And.intro @Bool.not_false (And.intro @List.length_cons.{0} @List.length_nil.{0}))))))))))))))))))))))))))))))))))))))))))))))))))))))))))))))))))))))))))))))))))))))))))))))))))))))
end Lw
/-! the plain reading of the text (printed by gen.py) -/
noncomputable section
namespace Lw
open PySem L2
def tabE : Tab := [("BadBound", [("BadBound", true), ("BadCut", false), ("BadJoin", false), ("BadLine", false), ("BadMoment", false), ("BadPlace", false), ("BadPlan", false), ("BadTelling", false), ("BadWork", false), ("BadWorker", false), ("Down", false), ("Fallen", false), ("LentError", true), ("Lost", false), ("NoBook", false), ("NoLending", false), ("NoLine", false), ("NoPiece", false), ("NoText", false), ("Otherwise", false), ("Twice", false), ("ValueError", true)]), ("BadWork", [("BadBound", false), ("BadCut", false), ("BadJoin", false), ("BadLine", false), ("BadMoment", false), ("BadPlace", false), ("BadPlan", false), ("BadTelling", false), ("BadWork", true), ("BadWorker", false), ("Down", false), ("Fallen", false), ("LentError", true), ("Lost", false), ("NoBook", false), ("NoLending", false), ("NoLine", false), ("NoPiece", false), ("NoText", false), ("Otherwise", false), ("Twice", false), ("ValueError", true)]), ("NoText", [("BadBound", false), ("BadCut", false), ("BadJoin", false), ("BadLine", false), ("BadMoment", false), ("BadPlace", false), ("BadPlan", false), ("BadTelling", false), ("BadWork", false), ("BadWorker", false), ("Down", false), ("Fallen", false), ("LentError", true), ("Lost", false), ("NoBook", false), ("NoLending", false), ("NoLine", false), ("NoPiece", false), ("NoText", true), ("Otherwise", false), ("Twice", false), ("ValueError", true)])]
def isE : Str → Str → Option Bool := isEt tabE
def kd_COUNTS : List (Str × Int) := [("lent", 5), ("back", 3), ("cut", 3), ("join", 2)]
def b_law_well (script1 : D) (k2 : D) : M (Out Unit Empty) := ((pure (.int 0)) >>= fun cell3 => ((((pure k2) >>= fun x5 => ((pure script1) >>= fun x4 => lenM x4) >>= fun y6 => ltM x5 y6) >>= fun b7 => asB b7) >>= fun t8 => obind ((if t8 = true then (((pure script1) >>= fun x10 => (pure k2) >>= fun y11 => ixM x10 y11) >>= fun cell9 => (pure (Out.nx cell9) : M (Out (D) (Empty)))) else (pure (Out.nx cell3) : M (Out (D) (Empty)))) : M (Out (D) (Empty))) (fun s12 => ((((((pure s12) >>= fun x13 => (pure (.int 2147483647)) >>= fun y14 => modM x13 y14) >>= fun x17 => ((pure (.int 48271)) >>= fun x15 => (pure k2) >>= fun y16 => mulM x15 y16) >>= fun y18 => addM x17 y18) >>= fun a31 => (((((pure (.int 0)) >>= fun a19 => (pure s12) >>= fun a20 => pure [a19, a20]) >>= fun xs21 => lstM xs21) >>= fun x27 => (((pure s12) >>= fun x24 => ((pure (.int 10)) >>= fun x22 => (pure (.int 18)) >>= fun y23 => powM x22 y23) >>= fun y25 => geM x24 y25) >>= fun x26 => intM x26) >>= fun y28 => ixM x27 y28) >>= fun a29 => (pure (.int 0)) >>= fun a30 => pure [a29, a30]) >>= fun as32 => pure (a31 :: as32)) >>= fun xs33 => lstH xs33) >>= fun d34 => (pure (Out.ret d34) : M (Out (Unit) (Empty)))))))
def f_law_well (script1 : D) (k2 : D) : M D := defM (b_law_well script1 k2)
def b_law_number (word_here35 : D) : M (Out Unit Empty) := (((pure word_here35) >>= fun x45 => (((((pure word_here35) >>= fun x38 => (pure none) >>= fun l39 => ((pure (.int 1)) >>= fun x37 => asI x37) >>= fun u40 => sliceM x38 l39 u40) >>= fun x41 => (pure (.str "-")) >>= fun y42 => eqM x41 y42) >>= fun x43 => intM x43) >>= fun x44 => asI x44) >>= fun l46 => (pure none) >>= fun u47 => sliceM x45 l46 u47) >>= fun figures36 => ((((((pure (.int 1)) >>= fun x49 => ((pure figures36) >>= fun x48 => lenM x48) >>= fun y50 => chainM leM leM x49 y50 (pure (.int 18))) >>= fun b51 => asB b51) >>= fun t52 => pure (!t52)) >>= fun t58 => if t58 = true then pure true else ((((pure figures36) >>= fun x53 => schk x53 >>= fun _ => (pure (.str "0123456789")) >>= fun y54 => stripCM x53 y54) >>= fun x55 => (pure (.str "")) >>= fun y56 => neM x55 y56) >>= fun b57 => asB b57)) >>= fun t59 => if t59 = true then obind ((pure .non) >>= fun d60 => (pure (Out.ret d60) : M (Out (Empty) (Empty)))) (fun e => e.elim) else ((((((pure figures36) >>= fun x61 => (pure (.int 0)) >>= fun y62 => ixM x61 y62) >>= fun x63 => (pure (.str "0")) >>= fun y64 => eqM x63 y64) >>= fun b65 => asB b65) >>= fun t69 => if t69 = true then (((pure word_here35) >>= fun x66 => (pure (.str "0")) >>= fun y67 => neM x66 y67) >>= fun b68 => asB b68) else pure false) >>= fun t70 => if t70 = true then obind ((pure .non) >>= fun d71 => (pure (Out.ret d71) : M (Out (Empty) (Empty)))) (fun e => e.elim) else (((pure word_here35) >>= fun x72 => intM x72) >>= fun d73 => (pure (Out.ret d73) : M (Out (Unit) (Empty)))))))
def f_law_number (word_here35 : D) : M D := defM (b_law_number word_here35)
def c_law_head_of_1 : D → M (List D) := fun x116 => liftO (some x116) >>= fun p117 => (pure true) >>= fun t118 => if t118 = true then (((pure p117) >>= fun a120 => pcallM (app1 f_law_number) [a120]) >>= fun y119 => pure [y119]) else pure []
def c_law_head_of_2 (numbers101 : D) : D → M (List D) := fun x147 => liftO (some x147) >>= fun p148 => (pure true) >>= fun t149 => if t149 = true then (((((pure numbers101) >>= fun x151 => (pure p148) >>= fun y152 => ixM x151 y152) >>= fun a157 => ((pure numbers101) >>= fun x155 => ((pure p148) >>= fun x153 => (pure (.int 1)) >>= fun y154 => addM x153 y154) >>= fun y156 => ixM x155 y156) >>= fun a158 => pure [a157, a158]) >>= fun xs159 => tupM xs159) >>= fun y150 => pure [y150]) else pure []
def b_law_head_of (row74 : D) : M (Out Unit Empty) := (((pure row74) >>= fun x76 => schk x76 >>= fun _ => (pure (.str " ")) >>= fun y77 => splitM x76 y77) >>= fun words75 => (((((pure (.str "")) >>= fun x78 => (pure words75) >>= fun y79 => inM false x78 y79) >>= fun b80 => asB b80) >>= fun t98 => if t98 = true then pure true else (((((pure words75) >>= fun x81 => lenM x81) >>= fun x82 => (pure (.int 7)) >>= fun y83 => ltM x82 y83) >>= fun b84 => asB b84) >>= fun t97 => if t97 = true then pure true else ((((((pure words75) >>= fun x85 => lenM x85) >>= fun x86 => (pure (.int 2)) >>= fun y87 => modM x86 y87) >>= fun x88 => (pure (.int 0)) >>= fun y89 => eqM x88 y89) >>= fun b90 => asB b90) >>= fun t96 => if t96 = true then pure true else ((((pure words75) >>= fun x91 => (pure (.int 0)) >>= fun y92 => ixM x91 y92) >>= fun x93 => (pure (.str "work")) >>= fun y94 => neM x93 y94) >>= fun b95 => asB b95)))) >>= fun t99 => if t99 = true then obind ((pure .non) >>= fun d100 => (pure (Out.ret d100) : M (Out (Empty) (Empty)))) (fun e => e.elim) else ((((((pure words75) >>= fun x105 => ((pure (.int 1)) >>= fun x102 => asI x102) >>= fun l106 => (((pure (.int 6)) >>= fun x103 => negM x103) >>= fun x104 => asI x104) >>= fun u107 => sliceM x105 l106 u107) >>= fun x112 => ((pure words75) >>= fun x110 => (((pure (.int 5)) >>= fun x108 => negM x108) >>= fun x109 => asI x109) >>= fun l111 => stepM 2 x110 l111) >>= fun y113 => addM x112 y113) >>= fun x114 => itemsM x114) >>= fun xs115 => lcM xs115 c_law_head_of_1) >>= fun numbers101 => ((((((pure words75) >>= fun x123 => (((pure (.int 6)) >>= fun x121 => negM x121) >>= fun x122 => asI x122) >>= fun l124 => stepM 2 x123 l124) >>= fun x130 => (((pure (.str "span")) >>= fun a127 => ((pure (.str "every")) >>= fun a125 => (pure (.str "least")) >>= fun a126 => pure [a125, a126]) >>= fun as128 => pure (a127 :: as128)) >>= fun xs129 => lstM xs129) >>= fun y131 => neM x130 y131) >>= fun b132 => asB b132) >>= fun t136 => if t136 = true then pure true else (((pure .non) >>= fun x133 => (pure numbers101) >>= fun y134 => inM false x133 y134) >>= fun b135 => asB b135)) >>= fun t137 => if t137 = true then obind ((pure .non) >>= fun d138 => (pure (Out.ret d138) : M (Out (Empty) (Empty)))) (fun e => e.elim) else (((((pure (.int 0)) >>= fun x143 => (((pure numbers101) >>= fun x140 => lenM x140) >>= fun x141 => (pure (.int 3)) >>= fun y142 => subM x141 y142) >>= fun y144 => (pure (.int 2)) >>= fun z145 => rng3M [x143, y144, z145]) >>= fun xs146 => lcM xs146 (c_law_head_of_2 numbers101)) >>= fun x160 => tupleM x160) >>= fun pairs139 => ((((pure pairs139) >>= fun a167 => (((pure numbers101) >>= fun x163 => (((pure (.int 3)) >>= fun x161 => negM x161) >>= fun x162 => asI x162) >>= fun l164 => (pure none) >>= fun u165 => sliceM x163 l164 u165) >>= fun x166 => tupleM x166) >>= fun a168 => pure [a167, a168]) >>= fun xs169 => tupM xs169) >>= fun d170 => (pure (Out.ret d170) : M (Out (Unit) (Empty)))))))))
def f_law_head_of (row74 : D) : M D := defM (b_law_head_of row74)
def c_law_line_of_1 : D → M (List D) := fun x233 => liftO (some x233) >>= fun p234 => (pure true) >>= fun t235 => if t235 = true then (((pure p234) >>= fun a237 => pcallM (app1 f_law_number) [a237]) >>= fun y236 => pure [y236]) else pure []
def b_law_line_of (row171 : D) : M (Out Unit Empty) := (((pure row171) >>= fun x173 => schk x173 >>= fun _ => (pure (.str " ")) >>= fun y174 => splitHM x173 y174) >>= fun words172 => (((newM (.dk []) >>= fun r194 => ((pure (.str "lent")) >>= fun x191 => (pure (.int 5)) >>= fun y192 => ((pure (.str "back")) >>= fun x188 => (pure (.int 3)) >>= fun y189 => ((pure (.str "cut")) >>= fun x185 => (pure (.int 3)) >>= fun y186 => ((pure (.str "join")) >>= fun x182 => (pure (.int 2)) >>= fun y183 => ((pure (.str "told")) >>= fun x179 => ((pure (.int 4)) >>= fun x177 => ((pure words172) >>= fun x176 => lenM x176) >>= fun y178 => maxM x177 y178) >>= fun y180 => (pure []) >>= fun ps181 => pure ((x179, y180) :: ps181)) >>= fun ps184 => pure ((x182, y183) :: ps184)) >>= fun ps187 => pure ((x185, y186) :: ps187)) >>= fun ps190 => pure ((x188, y189) :: ps190)) >>= fun ps193 => pure ((x191, y192) :: ps193)) >>= fun ps195 => dispM r194 ps195) >>= fun x198 => dchk x198 >>= fun _ => ((pure words172) >>= fun x196 => (pure (.int 0)) >>= fun y197 => ixM x196 y197) >>= fun y199 => (pure (.int 0)) >>= fun z200 => dget2M x198 y199 z200) >>= fun many175 => (((((pure (.str "")) >>= fun x201 => (pure words172) >>= fun y202 => inM false x201 y202) >>= fun b203 => asB b203) >>= fun t208 => if t208 = true then pure true else ((((pure words172) >>= fun x204 => lenM x204) >>= fun x205 => (pure many175) >>= fun y206 => neM x205 y206) >>= fun b207 => asB b207)) >>= fun t209 => if t209 = true then obind ((pure .non) >>= fun d210 => (pure (Out.ret d210) : M (Out (Empty) (Empty)))) (fun e => e.elim) else (((pure []) >>= fun xs212 => tupM xs212) >>= fun worker211 => (((((pure words172) >>= fun x213 => (pure (.int 0)) >>= fun y214 => ixM x213 y214) >>= fun x215 => (pure (.str "lent")) >>= fun y216 => eqM x215 y216) >>= fun b217 => asB b217) >>= fun t218 => obind ((if t218 = true then (((((pure words172) >>= fun x220 => lchk x220 >>= fun _ => (pure (.int 2)) >>= fun y221 => popLM x220 y221) >>= fun a222 => pure [a222]) >>= fun xs223 => tupM xs223) >>= fun worker219 => (pure (Out.nx worker219) : M (Out (D) (Empty)))) else (pure (Out.nx worker211) : M (Out (D) (Empty)))) : M (Out (D) (Empty))) (fun s224 => (freezeM words172 >>= fun words225 => ((((((pure words225) >>= fun x228 => ((pure (.int 1)) >>= fun x227 => asI x227) >>= fun l229 => (pure none) >>= fun u230 => sliceM x228 l229 u230) >>= fun x231 => itemsM x231) >>= fun xs232 => lcM xs232 c_law_line_of_1) >>= fun x238 => tupleM x238) >>= fun numbers226 => ((((pure .non) >>= fun x239 => (pure numbers226) >>= fun y240 => inM false x239 y240) >>= fun b241 => asB b241) >>= fun t242 => if t242 = true then obind ((pure .non) >>= fun d243 => (pure (Out.ret d243) : M (Out (Empty) (Empty)))) (fun e => e.elim) else (((((pure words225) >>= fun x244 => (pure (.int 0)) >>= fun y245 => ixM x244 y245) >>= fun x246 => (pure (.str "told")) >>= fun y247 => eqM x246 y247) >>= fun b248 => asB b248) >>= fun t249 => if t249 = true then obind ((((((pure (.str "told")) >>= fun a250 => pure [a250]) >>= fun xs251 => tupM xs251) >>= fun x256 => ((pure numbers226) >>= fun x253 => (pure none) >>= fun l254 => ((pure (.int 3)) >>= fun x252 => asI x252) >>= fun u255 => sliceM x253 l254 u255) >>= fun y257 => addM x256 y257) >>= fun x264 => ((((pure numbers226) >>= fun x259 => ((pure (.int 3)) >>= fun x258 => asI x258) >>= fun l260 => (pure none) >>= fun u261 => sliceM x259 l260 u261) >>= fun a262 => pure [a262]) >>= fun xs263 => tupM xs263) >>= fun y265 => addM x264 y265) >>= fun d266 => (pure (Out.ret d266) : M (Out (Empty) (Empty)))) (fun e => e.elim) else ((((((pure words225) >>= fun x267 => (pure (.int 0)) >>= fun y268 => ixM x267 y268) >>= fun a269 => pure [a269]) >>= fun xs270 => tupM xs270) >>= fun x289 => ((((pure numbers226) >>= fun a283 => ((((pure numbers226) >>= fun x272 => (pure none) >>= fun l273 => ((pure (.int 1)) >>= fun x271 => asI x271) >>= fun u274 => sliceM x272 l273 u274) >>= fun x275 => (pure s224) >>= fun y276 => addM x275 y276) >>= fun x281 => ((pure numbers226) >>= fun x278 => ((pure (.int 1)) >>= fun x277 => asI x277) >>= fun l279 => (pure none) >>= fun u280 => sliceM x278 l279 u280) >>= fun y282 => addM x281 y282) >>= fun a284 => pure [a283, a284]) >>= fun xs285 => lstM xs285) >>= fun x287 => ((pure s224) >>= fun x286 => lenM x286) >>= fun y288 => ixM x287 y288) >>= fun y290 => addM x289 y290) >>= fun d291 => (pure (Out.ret d291) : M (Out (Unit) (Empty))))))))))))))
def f_law_line_of (row171 : D) : M D := defM (b_law_line_of row171)
def l_law_is_work_1 (work292 : D) : D → (Unit) → M (Out (Unit) (Unit)) := fun x297 t293 => liftO ((unpT (uCons some (uCons (unpT (uCons some (uCons some uNil))) uNil))) x297) >>= fun p298 => (((((pure p298.2.1.1) >>= fun x299 => (pure p298.2.1.2.1) >>= fun y300 => geM x299 y300) >>= fun b301 => asB b301) >>= fun t315 => if t315 = true then pure true else ((((pure p298.1) >>= fun x302 => (pure (.int 0)) >>= fun y303 => gtM x302 y303) >>= fun b304 => asB b304) >>= fun t314 => if t314 = true then (((pure p298.2.1.1) >>= fun x311 => (((pure work292) >>= fun x307 => ((pure p298.1) >>= fun x305 => (pure (.int 1)) >>= fun y306 => subM x305 y306) >>= fun y308 => ixM x307 y308) >>= fun x309 => (pure (.int 1)) >>= fun y310 => ixM x309 y310) >>= fun y312 => ltM x311 y312) >>= fun b313 => asB b313) else pure false)) >>= fun t316 => if t316 = true then obind ((pure (.bl false)) >>= fun d317 => (pure (Out.ret d317) : M (Out (Empty) (Unit)))) (fun e => e.elim) else (pure (Out.nx ()) : M (Out (Unit) (Unit))))
def b_law_is_work (work292 : D) : M (Out Unit Empty) := (((pure work292) >>= fun x295 => enumM x295) >>= fun xs296 => obind (forM xs296 (() : Unit) (l_law_is_work_1 work292)) (fun s294 => ((pure (.bl true)) >>= fun d318 => (pure (Out.ret d318) : M (Out (Unit) (Empty))))))
def f_law_is_work (work292 : D) : M D := defM (b_law_is_work work292)
def b_law_are_limits (limits319 : D) : M (Out Unit Empty) := (((((pure limits319) >>= fun x320 => minTM x320) >>= fun x321 => (pure (.int 1)) >>= fun y322 => geM x321 y322) >>= fun x329 => andV x329 (((pure limits319) >>= fun x323 => (pure (.int 2)) >>= fun y324 => ixM x323 y324) >>= fun x327 => ((pure limits319) >>= fun x325 => (pure (.int 1)) >>= fun y326 => ixM x325 y326) >>= fun y328 => geM x327 y328)) >>= fun d330 => (pure (Out.ret d330) : M (Out (Unit) (Empty))))
def f_law_are_limits (limits319 : D) : M D := defM (b_law_are_limits limits319)
def c_law_read_1 : D → M (List D) := fun x360 => liftO (some x360) >>= fun p361 => (pure true) >>= fun t362 => if t362 = true then (((pure p361) >>= fun a364 => pcallM (app1 f_law_line_of) [a364]) >>= fun y363 => pure [y363]) else pure []
def b_law_read (text331 : D) : M (Out Unit Empty) := ((((((pure text331) >>= fun x332 => isiM "str" x332) >>= fun x333 => truM x333) >>= fun t334 => pure (!t334)) >>= fun t338 => if t338 = true then pure true else (((pure (.str "\n")) >>= fun x335 => (pure text331) >>= fun y336 => signInM true x335 y336) >>= fun b337 => asB b337)) >>= fun t339 => if t339 = true then obind ((pure (.str "text")) >>= fun d340 => (pure (Out.ret d340) : M (Out (Empty) (Empty)))) (fun e => e.elim) else ((((pure text331) >>= fun x342 => schk x342 >>= fun _ => (pure (.str "\n")) >>= fun y343 => splitM x342 y343) >>= fun x346 => (pure none) >>= fun l347 => (((pure (.int 1)) >>= fun x344 => negM x344) >>= fun x345 => asI x345) >>= fun u348 => sliceM x346 l347 u348) >>= fun rows341 => ((((pure rows341) >>= fun x350 => (pure (.int 0)) >>= fun y351 => ixM x350 y351) >>= fun a352 => pcallM (app1 f_law_head_of) [a352]) >>= fun head_here349 => (((((pure rows341) >>= fun x355 => ((pure (.int 1)) >>= fun x354 => asI x354) >>= fun l356 => (pure none) >>= fun u357 => sliceM x355 l356 u357) >>= fun x358 => itemsM x358) >>= fun xs359 => lcM xs359 c_law_read_1) >>= fun lines353 => (((((pure head_here349) >>= fun x365 => (pure .non) >>= fun y366 => isM false x365 y366) >>= fun b367 => asB b367) >>= fun t371 => if t371 = true then pure true else (((pure .non) >>= fun x368 => (pure lines353) >>= fun y369 => inDM false x368 y369) >>= fun b370 => asB b370)) >>= fun t372 => if t372 = true then obind ((pure (.str "text")) >>= fun d373 => (pure (Out.ret d373) : M (Out (Empty) (Empty)))) (fun e => e.elim) else ((((((pure head_here349) >>= fun x374 => (pure (.int 0)) >>= fun y375 => ixM x374 y375) >>= fun a376 => pcallM (app1 f_law_is_work) [a376]) >>= fun x377 => truM x377) >>= fun t378 => pure (!t378)) >>= fun t379 => if t379 = true then obind ((pure (.str "work")) >>= fun d380 => (pure (Out.ret d380) : M (Out (Empty) (Empty)))) (fun e => e.elim) else ((((((pure head_here349) >>= fun x381 => (pure (.int 1)) >>= fun y382 => ixM x381 y382) >>= fun a383 => pcallM (app1 f_law_are_limits) [a383]) >>= fun x384 => truM x384) >>= fun t385 => pure (!t385)) >>= fun t386 => if t386 = true then obind ((pure (.str "bound")) >>= fun d387 => (pure (Out.ret d387) : M (Out (Empty) (Empty)))) (fun e => e.elim) else (((((((pure head_here349) >>= fun x388 => (pure (.int 0)) >>= fun y389 => ixM x388 y389) >>= fun a390 => pure [a390]) >>= fun xs391 => tupM xs391) >>= fun x394 => ((pure head_here349) >>= fun x392 => (pure (.int 1)) >>= fun y393 => ixM x392 y393) >>= fun y395 => addM x394 y395) >>= fun x399 => ((((pure lines353) >>= fun x396 => tupleM x396) >>= fun a397 => pure [a397]) >>= fun xs398 => tupM xs398) >>= fun y400 => addM x399 y400) >>= fun d401 => (pure (Out.ret d401) : M (Out (Unit) (Empty)))))))))))
def f_law_read (text331 : D) : M D := defM (b_law_read text331)
def b_need (good402 : D) : M (Out Unit Empty) := ((((pure good402) >>= fun x403 => truM x403) >>= fun t404 => pure (!t404)) >>= fun t405 => if t405 = true then obind (throwM "NoText" : M (Out (Empty) (Empty))) (fun e => e.elim) else (pure (Out.nx ()) : M (Out (Unit) (Empty))))
def f_need (good402 : D) : M D := defM (b_need good402)
def b_whole_rows (text406 : D) : M (Out Unit Empty) := ((((pure text406) >>= fun x407 => isiM "str" x407) >>= fun a408 => pcallM (app1 f_need) [a408]) >>= fun _ => ((((pure text406) >>= fun x410 => schk x410 >>= fun _ => (pure (.str "\n")) >>= fun y411 => splitM x410 y411) >>= fun x414 => (pure none) >>= fun l415 => (((pure (.int 1)) >>= fun x412 => negM x412) >>= fun x413 => asI x413) >>= fun u416 => sliceM x414 l415 u416) >>= fun rows409 => ((((pure rows409) >>= fun x418 => ((pure []) >>= fun xs417 => lstM xs417) >>= fun y419 => neM x418 y419) >>= fun a420 => pcallM (app1 f_need) [a420]) >>= fun _ => ((pure rows409) >>= fun d421 => (pure (Out.ret d421) : M (Out (Unit) (Empty)))))))
def f_whole_rows (text406 : D) : M D := defM (b_whole_rows text406)
def b_words_in (row422 : D) : M (Out Unit Empty) := (((pure row422) >>= fun x424 => schk x424 >>= fun _ => (pure (.str " ")) >>= fun y425 => splitM x424 y425) >>= fun words423 => ((((pure (.str "")) >>= fun x426 => (pure words423) >>= fun y427 => inM true x426 y427) >>= fun a428 => pcallM (app1 f_need) [a428]) >>= fun _ => ((pure words423) >>= fun d429 => (pure (Out.ret d429) : M (Out (Unit) (Empty))))))
def f_words_in (row422 : D) : M D := defM (b_words_in row422)
def c_is_number_1 : D → M (List D) := fun x453 => liftO (some x453) >>= fun p454 => (pure true) >>= fun t455 => if t455 = true then (((pure p454) >>= fun x457 => (pure (.str "0123456789")) >>= fun y458 => signInM false x457 y458) >>= fun y456 => pure [y456]) else pure []
def b_is_number (word430 : D) : M (Out Unit Empty) := ((pure word430) >>= fun figures431 => (((((pure word430) >>= fun x433 => (pure none) >>= fun l434 => ((pure (.int 1)) >>= fun x432 => asI x432) >>= fun u435 => sliceM x433 l434 u435) >>= fun x436 => (pure (.str "-")) >>= fun y437 => eqM x436 y437) >>= fun b438 => asB b438) >>= fun t439 => obind ((if t439 = true then (((pure word430) >>= fun x442 => ((pure (.int 1)) >>= fun x441 => asI x441) >>= fun l443 => (pure none) >>= fun u444 => sliceM x442 l443 u444) >>= fun figures440 => (pure (Out.nx figures440) : M (Out (D) (Empty)))) else (pure (Out.nx figures431) : M (Out (D) (Empty)))) : M (Out (D) (Empty))) (fun s445 => ((((((pure (.int 1)) >>= fun x447 => ((pure s445) >>= fun x446 => lenM x446) >>= fun y448 => chainM leM leM x447 y448 (pure (.int 18))) >>= fun b449 => asB b449) >>= fun t450 => pure (!t450)) >>= fun t462 => if t462 = true then pure true else ((((((pure s445) >>= fun x451 => strItM x451) >>= fun xs452 => lcM xs452 c_is_number_1) >>= fun x459 => allM x459) >>= fun x460 => truM x460) >>= fun t461 => pure (!t461))) >>= fun t463 => if t463 = true then obind ((pure (.bl false)) >>= fun d464 => (pure (Out.ret d464) : M (Out (Empty) (Empty)))) (fun e => e.elim) else (((((pure s445) >>= fun x465 => (pure (.int 0)) >>= fun y466 => ixM x465 y466) >>= fun x467 => (pure (.str "0")) >>= fun y468 => neM x467 y468) >>= fun x471 => orV x471 ((pure word430) >>= fun x469 => (pure (.str "0")) >>= fun y470 => eqM x469 y470)) >>= fun d472 => (pure (Out.ret d472) : M (Out (Unit) (Empty))))))))
def f_is_number (word430 : D) : M D := defM (b_is_number word430)
def b_number_in (word473 : D) : M (Out Unit Empty) := ((((pure word473) >>= fun a474 => pcallM (app1 f_is_number) [a474]) >>= fun a475 => pcallM (app1 f_need) [a475]) >>= fun _ => (((pure word473) >>= fun x476 => intM x476) >>= fun d477 => (pure (Out.ret d477) : M (Out (Unit) (Empty)))))
def f_number_in (word473 : D) : M D := defM (b_number_in word473)
def c_numbers_in_1 : D → M (List D) := fun x481 => liftO (some x481) >>= fun p482 => (pure true) >>= fun t483 => if t483 = true then (((pure p482) >>= fun a485 => pcallM (app1 f_number_in) [a485]) >>= fun y484 => pure [y484]) else pure []
def b_numbers_in (words478 : D) : M (Out Unit Empty) := (((((pure words478) >>= fun x479 => itemsM x479) >>= fun xs480 => lcxM xs480 c_numbers_in_1) >>= fun x486 => tupleM x486) >>= fun d487 => (pure (Out.ret d487) : M (Out (Unit) (Empty))))
def f_numbers_in (words478 : D) : M D := defM (b_numbers_in words478)
def c_head_in_1 (places514 : D) : D → M (List D) := fun x528 => liftO (some x528) >>= fun p529 => (pure true) >>= fun t530 => if t530 = true then (((((pure places514) >>= fun x532 => (pure p529) >>= fun y533 => ixM x532 y533) >>= fun a538 => ((pure places514) >>= fun x536 => ((pure p529) >>= fun x534 => (pure (.int 1)) >>= fun y535 => addM x534 y535) >>= fun y537 => ixM x536 y537) >>= fun a539 => pure [a538, a539]) >>= fun xs540 => tupM xs540) >>= fun y531 => pure [y531]) else pure []
def b_head_in (row488 : D) : M (Out Unit Empty) := (((pure row488) >>= fun a490 => pcallM (app1 f_words_in) [a490]) >>= fun words489 => ((((((pure words489) >>= fun x491 => lenM x491) >>= fun x492 => (pure (.int 7)) >>= fun y493 => geM x492 y493) >>= fun x504 => andV x504 (((((pure words489) >>= fun x494 => lenM x494) >>= fun x495 => (pure (.int 2)) >>= fun y496 => modM x495 y496) >>= fun x497 => (pure (.int 1)) >>= fun y498 => eqM x497 y498) >>= fun x503 => andV x503 (((pure words489) >>= fun x499 => (pure (.int 0)) >>= fun y500 => ixM x499 y500) >>= fun x501 => (pure (.str "work")) >>= fun y502 => eqM x501 y502))) >>= fun a505 => pcallM (app1 f_need) [a505]) >>= fun _ => ((((((pure words489) >>= fun x508 => (((pure (.int 6)) >>= fun x506 => negM x506) >>= fun x507 => asI x507) >>= fun l509 => stepM 2 x508 l509) >>= fun x510 => tupleM x510) >>= fun x511 => (pure (.tup [.str "span", .str "every", .str "least"])) >>= fun y512 => eqM x511 y512) >>= fun a513 => pcallM (app1 f_need) [a513]) >>= fun _ => ((((pure words489) >>= fun x518 => ((pure (.int 1)) >>= fun x515 => asI x515) >>= fun l519 => (((pure (.int 6)) >>= fun x516 => negM x516) >>= fun x517 => asI x517) >>= fun u520 => sliceM x518 l519 u520) >>= fun a521 => pcallM (app1 f_numbers_in) [a521]) >>= fun places514 => (((((pure (.int 0)) >>= fun x524 => ((pure places514) >>= fun x523 => lenM x523) >>= fun y525 => (pure (.int 2)) >>= fun z526 => rng3M [x524, y525, z526]) >>= fun xs527 => lcM xs527 (c_head_in_1 places514)) >>= fun x541 => tupleM x541) >>= fun work522 => (((((pure work522) >>= fun a542 => pure [a542]) >>= fun xs543 => tupM xs543) >>= fun x549 => (((pure words489) >>= fun x546 => (((pure (.int 5)) >>= fun x544 => negM x544) >>= fun x545 => asI x545) >>= fun l547 => stepM 2 x546 l547) >>= fun a548 => pcallM (app1 f_numbers_in) [a548]) >>= fun y550 => addM x549 y550) >>= fun d551 => (pure (Out.ret d551) : M (Out (Unit) (Empty)))))))))
def f_head_in (row488 : D) : M D := defM (b_head_in row488)
def b_is_whole (thing552 : D) : M (Out Unit Empty) := ((((pure thing552) >>= fun x553 => isiM "int" x553) >>= fun x559 => andV x559 (((pure thing552) >>= fun x554 => (pure (.bl true)) >>= fun y555 => isM true x554 y555) >>= fun x558 => andV x558 ((pure thing552) >>= fun x556 => (pure (.bl false)) >>= fun y557 => isM true x556 y557))) >>= fun d560 => (pure (Out.ret d560) : M (Out (Unit) (Empty))))
def f_is_whole (thing552 : D) : M D := defM (b_is_whole thing552)
def b_is_stretch (thing561 : D) : M (Out Unit Empty) := ((((((pure thing561) >>= fun x562 => isiM "tuple" x562) >>= fun x563 => truM x563) >>= fun t564 => pure (!t564)) >>= fun t569 => if t569 = true then pure true else ((((pure thing561) >>= fun x565 => lenM x565) >>= fun x566 => (pure (.int 2)) >>= fun y567 => neM x566 y567) >>= fun b568 => asB b568)) >>= fun t570 => if t570 = true then obind ((pure (.bl false)) >>= fun d571 => (pure (Out.ret d571) : M (Out (Empty) (Empty)))) (fun e => e.elim) else (((((pure thing561) >>= fun x572 => (pure (.int 0)) >>= fun y573 => ixM x572 y573) >>= fun a574 => pcallM (app1 f_is_whole) [a574]) >>= fun x585 => andV x585 ((((pure thing561) >>= fun x575 => (pure (.int 1)) >>= fun y576 => ixM x575 y576) >>= fun a577 => pcallM (app1 f_is_whole) [a577]) >>= fun x584 => andV x584 (((pure thing561) >>= fun x578 => (pure (.int 0)) >>= fun y579 => ixM x578 y579) >>= fun x582 => ((pure thing561) >>= fun x580 => (pure (.int 1)) >>= fun y581 => ixM x580 y581) >>= fun y583 => ltM x582 y583))) >>= fun d586 => (pure (Out.ret d586) : M (Out (Unit) (Empty)))))
def f_is_stretch (thing561 : D) : M D := defM (b_is_stretch thing561)
def c_check_work_1 : D → M (List D) := fun x593 => liftO (some x593) >>= fun p594 => (pure true) >>= fun t595 => if t595 = true then (((pure p594) >>= fun a597 => pcallM (app1 f_is_stretch) [a597]) >>= fun y596 => pure [y596]) else pure []
def l_check_work_2 : D → (Unit) → M (Out (Unit) (Unit)) := fun x612 t603 => liftO ((unpT (uCons some (uCons some uNil))) x612) >>= fun p613 => (((((pure p613.2.1) >>= fun x614 => (pure (.int 0)) >>= fun y615 => ixM x614 y615) >>= fun x618 => ((pure p613.1) >>= fun x616 => (pure (.int 1)) >>= fun y617 => ixM x616 y617) >>= fun y619 => ltM x618 y619) >>= fun b620 => asB b620) >>= fun t621 => if t621 = true then obind (throwM "BadWork" : M (Out (Empty) (Unit))) (fun e => e.elim) else (pure (Out.nx ()) : M (Out (Unit) (Unit))))
def b_check_work (work587 : D) : M (Out Unit Empty) := ((((((pure work587) >>= fun x588 => isiM "tuple" x588) >>= fun x589 => truM x589) >>= fun t590 => pure (!t590)) >>= fun t601 => if t601 = true then pure true else ((((((pure work587) >>= fun x591 => itemsM x591) >>= fun xs592 => lcM xs592 c_check_work_1) >>= fun x598 => allM x598) >>= fun x599 => truM x599) >>= fun t600 => pure (!t600))) >>= fun t602 => if t602 = true then obind (throwM "BadWork" : M (Out (Empty) (Empty))) (fun e => e.elim) else (((pure work587) >>= fun x609 => ((pure work587) >>= fun x606 => ((pure (.int 1)) >>= fun x605 => asI x605) >>= fun l607 => (pure none) >>= fun u608 => sliceM x606 l607 u608) >>= fun y610 => zipM [x609, y610]) >>= fun xs611 => obind (forM xs611 (() : Unit) l_check_work_2) (fun s604 => (pure (Out.nx ()) : M (Out (Unit) (Empty))))))
def f_check_work (work587 : D) : M D := defM (b_check_work work587)
def l_check_bounds_1 : D → (Unit) → M (Out (Unit) (Unit)) := fun x634 t625 => liftO (some x634) >>= fun p635 => ((((((pure p635) >>= fun a636 => pcallM (app1 f_is_whole) [a636]) >>= fun x637 => truM x637) >>= fun t638 => pure (!t638)) >>= fun t642 => if t642 = true then pure true else (((pure p635) >>= fun x639 => (pure (.int 1)) >>= fun y640 => ltM x639 y640) >>= fun b641 => asB b641)) >>= fun t643 => if t643 = true then obind (throwM "BadBound" : M (Out (Empty) (Unit))) (fun e => e.elim) else (pure (Out.nx ()) : M (Out (Unit) (Unit))))
def b_check_bounds (span622 : D) (every623 : D) (least624 : D) : M (Out Unit Empty) := (((((pure span622) >>= fun a629 => ((pure every623) >>= fun a627 => (pure least624) >>= fun a628 => pure [a627, a628]) >>= fun as630 => pure (a629 :: as630)) >>= fun xs631 => tupM xs631) >>= fun x632 => itemsM x632) >>= fun xs633 => obind (forM xs633 (() : Unit) l_check_bounds_1) (fun s626 => ((((pure least624) >>= fun x644 => (pure every623) >>= fun y645 => ltM x644 y645) >>= fun b646 => asB b646) >>= fun t647 => if t647 = true then obind (throwM "BadBound" : M (Out (Empty) (Empty))) (fun e => e.elim) else (pure (Out.nx ()) : M (Out (Unit) (Empty))))))
def f_check_bounds (span622 : D) (every623 : D) (least624 : D) : M D := defM (b_check_bounds span622 every623 least624)
def b_line_in (row648 : D) : M (Out Unit Empty) := (((pure row648) >>= fun a650 => pcallM (app1 f_words_in) [a650]) >>= fun words649 => (((((pure words649) >>= fun x651 => (pure (.int 0)) >>= fun y652 => ixM x651 y652) >>= fun x653 => (pure (.str "told")) >>= fun y654 => eqM x653 y654) >>= fun b655 => asB b655) >>= fun t656 => if t656 = true then obind (((((pure words649) >>= fun x657 => lenM x657) >>= fun x658 => (pure (.int 4)) >>= fun y659 => geM x658 y659) >>= fun a660 => pcallM (app1 f_need) [a660]) >>= fun _ => ((((pure words649) >>= fun x663 => ((pure (.int 1)) >>= fun x662 => asI x662) >>= fun l664 => (pure none) >>= fun u665 => sliceM x663 l664 u665) >>= fun a666 => pcallM (app1 f_numbers_in) [a666]) >>= fun numbers661 => ((((((pure (.str "told")) >>= fun a667 => pure [a667]) >>= fun xs668 => tupM xs668) >>= fun x673 => ((pure numbers661) >>= fun x670 => (pure none) >>= fun l671 => ((pure (.int 3)) >>= fun x669 => asI x669) >>= fun u672 => sliceM x670 l671 u672) >>= fun y674 => addM x673 y674) >>= fun x681 => ((((pure numbers661) >>= fun x676 => ((pure (.int 3)) >>= fun x675 => asI x675) >>= fun l677 => (pure none) >>= fun u678 => sliceM x676 l677 u678) >>= fun a679 => pure [a679]) >>= fun xs680 => tupM xs680) >>= fun y682 => addM x681 y682) >>= fun d683 => (pure (Out.ret d683) : M (Out (Empty) (Empty)))))) (fun e => e.elim) else ((((((pure words649) >>= fun x684 => (pure (.int 0)) >>= fun y685 => ixM x684 y685) >>= fun x686 => kinM false kd_COUNTS x686) >>= fun x693 => andV x693 (((pure words649) >>= fun x687 => lenM x687) >>= fun x691 => (((pure words649) >>= fun x688 => (pure (.int 0)) >>= fun y689 => ixM x688 y689) >>= fun x690 => kgetM kd_COUNTS x690) >>= fun y692 => eqM x691 y692)) >>= fun a694 => pcallM (app1 f_need) [a694]) >>= fun _ => (((((pure words649) >>= fun x695 => (pure (.int 0)) >>= fun y696 => ixM x695 y696) >>= fun x697 => (pure (.str "lent")) >>= fun y698 => eqM x697 y698) >>= fun b699 => asB b699) >>= fun t700 => if t700 = true then obind (((((pure (.str "lent")) >>= fun a708 => ((((pure words649) >>= fun x701 => (pure (.int 1)) >>= fun y702 => ixM x701 y702) >>= fun a703 => pcallM (app1 f_number_in) [a703]) >>= fun a706 => ((pure words649) >>= fun x704 => (pure (.int 2)) >>= fun y705 => ixM x704 y705) >>= fun a707 => pure [a706, a707]) >>= fun as709 => pure (a708 :: as709)) >>= fun xs710 => tupM xs710) >>= fun x716 => (((pure words649) >>= fun x712 => ((pure (.int 3)) >>= fun x711 => asI x711) >>= fun l713 => (pure none) >>= fun u714 => sliceM x712 l713 u714) >>= fun a715 => pcallM (app1 f_numbers_in) [a715]) >>= fun y717 => addM x716 y717) >>= fun d718 => (pure (Out.ret d718) : M (Out (Empty) (Empty)))) (fun e => e.elim) else ((((((pure words649) >>= fun x719 => (pure (.int 0)) >>= fun y720 => ixM x719 y720) >>= fun a721 => pure [a721]) >>= fun xs722 => tupM xs722) >>= fun x728 => (((pure words649) >>= fun x724 => ((pure (.int 1)) >>= fun x723 => asI x723) >>= fun l725 => (pure none) >>= fun u726 => sliceM x724 l725 u726) >>= fun a727 => pcallM (app1 f_numbers_in) [a727]) >>= fun y729 => addM x728 y729) >>= fun d730 => (pure (Out.ret d730) : M (Out (Unit) (Empty))))))))
def f_line_in (row648 : D) : M D := defM (b_line_in row648)
def c_read_text_1 : D → M (List D) := fun x746 => liftO (some x746) >>= fun p747 => (pure true) >>= fun t748 => if t748 = true then (((pure p747) >>= fun a750 => pcallM (app1 f_line_in) [a750]) >>= fun y749 => pure [y749]) else pure []
def b_read_text (text731 : D) : M (Out Unit Empty) := (((pure text731) >>= fun a733 => pcallM (app1 f_whole_rows) [a733]) >>= fun rows732 => ((((pure rows732) >>= fun x734 => (pure (.int 0)) >>= fun y735 => ixM x734 y735) >>= fun a736 => pcallM (app1 f_head_in) [a736]) >>= fun d737 => liftO ((unpT (uCons some (uCons some (uCons some (uCons some uNil))))) d737) >>= fun p738 => ((((((pure rows732) >>= fun x741 => ((pure (.int 1)) >>= fun x740 => asI x740) >>= fun l742 => (pure none) >>= fun u743 => sliceM x741 l742 u743) >>= fun x744 => itemsM x744) >>= fun xs745 => lcxM xs745 c_read_text_1) >>= fun x751 => tupleM x751) >>= fun lines739 => (((pure p738.1) >>= fun a752 => pcallM (app1 f_check_work) [a752]) >>= fun _ => (((pure p738.2.1) >>= fun a753 => (pure p738.2.2.1) >>= fun a754 => (pure p738.2.2.2.1) >>= fun a755 => pcallM (app3 f_check_bounds) [a753, a754, a755]) >>= fun _ => ((((pure p738.1) >>= fun a762 => ((pure p738.2.1) >>= fun a760 => ((pure p738.2.2.1) >>= fun a758 => ((pure p738.2.2.2.1) >>= fun a756 => (pure lines739) >>= fun a757 => pure [a756, a757]) >>= fun as759 => pure (a758 :: as759)) >>= fun as761 => pure (a760 :: as761)) >>= fun as763 => pure (a762 :: as763)) >>= fun xs764 => tupM xs764) >>= fun d765 => (pure (Out.ret d765) : M (Out (Unit) (Empty)))))))))
def f_read_text (text731 : D) : M D := defM (b_read_text text731)
def c_law_word_1 : D → M (List D) := fun x863 => liftO ((unpH (uCons some (uCons some uNil))) x863) >>= fun p864 => ((pure p864.2.1) >>= fun x867 => truM x867) >>= fun t865 => if t865 = true then ((pure p864.1) >>= fun y866 => pure [y866]) else pure []
def b_law_word (z766 : Str) : M (Out Unit Empty) := ((((isEZ isE "BadBound" z766) >>= fun a772 => ((isEZ isE "BadCut" z766) >>= fun a770 => ((isEZ isE "BadJoin" z766) >>= fun a768 => (isEZ isE "BadLine" z766) >>= fun a769 => pure [a768, a769]) >>= fun as771 => pure (a770 :: as771)) >>= fun as773 => pure (a772 :: as773)) >>= fun xs774 => lstM xs774) >>= fun kinds767 => (((pure kinds767) >>= fun x781 => (((isEZ isE "BadMoment" z766) >>= fun a778 => ((isEZ isE "BadPlace" z766) >>= fun a776 => (isEZ isE "BadPlan" z766) >>= fun a777 => pure [a776, a777]) >>= fun as779 => pure (a778 :: as779)) >>= fun xs780 => lstM xs780) >>= fun y782 => addM x781 y782) >>= fun kinds775 => (((pure kinds775) >>= fun x789 => (((isEZ isE "BadTelling" z766) >>= fun a786 => ((isEZ isE "BadWork" z766) >>= fun a784 => (isEZ isE "BadWorker" z766) >>= fun a785 => pure [a784, a785]) >>= fun as787 => pure (a786 :: as787)) >>= fun xs788 => lstM xs788) >>= fun y790 => addM x789 y790) >>= fun kinds783 => (((pure kinds783) >>= fun x799 => (((isEZ isE "Down" z766) >>= fun a796 => ((isEZ isE "Fallen" z766) >>= fun a794 => ((isEZ isE "Lost" z766) >>= fun a792 => (isEZ isE "NoBook" z766) >>= fun a793 => pure [a792, a793]) >>= fun as795 => pure (a794 :: as795)) >>= fun as797 => pure (a796 :: as797)) >>= fun xs798 => lstM xs798) >>= fun y800 => addM x799 y800) >>= fun kinds791 => (((pure kinds791) >>= fun x807 => (((isEZ isE "NoLending" z766) >>= fun a804 => ((isEZ isE "NoLine" z766) >>= fun a802 => (isEZ isE "NoPiece" z766) >>= fun a803 => pure [a802, a803]) >>= fun as805 => pure (a804 :: as805)) >>= fun xs806 => lstM xs806) >>= fun y808 => addM x807 y808) >>= fun kinds801 => (((pure kinds801) >>= fun x815 => (((isEZ isE "NoText" z766) >>= fun a812 => ((isEZ isE "Otherwise" z766) >>= fun a810 => (isEZ isE "Twice" z766) >>= fun a811 => pure [a810, a811]) >>= fun as813 => pure (a812 :: as813)) >>= fun xs814 => lstM xs814) >>= fun y816 => addM x815 y816) >>= fun kinds809 => ((((pure (.str "bound")) >>= fun a836 => ((pure (.str "cut")) >>= fun a834 => ((pure (.str "join")) >>= fun a832 => ((pure (.str "line")) >>= fun a830 => ((pure (.str "moment")) >>= fun a828 => ((pure (.str "place")) >>= fun a826 => ((pure (.str "plan")) >>= fun a824 => ((pure (.str "telling")) >>= fun a822 => ((pure (.str "work")) >>= fun a820 => ((pure (.str "worker")) >>= fun a818 => (pure (.str "down")) >>= fun a819 => pure [a818, a819]) >>= fun as821 => pure (a820 :: as821)) >>= fun as823 => pure (a822 :: as823)) >>= fun as825 => pure (a824 :: as825)) >>= fun as827 => pure (a826 :: as827)) >>= fun as829 => pure (a828 :: as829)) >>= fun as831 => pure (a830 :: as831)) >>= fun as833 => pure (a832 :: as833)) >>= fun as835 => pure (a834 :: as835)) >>= fun as837 => pure (a836 :: as837)) >>= fun xs838 => lstM xs838) >>= fun words817 => (((pure words817) >>= fun x857 => (((pure (.str "fallen")) >>= fun a854 => ((pure (.str "lost")) >>= fun a852 => ((pure (.str "book")) >>= fun a850 => ((pure (.str "lending")) >>= fun a848 => ((pure (.str "row")) >>= fun a846 => ((pure (.str "piece")) >>= fun a844 => ((pure (.str "text")) >>= fun a842 => ((pure (.str "otherwise")) >>= fun a840 => (pure (.str "twice")) >>= fun a841 => pure [a840, a841]) >>= fun as843 => pure (a842 :: as843)) >>= fun as845 => pure (a844 :: as845)) >>= fun as847 => pure (a846 :: as847)) >>= fun as849 => pure (a848 :: as849)) >>= fun as851 => pure (a850 :: as851)) >>= fun as853 => pure (a852 :: as853)) >>= fun as855 => pure (a854 :: as855)) >>= fun xs856 => lstM xs856) >>= fun y858 => addM x857 y858) >>= fun words839 => ((((pure words839) >>= fun x860 => (pure kinds809) >>= fun y861 => zipLM [x860, y861]) >>= fun xs862 => lcM xs862 c_law_word_1) >>= fun found_here859 => ((((pure found_here859) >>= fun x870 => (((pure (.str "other")) >>= fun a868 => pure [a868]) >>= fun xs869 => lstM xs869) >>= fun y871 => addM x870 y871) >>= fun x881 => ((((((pure found_here859) >>= fun x872 => lenM x872) >>= fun x873 => (pure (.int 1)) >>= fun y874 => neM x873 y874) >>= fun x876 => orV x876 ((isEZ isE "ValueError" z766) >>= fun x875 => notV x875)) >>= fun x877 => intM x877) >>= fun x879 => ((pure found_here859) >>= fun x878 => lenM x878) >>= fun y880 => mulM x879 y880) >>= fun y882 => ixM x881 y882) >>= fun d883 => (pure (Out.ret d883) : M (Out (Unit) (Empty)))))))))))))
def f_law_word (z766 : Str) : M D := defM (b_law_word z766)
def h_law_found_1 : Str → M (Out (D) (Empty)) := fun z886 => ((f_law_word z886) >>= fun found_here889 => (pure (Out.nx found_here889) : M (Out (D) (Empty))))
def b_law_found (text884 : D) : M (Out Unit Empty) := ((pure (D.str "none")) >>= fun found_here885 => (obind ((tryM (fun z => isE z "LentError") (((pure text884) >>= fun a888 => pcallM (app1 f_read_text) [a888]) >>= fun found_here887 => (pure (Out.nx found_here887) : M (Out (D) (Empty)))) h_law_found_1) : M (Out (D) (Empty))) (fun s890 => ((pure s890) >>= fun d891 => (pure (Out.ret d891) : M (Out (Unit) (Empty)))))))
def f_law_found (text884 : D) : M D := defM (b_law_found text884)
def b_law_draw (well_here892 : D) (most893 : D) : M (Out Unit Empty) := (((((pure well_here892) >>= fun x894 => (pure (.int 1)) >>= fun y895 => ixM x894 y895) >>= fun x896 => (pure (.int 0)) >>= fun y897 => gtM x896 y897) >>= fun b898 => asB b898) >>= fun t899 => if t899 = true then obind ((((pure well_here892) >>= fun x901 => (pure (.int 1)) >>= fun y902 => ixM x901 y902) >>= fun x903 => (pure most893) >>= fun y904 => modM x903 y904) >>= fun number_here900 => ((((pure well_here892) >>= fun x905 => (pure (.int 1)) >>= fun y906 => ixM x905 y906) >>= fun x907 => (pure most893) >>= fun y908 => fdivM x907 y908) >>= fun v909 => (pure well_here892) >>= fun x910 => (pure (.int 1)) >>= fun y911 => setIxM x910 y911 v909 >>= fun _ => ((pure number_here900) >>= fun d912 => (pure (Out.ret d912) : M (Out (Empty) (Empty)))))) (fun e => e.elim) else ((((pure well_here892) >>= fun x913 => (pure (.int 2)) >>= fun y914 => ixM x913 y914) >>= fun x915 => (pure (.int 1)) >>= fun y916 => addM x915 y916) >>= fun v917 => (pure well_here892) >>= fun x918 => (pure (.int 2)) >>= fun y919 => setIxM x918 y919 v917 >>= fun _ => (((((((pure well_here892) >>= fun x921 => (pure (.int 0)) >>= fun y922 => ixM x921 y922) >>= fun x927 => ((pure (.int 7919)) >>= fun x925 => ((pure well_here892) >>= fun x923 => (pure (.int 2)) >>= fun y924 => ixM x923 y924) >>= fun y926 => mulM x925 y926) >>= fun y928 => addM x927 y928) >>= fun x929 => (pure (.int 1)) >>= fun y930 => addM x929 y930) >>= fun x931 => (pure (.int 48271)) >>= fun y932 => mulM x931 y932) >>= fun x933 => (pure (.int 2147483647)) >>= fun y934 => modM x933 y934) >>= fun number_here920 => ((((pure number_here920) >>= fun x940 => (((pure number_here920) >>= fun x936 => (pure (.int 1009)) >>= fun y937 => fdivM x936 y937) >>= fun x938 => (pure (.int 69621)) >>= fun y939 => addM x938 y939) >>= fun y941 => mulM x940 y941) >>= fun x942 => (pure (.int 2147483647)) >>= fun y943 => modM x942 y943) >>= fun number_here935 => (((((pure number_here935) >>= fun x948 => (((pure number_here935) >>= fun x944 => (pure (.int 2003)) >>= fun y945 => fdivM x944 y945) >>= fun x946 => (pure (.int 40692)) >>= fun y947 => addM x946 y947) >>= fun y949 => mulM x948 y949) >>= fun x950 => (pure (.int 2147483399)) >>= fun y951 => modM x950 y951) >>= fun x952 => (pure most893) >>= fun y953 => modM x952 y953) >>= fun d954 => (pure (Out.ret d954) : M (Out (Unit) (Empty))))))))
def f_law_draw (well_here892 : D) (most893 : D) : M D := defM (b_law_draw well_here892 most893)
def l_law_free_work_1 (well_here955 : D) (found_here985 : D) : D → (D) → M (Out (D) (D)) := fun x993 t987 => liftO (some x993) >>= fun p994 => (((pure t987) >>= fun x1011 => ((((pure (.int 0)) >>= fun a1004 => (((pure well_here955) >>= fun a996 => (pure (.int 9)) >>= fun a997 => f_law_draw a996 a997) >>= fun a1002 => ((pure well_here955) >>= fun a998 => ((pure (.int 10)) >>= fun x999 => (pure (.int 9)) >>= fun y1000 => powM x999 y1000) >>= fun a1001 => f_law_draw a998 a1001) >>= fun a1003 => pure [a1002, a1003]) >>= fun as1005 => pure (a1004 :: as1005)) >>= fun xs1006 => lstM xs1006) >>= fun x1009 => ((pure well_here955) >>= fun a1007 => (pure (.int 3)) >>= fun a1008 => f_law_draw a1007 a1008) >>= fun y1010 => ixM x1009 y1010) >>= fun y1012 => addM x1011 y1012) >>= fun at995 => ((((pure at995) >>= fun x1014 => (pure (.int 1)) >>= fun y1015 => addM x1014 y1015) >>= fun x1027 => (((((pure well_here955) >>= fun a1016 => (pure (.int 9)) >>= fun a1017 => f_law_draw a1016 a1017) >>= fun a1020 => ((pure well_here955) >>= fun a1018 => (pure (.int 150)) >>= fun a1019 => f_law_draw a1018 a1019) >>= fun a1021 => pure [a1020, a1021]) >>= fun xs1022 => lstM xs1022) >>= fun x1025 => ((pure well_here955) >>= fun a1023 => (pure (.int 2)) >>= fun a1024 => f_law_draw a1023 a1024) >>= fun y1026 => ixM x1025 y1026) >>= fun y1028 => addM x1027 y1028) >>= fun high1013 => (((pure found_here985) >>= fun x1032 => lchk x1032 >>= fun _ => (((pure at995) >>= fun a1029 => (pure high1013) >>= fun a1030 => pure [a1029, a1030]) >>= fun xs1031 => tupM xs1031) >>= fun y1033 => appendM x1032 y1033) >>= fun _ => ((pure high1013) >>= fun at1034 => (pure (Out.nx at1034) : M (Out (D) (D)))))))
def b_law_free_work (well_here955 : D) : M (Out Unit Empty) := ((((pure (.int 0)) >>= fun x959 => ((pure (.int 10)) >>= fun x957 => (pure (.int 17)) >>= fun y958 => powM x957 y958) >>= fun y960 => subM x959 y960) >>= fun x965 => ((pure well_here955) >>= fun a961 => ((pure (.int 10)) >>= fun x962 => (pure (.int 6)) >>= fun y963 => powM x962 y963) >>= fun a964 => f_law_draw a961 a964) >>= fun y966 => subM x965 y966) >>= fun far_here956 => (((((((pure well_here955) >>= fun a968 => (pure (.int 100)) >>= fun a969 => f_law_draw a968 a969) >>= fun x970 => (pure (.int 50)) >>= fun y971 => subM x970 y971) >>= fun a978 => ((pure far_here956) >>= fun a976 => ((pure well_here955) >>= fun a972 => ((pure (.int 10)) >>= fun x973 => (pure (.int 17)) >>= fun y974 => powM x973 y974) >>= fun a975 => f_law_draw a972 a975) >>= fun a977 => pure [a976, a977]) >>= fun as979 => pure (a978 :: as979)) >>= fun xs980 => lstM xs980) >>= fun x983 => ((pure well_here955) >>= fun a981 => (pure (.int 3)) >>= fun a982 => f_law_draw a981 a982) >>= fun y984 => ixM x983 y984) >>= fun at967 => (((pure []) >>= fun xs986 => lstH xs986) >>= fun found_here985 => ((((pure well_here955) >>= fun a989 => (pure (.int 7)) >>= fun a990 => f_law_draw a989 a990) >>= fun x991 => rng1M [x991]) >>= fun xs992 => obind (forM xs992 (at967 : D) (l_law_free_work_1 well_here955 found_here985)) (fun s988 => (freezeM found_here985 >>= fun found_here1035 => (((pure found_here1035) >>= fun x1036 => tupleM x1036) >>= fun d1037 => (pure (Out.ret d1037) : M (Out (Unit) (Empty))))))))))
def f_law_free_work (well_here955 : D) : M D := defM (b_law_free_work well_here955)
def b_law_free_limits (well_here1038 : D) : M (Out Unit Empty) := (((pure (.int 1)) >>= fun x1053 => (((((pure well_here1038) >>= fun a1040 => (pure (.int 9)) >>= fun a1041 => f_law_draw a1040 a1041) >>= fun a1046 => ((pure well_here1038) >>= fun a1042 => ((pure (.int 10)) >>= fun x1043 => (pure (.int 17)) >>= fun y1044 => powM x1043 y1044) >>= fun a1045 => f_law_draw a1042 a1045) >>= fun a1047 => pure [a1046, a1047]) >>= fun xs1048 => lstM xs1048) >>= fun x1051 => ((pure well_here1038) >>= fun a1049 => (pure (.int 2)) >>= fun a1050 => f_law_draw a1049 a1050) >>= fun y1052 => ixM x1051 y1052) >>= fun y1054 => addM x1053 y1054) >>= fun every1039 => (((pure (.int 1)) >>= fun x1069 => (((((pure well_here1038) >>= fun a1056 => (pure (.int 9)) >>= fun a1057 => f_law_draw a1056 a1057) >>= fun a1062 => ((pure well_here1038) >>= fun a1058 => ((pure (.int 10)) >>= fun x1059 => (pure (.int 17)) >>= fun y1060 => powM x1059 y1060) >>= fun a1061 => f_law_draw a1058 a1061) >>= fun a1063 => pure [a1062, a1063]) >>= fun xs1064 => lstM xs1064) >>= fun x1067 => ((pure well_here1038) >>= fun a1065 => (pure (.int 2)) >>= fun a1066 => f_law_draw a1065 a1066) >>= fun y1068 => ixM x1067 y1068) >>= fun y1070 => addM x1069 y1070) >>= fun span1055 => ((((pure span1055) >>= fun a1090 => ((pure every1039) >>= fun a1088 => ((pure every1039) >>= fun x1086 => ((((pure (.int 0)) >>= fun a1079 => (((pure well_here1038) >>= fun a1071 => (pure (.int 9)) >>= fun a1072 => f_law_draw a1071 a1072) >>= fun a1077 => ((pure well_here1038) >>= fun a1073 => ((pure (.int 10)) >>= fun x1074 => (pure (.int 9)) >>= fun y1075 => powM x1074 y1075) >>= fun a1076 => f_law_draw a1073 a1076) >>= fun a1078 => pure [a1077, a1078]) >>= fun as1080 => pure (a1079 :: as1080)) >>= fun xs1081 => lstM xs1081) >>= fun x1084 => ((pure well_here1038) >>= fun a1082 => (pure (.int 3)) >>= fun a1083 => f_law_draw a1082 a1083) >>= fun y1085 => ixM x1084 y1085) >>= fun y1087 => addM x1086 y1087) >>= fun a1089 => pure [a1088, a1089]) >>= fun as1091 => pure (a1090 :: as1091)) >>= fun xs1092 => tupM xs1092) >>= fun d1093 => (pure (Out.ret d1093) : M (Out (Unit) (Empty))))))
def f_law_free_limits (well_here1038 : D) : M D := defM (b_law_free_limits well_here1038)
def c_law_head_1 : D → M (List D) := fun x1133 => liftO (some x1133) >>= fun p1134 => (pure true) >>= fun t1135 => if t1135 = true then (((pure p1134) >>= fun x1137 => strM x1137) >>= fun y1136 => pure [y1136]) else pure []
def l_law_head_2 : D → (D) → M (Out (D) (D)) := fun x1103 t1099 => liftO ((unpT (uCons some (uCons some uNil))) x1103) >>= fun p1104 => (((pure t1099) >>= fun x1109 => (((pure p1104.1) >>= fun a1106 => (pure p1104.2.1) >>= fun a1107 => pure [a1106, a1107]) >>= fun xs1108 => lstM xs1108) >>= fun y1110 => addM x1109 y1110) >>= fun parts1105 => (pure (Out.nx parts1105) : M (Out (D) (D))))
def b_law_head (work1094 : D) (limits1095 : D) : M (Out Unit Empty) := ((((pure (.str "work")) >>= fun a1097 => pure [a1097]) >>= fun xs1098 => lstM xs1098) >>= fun parts1096 => (((pure work1094) >>= fun x1101 => itemsM x1101) >>= fun xs1102 => obind (forM xs1102 (parts1096 : D) l_law_head_2) (fun s1100 => (((pure s1100) >>= fun x1129 => (((pure (.str "span")) >>= fun a1126 => (((pure limits1095) >>= fun x1112 => (pure (.int 0)) >>= fun y1113 => ixM x1112 y1113) >>= fun a1124 => ((pure (.str "every")) >>= fun a1122 => (((pure limits1095) >>= fun x1114 => (pure (.int 1)) >>= fun y1115 => ixM x1114 y1115) >>= fun a1120 => ((pure (.str "least")) >>= fun a1118 => ((pure limits1095) >>= fun x1116 => (pure (.int 2)) >>= fun y1117 => ixM x1116 y1117) >>= fun a1119 => pure [a1118, a1119]) >>= fun as1121 => pure (a1120 :: as1121)) >>= fun as1123 => pure (a1122 :: as1123)) >>= fun as1125 => pure (a1124 :: as1125)) >>= fun as1127 => pure (a1126 :: as1127)) >>= fun xs1128 => lstM xs1128) >>= fun y1130 => addM x1129 y1130) >>= fun parts1111 => ((((pure (.str " ")) >>= fun x1138 => schk x1138 >>= fun _ => (((pure parts1111) >>= fun x1131 => itemsM x1131) >>= fun xs1132 => lcM xs1132 c_law_head_1) >>= fun y1139 => joinM x1138 y1139) >>= fun x1140 => (pure (.str "\n")) >>= fun y1141 => addM x1140 y1141) >>= fun d1142 => (pure (Out.ret d1142) : M (Out (Unit) (Empty))))))))
def f_law_head (work1094 : D) (limits1095 : D) : M D := defM (b_law_head work1094 limits1095)
def b_law_some_head (well_here1143 : D) : M (Out Unit Empty) := (((pure well_here1143) >>= fun a1145 => f_law_free_work a1145) >>= fun work1144 => (((pure well_here1143) >>= fun a1147 => f_law_free_limits a1147) >>= fun limits1146 => (((pure well_here1143) >>= fun a1149 => (pure (.int 12)) >>= fun a1150 => f_law_draw a1149 a1150) >>= fun way1148 => ((((pure way1148) >>= fun x1151 => (pure (.int 0)) >>= fun y1152 => eqM x1151 y1152) >>= fun b1153 => asB b1153) >>= fun t1154 => obind ((if t1154 = true then (((pure work1144) >>= fun x1161 => (((((pure (.int 5)) >>= fun a1156 => (pure (.int 5)) >>= fun a1157 => pure [a1156, a1157]) >>= fun xs1158 => tupM xs1158) >>= fun a1159 => pure [a1159]) >>= fun xs1160 => tupM xs1160) >>= fun y1162 => addM x1161 y1162) >>= fun work1155 => (pure (Out.nx work1155) : M (Out (D) (Empty)))) else (pure (Out.nx work1144) : M (Out (D) (Empty)))) : M (Out (D) (Empty))) (fun s1163 => ((((pure way1148) >>= fun x1164 => (pure (.int 1)) >>= fun y1165 => eqM x1164 y1165) >>= fun b1166 => asB b1166) >>= fun t1167 => obind ((if t1167 = true then (((pure s1163) >>= fun x1178 => (((((pure (.int 3)) >>= fun a1169 => (pure (.int 9)) >>= fun a1170 => pure [a1169, a1170]) >>= fun xs1171 => tupM xs1171) >>= fun a1175 => (((pure (.int 8)) >>= fun a1172 => (pure (.int 12)) >>= fun a1173 => pure [a1172, a1173]) >>= fun xs1174 => tupM xs1174) >>= fun a1176 => pure [a1175, a1176]) >>= fun xs1177 => tupM xs1177) >>= fun y1179 => addM x1178 y1179) >>= fun work1168 => (pure (Out.nx work1168) : M (Out (D) (Empty)))) else (pure (Out.nx s1163) : M (Out (D) (Empty)))) : M (Out (D) (Empty))) (fun s1180 => ((((pure way1148) >>= fun x1181 => (pure (.int 2)) >>= fun y1182 => eqM x1181 y1182) >>= fun b1183 => asB b1183) >>= fun t1184 => obind ((if t1184 = true then (((((((pure (.int 7)) >>= fun a1186 => (pure (.int 2)) >>= fun a1187 => pure [a1186, a1187]) >>= fun xs1188 => tupM xs1188) >>= fun a1189 => pure [a1189]) >>= fun xs1190 => tupM xs1190) >>= fun x1191 => (pure s1180) >>= fun y1192 => addM x1191 y1192) >>= fun work1185 => (pure (Out.nx work1185) : M (Out (D) (Empty)))) else (pure (Out.nx s1180) : M (Out (D) (Empty)))) : M (Out (D) (Empty))) (fun s1193 => (((((pure way1148) >>= fun x1194 => (pure (.int 1)) >>= fun y1195 => gtM x1194 y1195) >>= fun b1196 => asB b1196) >>= fun t1200 => if t1200 = true then (((pure way1148) >>= fun x1197 => (pure (.int 5)) >>= fun y1198 => ltM x1197 y1198) >>= fun b1199 => asB b1199) else pure false) >>= fun t1201 => obind ((if t1201 = true then (((((((pure (.int 0)) >>= fun a1205 => ((pure (.int 1)) >>= fun a1203 => (pure (.int 1)) >>= fun a1204 => pure [a1203, a1204]) >>= fun as1206 => pure (a1205 :: as1206)) >>= fun xs1207 => tupM xs1207) >>= fun a1243 => ((((pure (.int 1)) >>= fun a1210 => ((pure (.int 0)) >>= fun a1208 => (pure (.int 1)) >>= fun a1209 => pure [a1208, a1209]) >>= fun as1211 => pure (a1210 :: as1211)) >>= fun xs1212 => tupM xs1212) >>= fun a1241 => ((((pure (.int 1)) >>= fun a1215 => ((pure (.int 1)) >>= fun a1213 => (pure (.int 0)) >>= fun a1214 => pure [a1213, a1214]) >>= fun as1216 => pure (a1215 :: as1216)) >>= fun xs1217 => tupM xs1217) >>= fun a1239 => ((((pure (.int 5)) >>= fun a1220 => ((pure (.int 3)) >>= fun a1218 => (pure (.int 2)) >>= fun a1219 => pure [a1218, a1219]) >>= fun as1221 => pure (a1220 :: as1221)) >>= fun xs1222 => tupM xs1222) >>= fun a1237 => (((((pure (.int 0)) >>= fun x1223 => (pure (.int 1)) >>= fun y1224 => subM x1223 y1224) >>= fun a1227 => ((pure (.int 1)) >>= fun a1225 => (pure (.int 1)) >>= fun a1226 => pure [a1225, a1226]) >>= fun as1228 => pure (a1227 :: as1228)) >>= fun xs1229 => tupM xs1229) >>= fun a1235 => (((pure (.int 2)) >>= fun a1232 => ((pure (.int 9)) >>= fun a1230 => (pure (.int 8)) >>= fun a1231 => pure [a1230, a1231]) >>= fun as1233 => pure (a1232 :: as1233)) >>= fun xs1234 => tupM xs1234) >>= fun a1236 => pure [a1235, a1236]) >>= fun as1238 => pure (a1237 :: as1238)) >>= fun as1240 => pure (a1239 :: as1240)) >>= fun as1242 => pure (a1241 :: as1242)) >>= fun as1244 => pure (a1243 :: as1244)) >>= fun xs1245 => lstM xs1245) >>= fun x1248 => ((pure well_here1143) >>= fun a1246 => (pure (.int 6)) >>= fun a1247 => f_law_draw a1246 a1247) >>= fun y1249 => ixM x1248 y1249) >>= fun limits1202 => (pure (Out.nx limits1202) : M (Out (D) (Empty)))) else (pure (Out.nx limits1146) : M (Out (D) (Empty)))) : M (Out (D) (Empty))) (fun s1250 => ((((pure s1193) >>= fun a1251 => (pure s1250) >>= fun a1252 => pcallM (app2 f_law_head) [a1251, a1252]) >>= fun x1255 => (pure none) >>= fun l1256 => (((pure (.int 1)) >>= fun x1253 => negM x1253) >>= fun x1254 => asI x1254) >>= fun u1257 => sliceM x1255 l1256 u1257) >>= fun d1258 => (pure (Out.ret d1258) : M (Out (Unit) (Empty)))))))))))))))
def f_law_some_head (well_here1143 : D) : M D := defM (b_law_some_head well_here1143)
def c_law_any_word_1 (signs1260 : D) (well_here1259 : D) : D → M (List D) := fun x1267 => liftO (some x1267) >>= fun p1268 => (pure true) >>= fun t1269 => if t1269 = true then (((pure signs1260) >>= fun x1273 => ((pure well_here1259) >>= fun a1271 => (pure (.int 93)) >>= fun a1272 => f_law_draw a1271 a1272) >>= fun y1274 => ixM x1273 y1274) >>= fun y1270 => pure [y1270]) else pure []
def b_law_any_word (well_here1259 : D) : M (Out Unit Empty) := ((pure (D.str "!\"#$&'()*+,-./0123456789:;<=>?@ABCDEFGHIJKLMNOPQRSTUVWXYZ[\\]^_`abcdefghijklmnopqrstuvwxyz{|}~")) >>= fun signs1260 => (((pure (.str "")) >>= fun x1275 => schk x1275 >>= fun _ => ((((pure (.int 1)) >>= fun x1263 => ((pure well_here1259) >>= fun a1261 => (pure (.int 12)) >>= fun a1262 => f_law_draw a1261 a1262) >>= fun y1264 => addM x1263 y1264) >>= fun x1265 => rng1M [x1265]) >>= fun xs1266 => lcM xs1266 (c_law_any_word_1 signs1260 well_here1259)) >>= fun y1276 => joinM x1275 y1276) >>= fun d1277 => (pure (Out.ret d1277) : M (Out (Unit) (Empty)))))
def f_law_any_word (well_here1259 : D) : M D := defM (b_law_any_word well_here1259)
def b_law_spoilt_words (well_here1278 : D) (words1279 : D) : M (Out Unit Empty) := (((pure well_here1278) >>= fun a1281 => ((pure words1279) >>= fun x1282 => lenM x1282) >>= fun a1283 => f_law_draw a1281 a1283) >>= fun at1280 => ((((pure (.str "0")) >>= fun a1315 => ((pure (.str "-0")) >>= fun a1313 => ((pure (.str "05")) >>= fun a1311 => ((pure (.str "+5")) >>= fun a1309 => ((pure (.str "5.0")) >>= fun a1307 => ((pure (.str "x")) >>= fun a1305 => ((pure (.str "-")) >>= fun a1303 => (((pure (.str "1")) >>= fun x1285 => (pure (.int 18)) >>= fun y1286 => mulSM x1285 y1286) >>= fun a1301 => (((pure (.str "1")) >>= fun x1287 => (pure (.int 19)) >>= fun y1288 => mulSM x1287 y1288) >>= fun a1299 => (((pure (.str "-")) >>= fun x1291 => ((pure (.str "9")) >>= fun x1289 => (pure (.int 18)) >>= fun y1290 => mulSM x1289 y1290) >>= fun y1292 => addM x1291 y1292) >>= fun a1297 => ((pure (.str "span")) >>= fun a1295 => ((pure (.str "every")) >>= fun a1293 => (pure (.str "least")) >>= fun a1294 => pure [a1293, a1294]) >>= fun as1296 => pure (a1295 :: as1296)) >>= fun as1298 => pure (a1297 :: as1298)) >>= fun as1300 => pure (a1299 :: as1300)) >>= fun as1302 => pure (a1301 :: as1302)) >>= fun as1304 => pure (a1303 :: as1304)) >>= fun as1306 => pure (a1305 :: as1306)) >>= fun as1308 => pure (a1307 :: as1308)) >>= fun as1310 => pure (a1309 :: as1310)) >>= fun as1312 => pure (a1311 :: as1312)) >>= fun as1314 => pure (a1313 :: as1314)) >>= fun as1316 => pure (a1315 :: as1316)) >>= fun xs1317 => lstM xs1317) >>= fun some1284 => (((pure some1284) >>= fun x1348 => (((pure (.str "work")) >>= fun a1345 => ((pure (.str "lent")) >>= fun a1343 => ((pure (.str "told")) >>= fun a1341 => ((pure (.str "back")) >>= fun a1339 => ((pure (.str "cut")) >>= fun a1337 => ((pure (.str "join")) >>= fun a1335 => ((pure (.str "ann")) >>= fun a1333 => ((pure (.str "")) >>= fun a1331 => ((pure (.str "-1")) >>= fun a1329 => ((pure (.str "1")) >>= fun a1327 => ((pure (.str "7")) >>= fun a1325 => ((pure (.str "Lent")) >>= fun a1323 => ((pure (.str "--1")) >>= fun a1321 => ((pure (.str "1-")) >>= fun a1319 => (pure (.str "~")) >>= fun a1320 => pure [a1319, a1320]) >>= fun as1322 => pure (a1321 :: as1322)) >>= fun as1324 => pure (a1323 :: as1324)) >>= fun as1326 => pure (a1325 :: as1326)) >>= fun as1328 => pure (a1327 :: as1328)) >>= fun as1330 => pure (a1329 :: as1330)) >>= fun as1332 => pure (a1331 :: as1332)) >>= fun as1334 => pure (a1333 :: as1334)) >>= fun as1336 => pure (a1335 :: as1336)) >>= fun as1338 => pure (a1337 :: as1338)) >>= fun as1340 => pure (a1339 :: as1340)) >>= fun as1342 => pure (a1341 :: as1342)) >>= fun as1344 => pure (a1343 :: as1344)) >>= fun as1346 => pure (a1345 :: as1346)) >>= fun xs1347 => lstM xs1347) >>= fun y1349 => addM x1348 y1349) >>= fun some1318 => (((pure some1318) >>= fun x1359 => (((pure (.str "1_0")) >>= fun a1356 => ((pure (.str "_1")) >>= fun a1354 => ((pure (.str "1_")) >>= fun a1352 => ((pure well_here1278) >>= fun a1351 => f_law_any_word a1351) >>= fun a1353 => pure [a1352, a1353]) >>= fun as1355 => pure (a1354 :: as1355)) >>= fun as1357 => pure (a1356 :: as1357)) >>= fun xs1358 => lstM xs1358) >>= fun y1360 => addM x1359 y1360) >>= fun some1350 => (((pure well_here1278) >>= fun a1362 => (pure (.int 7)) >>= fun a1363 => f_law_draw a1362 a1363) >>= fun way1361 => ((((pure way1361) >>= fun x1364 => (pure (.int 0)) >>= fun y1365 => eqM x1364 y1365) >>= fun b1366 => asB b1366) >>= fun t1367 => if t1367 = true then obind ((((pure words1279) >>= fun x1369 => (pure none) >>= fun l1370 => ((pure at1280) >>= fun x1368 => asI x1368) >>= fun u1371 => sliceM x1369 l1370 u1371) >>= fun x1378 => ((pure words1279) >>= fun x1375 => (((pure at1280) >>= fun x1372 => (pure (.int 1)) >>= fun y1373 => addM x1372 y1373) >>= fun x1374 => asI x1374) >>= fun l1376 => (pure none) >>= fun u1377 => sliceM x1375 l1376 u1377) >>= fun y1379 => addM x1378 y1379) >>= fun d1380 => (pure (Out.ret d1380) : M (Out (Empty) (Empty)))) (fun e => e.elim) else ((((pure way1361) >>= fun x1381 => (pure (.int 1)) >>= fun y1382 => eqM x1381 y1382) >>= fun b1383 => asB b1383) >>= fun t1384 => if t1384 = true then obind ((((pure words1279) >>= fun x1388 => (pure none) >>= fun l1389 => (((pure at1280) >>= fun x1385 => (pure (.int 1)) >>= fun y1386 => addM x1385 y1386) >>= fun x1387 => asI x1387) >>= fun u1390 => sliceM x1388 l1389 u1390) >>= fun x1395 => ((pure words1279) >>= fun x1392 => ((pure at1280) >>= fun x1391 => asI x1391) >>= fun l1393 => (pure none) >>= fun u1394 => sliceM x1392 l1393 u1394) >>= fun y1396 => addM x1395 y1396) >>= fun d1397 => (pure (Out.ret d1397) : M (Out (Empty) (Empty)))) (fun e => e.elim) else ((((pure way1361) >>= fun x1398 => (pure (.int 2)) >>= fun y1399 => eqM x1398 y1399) >>= fun b1400 => asB b1400) >>= fun t1401 => if t1401 = true then obind (((pure well_here1278) >>= fun a1403 => ((pure words1279) >>= fun x1404 => lenM x1404) >>= fun a1405 => f_law_draw a1403 a1405) >>= fun other1402 => ((((pure words1279) >>= fun x1408 => (pure none) >>= fun l1409 => ((pure at1280) >>= fun x1407 => asI x1407) >>= fun u1410 => sliceM x1408 l1409 u1410) >>= fun x1417 => ((pure words1279) >>= fun x1414 => (((pure at1280) >>= fun x1411 => (pure (.int 1)) >>= fun y1412 => addM x1411 y1412) >>= fun x1413 => asI x1413) >>= fun l1415 => (pure none) >>= fun u1416 => sliceM x1414 l1415 u1416) >>= fun y1418 => addM x1417 y1418) >>= fun rest1406 => (((((pure rest1406) >>= fun x1420 => (pure none) >>= fun l1421 => ((pure other1402) >>= fun x1419 => asI x1419) >>= fun u1422 => sliceM x1420 l1421 u1422) >>= fun x1427 => ((((pure words1279) >>= fun x1423 => (pure at1280) >>= fun y1424 => ixM x1423 y1424) >>= fun a1425 => pure [a1425]) >>= fun xs1426 => lstM xs1426) >>= fun y1428 => addM x1427 y1428) >>= fun x1433 => ((pure rest1406) >>= fun x1430 => ((pure other1402) >>= fun x1429 => asI x1429) >>= fun l1431 => (pure none) >>= fun u1432 => sliceM x1430 l1431 u1432) >>= fun y1434 => addM x1433 y1434) >>= fun d1435 => (pure (Out.ret d1435) : M (Out (Empty) (Empty)))))) (fun e => e.elim) else (((pure some1350) >>= fun x1439 => ((pure well_here1278) >>= fun a1437 => (pure (.int 32)) >>= fun a1438 => f_law_draw a1437 a1438) >>= fun y1440 => ixM x1439 y1440) >>= fun odd1436 => (((((pure words1279) >>= fun x1442 => (pure none) >>= fun l1443 => ((pure at1280) >>= fun x1441 => asI x1441) >>= fun u1444 => sliceM x1442 l1443 u1444) >>= fun x1447 => (((pure odd1436) >>= fun a1445 => pure [a1445]) >>= fun xs1446 => lstM xs1446) >>= fun y1448 => addM x1447 y1448) >>= fun x1458 => ((pure words1279) >>= fun x1455 => (((pure at1280) >>= fun x1452 => (((pure way1361) >>= fun x1449 => (pure (.int 3)) >>= fun y1450 => gtM x1449 y1450) >>= fun x1451 => intM x1451) >>= fun y1453 => addM x1452 y1453) >>= fun x1454 => asI x1454) >>= fun l1456 => (pure none) >>= fun u1457 => sliceM x1455 l1456 u1457) >>= fun y1459 => addM x1458 y1459) >>= fun d1460 => (pure (Out.ret d1460) : M (Out (Unit) (Empty)))))))))))))
def f_law_spoilt_words (well_here1278 : D) (words1279 : D) : M D := defM (b_law_spoilt_words well_here1278 words1279)
def b_law_spoilt_rows (well_here1461 : D) (rows1462 : D) : M (Out Unit Empty) := (((pure well_here1461) >>= fun a1464 => ((pure rows1462) >>= fun x1465 => lenM x1465) >>= fun a1466 => f_law_draw a1464 a1466) >>= fun at1463 => (((pure well_here1461) >>= fun a1468 => ((pure rows1462) >>= fun x1469 => lenM x1469) >>= fun a1470 => f_law_draw a1468 a1470) >>= fun other1467 => (((pure well_here1461) >>= fun a1472 => (pure (.int 12)) >>= fun a1473 => f_law_draw a1472 a1473) >>= fun way1471 => ((((pure way1471) >>= fun x1474 => (pure (.int 0)) >>= fun y1475 => eqM x1474 y1475) >>= fun b1476 => asB b1476) >>= fun t1477 => if t1477 = true then obind ((((pure rows1462) >>= fun x1479 => (pure none) >>= fun l1480 => ((pure at1463) >>= fun x1478 => asI x1478) >>= fun u1481 => sliceM x1479 l1480 u1481) >>= fun x1488 => ((pure rows1462) >>= fun x1485 => (((pure at1463) >>= fun x1482 => (pure (.int 1)) >>= fun y1483 => addM x1482 y1483) >>= fun x1484 => asI x1484) >>= fun l1486 => (pure none) >>= fun u1487 => sliceM x1485 l1486 u1487) >>= fun y1489 => addM x1488 y1489) >>= fun d1490 => (pure (Out.ret d1490) : M (Out (Empty) (Empty)))) (fun e => e.elim) else ((((pure way1471) >>= fun x1491 => (pure (.int 1)) >>= fun y1492 => eqM x1491 y1492) >>= fun b1493 => asB b1493) >>= fun t1494 => if t1494 = true then obind ((((pure rows1462) >>= fun x1498 => (pure none) >>= fun l1499 => (((pure at1463) >>= fun x1495 => (pure (.int 1)) >>= fun y1496 => addM x1495 y1496) >>= fun x1497 => asI x1497) >>= fun u1500 => sliceM x1498 l1499 u1500) >>= fun x1505 => ((pure rows1462) >>= fun x1502 => ((pure at1463) >>= fun x1501 => asI x1501) >>= fun l1503 => (pure none) >>= fun u1504 => sliceM x1502 l1503 u1504) >>= fun y1506 => addM x1505 y1506) >>= fun d1507 => (pure (Out.ret d1507) : M (Out (Empty) (Empty)))) (fun e => e.elim) else ((((pure way1471) >>= fun x1508 => (pure (.int 2)) >>= fun y1509 => eqM x1508 y1509) >>= fun b1510 => asB b1510) >>= fun t1511 => if t1511 = true then obind ((((pure rows1462) >>= fun x1514 => (pure none) >>= fun l1515 => ((pure at1463) >>= fun x1513 => asI x1513) >>= fun u1516 => sliceM x1514 l1515 u1516) >>= fun x1523 => ((pure rows1462) >>= fun x1520 => (((pure at1463) >>= fun x1517 => (pure (.int 1)) >>= fun y1518 => addM x1517 y1518) >>= fun x1519 => asI x1519) >>= fun l1521 => (pure none) >>= fun u1522 => sliceM x1520 l1521 u1522) >>= fun y1524 => addM x1523 y1524) >>= fun rest1512 => (((((pure rest1512) >>= fun x1526 => (pure none) >>= fun l1527 => ((pure other1467) >>= fun x1525 => asI x1525) >>= fun u1528 => sliceM x1526 l1527 u1528) >>= fun x1533 => ((((pure rows1462) >>= fun x1529 => (pure at1463) >>= fun y1530 => ixM x1529 y1530) >>= fun a1531 => pure [a1531]) >>= fun xs1532 => lstM xs1532) >>= fun y1534 => addM x1533 y1534) >>= fun x1539 => ((pure rest1512) >>= fun x1536 => ((pure other1467) >>= fun x1535 => asI x1535) >>= fun l1537 => (pure none) >>= fun u1538 => sliceM x1536 l1537 u1538) >>= fun y1540 => addM x1539 y1540) >>= fun d1541 => (pure (Out.ret d1541) : M (Out (Empty) (Empty))))) (fun e => e.elim) else ((((pure way1471) >>= fun x1542 => (pure (.int 3)) >>= fun y1543 => eqM x1542 y1543) >>= fun b1544 => asB b1544) >>= fun t1545 => if t1545 = true then obind (((((pure rows1462) >>= fun x1547 => (pure none) >>= fun l1548 => ((pure at1463) >>= fun x1546 => asI x1546) >>= fun u1549 => sliceM x1547 l1548 u1549) >>= fun x1567 => ((((((pure (.str "")) >>= fun a1558 => ((pure (.str " ")) >>= fun a1556 => ((pure (.str "  ")) >>= fun a1554 => ((pure (.str "join")) >>= fun a1552 => ((pure (.str "work")) >>= fun a1550 => (pure (.str "join 0 ")) >>= fun a1551 => pure [a1550, a1551]) >>= fun as1553 => pure (a1552 :: as1553)) >>= fun as1555 => pure (a1554 :: as1555)) >>= fun as1557 => pure (a1556 :: as1557)) >>= fun as1559 => pure (a1558 :: as1559)) >>= fun xs1560 => lstM xs1560) >>= fun x1563 => ((pure well_here1461) >>= fun a1561 => (pure (.int 6)) >>= fun a1562 => f_law_draw a1561 a1562) >>= fun y1564 => ixM x1563 y1564) >>= fun a1565 => pure [a1565]) >>= fun xs1566 => lstM xs1566) >>= fun y1568 => addM x1567 y1568) >>= fun x1573 => ((pure rows1462) >>= fun x1570 => ((pure at1463) >>= fun x1569 => asI x1569) >>= fun l1571 => (pure none) >>= fun u1572 => sliceM x1570 l1571 u1572) >>= fun y1574 => addM x1573 y1574) >>= fun d1575 => (pure (Out.ret d1575) : M (Out (Empty) (Empty)))) (fun e => e.elim) else ((((pure way1471) >>= fun x1576 => (pure (.int 4)) >>= fun y1577 => eqM x1576 y1577) >>= fun b1578 => asB b1578) >>= fun t1579 => if t1579 = true then obind (((((pure rows1462) >>= fun x1581 => (pure none) >>= fun l1582 => ((pure at1463) >>= fun x1580 => asI x1580) >>= fun u1583 => sliceM x1581 l1582 u1583) >>= fun x1612 => ((((((((pure rows1462) >>= fun x1585 => ((pure at1463) >>= fun x1584 => asI x1584) >>= fun l1586 => (pure none) >>= fun u1587 => sliceM x1585 l1586 u1587) >>= fun x1590 => (((pure (.str "")) >>= fun a1588 => pure [a1588]) >>= fun xs1589 => lstM xs1589) >>= fun y1591 => addM x1590 y1591) >>= fun x1592 => (pure (.int 0)) >>= fun y1593 => ixM x1592 y1593) >>= fun x1594 => (pure (.str " ")) >>= fun y1595 => addM x1594 y1595) >>= fun x1608 => ((((pure rows1462) >>= fun x1599 => (((pure at1463) >>= fun x1596 => (pure (.int 1)) >>= fun y1597 => addM x1596 y1597) >>= fun x1598 => asI x1598) >>= fun l1600 => (pure none) >>= fun u1601 => sliceM x1599 l1600 u1601) >>= fun x1604 => (((pure (.str "")) >>= fun a1602 => pure [a1602]) >>= fun xs1603 => lstM xs1603) >>= fun y1605 => addM x1604 y1605) >>= fun x1606 => (pure (.int 0)) >>= fun y1607 => ixM x1606 y1607) >>= fun y1609 => addM x1608 y1609) >>= fun a1610 => pure [a1610]) >>= fun xs1611 => lstM xs1611) >>= fun y1613 => addM x1612 y1613) >>= fun x1620 => ((pure rows1462) >>= fun x1617 => (((pure at1463) >>= fun x1614 => (pure (.int 2)) >>= fun y1615 => addM x1614 y1615) >>= fun x1616 => asI x1616) >>= fun l1618 => (pure none) >>= fun u1619 => sliceM x1617 l1618 u1619) >>= fun y1621 => addM x1620 y1621) >>= fun d1622 => (pure (Out.ret d1622) : M (Out (Empty) (Empty)))) (fun e => e.elim) else ((((pure way1471) >>= fun x1623 => (pure (.int 5)) >>= fun y1624 => eqM x1623 y1624) >>= fun b1625 => asB b1625) >>= fun t1626 => if t1626 = true then obind (((((pure rows1462) >>= fun x1628 => (pure none) >>= fun l1629 => ((pure at1463) >>= fun x1627 => asI x1627) >>= fun u1630 => sliceM x1628 l1629 u1630) >>= fun x1648 => (((((((pure (.str " ")) >>= fun x1633 => ((pure rows1462) >>= fun x1631 => (pure at1463) >>= fun y1632 => ixM x1631 y1632) >>= fun y1634 => addM x1633 y1634) >>= fun a1639 => (((pure rows1462) >>= fun x1635 => (pure at1463) >>= fun y1636 => ixM x1635 y1636) >>= fun x1637 => (pure (.str " ")) >>= fun y1638 => addM x1637 y1638) >>= fun a1640 => pure [a1639, a1640]) >>= fun xs1641 => lstM xs1641) >>= fun x1644 => ((pure well_here1461) >>= fun a1642 => (pure (.int 2)) >>= fun a1643 => f_law_draw a1642 a1643) >>= fun y1645 => ixM x1644 y1645) >>= fun a1646 => pure [a1646]) >>= fun xs1647 => lstM xs1647) >>= fun y1649 => addM x1648 y1649) >>= fun x1656 => ((pure rows1462) >>= fun x1653 => (((pure at1463) >>= fun x1650 => (pure (.int 1)) >>= fun y1651 => addM x1650 y1651) >>= fun x1652 => asI x1652) >>= fun l1654 => (pure none) >>= fun u1655 => sliceM x1653 l1654 u1655) >>= fun y1657 => addM x1656 y1657) >>= fun d1658 => (pure (Out.ret d1658) : M (Out (Empty) (Empty)))) (fun e => e.elim) else (((pure (.str " ")) >>= fun x1666 => schk x1666 >>= fun _ => ((pure well_here1461) >>= fun a1660 => (((pure rows1462) >>= fun x1661 => (pure at1463) >>= fun y1662 => ixM x1661 y1662) >>= fun x1663 => schk x1663 >>= fun _ => (pure (.str " ")) >>= fun y1664 => splitM x1663 y1664) >>= fun a1665 => f_law_spoilt_words a1660 a1665) >>= fun y1667 => joinM x1666 y1667) >>= fun row1659 => (((((pure rows1462) >>= fun x1669 => (pure none) >>= fun l1670 => ((pure at1463) >>= fun x1668 => asI x1668) >>= fun u1671 => sliceM x1669 l1670 u1671) >>= fun x1674 => (((pure row1659) >>= fun a1672 => pure [a1672]) >>= fun xs1673 => lstM xs1673) >>= fun y1675 => addM x1674 y1675) >>= fun x1682 => ((pure rows1462) >>= fun x1679 => (((pure at1463) >>= fun x1676 => (pure (.int 1)) >>= fun y1677 => addM x1676 y1677) >>= fun x1678 => asI x1678) >>= fun l1680 => (pure none) >>= fun u1681 => sliceM x1679 l1680 u1681) >>= fun y1683 => addM x1682 y1683) >>= fun d1684 => (pure (Out.ret d1684) : M (Out (Unit) (Empty))))))))))))))
def f_law_spoilt_rows (well_here1461 : D) (rows1462 : D) : M D := defM (b_law_spoilt_rows well_here1461 rows1462)
def c_law_line_text_1 : D → M (List D) := fun x1704 => liftO (some x1704) >>= fun p1705 => (pure true) >>= fun t1706 => if t1706 = true then (((pure p1705) >>= fun x1708 => strM x1708) >>= fun y1707 => pure [y1707]) else pure []
def b_law_line_text (line1685 : D) : M (Out Unit Empty) := (((((pure line1685) >>= fun x1686 => (pure (.int 0)) >>= fun y1687 => ixM x1686 y1687) >>= fun x1688 => (pure (.str "told")) >>= fun y1689 => eqM x1688 y1689) >>= fun b1690 => asB b1690) >>= fun t1691 => obind ((if t1691 = true then ((((pure line1685) >>= fun x1694 => (pure none) >>= fun l1695 => ((pure (.int 4)) >>= fun x1693 => asI x1693) >>= fun u1696 => sliceM x1694 l1695 u1696) >>= fun x1699 => ((pure line1685) >>= fun x1697 => (pure (.int 4)) >>= fun y1698 => ixM x1697 y1698) >>= fun y1700 => addM x1699 y1700) >>= fun line1692 => (pure (Out.nx line1692) : M (Out (D) (Empty)))) else (pure (Out.nx line1685) : M (Out (D) (Empty)))) : M (Out (D) (Empty))) (fun s1701 => ((((pure (.str " ")) >>= fun x1709 => schk x1709 >>= fun _ => (((pure s1701) >>= fun x1702 => itemsM x1702) >>= fun xs1703 => lcM xs1703 c_law_line_text_1) >>= fun y1710 => joinM x1709 y1710) >>= fun x1711 => (pure (.str "\n")) >>= fun y1712 => addM x1711 y1712) >>= fun d1713 => (pure (Out.ret d1713) : M (Out (Unit) (Empty))))))
def f_law_line_text (line1685 : D) : M D := defM (b_law_line_text line1685)
def c_law_is_beyond_1 : D → M (List D) := fun x1723 => liftO ((unpT (uCons some (uCons some uNil))) x1723) >>= fun p1724 => (pure true) >>= fun t1725 => if t1725 = true then (((pure (.int 0)) >>= fun x1729 => ((pure p1724.2.1) >>= fun x1727 => (pure p1724.1) >>= fun y1728 => subM x1727 y1728) >>= fun y1730 => maxM x1729 y1730) >>= fun y1726 => pure [y1726]) else pure []
def b_law_is_beyond (row1714 : D) : M (Out Unit Empty) := (((pure row1714) >>= fun a1716 => pcallM (app1 f_law_head_of) [a1716]) >>= fun head_here1715 => ((((pure head_here1715) >>= fun x1717 => (pure .non) >>= fun y1718 => isM true x1717 y1718) >>= fun x1734 => andV x1734 ((((((pure head_here1715) >>= fun x1719 => (pure (.int 0)) >>= fun y1720 => ixM x1719 y1720) >>= fun x1721 => itemsM x1721) >>= fun xs1722 => lcM xs1722 c_law_is_beyond_1) >>= fun x1731 => sumM x1731) >>= fun x1732 => (pure (.int 900)) >>= fun y1733 => gtM x1732 y1733)) >>= fun d1735 => (pure (Out.ret d1735) : M (Out (Unit) (Empty)))))
def f_law_is_beyond (row1714 : D) : M D := defM (b_law_is_beyond row1714)
def b_law_far (well_here1736 : D) : M (Out Unit Empty) := (((((pure well_here1736) >>= fun a1738 => ((pure (.int 10)) >>= fun x1739 => (pure (.int 9)) >>= fun y1740 => powM x1739 y1740) >>= fun a1741 => f_law_draw a1738 a1741) >>= fun x1744 => ((pure (.int 10)) >>= fun x1742 => (pure (.int 9)) >>= fun y1743 => powM x1742 y1743) >>= fun y1745 => mulM x1744 y1745) >>= fun x1750 => ((pure well_here1736) >>= fun a1746 => ((pure (.int 10)) >>= fun x1747 => (pure (.int 9)) >>= fun y1748 => powM x1747 y1748) >>= fun a1749 => f_law_draw a1746 a1749) >>= fun y1751 => addM x1750 y1751) >>= fun far_here1737 => (((((pure well_here1736) >>= fun a1753 => (pure (.int 20)) >>= fun a1754 => f_law_draw a1753 a1754) >>= fun a1777 => ((((pure well_here1736) >>= fun a1755 => (pure (.int 20)) >>= fun a1756 => f_law_draw a1755 a1756) >>= fun x1757 => (pure (.int 10)) >>= fun y1758 => subM x1757 y1758) >>= fun a1775 => ((pure far_here1737) >>= fun a1773 => (((pure (.int 0)) >>= fun x1759 => (pure far_here1737) >>= fun y1760 => subM x1759 y1760) >>= fun a1771 => ((((pure (.int 10)) >>= fun x1761 => (pure (.int 18)) >>= fun y1762 => powM x1761 y1762) >>= fun x1763 => (pure (.int 1)) >>= fun y1764 => subM x1763 y1764) >>= fun a1769 => ((pure (.int 1)) >>= fun x1767 => ((pure (.int 10)) >>= fun x1765 => (pure (.int 18)) >>= fun y1766 => powM x1765 y1766) >>= fun y1768 => subM x1767 y1768) >>= fun a1770 => pure [a1769, a1770]) >>= fun as1772 => pure (a1771 :: as1772)) >>= fun as1774 => pure (a1773 :: as1774)) >>= fun as1776 => pure (a1775 :: as1776)) >>= fun as1778 => pure (a1777 :: as1778)) >>= fun xs1779 => lstM xs1779) >>= fun some1752 => (((pure some1752) >>= fun x1782 => ((pure well_here1736) >>= fun a1780 => (pure (.int 6)) >>= fun a1781 => f_law_draw a1780 a1781) >>= fun y1783 => ixM x1782 y1783) >>= fun d1784 => (pure (Out.ret d1784) : M (Out (Unit) (Empty))))))
def f_law_far (well_here1736 : D) : M D := defM (b_law_far well_here1736)
def c_law_free_line_1 (well_here1785 : D) : D → M (List D) := fun x1851 => liftO (some x1851) >>= fun p1852 => (pure true) >>= fun t1853 => if t1853 = true then (((pure well_here1785) >>= fun a1855 => f_law_far a1855) >>= fun y1854 => pure [y1854]) else pure []
def b_law_free_line (well_here1785 : D) : M (Out Unit Empty) := (((pure well_here1785) >>= fun a1787 => (pure (.int 6)) >>= fun a1788 => f_law_draw a1787 a1788) >>= fun way1786 => (((pure well_here1785) >>= fun a1790 => f_law_far a1790) >>= fun one1789 => (((pure well_here1785) >>= fun a1792 => f_law_far a1792) >>= fun other1791 => ((((pure way1786) >>= fun x1793 => (pure (.int 0)) >>= fun y1794 => eqM x1793 y1794) >>= fun b1795 => asB b1795) >>= fun t1796 => if t1796 = true then obind (((((pure (.str "lent")) >>= fun a1798 => (pure (.str "0")) >>= fun a1799 => pure [a1798, a1799]) >>= fun xs1800 => lstM xs1800) >>= fun x1803 => ((pure well_here1785) >>= fun a1801 => (pure (.int 2)) >>= fun a1802 => f_law_draw a1801 a1802) >>= fun y1804 => ixM x1803 y1804) >>= fun odd1797 => ((((((pure well_here1785) >>= fun a1806 => f_law_any_word a1806) >>= fun a1812 => (((pure well_here1785) >>= fun a1807 => f_law_any_word a1807) >>= fun a1810 => ((pure (.str "ann")) >>= fun a1808 => (pure odd1797) >>= fun a1809 => pure [a1808, a1809]) >>= fun as1811 => pure (a1810 :: as1811)) >>= fun as1813 => pure (a1812 :: as1813)) >>= fun xs1814 => lstM xs1814) >>= fun x1817 => ((pure well_here1785) >>= fun a1815 => (pure (.int 4)) >>= fun a1816 => f_law_draw a1815 a1816) >>= fun y1818 => ixM x1817 y1818) >>= fun worker1805 => ((((pure (.str "lent")) >>= fun a1826 => ((pure one1789) >>= fun a1824 => ((pure worker1805) >>= fun a1822 => ((pure other1791) >>= fun a1820 => ((pure well_here1785) >>= fun a1819 => f_law_far a1819) >>= fun a1821 => pure [a1820, a1821]) >>= fun as1823 => pure (a1822 :: as1823)) >>= fun as1825 => pure (a1824 :: as1825)) >>= fun as1827 => pure (a1826 :: as1827)) >>= fun xs1828 => tupM xs1828) >>= fun d1829 => (pure (Out.ret d1829) : M (Out (Empty) (Empty)))))) (fun e => e.elim) else ((((pure way1786) >>= fun x1830 => (pure (.int 3)) >>= fun y1831 => ltM x1830 y1831) >>= fun b1832 => asB b1832) >>= fun t1833 => if t1833 = true then obind (((((pure (.int 0)) >>= fun a1841 => (((pure well_here1785) >>= fun a1835 => (pure (.int 4)) >>= fun a1836 => f_law_draw a1835 a1836) >>= fun a1839 => ((pure well_here1785) >>= fun a1837 => (pure (.int 40)) >>= fun a1838 => f_law_draw a1837 a1838) >>= fun a1840 => pure [a1839, a1840]) >>= fun as1842 => pure (a1841 :: as1842)) >>= fun xs1843 => lstM xs1843) >>= fun x1846 => ((pure well_here1785) >>= fun a1844 => (pure (.int 3)) >>= fun a1845 => f_law_draw a1844 a1845) >>= fun y1847 => ixM x1846 y1847) >>= fun many1834 => ((((pure (.str "told")) >>= fun a1863 => ((pure one1789) >>= fun a1861 => ((pure other1791) >>= fun a1859 => (((pure well_here1785) >>= fun a1848 => f_law_far a1848) >>= fun a1857 => ((((pure many1834) >>= fun x1849 => rng1M [x1849]) >>= fun xs1850 => lcM xs1850 (c_law_free_line_1 well_here1785)) >>= fun x1856 => tupleM x1856) >>= fun a1858 => pure [a1857, a1858]) >>= fun as1860 => pure (a1859 :: as1860)) >>= fun as1862 => pure (a1861 :: as1862)) >>= fun as1864 => pure (a1863 :: as1864)) >>= fun xs1865 => tupM xs1865) >>= fun d1866 => (pure (Out.ret d1866) : M (Out (Empty) (Empty))))) (fun e => e.elim) else ((((pure way1786) >>= fun x1867 => (pure (.int 3)) >>= fun y1868 => eqM x1867 y1868) >>= fun b1869 => asB b1869) >>= fun t1870 => if t1870 = true then obind ((((pure (.str "back")) >>= fun a1873 => ((pure one1789) >>= fun a1871 => (pure other1791) >>= fun a1872 => pure [a1871, a1872]) >>= fun as1874 => pure (a1873 :: as1874)) >>= fun xs1875 => tupM xs1875) >>= fun d1876 => (pure (Out.ret d1876) : M (Out (Empty) (Empty)))) (fun e => e.elim) else ((((pure way1786) >>= fun x1877 => (pure (.int 4)) >>= fun y1878 => eqM x1877 y1878) >>= fun b1879 => asB b1879) >>= fun t1880 => if t1880 = true then obind ((((pure (.str "cut")) >>= fun a1883 => ((pure one1789) >>= fun a1881 => (pure other1791) >>= fun a1882 => pure [a1881, a1882]) >>= fun as1884 => pure (a1883 :: as1884)) >>= fun xs1885 => tupM xs1885) >>= fun d1886 => (pure (Out.ret d1886) : M (Out (Empty) (Empty)))) (fun e => e.elim) else ((((pure (.str "join")) >>= fun a1887 => (pure one1789) >>= fun a1888 => pure [a1887, a1888]) >>= fun xs1889 => tupM xs1889) >>= fun d1890 => (pure (Out.ret d1890) : M (Out (Unit) (Empty)))))))))))
def f_law_free_line (well_here1785 : D) : M D := defM (b_law_free_line well_here1785)
def c_law_1 (well_here1892 : D) : D → M (List D) := fun x1903 => liftO (some x1903) >>= fun p1904 => (pure true) >>= fun t1905 => if t1905 = true then (((((pure well_here1892) >>= fun a1907 => f_law_free_line a1907) >>= fun a1908 => pcallM (app1 f_law_line_text) [a1908]) >>= fun x1911 => (pure none) >>= fun l1912 => (((pure (.int 1)) >>= fun x1909 => negM x1909) >>= fun x1910 => asI x1910) >>= fun u1913 => sliceM x1911 l1912 u1913) >>= fun y1906 => pure [y1906]) else pure []
def q_law_2 : M (Out (Unit) (Unit)) := (pure (Out.nx ()) : M (Out (Unit) (Unit)))
def q_law_3 (text1949 : D) (well_here1923 : D) : M (Out (Unit) (Unit)) := (((((pure .non) >>= fun a2007 => ((pure (.int 5)) >>= fun a2005 => ((pure (.bl true)) >>= fun a2003 => ((((pure text1949) >>= fun a1991 => pure [a1991]) >>= fun xs1992 => lstM xs1992) >>= fun a2001 => ((((pure text1949) >>= fun a1993 => pure [a1993]) >>= fun xs1994 => tupM xs1994) >>= fun a1999 => ((pure (.str "")) >>= fun a1997 => ((pure (.str "\n")) >>= fun a1995 => (pure (.str "work span 1 every 1 least 1")) >>= fun a1996 => pure [a1995, a1996]) >>= fun as1998 => pure (a1997 :: as1998)) >>= fun as2000 => pure (a1999 :: as2000)) >>= fun as2002 => pure (a2001 :: as2002)) >>= fun as2004 => pure (a2003 :: as2004)) >>= fun as2006 => pure (a2005 :: as2006)) >>= fun as2008 => pure (a2007 :: as2008)) >>= fun xs2009 => lstM xs2009) >>= fun x2012 => ((pure well_here1923) >>= fun a2010 => (pure (.int 8)) >>= fun a2011 => f_law_draw a2010 a2011) >>= fun y2013 => ixM x2012 y2013) >>= fun odd1990 => (((((pure odd1990) >>= fun a2014 => pcallM (app1 f_law_found) [a2014]) >>= fun x2015 => (pure (.str "text")) >>= fun y2016 => neM x2015 y2016) >>= fun b2017 => asB b2017) >>= fun t2018 => if t2018 = true then obind ((pure (.bl false)) >>= fun d2019 => (pure (Out.ret d2019) : M (Out (Empty) (Unit)))) (fun e => e.elim) else q_law_2))
def l_law_4 (well_here1923 : D) : D → (D) → M (Out (D) (D)) := fun x1934 t1928 => liftO (some x1934) >>= fun p1935 => (((pure well_here1923) >>= fun a1937 => ((pure t1928) >>= fun x1946 => ((((pure (.str "")) >>= fun a1938 => pure [a1938]) >>= fun xs1939 => lstH xs1939) >>= fun x1944 => (((pure t1928) >>= fun x1941 => ((pure []) >>= fun xs1940 => lstM xs1940) >>= fun y1942 => eqM x1941 y1942) >>= fun x1943 => intM x1943) >>= fun y1945 => repLM x1944 y1945) >>= fun y1947 => addM x1946 y1947) >>= fun a1948 => f_law_spoilt_rows a1937 a1948) >>= fun some1936 => (pure (Out.nx some1936) : M (Out (D) (D))))
def l_law_5 (script1891 : D) (rows1895 : D) : D → (Unit) → M (Out (Unit) (Unit)) := fun x1921 t1916 => liftO (some x1921) >>= fun p1922 => (((pure script1891) >>= fun a1924 => (pure p1922) >>= fun a1925 => f_law_well a1924 a1925) >>= fun well_here1923 => (((pure rows1895) >>= fun x1927 => listM x1927) >>= fun some1926 => ((((pure well_here1923) >>= fun a1930 => (pure (.int 4)) >>= fun a1931 => f_law_draw a1930 a1931) >>= fun x1932 => rng1M [x1932]) >>= fun xs1933 => obind (forM xs1933 (some1926 : D) (l_law_4 well_here1923)) (fun s1929 => ((((pure (.str "\n")) >>= fun x1950 => schk x1950 >>= fun _ => (pure s1929) >>= fun y1951 => joinM x1950 y1951) >>= fun x1963 => ((((pure (.str "\n")) >>= fun a1956 => ((pure (.str "\n")) >>= fun a1954 => ((pure (.str "")) >>= fun a1952 => (pure (.str "\n\n")) >>= fun a1953 => pure [a1952, a1953]) >>= fun as1955 => pure (a1954 :: as1955)) >>= fun as1957 => pure (a1956 :: as1957)) >>= fun xs1958 => lstM xs1958) >>= fun x1961 => ((pure well_here1923) >>= fun a1959 => (pure (.int 4)) >>= fun a1960 => f_law_draw a1959 a1960) >>= fun y1962 => ixM x1961 y1962) >>= fun y1964 => addM x1963 y1964) >>= fun text1949 => (((pure text1949) >>= fun a1966 => pcallM (app1 f_law_read) [a1966]) >>= fun due1965 => ((((((((pure s1929) >>= fun x1969 => (((pure (.str "")) >>= fun a1967 => pure [a1967]) >>= fun xs1968 => lstM xs1968) >>= fun y1970 => addM x1969 y1970) >>= fun x1971 => (pure (.int 0)) >>= fun y1972 => ixM x1971 y1972) >>= fun a1973 => pcallM (app1 f_law_is_beyond) [a1973]) >>= fun x1974 => truM x1974) >>= fun t1975 => pure (!t1975)) >>= fun t1987 => if t1987 = true then ((((((pure text1949) >>= fun a1976 => pcallM (app1 f_law_found) [a1976]) >>= fun a1978 => ((pure text1949) >>= fun a1977 => pcallM (app1 f_law_found) [a1977]) >>= fun a1979 => pure [a1978, a1979]) >>= fun xs1980 => lstM xs1980) >>= fun x1984 => (((pure due1965) >>= fun a1981 => (pure due1965) >>= fun a1982 => pure [a1981, a1982]) >>= fun xs1983 => lstM xs1983) >>= fun y1985 => neM x1984 y1985) >>= fun b1986 => asB b1986) else pure false) >>= fun t1988 => if t1988 = true then obind ((pure (.bl false)) >>= fun d1989 => (pure (Out.ret d1989) : M (Out (Empty) (Unit)))) (fun e => e.elim) else (q_law_3 text1949 well_here1923))))))))
def b_law (script1891 : D) : M (Out Unit Empty) := (((pure script1891) >>= fun a1893 => (pure (.int 0)) >>= fun a1894 => f_law_well a1893 a1894) >>= fun well_here1892 => ((((((pure well_here1892) >>= fun a1896 => f_law_some_head a1896) >>= fun a1897 => pure [a1897]) >>= fun xs1898 => lstM xs1898) >>= fun x1914 => ((((pure well_here1892) >>= fun a1899 => (pure (.int 7)) >>= fun a1900 => f_law_draw a1899 a1900) >>= fun x1901 => rng1M [x1901]) >>= fun xs1902 => lcM xs1902 (c_law_1 well_here1892)) >>= fun y1915 => addM x1914 y1915) >>= fun rows1895 => (((pure (.int 1)) >>= fun x1918 => (pure (.int 31)) >>= fun y1919 => rng2M [x1918, y1919]) >>= fun xs1920 => obind (forM xs1920 (() : Unit) (l_law_5 script1891 rows1895)) (fun s1917 => ((((pure (.str "work span 1 every 1 least 1\n")) >>= fun a2020 => pcallM (app1 f_law_found) [a2020]) >>= fun x2032 => ((((pure []) >>= fun xs2021 => tupM xs2021) >>= fun a2029 => ((pure (.int 1)) >>= fun a2027 => ((pure (.int 1)) >>= fun a2025 => ((pure (.int 1)) >>= fun a2023 => ((pure []) >>= fun xs2022 => tupM xs2022) >>= fun a2024 => pure [a2023, a2024]) >>= fun as2026 => pure (a2025 :: as2026)) >>= fun as2028 => pure (a2027 :: as2028)) >>= fun as2030 => pure (a2029 :: as2030)) >>= fun xs2031 => tupM xs2031) >>= fun y2033 => eqM x2032 y2033) >>= fun d2034 => (pure (Out.ret d2034) : M (Out (Unit) (Empty))))))))
def f_law (script1891 : D) : M D := defM (b_law script1891)
end Lw
/-! SetG: small facts. -/
namespace Lw
open PySem L2
/-- all but the cell n is as it was -/
def Fr (n : Nat) (h h' : AH) : Prop := h'.length = h.length ∧ ∀ i, i ≠ n → h'[i]? = h[i]?
theorem Fr.set {n : Nat} {h : AH} {c : Cell} : Fr n h (h.set n c) := ⟨List.length_set .., fun i q => List.getElem?_set_ne (Ne.symm q)⟩
theorem Fr.refl {n : Nat} {h : AH} : Fr n h h := ⟨rfl, fun _ _ => rfl⟩
theorem Fr.trans {n : Nat} {a b c : AH} (x : Fr n a b) (y : Fr n b c) : Fr n a c := ⟨y.1.trans x.1, fun i q => (y.2 i q).trans (x.2 i q)⟩
theorem log_small {i : Int} {k : Nat} (h : i.natAbs < 2 ^ k) (h0 : 0 < k) : i.natAbs.log2 < k := by
  by_cases z : i.natAbs = 0
  · rw [z]
    simpa using h0
  · exact (Nat.log2_lt z).mpr h
theorem mulOk {i j : Int} (a : i.natAbs < 2 ^ 1000) (b : j.natAbs < 2 ^ 1000) : i.natAbs.log2 + j.natAbs.log2 < 1000000 := by
  have := log_small a (by decide)
  have := log_small b (by decide)
  omega
theorem small {i : Int} (a : -(2 ^ 100) < i) (b : i < 2 ^ 100) : i.natAbs < 2 ^ 1000 := by
  have : i.natAbs < 2 ^ 100 := by omega
  exact Nat.lt_of_lt_of_le this (Nat.pow_le_pow_right (by decide) (by decide))
theorem getElem?_lt {α : Type} {l : List α} {n : Nat} {x : α} (e : l[n]? = some x) : n < l.length := (List.getElem?_eq_some_iff.mp e).1
theorem rangeD_get {lo : Int} {n k : Nat} {x : D} (hx : (rangeD lo n)[k]? = some x) : k < n ∧ x = .int (lo + (k : Nat)) := by
  unfold rangeD at hx
  rw [List.getElem?_map] at hx
  by_cases hk : k < n
  · rw [List.getElem?_range hk] at hx
    exact ⟨hk, (Option.some.inj hx).symm⟩
  · rw [List.getElem?_eq_none (by rw [List.length_range]; omega)] at hx
    cases hx
theorem rangeD_len {lo : Int} {n : Nat} : (rangeD lo n).length = n := by simp [rangeD]
theorem atI_in {α : Type} {xs : List α} {i : Int} (h0 : 0 ≤ i) (h1 : i < xs.length) : ∃ x, atI xs i = some x ∧ x ∈ xs := by
  have hn : i.toNat < xs.length := by omega
  exact ⟨xs[i.toNat], atI_pos h0 (List.getElem?_eq_getElem hn), List.getElem_mem hn⟩
section
variable {h : AH} {E : Str → AH → Prop} {P : D → AH → Prop}
theorem w_pick {xs : List D} {i : Int} (h0 : 0 ≤ i) (h1 : i < xs.length) (p : ∀ x ∈ xs, P x h) : Wp (ixM (.lst xs) (.int i) h) P E := by
  obtain ⟨x, e, m⟩ := atI_in h0 h1
  exact (w_ixL e).mpr (p x m)
end
end Lw
/-! SetL: wells. -/
namespace Lw
open PySem L2
/-- a well at n, that m draws are still taken of -/
structure Well (h : AH) (n m : Nat) : Prop where
  ex : ∃ a b c : Int, h[n]? = some (.lst [.int a, .int b, .int c]) ∧ 0 ≤ a ∧ a < 2 ^ 40 ∧ 0 ≤ b ∧ 0 ≤ c ∧ c + m < 2 ^ 40
theorem Well.less {h : AH} {n m m' : Nat} (w : Well h n m) (l : m' ≤ m) : Well h n m' := by
  obtain ⟨a, b, c, e, a0, a1, b0, c0, c1⟩ := w.ex
  exact ⟨a, b, c, e, a0, a1, b0, c0, by omega⟩
section
variable {h : AH} {n m : Nat} {E : Str → AH → Prop} {P : D → AH → Prop}
theorem draw_w {k : Int} (w : Well h n (m + 1)) (k0 : 0 < k) (kb : k < 2 ^ 100) (p : ∀ r h', 0 ≤ r → r < k → Well h' n m → Fr n h h' → P (.int r) h') : Wp (f_law_draw (.ref n) (.int k) h) P E := by
  obtain ⟨a, b, c, e, a0, a1, b0, c0, c1⟩ := w.ex
  have hn := getElem?_lt e
  have l1 : (1 : Int) < (([D.int a, .int b, .int c] : List D).length : Int) := by simp
  have l2 : (2 : Int) < (([D.int a, .int b, .int c] : List D).length : Int) := by simp
  unfold f_law_draw b_law_draw
  simp only [WPS, reduceIte, w_ixR e (show atI [D.int a, .int b, .int c] 0 = some (.int a) from rfl), w_ixR e (show atI [D.int a, .int b, .int c] 1 = some (.int b) from rfl), w_ixR e (show atI [D.int a, .int b, .int c] 2 = some (.int c) from rfl),
    w_mod k0, w_fdiv k0 (Nat.lt_trans (log_small (k := 100) (by omega) (by decide)) (by decide)), w_setix e (show (0 : Int) ≤ 1 by decide) l1,
    w_setix e (show (0 : Int) ≤ 2 by decide) l2]
  by_cases hb : 0 < b
  · rw [if_pos hb]
    refine p _ _ (Int.emod_nonneg _ (by omega)) (Int.emod_lt_of_pos _ k0) ⟨a, b / k, c, by rw [List.getElem?_set_self hn]; rfl, a0, a1, Int.ediv_nonneg b0 (by omega), c0, by omega⟩ Fr.set
  · rw [if_neg hb]
    have e2 : (h.set n (.lst [.int a, .int b, .int (c + 1)]))[n]? = some (.lst [.int a, .int b, .int (c + 1)]) := List.getElem?_set_self hn
    rw [show ([D.int a, .int b, .int c].set (2 : Int).toNat (.int (c + 1))) = [.int a, .int b, .int (c + 1)] from rfl]
    have q1 := Int.emod_nonneg ((a + 7919 * (c + 1) + 1) * 48271) (show (2147483647 : Int) ≠ 0 by decide)
    have q2 := Int.emod_lt_of_pos ((a + 7919 * (c + 1) + 1) * 48271) (show (0 : Int) < 2147483647 by decide)
    generalize hu : (a + 7919 * (c + 1) + 1) * 48271 % 2147483647 = u at q1 q2
    have d1 : 0 ≤ u / 1009 := Int.ediv_nonneg q1 (by decide)
    have d2 : u / 1009 ≤ u := Int.ediv_le_self _ q1
    have q3 := Int.emod_nonneg (u * (u / 1009 + 69621)) (show (2147483647 : Int) ≠ 0 by decide)
    have q4 := Int.emod_lt_of_pos (u * (u / 1009 + 69621)) (show (0 : Int) < 2147483647 by decide)
    generalize hv : u * (u / 1009 + 69621) % 2147483647 = v at q3 q4
    have d3 : 0 ≤ v / 2003 := Int.ediv_nonneg q3 (by decide)
    have d4 : v / 2003 ≤ v := Int.ediv_le_self _ q3
    simp only [WPS, reduceIte, w_ixR e2 (show atI [D.int a, .int b, .int (c + 1)] 0 = some (.int a) from rfl), w_ixR e2 (show atI [D.int a, .int b, .int (c + 1)] 2 = some (.int (c + 1)) from rfl),
      w_mul (mulOk (small (i := 7919) (by omega) (by omega)) (small (i := c + 1) (by omega) (by omega))), w_mul (mulOk (small (i := a + 7919 * (c + 1) + 1) (by omega) (by omega)) (small (i := 48271) (by omega) (by omega))),
      w_mod (show (0 : Int) < 2147483647 by decide), hu, w_fdiv (show (0 : Int) < 1009 by decide) (by decide), w_mul (mulOk (small (i := u) (by omega) (by omega)) (small (i := u / 1009 + 69621) (by omega) (by omega))), hv,
      w_fdiv (show (0 : Int) < 2003 by decide) (by decide), w_mul (mulOk (small (i := v) (by omega) (by omega)) (small (i := v / 2003 + 40692) (by omega) (by omega))), w_mod (show (0 : Int) < 2147483399 by decide), w_mod k0]
    exact p _ _ (Int.emod_nonneg _ (by omega)) (Int.emod_lt_of_pos _ k0) ⟨a, b, c + 1, e2, a0, a1, b0, by omega, by omega⟩ Fr.set
/-- a new well -/
theorem well_w {ns : List Int} {k : Nat} (hk : k < 1000) (p : ∀ h', Well h' h.length 1000000 → h'.length = h.length + 1 → (∀ i, i < h.length → h'[i]? = h[i]?) → P (.ref h.length) h') : Wp (f_law_well (.lst (ns.map D.int)) (.int k) h) P E := by
  have fin : ∀ x : Int, P (.ref h.length) (h ++ [.lst [.int (x % 2147483647 + 48271 * k), .int (if 10 ^ 18 ≤ x then x else 0), .int 0]]) := by
    intro x
    have q1 := Int.emod_nonneg x (show (2147483647 : Int) ≠ 0 by decide)
    have q2 := Int.emod_lt_of_pos x (show (0 : Int) < 2147483647 by decide)
    have q3 : (0 : Int) ≤ if 10 ^ 18 ≤ x then x else 0 := by split <;> omega
    exact p _ ⟨x % 2147483647 + 48271 * k, if 10 ^ 18 ≤ x then x else 0, 0, List.getElem?_append_right (Nat.le_refl _) |>.trans (by simp), by omega, by omega, q3, by decide, by decide⟩ (by simp) fun i hi => List.getElem?_append_left hi
  have e18 : ((10 : Int) ^ ((18 : Int)).toNat) = 10 ^ 18 := rfl
  have tail : ∀ x : Int, Wp (ixM (.lst [.int 0, .int x]) (.int (if 10 ^ 18 ≤ x then 1 else 0)) h) (fun y h' => Wp (lstH [.int (x % 2147483647 + 48271 * k), y, .int 0] h') P E) E := by
    intro x
    have f := fin x
    by_cases c : 10 ^ 18 ≤ x
    · rw [if_pos c, w_ixL (show atI [D.int 0, .int x] 1 = some (.int x) from rfl), w_lstH (Nat.le_of_ble_eq_true rfl)]
      rw [if_pos c] at f
      exact f
    · rw [if_neg c, w_ixL (show atI [D.int 0, .int x] 0 = some (.int 0) from rfl), w_lstH (Nat.le_of_ble_eq_true rfl)]
      rw [if_neg c] at f
      exact f
  unfold f_law_well b_law_well
  by_cases hkl : (k : Int) < ns.length
  · have hk2 : k < ns.length := by omega
    simp only [WPS, reduceIte, List.length_map, hkl, w_ixL (show atI (ns.map D.int) k = some (.int ns[k]) from atI_nat (by rw [List.getElem?_map, List.getElem?_eq_getElem hk2]; rfl)),
      w_mod (show (0 : Int) < 2147483647 by decide), w_pow (show (0 : Int) ≤ 18 ∧ (18 : Int) ≤ 1000000 ∧ (10 : Int).natAbs < 2 ^ 64 by decide), e18, w_mul (mulOk (small (i := 48271) (by omega) (by omega)) (small (i := (k : Int)) (by omega) (by omega))),
      w_lst (show ([D.int 0, .int ns[k]] : List D).length ≤ 1000000 by exact Nat.le_of_ble_eq_true rfl)]
    exact tail ns[k]
  · simp only [WPS, reduceIte, List.length_map, hkl,
      w_mod (show (0 : Int) < 2147483647 by decide), w_pow (show (0 : Int) ≤ 18 ∧ (18 : Int) ≤ 1000000 ∧ (10 : Int).natAbs < 2 ^ 64 by decide), e18, w_mul (mulOk (small (i := 48271) (by omega) (by omega)) (small (i := (k : Int)) (by omega) (by omega))),
      w_lst (show ([D.int 0, .int 0] : List D).length ≤ 1000000 by exact Nat.le_of_ble_eq_true rfl)]
    exact tail 0
end
end Lw
/-! SetM: picks, rows of words. -/
namespace Lw
open PySem L2
/-- a number that is far from long -/
def gd (i : Int) : Prop := -(2 ^ 66) < i ∧ i < 2 ^ 66
theorem gd_log {i : Int} (g : gd i) : i.natAbs.log2 < 1920 := by
  unfold gd at g
  exact Nat.lt_trans (log_small (k := 100) (by omega) (by decide)) (by decide)
theorem str_len {i : Int} (g : gd i) : (Str.ofString (toString i)).length ≤ 22 := by
  unfold gd at g
  by_cases h0 : 0 ≤ i
  · exact Nat.le_trans (PyProof.Rows.toString_length_le (k := 20) h0 (by decide) (by omega)) (by decide)
  · obtain ⟨n, rfl⟩ : ∃ n : Nat, i = Int.negSucc n := by
      cases i with
      | ofNat n => exact absurd (Int.natCast_nonneg n) h0
      | negSucc n => exact ⟨n, rfl⟩
    have e : toString (Int.negSucc n) = "-" ++ toString ((n + 1 : Nat) : Int) := rfl
    have l := PyProof.Rows.toString_length_le (v := ((n + 1 : Nat) : Int)) (k := 20) (by omega) (by decide) (by omega)
    rw [PyProof.Rows.ofString_length] at l ⊢
    have q : (toString (Int.negSucc n)).toList = '-' :: (toString ((n + 1 : Nat) : Int)).toList := by
      rw [e, String.toList_append]
      rfl
    rw [q, List.length_cons]
    omega
/-- a word that is written -/
def Wd (d : D) : Prop := (∃ i, d = .int i ∧ gd i) ∨ ∃ z : Str, d = .str z ∧ z.length ≤ 22
def wrt : D → Str
  | .int i => Str.ofString (toString i)
  | .str z => z
  | _ => ⟨#[]⟩
theorem wrt_len {d : D} (w : Wd d) : (wrt d).length ≤ 22 := by
  rcases w with ⟨i, rfl, g⟩ | ⟨z, rfl, g⟩
  · exact str_len g
  · exact g
theorem str_run {d : D} {h : AH} (w : Wd d) : strM d h = .ok (.str (wrt d)) h := by
  rcases w with ⟨i, rfl, g⟩ | ⟨z, rfl, g⟩
  · show (if i.natAbs.log2 < 1920 then _ else _) = _
    rw [if_pos (gd_log g)]
    rfl
  · rfl
theorem strsOf_map (ys : List Str) : strsOf (ys.map D.str) = some ys := by
  induction ys with
  | nil => rfl
  | cons y r ih =>
    show (match strsOf (r.map D.str) with | some ys => some (y :: ys) | none => none) = _
    rw [ih]
theorem joinLen (sep : Str) : ∀ ys : List Str, (Txt.join sep ys).length ≤ (ys.map (·.length)).sum + ys.length * sep.length := by
  intro ys
  rw [TL.join_eq]
  induction ys with
  | nil => exact Nat.zero_le _
  | cons y r ih =>
    cases r with
    | nil =>
      show y.length ≤ _
      simp only [List.map_cons, List.sum_cons, List.length_cons]
      omega
    | cons z t =>
      have e : Str.join sep (y :: z :: t) = y ++ sep ++ Str.join sep (z :: t) := rfl
      have la : ∀ a b : Str, (a ++ b).length = a.length + b.length := fun a b => by
        show (a.cps ++ b.cps).size = _
        rw [Array.size_append]
        rfl
      rw [e, la, la]
      simp only [List.map_cons, List.sum_cons, List.length_cons] at ih ⊢
      rw [Nat.add_mul]
      omega
theorem sum22 {ys : List Str} (h : ∀ y ∈ ys, y.length ≤ 22) : (ys.map (·.length)).sum ≤ ys.length * 22 := by
  induction ys with
  | nil => exact Nat.zero_le _
  | cons y r ih =>
    have := h y (by simp)
    have := ih fun z hz => h z (List.mem_cons_of_mem _ hz)
    simp only [List.map_cons, List.sum_cons, List.length_cons]
    omega
/-- the row of some words -/
def rowS (ds : List D) : Str := Txt.join " " (ds.map wrt) ++ "\n"
theorem joinS_w {h : AH} {E : Str → AH → Prop} {P : D → AH → Prop} {sep : Str} {ys : List Str} (l : ys.length ≤ 1000) (h22 : ∀ y ∈ ys, y.length ≤ 22) (hs : sep.length ≤ 1) : Wp (joinM (.str sep) (.lst (ys.map D.str)) h) P E ↔ P (.str (Txt.join sep ys)) h := by
  have s := sum22 h22
  have m : ys.length * sep.length ≤ ys.length * 1 := Nat.mul_le_mul_left _ hs
  unfold joinM
  rw [show seqOf h (.lst (ys.map D.str)) = some (ys.map D.str) from rfl]
  simp only [strsOf_map]
  rw [if_pos (by omega)]
  exact Iff.rfl
end Lw
/-! SetLr: rows, heads, lines: their parts. -/
namespace Lw
open PySem L2
/-- a number of eighteen figures at most -/
def gn (i : Int) : Prop := -(10 ^ 18) < i ∧ i < 10 ^ 18
theorem gn.gd {i : Int} (g : gn i) : gd i := by
  unfold gn at g
  unfold Lw.gd
  omega
def wsign (c : Nat) : Bool := c != 32 && (c != 10 && decide (c < 0x110000))
/-- a word that is written as it is -/
structure Word (z : Str) : Prop where
  pos : 1 ≤ z.length
  len : z.length ≤ 22
  signs : ∀ c ∈ z.cps.toList, wsign c = true
def signs93 : Str := "!\"#$&'()*+,-./0123456789:;<=>?@ABCDEFGHIJKLMNOPQRSTUVWXYZ[\\]^_`abcdefghijklmnopqrstuvwxyz{|}~"
theorem signs_ok : ∀ c ∈ signs93.cps.toList, wsign c = true := by decide +kernel
theorem str_app (a b : Str) : (a ++ b).cps.toList = a.cps.toList ++ b.cps.toList := by
  show (a.cps ++ b.cps).toList = _
  exact Array.toList_append
theorem join0 : ∀ ys : List Str, (Txt.join "" ys).cps.toList = (ys.map fun y => y.cps.toList).flatten := by
  intro ys
  rw [TL.join_eq]
  induction ys with
  | nil => rfl
  | cons y r ih =>
    cases r with
    | nil =>
      show y.cps.toList = _
      simp
    | cons z t =>
      have e : Str.join "" (y :: z :: t) = y ++ "" ++ Str.join "" (z :: t) := rfl
      rw [e, str_app, str_app, ih]
      show y.cps.toList ++ [] ++ _ = _
      rw [List.append_nil]
      rfl
theorem word_of {ys : List Str} (l1 : 1 ≤ ys.length) (l2 : ys.length ≤ 22) (h : ∀ y ∈ ys, y.length = 1 ∧ ∀ c ∈ y.cps.toList, wsign c = true) : Word (Txt.join "" ys) := by
  have len : (Txt.join "" ys).length = ys.length := by
    show (Txt.join "" ys).cps.size = _
    rw [← Array.length_toList, join0]
    clear l1 l2
    induction ys with
    | nil => rfl
    | cons y r ih =>
      rw [List.map_cons, List.flatten_cons, List.length_append, ih fun z hz => h z (List.mem_cons_of_mem _ hz), List.length_cons, show y.cps.toList.length = 1 from (by rw [Array.length_toList]; exact (h y List.mem_cons_self).1)]
      omega
  refine ⟨by omega, by omega, fun c hc => ?_⟩
  rw [join0] at hc
  obtain ⟨l, hl, hm⟩ := List.mem_flatten.mp hc
  obtain ⟨y, hy, rfl⟩ := List.mem_map.mp hl
  exact (h y hy).2 c hm
theorem flat_one {α β : Type} (f : α → β) : ∀ xs : List α, (xs.map fun x => [f x]).flatten = xs.map f
  | [] => rfl
  | x :: r => by
    rw [List.map_cons, List.flatten_cons, flat_one f r]
    rfl
section
variable {h : AH} {n m : Nat} {E : Str → AH → Prop} {P : D → AH → Prop}
theorem nr_wd {ds : List D} (hw : ∀ d ∈ ds, Wd d) : noRefs ds = true := by
  induction ds with
  | nil => rfl
  | cons d r ih =>
    rw [noRefs_cons, ih fun x hx => hw x (List.mem_cons_of_mem _ hx), Bool.and_true]
    rcases hw d (by simp) with ⟨i, rfl, _⟩ | ⟨z, rfl, _⟩
    · exact noRef_int
    · exact noRef_str
/-- the parts of a head -/
def headD (ps : List (Int × Int)) (a b c : Int) : List D := (.str "work" :: (ps.map fun p => [D.int p.1, .int p.2]).flatten) ++ [.str "span", .int a, .str "every", .int b, .str "least", .int c]
def prsD (ps : List (Int × Int)) : D := .tup (ps.map fun p => D.tup [.int p.1, .int p.2])
theorem nr_prsD (ps : List (Int × Int)) : noRef (prsD ps) = true := by
  unfold prsD
  rw [noRef_tup]
  exact noRefs_map fun x => by simp [noRef, noRefs]
theorem flat_len (ps : List (Int × Int)) : ((ps.map fun p => [D.int p.1, .int p.2]).flatten).length = 2 * ps.length := by
  induction ps with
  | nil => rfl
  | cons p r ih =>
    rw [List.map_cons, List.flatten_cons, List.length_append, ih]
    simp only [List.length_cons, List.length_nil]
    omega
theorem head_wd {ps : List (Int × Int)} {a b c : Int} (hp : ∀ p ∈ ps, gd p.1 ∧ gd p.2) (ha : gd a) (hb : gd b) (hc : gd c) : ∀ d ∈ headD ps a b c, Wd d := by
  intro d hd
  unfold headD at hd
  rcases List.mem_append.mp hd with hd | hd
  · rcases List.mem_cons.mp hd with rfl | hd
    · exact .inr ⟨_, rfl, by decide⟩
    · obtain ⟨l, hl, hm⟩ := List.mem_flatten.mp hd
      obtain ⟨p, hpm, rfl⟩ := List.mem_map.mp hl
      obtain ⟨g1, g2⟩ := hp p hpm
      simp only [List.mem_cons, List.not_mem_nil, or_false] at hm
      rcases hm with rfl | rfl
      · exact .inl ⟨_, rfl, g1⟩
      · exact .inl ⟨_, rfl, g2⟩
  · simp only [List.mem_cons, List.not_mem_nil, or_false] at hd
    rcases hd with rfl | rfl | rfl | rfl | rfl | rfl
    · exact .inr ⟨_, rfl, by decide⟩
    · exact .inl ⟨_, rfl, ha⟩
    · exact .inr ⟨_, rfl, by decide⟩
    · exact .inl ⟨_, rfl, hb⟩
    · exact .inr ⟨_, rfl, by decide⟩
    · exact .inl ⟨_, rfl, hc⟩
theorem take_succ_get {α : Type} {xs : List α} {k : Nat} {x : α} (e : xs[k]? = some x) : xs.take (k + 1) = xs.take k ++ [x] := by
  rw [List.take_add_one, e]
  rfl
end
/-- a line as it is drawn -/
inductive LnR : D → Prop where
  | lent {a b c : Int} {z : Str} : gn a → Word z → gn b → gn c → LnR (.tup [.str "lent", .int a, .str z, .int b, .int c])
  | told {a b c : Int} {ns : List Int} : gn a → gn b → gn c → ns.length ≤ 40 → (∀ i ∈ ns, gn i) → LnR (.tup [.str "told", .int a, .int b, .int c, .tup (ns.map D.int)])
  | back {a b : Int} : gn a → gn b → LnR (.tup [.str "back", .int a, .int b])
  | cut {a b : Int} : gn a → gn b → LnR (.tup [.str "cut", .int a, .int b])
  | join {a : Int} : gn a → LnR (.tup [.str "join", .int a])
def Ln (d : D) : Prop := (∃ (x : Str) (ds : List D), d = .tup (.str x :: ds) ∧ x ≠ "told" ∧ x.length ≤ 22 ∧ (∀ y ∈ ds, Wd y) ∧ ds.length ≤ 4) ∨
  ∃ (a b c : Int) (ns : List Int), d = .tup [.str "told", .int a, .int b, .int c, .tup (ns.map D.int)] ∧ gd a ∧ gd b ∧ gd c ∧ ns.length ≤ 40 ∧ ∀ i ∈ ns, gd i
theorem LnR.ln {d : D} (l : LnR d) : Ln d := by
  cases l with
  | lent g1 lz g2 g3 => exact .inl ⟨_, _, rfl, by decide, by decide, fun y hy => by
      simp only [List.mem_cons, List.not_mem_nil, or_false] at hy
      rcases hy with rfl | rfl | rfl | rfl
      · exact .inl ⟨_, rfl, g1.gd⟩
      · exact .inr ⟨_, rfl, lz.len⟩
      · exact .inl ⟨_, rfl, g2.gd⟩
      · exact .inl ⟨_, rfl, g3.gd⟩, Nat.le_of_ble_eq_true rfl⟩
  | told g1 g2 g3 l g => exact .inr ⟨_, _, _, _, rfl, g1.gd, g2.gd, g3.gd, l, fun i hi => (g i hi).gd⟩
  | back g1 g2 => exact .inl ⟨_, _, rfl, by decide, by decide, fun y hy => by
      simp only [List.mem_cons, List.not_mem_nil, or_false] at hy
      rcases hy with rfl | rfl
      · exact .inl ⟨_, rfl, g1.gd⟩
      · exact .inl ⟨_, rfl, g2.gd⟩, Nat.le_of_ble_eq_true rfl⟩
  | cut g1 g2 => exact .inl ⟨_, _, rfl, by decide, by decide, fun y hy => by
      simp only [List.mem_cons, List.not_mem_nil, or_false] at hy
      rcases hy with rfl | rfl
      · exact .inl ⟨_, rfl, g1.gd⟩
      · exact .inl ⟨_, rfl, g2.gd⟩, Nat.le_of_ble_eq_true rfl⟩
  | join g1 => exact .inl ⟨_, _, rfl, by decide, by decide, fun y hy => by
      simp only [List.mem_cons, List.not_mem_nil, or_false] at hy
      subst hy
      exact .inl ⟨_, rfl, g1.gd⟩, Nat.le_of_ble_eq_true rfl⟩
/-- the parts of a line, one by one -/
def lnP : D → List D
  | .tup [.str "told", a, b, c, .tup ns] => [.str "told", a, b, c] ++ ns
  | .tup ds => ds
  | _ => []
theorem ne_str {a b : Str} (e : a ≠ b) : decide (a = b) = false := decide_eq_false e
theorem ln_nr {d : D} (l : Ln d) : noRef d = true := by
  rcases l with ⟨x, ds, rfl, nx, lx, hw, hl⟩ | ⟨a, b, c, ns, rfl, ga, gb, gc, nl, gn⟩
  · rw [noRef_tup, noRefs_cons, noRef_str, nr_wd hw]
    rfl
  · simp only [noRef_tup, noRefs_cons, noRef_str, noRef_int, noRefs_nil, Bool.true_and, Bool.and_true]
    exact noRefs_map fun _ => noRef_int
end Lw
/-! SetFg: a loop over a list on the heap, by what stays true. -/
namespace Lw
open PySem L2
section
end
end Lw
/-! SetTx: texts are taken apart; words are numbers. -/
namespace Lw
open PySem L2
abbrev sg (z : Str) : List Nat := z.cps.toList
theorem str_ext {a b : Str} (h : sg a = sg b) : a = b := by
  cases a with | mk a =>
  cases b with | mk b =>
  congr 1
  exact Array.toList_inj.mp h
theorem sg_len (z : Str) : (sg z).length = z.length := Array.length_toList
def chS (c : Nat) : Str := ⟨#[c]⟩
/-! what is joined by a sign and taken apart by it -/
theorem cut_c {c : Nat} : ∀ {a b r s : List Nat}, c ∉ a → c ∉ b → a ++ c :: r = b ++ c :: s → a = b ∧ r = s
  | [], [], r, s, _, _, e => ⟨rfl, (List.cons.inj e).2⟩
  | [], y :: b, r, s, _, h, e => absurd (List.mem_cons.mpr (.inl (List.cons.inj e).1)) h
  | x :: a, [], r, s, h, _, e => absurd (List.mem_cons.mpr (.inl (List.cons.inj e).1.symm)) h
  | x :: a, y :: b, r, s, h, k, e => by
    obtain ⟨e1, e2⟩ := List.cons.inj e
    obtain ⟨e3, e4⟩ := cut_c (fun m => h (List.mem_cons_of_mem _ m)) (fun m => k (List.mem_cons_of_mem _ m)) e2
    exact ⟨by rw [e1, e3], e4⟩
theorem sg_join2 (c : Nat) (y z : Str) (t : List Str) : sg (Str.join (chS c) (y :: z :: t)) = sg y ++ c :: sg (Str.join (chS c) (z :: t)) := by
  have e : Str.join (chS c) (y :: z :: t) = y ++ chS c ++ Str.join (chS c) (z :: t) := rfl
  rw [e]
  show (y ++ chS c ++ Str.join (chS c) (z :: t)).cps.toList = _
  rw [str_app, str_app]
  show sg y ++ [c] ++ _ = _
  rw [List.append_assoc]
  rfl
theorem join_uniq {c : Nat} : ∀ {ys zs : List Str}, (∀ y ∈ ys, c ∉ sg y) → (∀ y ∈ zs, c ∉ sg y) → ys ≠ [] → zs ≠ [] → Str.join (chS c) ys = Str.join (chS c) zs → ys = zs
  | [], _, _, _, h, _, _ => absurd rfl h
  | _, [], _, _, _, h, _ => absurd rfl h
  | [y], [z], _, _, _, _, e => by
    have e : y = z := e
    rw [e]
  | [y], z :: w :: t, h, k, _, _, e => by
    have e2 := congrArg sg e
    rw [sg_join2] at e2
    have e2 : sg y = sg z ++ c :: _ := e2
    exact absurd (by rw [e2]; simp) (h y List.mem_cons_self)
  | y :: w :: t, [z], h, k, _, _, e => by
    have e2 := congrArg sg e
    rw [sg_join2] at e2
    have e2 : sg y ++ c :: _ = sg z := e2
    exact absurd (by rw [← e2]; simp) (k z List.mem_cons_self)
  | y :: w :: t, z :: v :: u, h, k, _, _, e => by
    have e2 := congrArg sg e
    rw [sg_join2, sg_join2] at e2
    obtain ⟨e3, e4⟩ := cut_c (h y List.mem_cons_self) (k z List.mem_cons_self) e2
    rw [str_ext e3, join_uniq (ys := w :: t) (zs := v :: u) (fun x hx => h x (List.mem_cons_of_mem _ hx)) (fun x hx => k x (List.mem_cons_of_mem _ hx)) (List.cons_ne_nil _ _) (List.cons_ne_nil _ _) (str_ext e4)]
theorem split_join {c : Nat} {ys : List Str} (h : ∀ y ∈ ys, c ∉ sg y) (n : ys ≠ []) : Txt.split (Str.join (chS c) ys) (chS c) = ys :=
  join_uniq (StrLaws.split_free _ c) h (fun e => by
    have := PyProof.Rows.split_pos (Str.join (chS c) ys) (chS c)
    rw [e] at this
    exact absurd this (by decide)) n (StrLaws.join_split _ _)
theorem split_free (x : Str) (c : Nat) : ∀ y ∈ Txt.split x (chS c), c ∉ sg y := StrLaws.split_free x c
theorem join_split (x : Str) (c : Nat) : Str.join (chS c) (Txt.split x (chS c)) = x := StrLaws.join_split x (chS c)
theorem split_ne (x y : Str) : Txt.split x y ≠ [] := fun e => by
  have := PyProof.Rows.split_pos x y
  rw [e] at this
  exact absurd this (by decide)
/-! numbers, as they are written -/
abbrev numS (i : Int) : Str := Str.ofString (toString i)
def figs (n : Nat) : List Nat := (Nat.toDigits 10 n).map Char.toNat
theorem sg_nat (n : Nat) : sg (numS (n : Int)) = figs n := PySem.W.KIN.signs_num n
theorem sg_neg (n : Nat) : sg (numS (Int.negSucc n)) = 45 :: figs (n + 1) := by
  have e : toString (Int.negSucc n) = "-" ++ toString ((n + 1 : Nat) : Int) := rfl
  have q : (toString (Int.negSucc n)).toList = '-' :: (toString ((n + 1 : Nat) : Int)).toList := by
    rw [e, String.toList_append]
    rfl
  have s := sg_nat (n + 1)
  show (Str.ofString (toString (Int.negSucc n))).cps.toList = _
  rw [show (Str.ofString (toString (Int.negSucc n))).cps.toList = (toString (Int.negSucc n)).toList.map Char.toNat from PyProof.Rows.signs_ofString _, q, List.map_cons]
  rw [← s]
  show 45 :: _ = _
  rw [show sg (numS ((n + 1 : Nat) : Int)) = (toString ((n + 1 : Nat) : Int)).toList.map Char.toNat from PyProof.Rows.signs_ofString _]
open PySem.NumText in
theorem figs_ok (n : Nat) : AllDigits (figs n) := fun c hc => by
  obtain ⟨ch, hch, e⟩ := List.mem_map.mp hc
  have r := PyProof.Rows.digit_range (Nat.isDigit_of_mem_toDigits (by decide) (by decide) hch)
  rw [← e]
  exact r
theorem figs_pos (n : Nat) : 1 ≤ (figs n).length := by
  unfold figs
  rw [List.length_map]
  exact PyProof.Rows.tDigits_len_ge 10 n
theorem figs_le {n k : Nat} (hk : 1 ≤ k) (hn : n < 10 ^ k) : (figs n).length ≤ k := by
  unfold figs
  rw [List.length_map]
  exact PyProof.Rows.digits10_le hk hn
open PySem.NumText in
theorem figs_val (n : Nat) : digitsVal (figs n) = n := PySem.W.KIN.val_back n
/-- a number without a nought ahead -/
theorem figs_head : ∀ (n : Nat), n ≠ 0 → ∀ c r, figs n = c :: r → c ≠ 48 := by
  intro n
  induction n using Nat.strongRecOn with
  | _ n ih =>
    intro hn c r e
    by_cases h : n < 10
    · unfold figs at e
      rw [Nat.toDigits_of_lt_base h] at e
      have all : ∀ m, m < 10 → m ≠ 0 → (Nat.digitChar m).toNat ≠ 48 := by decide
      rw [← (List.cons.inj e).1]
      exact all n h hn
    · have hm : n % 10 < 10 := Nat.mod_lt n (by decide)
      have t : Nat.toDigits 10 (n / 10) ++ Nat.toDigits 10 (n % 10) = Nat.toDigits 10 (10 * (n / 10) + n % 10) := Nat.toDigits_append_toDigits (by decide) (by omega) hm
      rw [Nat.div_add_mod] at t
      have e2 : figs n = figs (n / 10) ++ figs (n % 10) := by
        unfold figs
        rw [← List.map_append, t]
      have pos := figs_pos (n / 10)
      cases hf : figs (n / 10) with
      | nil => rw [hf] at pos; exact absurd pos (by decide)
      | cons c' r' =>
        have := ih (n / 10) (by omega) (by omega) c' r' hf
        rw [e2, hf] at e
        rw [← (List.cons.inj e).1]
        exact this
/-- whether a word is a number as it is written; the number -/
def figOf (z : Str) : List Nat := if (sg z).head? = some 45 then (sg z).tail else sg z
def isNmb (z : Str) : Bool := decide (1 ≤ (figOf z).length) && (decide ((figOf z).length ≤ 18) && ((figOf z).all fun c => decide (48 ≤ c) && decide (c ≤ 57))) && (decide ((figOf z).head? ≠ some 48) || decide (sg z = [48]))
open PySem.NumText in
def numV (z : Str) : Int := if (sg z).head? = some 45 then -((digitsVal (figOf z) : Nat) : Int) else ((digitsVal (figOf z) : Nat) : Int)
open PySem.NumText in
theorem all_dig {l : List Nat} : (l.all fun c => decide (48 ≤ c) && decide (c ≤ 57)) = true ↔ AllDigits l := by
  rw [List.all_eq_true]
  refine ⟨fun h c hc => ?_, fun h c hc => ?_⟩
  · have := h c hc
    rw [Bool.and_eq_true] at this
    exact ⟨of_decide_eq_true this.1, of_decide_eq_true this.2⟩
  · have := h c hc
    rw [Bool.and_eq_true]
    exact ⟨decide_eq_true this.1, decide_eq_true this.2⟩
theorem num_text {z : Str} (h : isNmb z = true) : PySem.intText? z = some (numV z) ∧ z.length ≤ 19 := by
  unfold isNmb at h
  rw [Bool.and_eq_true, Bool.and_eq_true, Bool.and_eq_true, all_dig] at h
  obtain ⟨⟨h1, h2, h3⟩, _⟩ := h
  have h1 := of_decide_eq_true h1
  have h2 := of_decide_eq_true h2
  unfold numV figOf at *
  by_cases c : (sg z).head? = some 45
  · rw [if_pos c] at h1 h2 h3 ⊢
    have e : sg z = 45 :: (sg z).tail := by
      cases hz : sg z with
      | nil => rw [hz] at c; cases c
      | cons x r => rw [hz] at c; cases c; rfl
    have l : z.length ≤ 19 := by
      rw [← sg_len, e, List.length_cons]
      omega
    rw [if_pos c]
    exact ⟨PySem.intText_neg e h3 (List.length_pos_iff.mp h1) (by omega), l⟩
  · rw [if_neg c] at h1 h2 h3 ⊢
    have l : z.length ≤ 19 := by
      rw [← sg_len]
      omega
    rw [if_neg c]
    exact ⟨PySem.intText_digits h3 (List.length_pos_iff.mp h1) (by omega), l⟩
theorem head_figs (n : Nat) : (figs n).head? ≠ some 45 := fun e => by
  cases h : figs n with
  | nil => rw [h] at e; cases e
  | cons c r =>
    rw [h] at e
    cases e
    have := figs_ok n 45 (by rw [h]; exact List.mem_cons_self)
    omega
theorem num_of {i : Int} (g : gn i) : isNmb (numS i) = true ∧ numV (numS i) = i := by
  cases i with
  | ofNat n =>
    have e : sg (numS (Int.ofNat n)) = figs n := sg_nat n
    have f : figOf (numS (Int.ofNat n)) = figs n := by
      unfold figOf
      rw [e, if_neg (head_figs n)]
    have ln : n < 10 ^ 18 := by
      have := g.2
      have t : (Int.ofNat n : Int) = (n : Int) := rfl
      rw [t] at this
      omega
    refine ⟨?_, ?_⟩
    · unfold isNmb
      rw [f, e, decide_eq_true (figs_pos n), decide_eq_true (figs_le (by decide) ln), all_dig.mpr (figs_ok n)]
      by_cases z : n = 0
      · subst z
        rfl
      · rw [decide_eq_true (show (figs n).head? ≠ some 48 from fun h => by
          cases hf : figs n with
          | nil => rw [hf] at h; cases h
          | cons c r =>
            rw [hf] at h
            cases h
            exact figs_head n z 48 r hf rfl)]
        rfl
    · unfold numV
      rw [f, e, if_neg (head_figs n), figs_val]
      rfl
  | negSucc n =>
    have e : sg (numS (Int.negSucc n)) = 45 :: figs (n + 1) := sg_neg n
    have f : figOf (numS (Int.negSucc n)) = figs (n + 1) := by
      unfold figOf
      rw [e]
      rfl
    have ln : n + 1 < 10 ^ 18 := by
      have := g.1
      omega
    refine ⟨?_, ?_⟩
    · unfold isNmb
      rw [f, decide_eq_true (figs_pos _), decide_eq_true (figs_le (by decide) ln), all_dig.mpr (figs_ok _), decide_eq_true (show (figs (n + 1)).head? ≠ some 48 from fun h => by
          cases hf : figs (n + 1) with
          | nil => rw [hf] at h; cases h
          | cons c r =>
            rw [hf] at h
            cases h
            exact figs_head (n + 1) (by omega) 48 r hf rfl)]
      rfl
    · unfold numV
      rw [f, e, figs_val]
      rfl
theorem num_sign {i : Int} : ∀ c ∈ sg (numS i), c = 45 ∨ (48 ≤ c ∧ c ≤ 57) := fun c hc => by
  cases i with
  | ofNat n =>
    rw [show sg (numS (Int.ofNat n)) = figs n from sg_nat n] at hc
    exact .inr (figs_ok n c hc)
  | negSucc n =>
    rw [sg_neg n] at hc
    rcases List.mem_cons.mp hc with rfl | hc
    · exact .inl rfl
    · exact .inr (figs_ok _ c hc)
theorem num_word {i : Int} (g : gn i) : Word (numS i) := ⟨by
  have h := (num_of g).1
  unfold isNmb at h
  rw [Bool.and_eq_true, Bool.and_eq_true] at h
  have h1 := of_decide_eq_true h.1.1
  rw [← sg_len]
  unfold figOf at h1
  split at h1
  · rw [List.length_tail] at h1
    omega
  · exact h1, str_len g.gd, fun c hc => by
  have := num_sign c hc
  unfold wsign
  simp
  omega⟩
end Lw
/-! SetTr: words read. -/
namespace Lw
open PySem L2
theorem Wp.rn {α : Type} {r : Res α} {a : α} {h' : AH} {P : α → AH → Prop} {E : Str → AH → Prop} (e : r = .ok a h') : Wp r P E ↔ P a h' := by rw [e] <;> exact Iff.rfl
theorem cutD_init {α : Type} (xs : List α) (x : α) : cutD (xs ++ [x]) none (some (-1)) = xs := by
  have sI : ∀ n : Nat, HT.sIx (n + 1) (n + 1) (some (-1)) = n := fun n => by
    show (if (-1 : Int) < 0 then ((-1 : Int) + ((n + 1 : Nat) : Int)).toNat else min (-1 : Int).toNat (n + 1)) = n
    rw [if_pos (by decide)]
    omega
  unfold cutD
  have hl : (xs ++ [x]).length = xs.length + 1 := by simp
  rw [hl, sI, show HT.sIx (xs.length + 1) 0 none = 0 from rfl, List.drop_zero, Nat.sub_zero, List.take_append_of_le_length (Nat.le_refl _), List.take_of_length_le (Nat.le_refl _)]
section
variable {h : AH} {E : Str → AH → Prop} {P : D → AH → Prop}
theorem need_t (k : P .non h) : Wp (pcallM (app1 f_need) [.bl true] h) P E := by
  rw [w_pcall]
  refine ⟨rfl, ?_⟩
  rw [w_app1]
  unfold f_need b_need
  simp only [WPS, reduceIte]
  exact ⟨rfl, k⟩
theorem need_f (k : E "NoText" h) : Wp (pcallM (app1 f_need) [.bl false] h) P E := by
  rw [w_pcall]
  refine ⟨rfl, ?_⟩
  rw [w_app1]
  unfold f_need b_need
  simp only [WPS, reduceIte]
  exact k
theorem need_w {b : Bool} (k0 : b = false → E "NoText" h) (k1 : b = true → P .non h) : Wp (pcallM (app1 f_need) [.bl b] h) P E := by
  cases b with
  | false => exact need_f (k0 rfl)
  | true => exact need_t (k1 rfl)
theorem w_lenS {z : Str} (l : z.length ≤ 1000000) : Wp (lenM (.str z) h) P E ↔ P (.int z.length) h := by
  unfold lenM
  simp only [show lenOk z.length = true from decide_eq_true (Nat.le_trans l (by decide)), if_true]
  exact Iff.rfl
theorem w_slS {z : Str} {lo hi : Option Int} (l : z.length ≤ 1000000) : Wp (sliceM (.str z) lo hi h) P E ↔ P (.str (cutS z lo hi)) h := by
  unfold sliceM
  simp only [show lenOk z.length = true from decide_eq_true (Nat.le_trans l (by decide)), if_true]
  exact Iff.rfl
theorem cutS_1 (z : Str) : sg (cutS z none (some 1)) = (sg z).take 1 := by
  unfold cutS
  rw [show HT.sIx z.length 0 none = 0 from rfl, show HT.sIx z.length z.length (some 1) = min 1 z.length from HT.sIx_nat _ _ 1, List.drop_zero, ← sg_len]
  show List.take _ _ = _
  rw [Nat.sub_zero, Nat.min_def]
  split
  · rfl
  · rw [List.take_of_length_le (Nat.le_refl _), List.take_of_length_le (by omega)]
theorem cutS_t (z : Str) : sg (cutS z (some 1) none) = (sg z).tail := by
  unfold cutS
  rw [show HT.sIx z.length z.length none = z.length from rfl, show HT.sIx z.length 0 (some 1) = min 1 z.length from HT.sIx_nat _ _ 1, ← sg_len]
  show List.take ((sg z).length - min 1 (sg z).length) (List.drop (min 1 (sg z).length) (sg z)) = (sg z).tail
  generalize sg z = l
  cases l with
  | nil => rfl
  | cons c r =>
    rw [List.length_cons, show min 1 (r.length + 1) = 1 by omega, List.drop_one, List.tail_cons, List.take_of_length_le (by omega)]
theorem dash_iff (z : Str) : (cutS z none (some 1) = "-") ↔ (sg z).head? = some 45 := by
  constructor
  · intro e
    have e2 := cutS_1 z
    rw [e] at e2
    have e2 : [45] = (sg z).take 1 := e2
    cases hz : sg z with
    | nil => rw [hz] at e2; cases e2
    | cons c r => rw [hz] at e2; cases e2; rfl
  · intro e
    refine str_ext ?_
    rw [cutS_1]
    cases hz : sg z with
    | nil => rw [hz] at e; cases e
    | cons c r => rw [hz] at e; cases e; rfl
def figS : Str := "0123456789"
theorem fig_run (x : Str) (l : x.length ≤ 1000000) : lcM (signsD x) c_is_number_1 h = .ok (.lst ((x.cps.toList.map fun c => decide (c ∈ figS.cps.toList)).map D.bl)) h := by
  unfold signsD
  rw [List.map_map]
  refine lcM_map (by rw [Array.length_toList]; exact l) fun c _ => ?_
  unfold c_is_number_1
  have e : signInM false (.str ⟨#[c]⟩) (.str figS) = pure (.bl (decide (c ∈ figS.cps.toList))) := by
    show pure (D.bl (xor false (decide (c ∈ figS.cps.toList)))) = _
    rw [Bool.false_xor]
  have e2 : ("0123456789" : Str) = figS := rfl
  simp only [r_bind, r_pure, r_ok, r_lift, if_true, e2, e]
  rfl
theorem fig_mem (c : Nat) : decide (c ∈ figS.cps.toList) = (decide (48 ≤ c) && decide (c ≤ 57)) := by
  have e : figS.cps.toList = [48, 49, 50, 51, 52, 53, 54, 55, 56, 57] := by decide +kernel
  rw [e, ← Bool.decide_and]
  refine decide_eq_decide.mpr ?_
  simp only [List.mem_cons, List.not_mem_nil, or_false]
  omega
theorem isnum_w {z : Str} (l : z.length ≤ 1000000) (k : P (.bl (isNmb z)) h) : Wp (pcallM (app1 f_is_number) [.str z] h) P E := by
  rw [w_pcall]
  refine ⟨by rw [noRefs_cons, noRefs_nil, noRef_str]; rfl, ?_⟩
  rw [w_app1]
  unfold f_is_number b_is_number
  have tail : ∀ f : Str, sg f = figOf z → Wp ((((((((pure (.int 1)) >>= fun x573 => ((pure (D.str f)) >>= fun x572 => lenM x572) >>= fun y574 => chainM leM leM x573 y574 (pure (.int 18))) >>= fun b575 => asB b575) >>= fun t576 => pure (!t576)) >>= fun t588 => if t588 = true then pure true else ((((((pure (D.str f)) >>= fun x577 => strItM x577) >>= fun xs578 => lcM xs578 c_is_number_1) >>= fun x585 => allM x585) >>= fun x586 => truM x586) >>= fun t587 => pure (!t587))) >>= fun t589 => if t589 = true then obind ((pure (.bl false)) >>= fun d590 => (pure (Out.ret d590) : M (Out (Empty) (Empty)))) (fun e => e.elim) else (((((pure (D.str f)) >>= fun x591 => (pure (.int 0)) >>= fun y592 => ixM x591 y592) >>= fun x593 => (pure (.str "0")) >>= fun y594 => neM x593 y594) >>= fun x597 => orV x597 ((pure (D.str z)) >>= fun x595 => (pure (.str "0")) >>= fun y596 => eqM x595 y596)) >>= fun d598 => (pure (Out.ret d598) : M (Out (Unit) (Empty))))) : M (Out Unit Empty)) ([] : AH)) (dK fun d _ => noRef d = true ∧ P d h) (fun x _ => E x h) := by
    intro f ef
    have lf : f.length ≤ z.length := by
      rw [← sg_len, ef, ← sg_len]
      unfold figOf
      split
      · rw [List.length_tail]; omega
      · exact Nat.le_refl _
    have lfm : f.length ≤ 1000000 := by omega
    have c1 : leM (.int 1) (.int (f.length : Int)) ([] : AH) = .ok (.bl (decide ((1 : Int) ≤ f.length))) [] := rfl
    have it : ∀ {Q : List D → AH → Prop} {E : Str → AH → Prop}, Wp (strItM (.str f) ([] : AH)) Q E ↔ Q (signsD f) [] := Iff.rfl
    simp only [WPS, reduceIte, w_lenS lfm]
    rw [w_chlt c1]
    have i1 : decide ((1 : Int) ≤ f.length) = decide (1 ≤ (figOf z).length) := decide_eq_decide.mpr (by rw [← ef, sg_len]; omega)
    have i2 : decide ((f.length : Int) ≤ 18) = decide ((figOf z).length ≤ 18) := decide_eq_decide.mpr (by rw [← ef, sg_len]; omega)
    rw [i1]
    have bad : isNmb z = false → noRef (.bl false) = true ∧ P (.bl false) h := fun e => ⟨noRef_bl, by rw [e] at k; exact k⟩
    by_cases h1 : 1 ≤ (figOf z).length
    · rw [decide_eq_true h1]
      simp only [WPS, reduceIte, i2]
      by_cases h2 : (figOf z).length ≤ 18
      · rw [decide_eq_true h2]
        simp only [WPS, reduceIte, it, Wp.rn (fig_run (h := []) f lfm), w_all]
        have ea : (List.map (fun c => decide (c ∈ figS.cps.toList)) f.cps.toList).all id = ((figOf z).all fun c => decide (48 ≤ c) && decide (c ≤ 57)) := by
          rw [← ef, List.all_map]
          congr 1
          funext c
          exact fig_mem c
        rw [ea]
        cases h3 : ((figOf z).all fun c => decide (48 ≤ c) && decide (c ≤ 57)) with
        | false =>
          simp only [WPS, reduceIte]
          refine bad ?_
          unfold isNmb
          rw [h3]
          simp
        | true =>
          simp only [WPS, reduceIte]
          cases hf : figOf z with
          | nil => rw [hf] at h1; exact absurd h1 (by decide)
          | cons c r =>
            have ix : ∀ {Q : D → AH → Prop} {E : Str → AH → Prop}, Wp (ixM (.str f) (.int 0) ([] : AH)) Q E ↔ Q (.str (chS c)) [] := fun {Q E} => by
              unfold ixM
              simp only [show lenOk f.length = true from decide_eq_true (Nat.le_trans lfm (by decide)), if_true]
              rw [show f.cps.toList = c :: r from ef.trans hf, show atI (c :: r) 0 = some c from (by
                unfold atI ixN
                simp)]
              exact Iff.rfl
            simp only [WPS, reduceIte, ix]
            have n1 : (chS c = "0") ↔ c = 48 := ⟨fun e => by
              have e2 := congrArg sg e
              have e2 : [c] = [48] := e2
              exact (List.cons.inj e2).1, fun e => by rw [e]; rfl⟩
            have n2 : (z = "0") ↔ sg z = [48] := ⟨fun e => by rw [e]; rfl, fun e => str_ext e⟩
            have val : isNmb z = (decide (c ≠ 48) || decide (sg z = [48])) := by
              unfold isNmb
              rw [h3, decide_eq_true h1, decide_eq_true h2, hf]
              simp
            rw [val] at k
            by_cases c48 : c = 48
            · have e1 : decide (chS c = "0") = true := decide_eq_true (n1.mpr c48)
              have e2 : decide (c ≠ 48) = false := decide_eq_false fun z => z c48
              have e3 : decide (z = "0") = decide (sg z = [48]) := decide_eq_decide.mpr n2
              rw [e2, Bool.false_or] at k
              simp only [e1, Bool.not_true, Bool.false_eq_true, if_false, e3]
              exact ⟨noRef_bl, k⟩
            · have e1 : decide (chS c = "0") = false := decide_eq_false fun z => c48 (n1.mp z)
              have e2 : decide (c ≠ 48) = true := decide_eq_true c48
              rw [e2, Bool.true_or] at k
              simp only [e1, Bool.not_false, if_true]
              exact ⟨noRef_bl, k⟩
      · rw [decide_eq_false h2]
        simp only [WPS, reduceIte]
        refine bad ?_
        unfold isNmb
        rw [decide_eq_false h2]
        simp
    · rw [decide_eq_false h1]
      simp only [WPS, reduceIte]
      refine bad ?_
      unfold isNmb
      rw [decide_eq_false h1]
      simp
  rw [w_def, w_bind, w_pure]
  simp only [WPS, reduceIte, w_slS l]
  by_cases c : (sg z).head? = some 45
  · rw [if_pos ((dash_iff z).mpr c)]
    try simp only [WPS, reduceIte, w_slS l]
    have t := tail (cutS z (some 1) none) (by rw [cutS_t]; unfold figOf; rw [if_pos c])
    simp only [WPS, reduceIte] at t
    exact t
  · rw [if_neg fun e => c ((dash_iff z).mp e)]
    try simp only [WPS, reduceIte]
    have t := tail z (by unfold figOf; rw [if_neg c])
    simp only [WPS, reduceIte] at t
    exact t
theorem rnumber_w {z : Str} (l : z.length ≤ 1000000) (k0 : isNmb z = false → E "NoText" h) (k1 : isNmb z = true → P (.int (numV z)) h) : Wp (pcallM (app1 f_number_in) [.str z] h) P E := by
  rw [w_pcall]
  refine ⟨by rw [noRefs_cons, noRefs_nil, noRef_str]; rfl, ?_⟩
  rw [w_app1]
  unfold f_number_in b_number_in
  simp only [WPS, reduceIte]
  refine isnum_w l ?_
  try simp only [WPS, reduceIte]
  refine need_w k0 fun e => ?_
  obtain ⟨t1, t2⟩ := num_text e
  have im : ∀ {Q : D → AH → Prop} {E : Str → AH → Prop}, Wp (intM (.str z) ([] : AH)) Q E ↔ Q (.int (numV z)) [] := fun {Q E} => by
    unfold intM
    simp only [t1]
    rw [if_pos (show z.length ≤ 640 by omega)]
    exact Iff.rfl
  simp only [WPS, reduceIte, im]
  exact ⟨noRef_int, k1 e⟩
theorem lcx_all {α : Type} {f : D → M (List D)} {u v : α → D} {b : α → Bool} {e : Str} {h : AH} {zs : List α} (l : zs.length ≤ 1000000) (q : ∀ x ∈ zs, f (u x) h = if b x = true then .ok [v x] h else .exc e h) : lcxM (zs.map u) f h = if zs.all b = true then .ok (.lst (zs.map v)) h else .exc e h := by
  have key : ∀ zs : List α, (∀ x ∈ zs, f (u x) h = if b x = true then .ok [v x] h else .exc e h) → compM (zs.map u) f h = if zs.all b = true then .ok (zs.map v) h else .exc e h := by
    intro zs
    induction zs with
    | nil => intro _; rfl
    | cons z r ih =>
      intro q
      have q0 := q z List.mem_cons_self
      have ih := ih fun x hx => q x (List.mem_cons_of_mem _ hx)
      rw [List.map_cons]
      unfold compM
      cases hb : b z with
      | false =>
        rw [hb] at q0
        have q0 : f (u z) h = .exc e h := q0
        simp only [r_bind, q0, r_exc, List.all_cons, hb, Bool.false_and, Bool.false_eq_true, if_false]
      | true =>
        rw [hb] at q0
        have q0 : f (u z) h = .ok [v z] h := q0
        simp only [r_bind, q0, r_ok, ih, List.all_cons, hb, Bool.true_and]
        cases r.all b with
        | false => rfl
        | true => rfl
  unfold lcxM
  rw [if_pos (show lenOk (zs.map u).length = true from decide_eq_true (by rw [List.length_map]; exact Nat.le_trans l (by decide)))]
  rw [r_bind, key zs q]
  cases zs.all b with
  | false => rfl
  | true => rfl
theorem Wp.exc_of {α : Type} {r : Res α} {E : Str → AH → Prop} (w : Wp r (fun _ _ => False) E) : ∃ x h', r = .exc x h' ∧ E x h' := by
  cases r with
  | ok d a => exact w.elim
  | exc x a => exact ⟨x, a, rfl, w⟩
  | stuck => exact w.elim
/-- numbers read: all of them are, or none is told -/
theorem numsin_w {x : D} {zs : List Str} (hx : x = .lst (zs.map D.str) ∨ x = .tup (zs.map D.str)) (l : zs.length ≤ 100000) (g : ∀ z ∈ zs, z.length ≤ 1000000) (k0 : zs.all isNmb = false → E "NoText" h) (k1 : zs.all isNmb = true → P (.tup ((zs.map numV).map D.int)) h) : Wp (pcallM (app1 f_numbers_in) [x] h) P E := by
  rw [w_pcall]
  refine ⟨?_, ?_⟩
  · rw [noRefs_cons, noRefs_nil, Bool.and_true]
    rcases hx with rfl | rfl
    · rw [noRef_lst]
      exact noRefs_map fun _ => noRef_str
    · rw [noRef_tup]
      exact noRefs_map fun _ => noRef_str
  rw [w_app1]
  unfold f_numbers_in b_numbers_in
  have run : lcxM (zs.map D.str) c_numbers_in_1 ([] : AH) = if zs.all isNmb = true then .ok (.lst (zs.map fun z => D.int (numV z))) [] else .exc "NoText" [] := lcx_all (b := isNmb) (e := "NoText") (by omega) fun z hz => by
    cases c : isNmb z with
    | true =>
      have w : Wp (c_numbers_in_1 (.str z) ([] : AH)) (fun ys hh => ys = [D.int (numV z)] ∧ hh = []) NoE := by
        unfold c_numbers_in_1
        simp only [WPS, reduceIte]
        refine rnumber_w (g z hz) (fun e => by rw [c] at e; cases e) fun _ => ?_
        try simp only [WPS, reduceIte]
        exact ⟨trivial, trivial⟩
      obtain ⟨ys, hh, e, e1, e2⟩ := w.get
      rw [e, e1, e2]
      rfl
    | false =>
      have w : Wp (c_numbers_in_1 (.str z) ([] : AH)) (fun _ _ => False) (fun x hh => x = "NoText" ∧ hh = []) := by
        unfold c_numbers_in_1
        simp only [WPS, reduceIte]
        exact rnumber_w (g z hz) (fun _ => ⟨rfl, rfl⟩) fun e => by rw [c] at e; cases e
      obtain ⟨x, hh, e, e1, e2⟩ := w.exc_of
      rw [e, e1, e2]
      rfl
  have it : Wp (itemsM x ([] : AH)) (fun xs hh => xs = zs.map D.str ∧ hh = []) NoE := by
    rcases hx with rfl | rfl <;> exact ⟨rfl, rfl⟩
  obtain ⟨xs, hh, e, rfl, rfl⟩ := it.get
  cases c : zs.all isNmb with
  | true =>
    rw [c] at run
    have run : lcxM (zs.map D.str) c_numbers_in_1 ([] : AH) = .ok (.lst (zs.map fun z => D.int (numV z))) [] := run
    simp only [WPS, reduceIte, Wp.rn e, Wp.rn run]
    have k1 := k1 c
    rw [List.map_map] at k1
    exact ⟨by rw [noRef_tup]; exact noRefs_map fun _ => noRef_int, k1⟩
  | false =>
    rw [c] at run
    have run : lcxM (zs.map D.str) c_numbers_in_1 ([] : AH) = .exc "NoText" [] := run
    have ex : ∀ {Q : D → AH → Prop} {F : Str → AH → Prop}, Wp (lcxM (zs.map D.str) c_numbers_in_1 ([] : AH)) Q F ↔ F "NoText" [] := fun {Q F} => by rw [run] <;> exact Iff.rfl
    simp only [WPS, reduceIte, Wp.rn e, ex]
    exact k0 c
theorem inD_str {y : Str} {ws : List Str} : inD (.str y) (ws.map D.str) = decide (y ∈ ws) := by
  unfold inD inV
  rw [List.map_map, List.any_map]
  induction ws with
  | nil => rfl
  | cons w r ih =>
    rw [List.any_cons, ih]
    show ((w == y) || decide (y ∈ r)) = decide (y ∈ w :: r)
    rw [List.decide_mem_cons]
    congr 1
    by_cases e : w = y
    · subst e
      simp
    · rw [beq_eq_false_iff_ne.mpr e, beq_eq_false_iff_ne.mpr (Ne.symm e)]
theorem w_inS {neg : Bool} {y : Str} {ws : List Str} : Wp (inM neg (.str y) (.lst (ws.map D.str)) h) P E ↔ P (.bl (if neg = true then !decide (y ∈ ws) else decide (y ∈ ws))) h := by
  unfold inM
  rw [show seqOf h (.lst (ws.map D.str)) = some (ws.map D.str) from rfl]
  simp only
  rw [if_pos (by
    rw [Bool.and_eq_true]
    refine ⟨rfl, ?_⟩
    rw [List.all_map]
    exact List.all_eq_true.mpr fun _ _ => rfl), inD_str]
  exact Iff.rfl
theorem w_split {a b : Str} (l : a.length + 2 ≤ 1000000) (n : (b.length == 0) = false) : Wp (splitM (.str a) (.str b) h) P E ↔ P (.lst ((Txt.split a b).map D.str)) h := by
  unfold splitM
  simp only [n, show lenOk (a.length + 2) = true from decide_eq_true (Nat.le_trans l (by decide)), Bool.not_false, Bool.and_true, if_true]
  exact Iff.rfl
/-- the words of a row -/
theorem words_w {z : Str} (l : z.length + 2 ≤ 1000000) (k0 : (⟨#[]⟩ : Str) ∈ Txt.split z " " → E "NoText" h) (k1 : (⟨#[]⟩ : Str) ∉ Txt.split z " " → P (.lst ((Txt.split z " ").map D.str)) h) : Wp (pcallM (app1 f_words_in) [.str z] h) P E := by
  rw [w_pcall]
  refine ⟨by rw [noRefs_cons, noRefs_nil, noRef_str]; rfl, ?_⟩
  rw [w_app1]
  unfold f_words_in b_words_in
  have sk : ∀ {Q : Unit → AH → Prop} {E : Str → AH → Prop}, Wp (schk (.str z) ([] : AH)) Q E ↔ Q () [] := Iff.rfl
  simp only [WPS, reduceIte, sk, w_split (h := []) (a := z) (b := " ") l rfl, w_inS]
  have e0 : ("" : Str) = ⟨#[]⟩ := rfl
  rw [e0]
  refine need_w (fun e => k0 (by simpa using e)) fun e => ?_
  try simp only [WPS, reduceIte]
  exact ⟨by rw [noRef_lst]; exact noRefs_map fun _ => noRef_str, k1 (by simpa using e)⟩
end
end Lw
/-! SetKa: any row read as a line. -/
namespace Lw
open PySem L2
/-- what a row tells -/
inductive Rw
  | told (a b c : Int) (ns : List Int)
  | lent (a : Int) (z : Str) (b c : Int)
  | back (a b : Int)
  | cut (a b : Int)
  | join (a : Int)
  deriving DecidableEq
def Rw.d : Rw → D
  | .told a b c ns => .tup [.str "told", .int a, .int b, .int c, .tup (ns.map D.int)]
  | .lent a z b c => .tup [.str "lent", .int a, .str z, .int b, .int c]
  | .back a b => .tup [.str "back", .int a, .int b]
  | .cut a b => .tup [.str "cut", .int a, .int b]
  | .join a => .tup [.str "join", .int a]
theorem Rw.nr (r : Rw) : noRef r.d = true := by
  cases r with
  | told a b c ns =>
    show noRef (.tup [.str "told", .int a, .int b, .int c, .tup (ns.map D.int)]) = true
    have z : noRefs (ns.map D.int) = true := noRefs_map fun _ => noRef_int
    rw [noRef_tup, noRefs_cons, noRefs_cons, noRefs_cons, noRefs_cons, noRefs_cons, noRefs_nil, noRef_tup, z]
    rfl
  | _ => rfl
def rdT : List Str → Option Rw
  | a :: b :: c :: ns => if (a :: b :: c :: ns).all isNmb = true then some (.told (numV a) (numV b) (numV c) (ns.map numV)) else none
  | _ => none
def rdE : List Str → Option Rw
  | [a, z, b, c] => if isNmb a = true then (if [b, c].all isNmb = true then some (.lent (numV a) z (numV b) (numV c)) else none) else none
  | _ => none
def rdB : List Str → Option Rw
  | [a, b] => if [a, b].all isNmb = true then some (.back (numV a) (numV b)) else none
  | _ => none
def rdC : List Str → Option Rw
  | [a, b] => if [a, b].all isNmb = true then some (.cut (numV a) (numV b)) else none
  | _ => none
def rdJ : List Str → Option Rw
  | [a] => if [a].all isNmb = true then some (.join (numV a)) else none
  | _ => none
def rdW : List Str → Option Rw
  | [] => none
  | w :: r => if w = "told" then rdT r else if w = "lent" then rdE r else if w = "back" then rdB r else if w = "cut" then rdC r else if w = "join" then rdJ r else none
theorem rdW_told {r : List Str} : rdW ("told" :: r) = rdT r := by
  rw [rdW, if_pos rfl]
theorem rdW_lent {r : List Str} : rdW ("lent" :: r) = rdE r := by
  rw [rdW, if_neg (show ¬ (("lent" : Str) = "told") by decide), if_pos rfl]
theorem rdW_back {r : List Str} : rdW ("back" :: r) = rdB r := by
  rw [rdW, if_neg (show ¬ (("back" : Str) = "told") by decide), if_neg (show ¬ (("back" : Str) = "lent") by decide), if_pos rfl]
theorem rdW_cut {r : List Str} : rdW ("cut" :: r) = rdC r := by
  rw [rdW, if_neg (show ¬ (("cut" : Str) = "told") by decide), if_neg (show ¬ (("cut" : Str) = "lent") by decide), if_neg (show ¬ (("cut" : Str) = "back") by decide), if_pos rfl]
theorem rdW_join {r : List Str} : rdW ("join" :: r) = rdJ r := by
  rw [rdW, if_neg (show ¬ (("join" : Str) = "told") by decide), if_neg (show ¬ (("join" : Str) = "lent") by decide), if_neg (show ¬ (("join" : Str) = "back") by decide), if_neg (show ¬ (("join" : Str) = "cut") by decide), if_pos rfl]
theorem rdW_no {w : Str} {r : List Str} (n0 : w ≠ "told") (n1 : w ≠ "lent") (n2 : w ≠ "back") (n3 : w ≠ "cut") (n4 : w ≠ "join") : rdW (w :: r) = none := by
  rw [rdW, if_neg n0, if_neg n1, if_neg n2, if_neg n3, if_neg n4]
def rdL (z : Str) : Option Rw := if (⟨#[]⟩ : Str) ∈ Txt.split z " " then none else rdW (Txt.split z " ")
/-- a row of no great length -/
def okRow (z : Str) : Bool := decide (z.length ≤ 60000) && !(Txt.split z " ").isEmpty && ((Txt.split z " ").all fun w => decide (w.length ≤ 60000)) && decide ((Txt.split z " ").length ≤ 60000) && !(decide (10 ∈ sg z))
theorem okRow.of {z : Str} (o : okRow z = true) : z.length ≤ 60000 ∧ Txt.split z " " ≠ [] ∧ (∀ w ∈ Txt.split z " ", w.length ≤ 60000) ∧ (Txt.split z " ").length ≤ 60000 ∧ 10 ∉ sg z := by
  unfold okRow at o
  simp only [Bool.and_eq_true, decide_eq_true_eq, List.all_eq_true, Bool.not_eq_true', decide_eq_false_iff_not] at o
  obtain ⟨⟨⟨⟨a, b⟩, c⟩, d⟩, e⟩ := o
  exact ⟨a, fun z => by rw [z] at b; exact absurd b (by decide), c, d, e⟩
section
variable {h : AH} {E : Str → AH → Prop} {P : D → AH → Prop}
theorem kval_no {w : Str} (n1 : w ≠ "lent") (n2 : w ≠ "back") (n3 : w ≠ "cut") (n4 : w ≠ "join") : kval kd_COUNTS w = none := by
  unfold kval kd_COUNTS
  simp [Ne.symm n1, Ne.symm n2, Ne.symm n3, Ne.symm n4, n1, n2, n3, n4]
theorem linein_x {z : Str} (o : okRow z = true) (k0 : rdL z = none → E "NoText" h) (k1 : ∀ d, rdL z = some d → P d.d h) : Wp (pcallM (app1 f_line_in) [.str z] h) P E := by
  obtain ⟨l, ne, lw, ll, _⟩ := okRow.of o
  rw [w_pcall]
  refine ⟨by rw [noRefs_cons, noRefs_nil, noRef_str]; rfl, ?_⟩
  rw [w_app1]
  unfold f_line_in b_line_in
  unfold rdL at k0 k1
  simp only [WPS, reduceIte]
  refine words_w (by omega) (fun m => k0 (if_pos m)) fun nm => ?_
  rw [if_neg nm] at k0 k1
  generalize Txt.split z " " = ws at ne lw ll k0 k1
  cases ws with
  | nil => exact absurd rfl ne
  | cons w0 r =>
    have i0 : ∀ {g : AH} {Q : D → AH → Prop} {F : Str → AH → Prop}, Wp (ixM (.lst ((w0 :: r).map D.str)) (.int 0) g) Q F ↔ Q (.str w0) g := w_ixL (atI_pos (by decide) rfl)
    have lr : r.length ≤ 60000 := by rw [List.length_cons] at ll; omega
    have gr : ∀ w ∈ r, w.length ≤ 1000000 := fun w hw => Nat.le_trans (lw w (List.mem_cons_of_mem _ hw)) (by decide)
    have lnw : ∀ {g : AH} {Q : D → AH → Prop} {F : Str → AH → Prop}, Wp (lenM (.lst ((w0 :: r).map D.str)) g) Q F ↔ Q (.int ((r.length : Int) + 1)) g := fun {g Q F} => by
      rw [w_lenL, List.length_map, List.length_cons]
      rw [show ((r.length + 1 : Nat) : Int) = (r.length : Int) + 1 by omega]
    have s1 : cutD ((w0 :: r).map D.str) (some 1) none = r.map D.str := by
      rw [show (some (1 : Int)) = some ((1 : Nat) : Int) from rfl, cutD_drop]
      rfl
    by_cases c0 : w0 = "told"
    · subst c0
      simp only [WPS, reduceIte, i0, lnw, decide_true]
      refine need_w (fun e => ?_) fun e => ?_
      · have : r.length < 3 := by
          have := of_decide_eq_false e
          omega
        refine k0 ?_
        rcases r with _ | ⟨a, _ | ⟨b, _ | ⟨c, ns⟩⟩⟩
        · rfl
        · rfl
        · rfl
        · simp only [List.length_cons] at this
          omega
      · have : 3 ≤ r.length := by
          have := of_decide_eq_true e
          omega
        obtain ⟨a, b, c, ns, rfl⟩ : ∃ a b c ns, r = a :: b :: c :: ns := by
          rcases r with _ | ⟨a, _ | ⟨b, _ | ⟨c, ns⟩⟩⟩
          · simp only [List.length_nil] at this
            omega
          · simp only [List.length_cons, List.length_nil] at this
            omega
          · simp only [List.length_cons, List.length_nil] at this
            omega
          · exact ⟨a, b, c, ns, rfl⟩
        try simp only [WPS, reduceIte, s1]
        refine numsin_w (.inl rfl) (by omega) gr (fun e => k0 ?_) fun e => ?_
        · rw [rdW_told]
          simp only [rdT, e, Bool.false_eq_true, if_false]
        · have k1 := k1 (.told (numV a) (numV b) (numV c) (ns.map numV)) (by
            rw [rdW_told]
            simp only [rdT, e, if_true])
          have c3 : cutD (((a :: b :: c :: ns).map numV).map D.int) none (some 3) = [.int (numV a), .int (numV b), .int (numV c)] := by
            rw [show (some (3 : Int)) = some ((3 : Nat) : Int) from rfl, cutD_take]
            rfl
          have c4 : cutD (((a :: b :: c :: ns).map numV).map D.int) (some 3) none = (ns.map numV).map D.int := by
            rw [show (some (3 : Int)) = some ((3 : Nat) : Int) from rfl, cutD_drop]
            rfl
          have ad : ∀ {x y z : Int} {g : AH} {Q : D → AH → Prop} {F : Str → AH → Prop}, Wp (addM (.tup [.str "told"]) (.tup [.int x, .int y, .int z]) g) Q F ↔ Q (.tup [.str "told", .int x, .int y, .int z]) g := w_addT (Nat.le_of_ble_eq_true rfl)
          have ad2 : ∀ {x y z : Int} {t : D} {g : AH} {Q : D → AH → Prop} {F : Str → AH → Prop}, Wp (addM (.tup [.str "told", .int x, .int y, .int z]) (.tup [t]) g) Q F ↔ Q (.tup [.str "told", .int x, .int y, .int z, t]) g := w_addT (Nat.le_of_ble_eq_true rfl)
          simp only [WPS, reduceIte, c3, c4, ad, ad2]
          exact ⟨Rw.nr (.told (numV a) (numV b) (numV c) (ns.map numV)), k1⟩
    have kin : ∀ {w : Str} {g : AH} {Q : D → AH → Prop} {F : Str → AH → Prop}, Wp (kinM false kd_COUNTS (.str w) g) Q F ↔ Q (.bl (kval kd_COUNTS w).isSome) g := fun {w g Q F} => by
      show Q (.bl (xor false (kval kd_COUNTS w).isSome)) g ↔ _
      rw [Bool.false_xor]
    have kgt : ∀ {w : Str} {n : Int}, kval kd_COUNTS w = some n → ∀ {g : AH} {Q : D → AH → Prop} {F : Str → AH → Prop}, Wp (kgetM kd_COUNTS (.str w) g) Q F ↔ Q (.int n) g := fun {w n} e {g Q F} => by
      unfold kgetM
      simp only [e]
      exact Iff.rfl
    by_cases clent : w0 = "lent"
    · subst clent
      have kv : kval kd_COUNTS "lent" = some 5 := rfl
      simp only [WPS, reduceIte, i0, lnw, c0, kin, kgt kv, kv, Option.isSome_some, decide_false, Bool.false_eq_true, if_false]
      refine need_w (fun e => k0 ?_) fun e => ?_
      · have e := of_decide_eq_false e
        rw [rdW_lent]
        unfold rdE
        split
        · exact absurd rfl e
        · rfl
      · have e := of_decide_eq_true e
        obtain ⟨a, z, b, c, rfl⟩ : ∃ a z b c, r = [a, z, b, c] := by
          rcases r with _ | ⟨a, _ | ⟨z, _ | ⟨b, _ | ⟨c, _ | ⟨d, r⟩⟩⟩⟩⟩
          · simp only [List.length_nil] at e
            omega
          · simp only [List.length_cons, List.length_nil] at e
            omega
          · simp only [List.length_cons, List.length_nil] at e
            omega
          · simp only [List.length_cons, List.length_nil] at e
            omega
          · exact ⟨a, z, b, c, rfl⟩
          · simp only [List.length_cons] at e
            omega
        have i1 : ∀ {g : AH} {Q : D → AH → Prop} {F : Str → AH → Prop}, Wp (ixM (.lst (("lent" :: [a, z, b, c] : List Str).map D.str)) (.int 1) g) Q F ↔ Q (.str a) g := w_ixL rfl
        have i2 : ∀ {g : AH} {Q : D → AH → Prop} {F : Str → AH → Prop}, Wp (ixM (.lst (("lent" :: [a, z, b, c] : List Str).map D.str)) (.int 2) g) Q F ↔ Q (.str z) g := w_ixL rfl
        have s3 : cutD (("lent" :: [a, z, b, c] : List Str).map D.str) (some 3) none = ([b, c] : List Str).map D.str := rfl
        try simp only [WPS, reduceIte, i0, i1, i2, decide_true]
        refine rnumber_w (gr a (by simp)) (fun e => k0 ?_) fun ea => ?_
        · rw [rdW_lent]
          simp only [rdE, e, Bool.false_eq_true, if_false]
        try simp only [WPS, reduceIte, i0, i1, i2, s3]
        refine numsin_w (zs := [b, c]) (.inl rfl) (Nat.le_of_ble_eq_true rfl) (fun w hw => gr w (by
          simp only [List.mem_cons, List.not_mem_nil, or_false] at hw ⊢
          rcases hw with rfl | rfl <;> simp)) (fun e => k0 ?_) fun e => ?_
        · rw [rdW_lent]
          simp only [rdE, ea, e, Bool.false_eq_true, if_false, if_true]
        · have k1 := k1 (.lent (numV a) z (numV b) (numV c)) (by
            rw [rdW_lent]
            simp only [rdE, ea, e, if_true])
          have ad : ∀ {x : Int} {s : Str} {y t : Int} {g : AH} {Q : D → AH → Prop} {F : Str → AH → Prop}, Wp (addM (.tup [.str "lent", .int x, .str s]) (.tup [.int y, .int t]) g) Q F ↔ Q (.tup [.str "lent", .int x, .str s, .int y, .int t]) g := w_addT (Nat.le_of_ble_eq_true rfl)
          simp only [WPS, reduceIte, List.map_cons, List.map_nil, ad]
          exact ⟨Rw.nr (.lent (numV a) z (numV b) (numV c)), k1⟩
    by_cases cback : w0 = "back"
    · subst cback
      have kv : kval kd_COUNTS "back" = some 3 := rfl
      simp only [WPS, reduceIte, i0, lnw, c0, kin, kgt kv, kv, Option.isSome_some, decide_false, Bool.false_eq_true, if_false]
      refine need_w (fun e => k0 ?_) fun e => ?_
      · have e := of_decide_eq_false e
        rw [rdW_back]
        unfold rdB
        split
        · exact absurd rfl e
        · rfl
      · have e := of_decide_eq_true e
        obtain ⟨a, b, rfl⟩ : ∃ a b, r = [a, b] := by
          rcases r with _ | ⟨a, _ | ⟨b, _ | ⟨c, r⟩⟩⟩
          · simp only [List.length_nil] at e
            omega
          · simp only [List.length_cons, List.length_nil] at e
            omega
          · exact ⟨a, b, rfl⟩
          · simp only [List.length_cons] at e
            omega
        try simp only [WPS, reduceIte, i0, s1, s_ne (show ("back" : Str) ≠ "lent" by decide), decide_false, Bool.false_eq_true, if_false]
        refine numsin_w (.inl rfl) (by omega) gr (fun e => k0 ?_) fun e => ?_
        · rw [rdW_back]
          simp only [rdB, e, Bool.false_eq_true, if_false]
        · have k1 := k1 (.back (numV a) (numV b)) (by
            rw [rdW_back]
            simp only [rdB, e, if_true])
          have ad : ∀ {x y : Int} {g : AH} {Q : D → AH → Prop} {F : Str → AH → Prop}, Wp (addM (.tup [.str "back"]) (.tup [.int x, .int y]) g) Q F ↔ Q (.tup [.str "back", .int x, .int y]) g := w_addT (Nat.le_of_ble_eq_true rfl)
          simp only [WPS, reduceIte, List.map_cons, List.map_nil, ad]
          exact ⟨Rw.nr (.back (numV a) (numV b)), k1⟩
    by_cases ccut : w0 = "cut"
    · subst ccut
      have kv : kval kd_COUNTS "cut" = some 3 := rfl
      simp only [WPS, reduceIte, i0, lnw, c0, kin, kgt kv, kv, Option.isSome_some, decide_false, Bool.false_eq_true, if_false]
      refine need_w (fun e => k0 ?_) fun e => ?_
      · have e := of_decide_eq_false e
        rw [rdW_cut]
        unfold rdC
        split
        · exact absurd rfl e
        · rfl
      · have e := of_decide_eq_true e
        obtain ⟨a, b, rfl⟩ : ∃ a b, r = [a, b] := by
          rcases r with _ | ⟨a, _ | ⟨b, _ | ⟨c, r⟩⟩⟩
          · simp only [List.length_nil] at e
            omega
          · simp only [List.length_cons, List.length_nil] at e
            omega
          · exact ⟨a, b, rfl⟩
          · simp only [List.length_cons] at e
            omega
        try simp only [WPS, reduceIte, i0, s1, s_ne (show ("cut" : Str) ≠ "lent" by decide), decide_false, Bool.false_eq_true, if_false]
        refine numsin_w (.inl rfl) (by omega) gr (fun e => k0 ?_) fun e => ?_
        · rw [rdW_cut]
          simp only [rdC, e, Bool.false_eq_true, if_false]
        · have k1 := k1 (.cut (numV a) (numV b)) (by
            rw [rdW_cut]
            simp only [rdC, e, if_true])
          have ad : ∀ {x y : Int} {g : AH} {Q : D → AH → Prop} {F : Str → AH → Prop}, Wp (addM (.tup [.str "cut"]) (.tup [.int x, .int y]) g) Q F ↔ Q (.tup [.str "cut", .int x, .int y]) g := w_addT (Nat.le_of_ble_eq_true rfl)
          simp only [WPS, reduceIte, List.map_cons, List.map_nil, ad]
          exact ⟨Rw.nr (.cut (numV a) (numV b)), k1⟩
    by_cases cjoin : w0 = "join"
    · subst cjoin
      have kv : kval kd_COUNTS "join" = some 2 := rfl
      simp only [WPS, reduceIte, i0, lnw, c0, kin, kgt kv, kv, Option.isSome_some, decide_false, Bool.false_eq_true, if_false]
      refine need_w (fun e => k0 ?_) fun e => ?_
      · have e := of_decide_eq_false e
        rw [rdW_join]
        unfold rdJ
        split
        · exact absurd rfl e
        · rfl
      · have e := of_decide_eq_true e
        obtain ⟨a, rfl⟩ : ∃ a, r = [a] := by
          rcases r with _ | ⟨a, _ | ⟨b, r⟩⟩
          · simp only [List.length_nil] at e
            omega
          · exact ⟨a, rfl⟩
          · simp only [List.length_cons] at e
            omega
        try simp only [WPS, reduceIte, i0, s1, s_ne (show ("join" : Str) ≠ "lent" by decide), decide_false, Bool.false_eq_true, if_false]
        refine numsin_w (.inl rfl) (by omega) gr (fun e => k0 ?_) fun e => ?_
        · rw [rdW_join]
          simp only [rdJ, e, Bool.false_eq_true, if_false]
        · have k1 := k1 (.join (numV a)) (by
            rw [rdW_join]
            simp only [rdJ, e, if_true])
          have ad : ∀ {x : Int} {g : AH} {Q : D → AH → Prop} {F : Str → AH → Prop}, Wp (addM (.tup [.str "join"]) (.tup [.int x]) g) Q F ↔ Q (.tup [.str "join", .int x]) g := w_addT (Nat.le_of_ble_eq_true rfl)
          simp only [WPS, reduceIte, List.map_cons, List.map_nil, ad]
          exact ⟨Rw.nr (.join (numV a)), k1⟩
    have kv := kval_no clent cback ccut cjoin
    simp only [WPS, reduceIte, i0, lnw, c0, kin, kv, Option.isSome_none, decide_false, Bool.false_eq_true, if_false]
    exact need_w (fun _ => k0 (rdW_no c0 clent cback ccut cjoin)) fun e => nomatch e
end
end Lw
/-! SetMa: a law's own reader: numbers. -/
namespace Lw
open PySem L2
theorem cutS_nat0 (z : Str) : sg (cutS z (some 0) none) = sg z := by
  unfold cutS
  rw [show HT.sIx z.length z.length none = z.length from rfl, show HT.sIx z.length 0 (some 0) = min 0 z.length from HT.sIx_nat _ _ 0, ← sg_len, Nat.zero_min, List.drop_zero, Nat.sub_zero]
  exact List.take_of_length_le (Nat.le_refl _)
theorem strip_iff (x y : Str) : Txt.stripChars x y = "" ↔ ∀ c ∈ sg x, c ∈ sg y := by
  have e := PyProof.Rows.stripBy_eq y.cps.contains true true x
  have go : ∀ c, y.cps.contains c = true ↔ c ∈ sg y := fun c => by
    rw [Array.contains_iff_mem, ← Array.mem_toList_iff]
  obtain ⟨l1, l2, l3⟩ := PyProof.Rows.lo_facts y.cps.contains x
  obtain ⟨h1, h2, h3, h4⟩ := PyProof.Rows.hi_facts y.cps.contains x (PySem.stripLo y.cps.contains true x) l1
  have at_ : ∀ k, k < x.length → x.cps.getD k 0 ∈ sg x := fun k hk => by
    rw [← PyProof.Rows.getD_list, List.getD_eq_getElem?_getD, List.getElem?_eq_getElem (by rw [sg_len]; exact hk)]
    exact List.getElem_mem _
  have len : (Txt.stripChars x y).length = PySem.stripHi y.cps.contains true x (PySem.stripLo y.cps.contains true x) - PySem.stripLo y.cps.contains true x := by
    unfold Txt.stripChars
    rw [e]
    unfold Builtin.Str.strSub Str.length
    rw [Array.size_extract]
    have : x.length = x.cps.size := rfl
    omega
  constructor
  · intro z
    have l0 : (Txt.stripChars x y).length = 0 := by rw [z]; rfl
    rw [len] at l0
    rcases l3 with l3 | l3
    · intro c hc
      obtain ⟨k, hk, ek⟩ := List.mem_iff_getElem.mp hc
      have hk2 : k < x.length := by rw [← sg_len]; exact hk
      have g := l2 k (by omega)
      rw [← PyProof.Rows.getD_list, List.getD_eq_getElem?_getD, List.getElem?_eq_getElem hk] at g
      rw [← ek]
      exact (go _).mp g
    · by_cases c : PySem.stripLo y.cps.contains true x < x.length
      · have g := h3 (PySem.stripLo y.cps.contains true x) (by omega) c
        rw [l3] at g
        cases g
      · intro c' hc
        obtain ⟨k, hk, ek⟩ := List.mem_iff_getElem.mp hc
        have hk2 : k < x.length := by rw [← sg_len]; exact hk
        have g := l2 k (by omega)
        rw [← PyProof.Rows.getD_list, List.getD_eq_getElem?_getD, List.getElem?_eq_getElem hk] at g
        rw [← ek]
        exact (go _).mp g
  · intro a
    have lo : PySem.stripLo y.cps.contains true x = x.length := by
      rcases l3 with l3 | l3
      · exact l3
      · by_cases c : PySem.stripLo y.cps.contains true x < x.length
        · have := (go _).mpr (a _ (at_ _ c))
          rw [l3] at this
          cases this
        · omega
    refine str_ext ?_
    have z : (sg (Txt.stripChars x y)).length = 0 := by
      rw [sg_len, len]
      omega
    rw [List.length_eq_zero_iff.mp z]
    rfl
theorem dig_iff (c : Nat) : c ∈ sg ("0123456789" : Str) ↔ (48 ≤ c ∧ c ≤ 57) := by
  have z := fig_mem c
  have z : decide (c ∈ sg ("0123456789" : Str)) = (decide (48 ≤ c) && decide (c ≤ 57)) := z
  constructor
  · intro h
    rw [decide_eq_true h] at z
    simpa using z.symm
  · intro h
    rw [decide_eq_true h.1, decide_eq_true h.2] at z
    exact of_decide_eq_true z
/-- what the law's own reader has of a word as a number -/
def nmD (z : Str) : D := if isNmb z = true then .int (numV z) else .non
theorem nmD_t {z : Str} (e : isNmb z = true) : nmD z = .int (numV z) := if_pos e
theorem nmD_f {z : Str} (e : isNmb z = false) : nmD z = .non := if_neg (by rw [e]; exact Bool.false_ne_true)
section
variable {h : AH} {E : Str → AH → Prop} {P : D → AH → Prop}
theorem w_stripC {a b : Str} (l : a.length ≤ 1000000) : Wp (stripCM (.str a) (.str b) h) P E ↔ P (.str (Txt.stripChars a b)) h := by
  unfold stripCM
  simp only [show lenOk a.length = true from decide_eq_true (Nat.le_trans l (by decide)), if_true]
  exact Iff.rfl
theorem ix0S {f : Str} {c : Nat} {r : List Nat} (l : f.length ≤ 1000000) (e : sg f = c :: r) : Wp (ixM (.str f) (.int 0) h) P E ↔ P (.str (chS c)) h := by
  unfold ixM
  simp only [show lenOk f.length = true from decide_eq_true (Nat.le_trans l (by decide)), if_true]
  rw [show f.cps.toList = c :: r from e, show atI (c :: r) 0 = some c from (by
    unfold atI ixN
    simp)]
  exact Iff.rfl
theorem lawnum_w {z : Str} (l : z.length ≤ 1000000) (k : P (nmD z) h) : Wp (pcallM (app1 f_law_number) [.str z] h) P E := by
  rw [w_pcall]
  refine ⟨by rw [noRefs_cons, noRefs_nil, noRef_str]; rfl, ?_⟩
  rw [w_app1]
  unfold f_law_number b_law_number
  obtain ⟨f, ef, e0⟩ : ∃ f : Str, sg f = figOf z ∧ cutS z (some (if cutS z none (some 1) = "-" then 1 else 0)) none = f := by
    by_cases c : (sg z).head? = some 45
    · refine ⟨cutS z (some 1) none, by rw [cutS_t]; unfold figOf; rw [if_pos c], ?_⟩
      rw [if_pos ((dash_iff z).mpr c)]
    · refine ⟨z, by unfold figOf; rw [if_neg c], ?_⟩
      rw [if_neg fun e => c ((dash_iff z).mp e)]
      refine str_ext ?_
      have q := cutS_nat0 z
      exact q
  have lf : f.length ≤ z.length := by
    rw [← sg_len, ef, ← sg_len]
    unfold figOf
    split
    · rw [List.length_tail]; omega
    · exact Nat.le_refl _
  have lfm : f.length ≤ 1000000 := by omega
  simp only [WPS, reduceIte, w_slS l, e0]
  have c1 : leM (.int 1) (.int (f.length : Int)) ([] : AH) = .ok (.bl (decide ((1 : Int) ≤ f.length))) [] := rfl
  have i1 : decide ((1 : Int) ≤ f.length) = decide (1 ≤ (figOf z).length) := decide_eq_decide.mpr (by rw [← ef, sg_len]; omega)
  have i2 : decide ((f.length : Int) ≤ 18) = decide ((figOf z).length ≤ 18) := decide_eq_decide.mpr (by rw [← ef, sg_len]; omega)
  have bad : isNmb z = false → noRef .non = true ∧ P .non h := fun e => ⟨rfl, by rw [nmD_f e] at k; exact k⟩
  simp only [WPS, reduceIte, w_lenS lfm]
  rw [w_chlt c1, i1]
  by_cases h1 : 1 ≤ (figOf z).length
  case neg =>
    rw [decide_eq_false h1]
    simp only [WPS, reduceIte]
    refine bad ?_
    unfold isNmb
    rw [decide_eq_false h1]
    simp
  rw [decide_eq_true h1]
  simp only [WPS, reduceIte, i2]
  by_cases h2 : (figOf z).length ≤ 18
  case neg =>
    rw [decide_eq_false h2]
    simp only [WPS, reduceIte]
    refine bad ?_
    unfold isNmb
    rw [decide_eq_false h2]
    simp
  rw [decide_eq_true h2]
  simp only [WPS, reduceIte, w_stripC lfm]
  have e3 : decide (Txt.stripChars f "0123456789" = "") = ((figOf z).all fun c => decide (48 ≤ c) && decide (c ≤ 57)) := by
    cases h3 : ((figOf z).all fun c => decide (48 ≤ c) && decide (c ≤ 57)) with
    | true =>
      refine decide_eq_true ((strip_iff _ _).mpr fun c hc => ?_)
      rw [ef] at hc
      have := List.all_eq_true.mp h3 c hc
      rw [Bool.and_eq_true, decide_eq_true_eq, decide_eq_true_eq] at this
      exact (dig_iff c).mpr this
    | false =>
      refine decide_eq_false fun e => ?_
      have := (strip_iff _ _).mp e
      have t : ((figOf z).all fun c => decide (48 ≤ c) && decide (c ≤ 57)) = true := List.all_eq_true.mpr fun c hc => by
        have := (dig_iff c).mp (this c (by rw [ef]; exact hc))
        rw [Bool.and_eq_true, decide_eq_true_eq, decide_eq_true_eq]
        exact this
      rw [t] at h3
      cases h3
  rw [e3]
  cases h3 : ((figOf z).all fun c => decide (48 ≤ c) && decide (c ≤ 57)) with
  | false =>
    simp only [WPS, reduceIte]
    refine bad ?_
    unfold isNmb
    rw [h3]
    simp
  | true =>
    simp only [WPS, reduceIte]
    cases hf : figOf z with
    | nil => rw [hf] at h1; exact absurd h1 (by decide)
    | cons c r =>
      simp only [WPS, reduceIte, ix0S lfm (ef.trans hf)]
      have n1 : (chS c = "0") ↔ c = 48 := ⟨fun e => by
        have e2 := congrArg sg e
        have e2 : [c] = [48] := e2
        exact (List.cons.inj e2).1, fun e => by rw [e]; rfl⟩
      have n2 : (z = "0") ↔ sg z = [48] := ⟨fun e => by rw [e]; rfl, fun e => str_ext e⟩
      have val : isNmb z = (decide (c ≠ 48) || decide (sg z = [48])) := by
        unfold isNmb
        rw [h3, decide_eq_true h1, decide_eq_true h2, hf]
        simp
      have good : isNmb z = true → Wp (intM (.str z) ([] : AH)) (fun d _ => noRef d = true ∧ P d h) (fun x _ => E x h) := fun e => by
        obtain ⟨t1, t2⟩ := num_text e
        unfold intM
        simp only [t1]
        rw [if_pos (show z.length ≤ 640 by omega)]
        rw [nmD_t e] at k
        exact ⟨noRef_int, k⟩
      by_cases c48 : c = 48
      · by_cases c0 : z = "0"
        · simp only [WPS, reduceIte, decide_eq_true c0]
          rw [if_pos (n1.mpr c48)]
          exact good (by rw [val, decide_eq_true (n2.mp c0), Bool.or_true])
        · simp only [WPS, reduceIte, decide_eq_false c0]
          rw [if_pos (n1.mpr c48)]
          exact bad (by rw [val, decide_eq_false (fun e => c0 (n2.mpr e)), decide_eq_false (fun n => n c48), Bool.or_false])
      · rw [if_neg fun z => c48 (n1.mp z)]
        exact good (by rw [val, decide_eq_true c48, Bool.true_or])
end
end Lw
/-! SetW: stretches of places as sets, in plain Lean. -/
namespace Lw
abbrev P2 := Int × Int
def mem (n : Int) (w : List P2) : Prop := ∃ p, p ∈ w ∧ p.1 ≤ n ∧ n < p.2
/-- stretches one behind the other -/
def Wk (w : List P2) : Prop := w.Pairwise (fun p q => p.2 ≤ q.1) ∧ ∀ p, p ∈ w → p.1 < p.2
/-- none touches the next -/
def Can (w : List P2) : Prop := w.Pairwise (fun p q => p.2 < q.1) ∧ ∀ p, p ∈ w → p.1 < p.2
theorem Wk.nil : Wk [] := ⟨List.Pairwise.nil, fun _ h => nomatch h⟩
theorem Can.nil : Can [] := ⟨List.Pairwise.nil, fun _ h => nomatch h⟩
theorem mem_cons {n : Int} {p : P2} {w : List P2} : mem n (p :: w) ↔ (p.1 ≤ n ∧ n < p.2) ∨ mem n w := by
  unfold mem
  constructor
  · rintro ⟨q, hq, a, b⟩
    rcases List.mem_cons.mp hq with rfl | hq
    · exact .inl ⟨a, b⟩
    · exact .inr ⟨q, hq, a, b⟩
  · rintro (⟨a, b⟩ | ⟨q, hq, a, b⟩)
    · exact ⟨p, List.mem_cons_self, a, b⟩
    · exact ⟨q, List.mem_cons_of_mem _ hq, a, b⟩
theorem mem_append {n : Int} {w u : List P2} : mem n (w ++ u) ↔ mem n w ∨ mem n u := by
  unfold mem
  constructor
  · rintro ⟨q, hq, a, b⟩
    rcases List.mem_append.mp hq with hq | hq
    · exact .inl ⟨q, hq, a, b⟩
    · exact .inr ⟨q, hq, a, b⟩
  · rintro (⟨q, hq, a, b⟩ | ⟨q, hq, a, b⟩)
    · exact ⟨q, List.mem_append_left _ hq, a, b⟩
    · exact ⟨q, List.mem_append_right _ hq, a, b⟩
/-! ### laid together -/
def lstep (acc : List P2) (p : P2) : List P2 := match acc.getLast? with
  | some q => if p.1 ≤ q.2 then acc.dropLast ++ [(q.1, max q.2 p.2)] else acc ++ [p]
  | none => acc ++ [p]
def laid (xs : List P2) : List P2 := xs.foldl lstep []
/-! ### one set, one row of stretches -/
/-! ### what both hold -/
def bothP (p q : P2) : Bool := decide (q.1 < p.2) && decide (p.1 < q.2)
def bothR (p : P2) (other : List P2) : List P2 := (other.filter (bothP p)).map fun q => (max p.1 q.1, min p.2 q.2)
def bothX (one other : List P2) : List P2 := one.flatMap fun p => bothR p other
def both (one other : List P2) : List P2 := laid (bothX one other)
/-! ### the one without the other -/
/-! ### what either holds -/
/-! ### the facts of the three -/
section
end
/-! ### how many places -/
def size (w : List P2) : Int := (w.map fun p => p.2 - p.1).sum
def S (f : Int → Int) (L : Int) : Nat → Int
  | 0 => 0
  | k + 1 => S f L k + f (L + k)
end Lw
/-! SetP: stretches as data. -/
namespace Lw
open PySem L2
def pd (p : P2) : D := .tup [.int p.1, .int p.2]
def wk (w : List P2) : D := .tup (w.map pd)
theorem pd_inj {p q : P2} (h : pd p = pd q) : p = q := by
  unfold pd at h
  cases p
  cases q
  simp at h
  exact Prod.ext h.1 h.2
theorem map_pd_inj : ∀ {w u : List P2}, w.map pd = u.map pd → w = u
  | [], [], _ => rfl
  | [], _ :: _, h => by cases h
  | _ :: _, [], h => by cases h
  | p :: w, q :: u, h => by
    rw [List.map_cons, List.map_cons] at h
    rw [pd_inj (List.cons.inj h).1, map_pd_inj (List.cons.inj h).2]
theorem wk_inj {w u : List P2} (h : wk w = wk u) : w = u := map_pd_inj (D.tup.inj h)
section
end
/-! ### a row of stretches in the heap -/
theorem frz (xs : List D) : freezeM (.ref 0) [.lst xs] = .ok (.lst xs) [.dead] := freezeM_ref rfl
theorem noRefs_one {d : D} (a : noRef d = true) : noRefs [d] = true := by
  rw [noRefs_cons, a]
  rfl
end Lw
/-! SetTh: heads read. -/
namespace Lw
open PySem L2
/-- every second one of the last six, of the last five -/
theorem step6 {α : Type} (xs : List α) (a b c d e f : α) : stepD (xs ++ [a, b, c, d, e, f]) (some (-6)) 2 = [a, c, e] := by
  have hl : (xs ++ [a, b, c, d, e, f]).length = xs.length + 6 := by simp
  unfold stepD
  rw [hl]
  have sb : sliceBounds (some (-6)) none (some 2) (xs.length + 6) = ((xs.length : Int), ((xs.length + 6 : Nat) : Int), 2) := by
    unfold sliceBounds
    simp only [Option.getD_some, show (2 : Int) > 0 by decide, if_true, show (-6 : Int) < 0 by decide]
    congr 1
    omega
  rw [sb]
  have sr : sliceRange (xs.length : Int) ((xs.length + 6 : Nat) : Int) 2 = [xs.length, xs.length + 2, xs.length + 4] := by
    unfold sliceRange
    simp only [show (2 : Int) > 0 by decide, if_true, show (xs.length : Int) < ((xs.length + 6 : Nat) : Int) by omega]
    rw [show (((xs.length + 6 : Nat) : Int) - (xs.length : Int) + 2 - 1) / 2 = 3 by omega]
    show [((xs.length : Int) + 2 * ((0 : Nat) : Int)).toNat, ((xs.length : Int) + 2 * ((1 : Nat) : Int)).toNat, ((xs.length : Int) + 2 * ((2 : Nat) : Int)).toNat] = _
    rw [show ((xs.length : Int) + 2 * ((0 : Nat) : Int)).toNat = xs.length by omega, show ((xs.length : Int) + 2 * ((1 : Nat) : Int)).toNat = xs.length + 2 by omega, show ((xs.length : Int) + 2 * ((2 : Nat) : Int)).toNat = xs.length + 4 by omega]
  rw [sr]
  have g : ∀ (k : Nat) (y : α), [a, b, c, d, e, f][k]? = some y → (xs ++ [a, b, c, d, e, f])[xs.length + k]? = some y := fun k y h => by
    rw [List.getElem?_append_right (by omega), Nat.add_sub_cancel_left]
    exact h
  have g0 := g 0 a rfl
  rw [Nat.add_zero] at g0
  simp only [List.filterMap_cons, g0, g 2 c rfl, g 4 e rfl, List.filterMap_nil]
theorem step5 {α : Type} (xs : List α) (a b c d e f : α) : stepD (xs ++ [a, b, c, d, e, f]) (some (-5)) 2 = [b, d, f] := by
  have hl : (xs ++ [a, b, c, d, e, f]).length = xs.length + 6 := by simp
  unfold stepD
  rw [hl]
  have sb : sliceBounds (some (-5)) none (some 2) (xs.length + 6) = (((xs.length + 1 : Nat) : Int), ((xs.length + 6 : Nat) : Int), 2) := by
    unfold sliceBounds
    simp only [Option.getD_some, show (2 : Int) > 0 by decide, if_true, show (-5 : Int) < 0 by decide]
    congr 1
    omega
  rw [sb]
  have sr : sliceRange ((xs.length + 1 : Nat) : Int) ((xs.length + 6 : Nat) : Int) 2 = [xs.length + 1, xs.length + 3, xs.length + 5] := by
    unfold sliceRange
    simp only [show (2 : Int) > 0 by decide, if_true, show ((xs.length + 1 : Nat) : Int) < ((xs.length + 6 : Nat) : Int) by omega]
    rw [show (((xs.length + 6 : Nat) : Int) - ((xs.length + 1 : Nat) : Int) + 2 - 1) / 2 = 3 by omega]
    show [(((xs.length + 1 : Nat) : Int) + 2 * ((0 : Nat) : Int)).toNat, (((xs.length + 1 : Nat) : Int) + 2 * ((1 : Nat) : Int)).toNat, (((xs.length + 1 : Nat) : Int) + 2 * ((2 : Nat) : Int)).toNat] = _
    rw [show (((xs.length + 1 : Nat) : Int) + 2 * ((0 : Nat) : Int)).toNat = xs.length + 1 by omega, show (((xs.length + 1 : Nat) : Int) + 2 * ((1 : Nat) : Int)).toNat = xs.length + 3 by omega, show (((xs.length + 1 : Nat) : Int) + 2 * ((2 : Nat) : Int)).toNat = xs.length + 5 by omega]
  rw [sr]
  have g : ∀ (k : Nat) (y : α), [a, b, c, d, e, f][k]? = some y → (xs ++ [a, b, c, d, e, f])[xs.length + k]? = some y := fun k y h => by
    rw [List.getElem?_append_right (by omega), Nat.add_sub_cancel_left]
    exact h
  simp only [List.filterMap_cons, g 1 b rfl, g 3 d rfl, g 5 f rfl, List.filterMap_nil]
theorem cut16 {α : Type} (w : α) (xs six : List α) (h6 : six.length = 6) : cutD (w :: (xs ++ six)) (some 1) (some (-6)) = xs := by
  unfold cutD
  have hl : (w :: (xs ++ six)).length = xs.length + 7 := by simp [h6]
  rw [hl, show HT.sIx (xs.length + 7) 0 (some 1) = min 1 (xs.length + 7) from HT.sIx_nat _ _ 1, show min 1 (xs.length + 7) = 1 by omega, show HT.sIx (xs.length + 7) (xs.length + 7) (some (-6)) = xs.length + 1 from (by
    show (if (-6 : Int) < 0 then ((-6 : Int) + ((xs.length + 7 : Nat) : Int)).toNat else min (-6 : Int).toNat (xs.length + 7)) = _
    rw [if_pos (by decide)]
    omega), List.drop_one, List.tail_cons, Nat.add_sub_cancel, List.take_append_of_le_length (Nat.le_refl _), List.take_of_length_le (Nat.le_refl _)]
theorem rng_two (m : Nat) (hm : m ≤ 100000) : rng3M [.int 0, .int ((2 * m : Nat) : Int), .int 2] = (pure (rangeC 0 2 m) : M (List D)) := by
  have sz : Builtin.Range.rangeSize 0 ((2 * m : Nat) : Int) 2 = (m : Int) := by
    unfold Builtin.Range.rangeSize
    simp
    omega
  have sm : Builtin.Range.small 0 ((2 * m : Nat) : Int) 2 = true := by
    unfold Builtin.Range.small
    rw [sz]
    unfold Builtin.Range.rangeFitsLong
    simp
    omega
  unfold rng3M
  simp only [sz, sm]
  rw [if_pos (by simp), Int.toNat_natCast]
section
variable {h : AH} {E : Str → AH → Prop} {P : D → AH → Prop}
/-- the numbers of a work, one by one -/
def fl (ps : List P2) : List Int := (ps.map fun p => [p.1, p.2]).flatten
theorem fl_len (ps : List P2) : (fl ps).length = 2 * ps.length := by
  unfold fl
  induction ps with
  | nil => rfl
  | cons p r ih =>
    rw [List.map_cons, List.flatten_cons, List.length_append, ih]
    simp only [List.length_cons, List.length_nil]
    omega
theorem fl_get : ∀ (ps : List P2) (k : Nat) (p : P2), ps[k]? = some p → (fl ps)[2 * k]? = some p.1 ∧ (fl ps)[2 * k + 1]? = some p.2
  | [], _, _, h => by cases h
  | q :: r, 0, p, h => by
    cases h
    exact ⟨rfl, rfl⟩
  | q :: r, k + 1, p, h => by
    have ih := fl_get r k p h
    have e : fl (q :: r) = q.1 :: q.2 :: fl r := rfl
    rw [e, show 2 * (k + 1) = 2 * k + 1 + 1 by omega]
    exact ⟨by rw [List.getElem?_cons_succ, List.getElem?_cons_succ]; exact ih.1, by rw [List.getElem?_cons_succ, List.getElem?_cons_succ]; exact ih.2⟩
theorem head_words (ps : List P2) (a b c : Int) : (headD ps a b c).map wrt = ("work" : Str) :: ((fl ps).map numS ++ (["span", numS a, "every", numS b, "least", numS c] : List Str)) := by
  unfold headD fl
  rw [List.map_append, List.map_cons, List.map_flatten, List.map_flatten, List.map_map, List.map_map, List.cons_append]
  rfl
theorem head_word {ps : List P2} {a b c : Int} (gp : ∀ p ∈ ps, gn p.1 ∧ gn p.2) (ga : gn a) (gb : gn b) (gc : gn c) : ∀ x ∈ (headD ps a b c).map wrt, Word x := by
  intro x hx
  rw [head_words] at hx
  rcases List.mem_cons.mp hx with rfl | hx
  · exact ⟨by decide, by decide, by decide⟩
  · rcases List.mem_append.mp hx with hx | hx
    · obtain ⟨i, hi, rfl⟩ := List.mem_map.mp hx
      obtain ⟨l, hl, hm⟩ := List.mem_flatten.mp hi
      obtain ⟨p, hp, rfl⟩ := List.mem_map.mp hl
      simp only [List.mem_cons, List.not_mem_nil, or_false] at hm
      rcases hm with rfl | rfl
      · exact num_word (gp p hp).1
      · exact num_word (gp p hp).2
    · simp only [List.mem_cons, List.not_mem_nil, or_false] at hx
      rcases hx with rfl | rfl | rfl | rfl | rfl | rfl
      · exact ⟨by decide, by decide, by decide⟩
      · exact num_word ga
      · exact ⟨by decide, by decide, by decide⟩
      · exact num_word gb
      · exact ⟨by decide, by decide, by decide⟩
      · exact num_word gc
end
end Lw
/-! SetMb: heads, by the program and by a law's own reader. -/
namespace Lw
open PySem L2
/-! ### words of a row -/
theorem mem_join {c x : Nat} : ∀ {ys : List Str} {y : Str}, y ∈ ys → x ∈ sg y → x ∈ sg (Str.join (chS c) ys)
  | [], _, h, _ => by cases h
  | [z], y, h, m => by
    rw [List.mem_singleton.mp h] at m
    exact m
  | z :: w :: t, y, h, m => by
    rw [sg_join2]
    rcases List.mem_cons.mp h with rfl | h
    · exact List.mem_append_left _ m
    · exact List.mem_append_right _ (List.mem_cons_of_mem _ (mem_join (ys := w :: t) h m))
theorem split_sub {z : Str} {c : Nat} {w : Str} (h : w ∈ Txt.split z (chS c)) : ∀ x ∈ sg w, x ∈ sg z := fun x hx => by
  have e := join_split z c
  have m := mem_join (c := c) h hx
  rw [e] at m
  exact m
theorem strOk_iff {z : Str} : PyData.strOk z = true ↔ ∀ c ∈ sg z, c < 0x110000 := by
  unfold PyData.strOk
  rw [Array.all_eq_true']
  constructor
  · intro h c hc
    exact of_decide_eq_true (h c (Array.mem_toList_iff.mp hc))
  · intro h c hc
    exact decide_eq_true (h c (Array.mem_toList_iff.mpr hc))
theorem split_ok {z : Str} {c : Nat} (o : PyData.strOk z = true) : ∀ w ∈ Txt.split z (chS c), PyData.strOk w = true := fun w hw => strOk_iff.mpr fun x hx => strOk_iff.mp o x (split_sub hw x hx)
/-! ### what a head tells -/
structure Hd where
  ps : List P2
  a : Int
  b : Int
  c : Int
def Hd.d (x : Hd) : D := .tup [prsD x.ps, .int x.a, .int x.b, .int x.c]
def hoD : Option Hd → D
  | none => .non
  | some x => .tup [prsD x.ps, .tup [.int x.a, .int x.b, .int x.c]]
def prs : List Int → List P2
  | a :: b :: r => (a, b) :: prs r
  | _ => []
theorem prs_len : ∀ (l : List Int), (prs l).length = l.length / 2
  | [] => by simp [prs]
  | [_] => by simp [prs]
  | a :: b :: r => by
    show (prs r).length + 1 = _
    rw [prs_len r, List.length_cons, List.length_cons]
    omega
theorem fl_prs : ∀ (l : List Int), l.length % 2 = 0 → fl (prs l) = l
  | [], _ => rfl
  | [_], h => by cases h
  | a :: b :: r, h => by
    have ih := fl_prs r (by rw [List.length_cons, List.length_cons] at h; omega)
    show a :: b :: fl (prs r) = _
    rw [ih]
def hwOk (xs : List Str) (a b c d e f : Str) : Bool := (decide (a = "span") && (decide (c = "every") && decide (e = "least"))) && (xs ++ [b, d, f]).all isNmb
def rdHw (xs : List Str) (a b c d e f : Str) : Option Hd := if hwOk xs a b c d e f = true then some ⟨prs (xs.map numV), numV b, numV d, numV f⟩ else none
inductive HR : List Str → Option Hd → Prop
  | emp {ws : List Str} : (⟨#[]⟩ : Str) ∈ ws → HR ws none
  | few {ws : List Str} : (⟨#[]⟩ : Str) ∉ ws → ws.length < 7 → HR ws none
  | even {ws : List Str} : (⟨#[]⟩ : Str) ∉ ws → 7 ≤ ws.length → ws.length % 2 = 0 → HR ws none
  | work {w : Str} {r : List Str} : (⟨#[]⟩ : Str) ∉ w :: r → 7 ≤ (w :: r).length → (w :: r).length % 2 = 1 → w ≠ "work" → HR (w :: r) none
  | it {xs : List Str} {a b c d e f : Str} : (⟨#[]⟩ : Str) ∉ ("work" : Str) :: (xs ++ [a, b, c, d, e, f]) → xs.length % 2 = 0 → HR ("work" :: (xs ++ [a, b, c, d, e, f])) (rdHw xs a b c d e f)
theorem last6 : ∀ (r : List Str), 6 ≤ r.length → ∃ xs a b c d e f, r = xs ++ [a, b, c, d, e, f] := fun r h => by
  have e := List.take_append_drop (r.length - 6) r
  have l : (r.drop (r.length - 6)).length = 6 := by rw [List.length_drop]; omega
  generalize r.drop (r.length - 6) = t at e l
  match t, l with
  | [a, b, c, d, x, f], _ => exact ⟨_, a, b, c, d, x, f, e.symm⟩
theorem hr_ex {ws : List Str} (ne : ws ≠ []) : ∃ v, HR ws v := by
  by_cases m : (⟨#[]⟩ : Str) ∈ ws
  · exact ⟨_, .emp m⟩
  by_cases c1 : ws.length < 7
  · exact ⟨_, .few m c1⟩
  by_cases c2 : ws.length % 2 = 0
  · exact ⟨_, .even m (by omega) c2⟩
  cases ws with
  | nil => exact absurd rfl ne
  | cons w r =>
    by_cases c3 : w = "work"
    · subst c3
      rw [List.length_cons] at c1 c2
      obtain ⟨xs, a, b, c, d, e, f, rfl⟩ := last6 r (by omega)
      refine ⟨_, .it m ?_⟩
      rw [List.length_append] at c2
      simp only [List.length_cons, List.length_nil] at c2
      omega
    · exact ⟨_, .work m (by omega) (by omega) c3⟩
theorem cut3 {α : Type} (xs : List α) (a b c : α) : cutD (xs ++ [a, b, c]) (some (-3)) none = [a, b, c] := by
  unfold cutD
  have hl : (xs ++ [a, b, c]).length = xs.length + 3 := by simp
  rw [hl, show HT.sIx (xs.length + 3) (xs.length + 3) none = xs.length + 3 from rfl, show HT.sIx (xs.length + 3) 0 (some (-3)) = xs.length from (by
    show (if (-3 : Int) < 0 then ((-3 : Int) + ((xs.length + 3 : Nat) : Int)).toNat else min (-3 : Int).toNat (xs.length + 3)) = _
    rw [if_pos (by decide)]
    omega), List.drop_left]
  exact List.take_of_length_le (by simp only [List.length_cons, List.length_nil]; omega)
theorem eq3 {a c e : Str} : (D.str a = .str "span" ∧ D.str c = .str "every" ∧ D.str e = .str "least") ↔ (a = "span" ∧ c = "every" ∧ e = "least") := by
  constructor
  · rintro ⟨h1, h2, h3⟩
    exact ⟨D.str.inj h1, D.str.inj h2, D.str.inj h3⟩
  · rintro ⟨rfl, rfl, rfl⟩
    exact ⟨rfl, rfl, rfl⟩
theorem nmD_all {zs : List Str} (e : zs.all isNmb = true) : zs.map nmD = (zs.map numV).map D.int := by
  rw [List.map_map]
  exact List.map_congr_left fun z hz => nmD_t (List.all_eq_true.mp e z hz)
theorem inD_nm : ∀ zs : List Str, inD .non (zs.map nmD) = !zs.all isNmb
  | [] => rfl
  | z :: r => by
    have ih := inD_nm r
    unfold inD inV at ih ⊢
    rw [List.map_cons, List.map_cons, List.any_cons, ih, List.all_cons, Bool.not_and]
    congr 1
    cases e : isNmb z with
    | true => rw [nmD_t e]; rfl
    | false => rw [nmD_f e]; rfl
section
variable {h : AH} {E : Str → AH → Prop} {P : D → AH → Prop}
theorem w_inN {zs : List Str} {x : D} (hx : x = .lst (zs.map nmD) ∨ x = .tup (zs.map nmD)) : Wp (inM false .non x h) P E ↔ P (.bl (!zs.all isNmb)) h := by
  have fl : ((zs.map nmD).all fltD) = true := by
    rw [List.all_map]
    refine List.all_eq_true.mpr fun z hz => ?_
    show fltD (nmD z) = true
    unfold nmD
    split <;> rfl
  unfold inM
  rcases hx with rfl | rfl
  · rw [show seqOf h (.lst (zs.map nmD)) = some (zs.map nmD) from rfl]
    simp only
    rw [if_pos (by rw [fl]; rfl), inD_nm]
    exact Iff.rfl
  · rw [show seqOf h (.tup (zs.map nmD)) = some (zs.map nmD) from rfl]
    simp only
    rw [if_pos (by rw [fl]; rfl), inD_nm]
    exact Iff.rfl
theorem pair_run {ps : List P2} {ns : List D} {f : D → M (List D)} (e : ns.take (2 * ps.length) = (fl ps).map D.int) (l : ps.length ≤ 100000)
    (hf : ∀ (k : Nat) (p : P2), ps[k]? = some p → ns[2 * k]? = some (.int p.1) → ns[2 * k + 1]? = some (.int p.2) → f (.int (0 + (k : Nat) * 2)) h = .ok [pd p] h) :
    lcM (rangeC 0 2 ps.length) f h = .ok (.lst (ps.map pd)) h := by
  have z : lcM (rangeC 0 2 ps.length) f h = .ok (.lst ((List.range ps.length).map fun k => pd (ps.getD k (0, 0)))) h := by
    unfold rangeC
    refine lcM_map (by rw [List.length_range]; omega) fun k hk => ?_
    have hk := List.mem_range.mp hk
    obtain ⟨g1, g2⟩ := fl_get ps k ps[k] (List.getElem?_eq_getElem hk)
    have at_ : ∀ (j : Nat) (i : Int), j < 2 * ps.length → (fl ps)[j]? = some i → ns[j]? = some (.int i) := fun j i hj q => by
      rw [← List.getElem?_take_of_lt hj, e, List.getElem?_map, q]
      rfl
    have q := hf k ps[k] (List.getElem?_eq_getElem hk) (at_ _ _ (by omega) g1) (at_ _ _ (by omega) g2)
    rw [q, List.getD_eq_getElem?_getD, List.getElem?_eq_getElem hk]
    rfl
  rw [z]
  congr 2
  refine List.ext_getElem? fun k => ?_
  rw [List.getElem?_map, List.getElem?_map]
  by_cases hk : k < ps.length
  · rw [List.getElem?_range hk, List.getElem?_eq_getElem hk]
    show some (pd (ps.getD k (0, 0))) = _
    rw [List.getD_eq_getElem?_getD, List.getElem?_eq_getElem hk]
    rfl
  · rw [List.getElem?_eq_none (by rw [List.length_range]; omega), List.getElem?_eq_none (by omega)]
    rfl
end
end Lw
/-! SetMc: a row read as a head, by the program and by a law's own reader. -/
namespace Lw
open PySem L2
section
variable {h : AH} {E : Str → AH → Prop} {P : D → AH → Prop} {ws : List Str} {v : Option Hd} {z : Str}
theorem st6_w {w : Str} {xs : List Str} {a b c d e f : Str} {g : AH} {Q : D → AH → Prop} {F : Str → AH → Prop} :
    Wp (stepM 2 (.lst (List.map D.str (w :: (xs ++ [a, b, c, d, e, f])))) (some (-6)) g) Q F ↔ Q (.lst [.str a, .str c, .str e]) g := by
  unfold stepM
  rw [show lstOf g (.lst (List.map D.str (w :: (xs ++ [a, b, c, d, e, f])))) = some (List.map D.str (w :: (xs ++ [a, b, c, d, e, f]))) from rfl]
  simp only
  rw [show List.map D.str (w :: (xs ++ [a, b, c, d, e, f])) = (D.str w :: xs.map D.str) ++ [D.str a, .str b, .str c, .str d, .str e, .str f] by rw [List.map_cons, List.map_append]; rfl, step6]
  exact Iff.rfl
theorem st5_w {w : Str} {xs : List Str} {a b c d e f : Str} {g : AH} {Q : D → AH → Prop} {F : Str → AH → Prop} :
    Wp (stepM 2 (.lst (List.map D.str (w :: (xs ++ [a, b, c, d, e, f])))) (some (-5)) g) Q F ↔ Q (.lst (List.map D.str [b, d, f])) g := by
  unfold stepM
  rw [show lstOf g (.lst (List.map D.str (w :: (xs ++ [a, b, c, d, e, f])))) = some (List.map D.str (w :: (xs ++ [a, b, c, d, e, f]))) from rfl]
  simp only
  rw [show List.map D.str (w :: (xs ++ [a, b, c, d, e, f])) = (D.str w :: xs.map D.str) ++ [D.str a, .str b, .str c, .str d, .str e, .str f] by rw [List.map_cons, List.map_append]; rfl, step5]
  exact Iff.rfl
theorem cut16_w {w : Str} {xs : List Str} {a b c d e f : Str} : cutD (List.map D.str (w :: (xs ++ [a, b, c, d, e, f]))) (some 1) (some (-6)) = xs.map D.str := by
  rw [show List.map D.str (w :: (xs ++ [a, b, c, d, e, f])) = D.str w :: (xs.map D.str ++ [D.str a, .str b, .str c, .str d, .str e, .str f]) by rw [List.map_cons, List.map_append]; rfl]
  exact cut16 _ _ _ rfl
theorem nums_run {zs : List Str} (l : zs.length ≤ 1000000) (g : ∀ w ∈ zs, w.length ≤ 1000000) : lcM (zs.map D.str) c_law_head_of_1 h = .ok (.lst (zs.map nmD)) h :=
  lcM_map (f := c_law_head_of_1) (u := D.str) (v := nmD) (zs := zs) l fun w hw => by
    have q : Wp (c_law_head_of_1 (.str w) h) (fun ys hh => ys = [nmD w] ∧ hh = h) NoE := by
      unfold c_law_head_of_1
      simp only [WPS, reduceIte]
      refine lawnum_w (g w hw) ?_
      try simp only [WPS, reduceIte]
      exact ⟨trivial, trivial⟩
    obtain ⟨ys, hh, e, e1, e2⟩ := q.get
    rw [e, e1, e2]
theorem nb3 {a c e : Str} (ha : PyData.strOk a = true) (hc : PyData.strOk c = true) (he : PyData.strOk e = true) : nb 60 (.lst [.str a, .str c, .str e]) = true ∧ nb 60 (.tup [.str a, .str c, .str e]) = true := by
  have z : (PyData.strOk a && (PyData.strOk c && (PyData.strOk e && true))) = true := by rw [ha, hc, he]; rfl
  exact ⟨z, z⟩
theorem hoD_nr (v : Option Hd) : noRef (hoD v) = true := by
  cases v with
  | none => rfl
  | some x =>
    show noRef (.tup [prsD x.ps, .tup [.int x.a, .int x.b, .int x.c]]) = true
    rw [noRef_tup, noRefs_cons, noRefs_cons, noRefs_nil, nr_prsD]
    rfl
theorem lawhead_w (sp : Txt.split z " " = ws) (hr : HR ws v) (l : z.length ≤ 60000) (lw : ws.length ≤ 60000) (gw : ∀ w ∈ ws, w.length ≤ 60000) (sw : ∀ w ∈ ws, PyData.strOk w = true) (k : P (hoD v) h) :
    Wp (pcallM (app1 f_law_head_of) [.str z] h) P E := by
  rw [w_pcall]
  refine ⟨by rw [noRefs_cons, noRefs_nil, noRef_str]; rfl, ?_⟩
  rw [w_app1]
  unfold f_law_head_of b_law_head_of
  have e0 : ("" : Str) = ⟨#[]⟩ := rfl
  simp only [WPS, reduceIte, w_split (h := []) (a := z) (b := " ") (by omega) rfl, sp, w_inS, e0]
  have non : P .non h → noRef .non = true ∧ P .non h := fun z => ⟨rfl, z⟩
  cases hr with
  | emp m =>
    simp only [WPS, reduceIte, m, decide_true]
    exact non k
  | few m c =>
    simp only [WPS, reduceIte, m, decide_false, List.length_map, show ((ws.length : Nat) : Int) < 7 by omega, decide_true]
    exact non k
  | even m c c2 =>
    simp only [WPS, reduceIte, m, decide_false, List.length_map, show ¬ ((ws.length : Nat) : Int) < 7 by omega, w_mod (show (0 : Int) < 2 by decide), show ((ws.length : Nat) : Int) % 2 = 0 by omega, decide_true]
    exact non k
  | @work w r m c c2 n =>
    have i0 : ∀ {g : AH} {Q : D → AH → Prop} {F : Str → AH → Prop}, Wp (ixM (.lst ((w :: r).map D.str)) (.int 0) g) Q F ↔ Q (.str w) g := w_ixL (atI_pos (by decide) rfl)
    have d1 : ¬ (((w :: r).length : Nat) : Int) < 7 := by omega
    have d2 : ¬ (((w :: r).length : Nat) : Int) % 2 = 0 := by omega
    have lnm : (List.map D.str (w :: r)).length = (w :: r).length := List.length_map _
    generalize (w :: r).length = L at d1 d2 lnm
    simp only [WPS, reduceIte, m, decide_false, lnm, d1, w_mod (show (0 : Int) < 2 by decide), d2, i0, n]
    exact non k
  | @it xs a b c d e f m ev =>
    have i0 : ∀ {g : AH} {Q : D → AH → Prop} {F : Str → AH → Prop}, Wp (ixM (.lst ((("work" : Str) :: (xs ++ [a, b, c, d, e, f])).map D.str)) (.int 0) g) Q F ↔ Q (.str "work") g := w_ixL (atI_pos (by decide) rfl)
    have ln : (("work" : Str) :: (xs ++ [a, b, c, d, e, f])).length = xs.length + 7 := by simp
    have lnw : (List.map D.str (("work" : Str) :: (xs ++ [a, b, c, d, e, f]))).length = xs.length + 7 := by rw [List.length_map, ln]
    have d1 : ¬ ((xs.length + 7 : Nat) : Int) < 7 := by omega
    have d2 : ¬ ((xs.length + 7 : Nat) : Int) % 2 = 0 := by omega
    have lx : xs.length ≤ 60000 := by omega
    simp only [WPS, reduceIte, m, decide_false, lnw, d1, w_mod (show (0 : Int) < 2 by decide), d2, i0, decide_true]
    simp only [WPS, reduceIte, cut16_w, st5_w]
    rw [w_addL (by rw [List.length_map, List.length_map]; simp only [List.length_cons, List.length_nil]; omega), ← List.map_append]
    have inw : ∀ w ∈ xs ++ [b, d, f], w ∈ ("work" : Str) :: (xs ++ [a, b, c, d, e, f]) := fun w hw => by
      refine List.mem_cons_of_mem _ ?_
      rcases List.mem_append.mp hw with hw | hw
      · exact List.mem_append_left _ hw
      · refine List.mem_append_right _ ?_
        simp only [List.mem_cons, List.not_mem_nil, or_false] at hw ⊢
        rcases hw with rfl | rfl | rfl <;> simp
    have lz : (xs ++ [b, d, f]).length = xs.length + 3 := by simp
    simp only [WPS, reduceIte, Wp.rn (nums_run (h := []) (zs := xs ++ [b, d, f]) (by omega) fun w hw => Nat.le_trans (gw w (inw w hw)) (by decide)), st6_w]
    have sa : ∀ y, y ∈ [a, b, c, d, e, f] → PyData.strOk y = true := fun y hy => sw y (List.mem_cons_of_mem _ (List.mem_append_right _ hy))
    have n1 := (nb3 (sa a (by simp)) (sa c (by simp)) (sa e (by simp))).1
    have n2 : nb 60 (.lst [.str "span", .str "every", .str "least"]) = true := by decide +kernel
    by_cases q : a = "span" ∧ c = "every" ∧ e = "least"
    · obtain ⟨rfl, rfl, rfl⟩ := q
      rw [w_ne_f (h := []) (a := .lst [.str "span", .str "every", .str "least"]) (b := .lst [.str "span", .str "every", .str "least"]) n2 n2 rfl]
      simp only [WPS, reduceIte, w_inN (.inl rfl)]
      cases al : (xs ++ [b, d, f]).all isNmb with
      | false =>
        simp only [WPS, reduceIte]
        refine non ?_
        have : rdHw xs "span" b "every" d "least" f = none := by
          unfold rdHw hwOk
          rw [al, Bool.and_false, if_neg Bool.false_ne_true]
        rw [this] at k
        exact k
      | true =>
        simp only [WPS, reduceIte]
        have rv : rdHw xs "span" b "every" d "least" f = some ⟨prs (xs.map numV), numV b, numV d, numV f⟩ := by
          unfold rdHw hwOk
          rw [al]
          rfl
        rw [rv] at k
        have nm := nmD_all al
        have ns : (xs ++ [b, d, f]).map nmD = (fl (prs (xs.map numV))).map D.int ++ [D.int (numV b), .int (numV d), .int (numV f)] := by
          rw [nm, fl_prs _ (by rw [List.length_map]; exact ev), List.map_append, List.map_append]
          rfl
        have pl : 2 * (prs (xs.map numV)).length = xs.length := by rw [prs_len, List.length_map]; omega
        rw [ns]
        have ll : ((fl (prs (xs.map numV))).map D.int ++ [D.int (numV b), .int (numV d), .int (numV f)]).length = xs.length + 3 := by
          rw [List.length_append, List.length_map, fl_len, pl]
          rfl
        have r2 : ∀ {g : AH} {Q : List D → AH → Prop} {F : Str → AH → Prop}, Wp (rng3M [.int 0, .int (((xs.length + 3 : Nat) : Int) - 3), .int 2] g) Q F ↔ Q (rangeC 0 2 (prs (xs.map numV)).length) g := fun {g Q F} => by
          rw [show (((xs.length + 3 : Nat) : Int) - 3) = ((2 * (prs (xs.map numV)).length : Nat) : Int) by omega, rng_two _ (by omega)]
          exact Iff.rfl
        have run : lcM (rangeC 0 2 (prs (xs.map numV)).length) (c_law_head_of_2 (.lst ((fl (prs (xs.map numV))).map D.int ++ [D.int (numV b), .int (numV d), .int (numV f)]))) ([] : AH) = .ok (.lst ((prs (xs.map numV)).map pd)) [] := by
          refine pair_run (ns := (fl (prs (xs.map numV))).map D.int ++ [D.int (numV b), .int (numV d), .int (numV f)]) ?_ (by omega) fun k p hp g1 g2 => ?_
          · rw [List.take_append_of_le_length (by rw [List.length_map, fl_len]; exact Nat.le_refl _), List.take_of_length_le (by rw [List.length_map, fl_len]; exact Nat.le_refl _)]
          · generalize (fl (prs (xs.map numV))).map D.int ++ [D.int (numV b), .int (numV d), .int (numV f)] = N at g1 g2
            have w : Wp (c_law_head_of_2 (.lst N) (.int (0 + (k : Nat) * 2)) ([] : AH)) (fun ys hh => ys = [pd p] ∧ hh = []) NoE := by
              unfold c_law_head_of_2
              have x1 : ∀ {g : AH} {Q : D → AH → Prop} {F : Str → AH → Prop}, Wp (ixM (.lst N) (.int (0 + (k : Int) * 2)) g) Q F ↔ Q (.int p.1) g := w_ixL (atI_pos (by omega) (by rw [show (0 + (k : Int) * 2).toNat = 2 * k by omega]; exact g1))
              have x2 : ∀ {g : AH} {Q : D → AH → Prop} {F : Str → AH → Prop}, Wp (ixM (.lst N) (.int (0 + (k : Int) * 2 + 1)) g) Q F ↔ Q (.int p.2) g := w_ixL (atI_pos (by omega) (by rw [show (0 + (k : Int) * 2 + 1).toNat = 2 * k + 1 by omega]; exact g2))
              simp only [WPS, reduceIte, x1, x2]
              exact ⟨rfl, trivial⟩
            obtain ⟨ys, hh, e, e1, e2⟩ := w.get
            rw [e, e1, e2]
        simp only [WPS, reduceIte, ll, r2, Wp.rn run, cut3]
        exact ⟨hoD_nr (some ⟨prs (xs.map numV), numV b, numV d, numV f⟩), k⟩
    · rw [w_ne_t (h := []) (a := .lst [.str a, .str c, .str e]) (b := .lst [.str "span", .str "every", .str "least"]) n1 n2 (fun z => q (by
        injection z with z
        injection z with z1 z
        injection z with z2 z
        injection z with z3 z
        exact eq3.mp ⟨z1, z2, z3⟩))]
      simp only [WPS, reduceIte]
      refine non ?_
      have : rdHw xs a b c d e f = none := by
        unfold rdHw hwOk
        rw [if_neg]
        intro z
        simp only [Bool.and_eq_true, decide_eq_true_eq] at z
        exact q z.1
      rw [this] at k
      exact k
theorem headin_x (sp : Txt.split z " " = ws) (hr : HR ws v) (l : z.length ≤ 60000) (lw : ws.length ≤ 60000) (gw : ∀ w ∈ ws, w.length ≤ 60000) (sw : ∀ w ∈ ws, PyData.strOk w = true) (k0 : v = none → E "NoText" h) (k1 : ∀ x, v = some x → P x.d h) :
    Wp (pcallM (app1 f_head_in) [.str z] h) P E := by
  rw [w_pcall]
  refine ⟨by rw [noRefs_cons, noRefs_nil, noRef_str]; rfl, ?_⟩
  rw [w_app1]
  unfold f_head_in b_head_in
  simp only [WPS, reduceIte]
  refine words_w (by omega) (fun m => ?_) fun m => ?_
  · rw [sp] at m
    cases hr with
    | emp m' => exact k0 rfl
    | few n => exact absurd m n
    | even n => exact absurd m n
    | work n => exact absurd m n
    | it n => exact absurd m n
  rw [sp] at m ⊢
  cases hr with
  | emp m' => exact absurd m' m
  | few _ c =>
    simp only [WPS, reduceIte, List.length_map, show ¬ (7 : Int) ≤ ((ws.length : Nat) : Int) by omega, decide_false]
    exact need_f (k0 rfl)
  | even _ c c2 =>
    simp only [WPS, reduceIte, List.length_map, show (7 : Int) ≤ ((ws.length : Nat) : Int) by omega, w_mod (show (0 : Int) < 2 by decide), show ¬ ((ws.length : Nat) : Int) % 2 = 1 by omega, decide_true, decide_false]
    exact need_f (k0 rfl)
  | @work w r _ c c2 n =>
    have i0 : ∀ {g : AH} {Q : D → AH → Prop} {F : Str → AH → Prop}, Wp (ixM (.lst ((w :: r).map D.str)) (.int 0) g) Q F ↔ Q (.str w) g := w_ixL (atI_pos (by decide) rfl)
    have d1 : (7 : Int) ≤ (((w :: r).length : Nat) : Int) := by omega
    have d2 : (((w :: r).length : Nat) : Int) % 2 = 1 := by omega
    have lnm : (List.map D.str (w :: r)).length = (w :: r).length := List.length_map _
    generalize (w :: r).length = L at d1 d2 lnm
    simp only [WPS, reduceIte, lnm, d1, w_mod (show (0 : Int) < 2 by decide), d2, i0, n, decide_true, decide_false]
    exact need_f (k0 rfl)
  | @it xs a b c d e f _ ev =>
    have i0 : ∀ {g : AH} {Q : D → AH → Prop} {F : Str → AH → Prop}, Wp (ixM (.lst ((("work" : Str) :: (xs ++ [a, b, c, d, e, f])).map D.str)) (.int 0) g) Q F ↔ Q (.str "work") g := w_ixL (atI_pos (by decide) rfl)
    have ln : (("work" : Str) :: (xs ++ [a, b, c, d, e, f])).length = xs.length + 7 := by simp
    have lnw : (List.map D.str (("work" : Str) :: (xs ++ [a, b, c, d, e, f]))).length = xs.length + 7 := by rw [List.length_map, ln]
    have d1 : (7 : Int) ≤ ((xs.length + 7 : Nat) : Int) := by omega
    have d2 : ((xs.length + 7 : Nat) : Int) % 2 = 1 := by omega
    have lx : xs.length ≤ 60000 := by omega
    simp only [WPS, reduceIte, lnw, d1, w_mod (show (0 : Int) < 2 by decide), d2, i0, decide_true]
    refine need_t ?_
    have sa : ∀ y, y ∈ [a, b, c, d, e, f] → PyData.strOk y = true := fun y hy => sw y (List.mem_cons_of_mem _ (List.mem_append_right _ hy))
    have n1 := (nb3 (sa a (by simp)) (sa c (by simp)) (sa e (by simp))).2
    have n2 : nb 60 (.tup [.str "span", .str "every", .str "least"]) = true := by decide +kernel
    by_cases q : a = "span" ∧ c = "every" ∧ e = "least"
    · obtain ⟨rfl, rfl, rfl⟩ := q
      have eb : ∀ {g : AH} {Q : D → AH → Prop} {F : Str → AH → Prop}, Wp (eqM (.tup [.str "span", .str "every", .str "least"]) (.tup [.str "span", .str "every", .str "least"]) g) Q F ↔ Q (.bl true) g := fun {g Q F} =>
        w_eq_t (h := g) (a := .tup [.str "span", .str "every", .str "least"]) (b := .tup [.str "span", .str "every", .str "least"]) n2 n2 rfl
      simp only [WPS, reduceIte, st6_w, eb]
      refine need_t ?_
      simp only [WPS, reduceIte, cut16_w]
      have gx : ∀ w ∈ xs, w.length ≤ 1000000 := fun w hw => Nat.le_trans (gw w (List.mem_cons_of_mem _ (List.mem_append_left _ hw))) (by decide)
      have g3 : ∀ w ∈ [b, d, f], w.length ≤ 1000000 := fun w hw => Nat.le_trans (gw w (by
        refine List.mem_cons_of_mem _ (List.mem_append_right _ ?_)
        simp only [List.mem_cons, List.not_mem_nil, or_false] at hw ⊢
        rcases hw with rfl | rfl | rfl <;> simp)) (by decide)
      have no : (xs ++ [b, d, f]).all isNmb = false → rdHw xs "span" b "every" d "least" f = none := fun al => by
        unfold rdHw hwOk
        rw [al, Bool.and_false, if_neg Bool.false_ne_true]
      refine numsin_w (.inl rfl) (by omega) gx (fun al => k0 (no (by rw [List.all_append, al]; rfl))) fun al => ?_
      have fx : ((xs.map numV).map D.int) = (fl (prs (xs.map numV))).map D.int := by rw [fl_prs _ (by rw [List.length_map]; exact ev)]
      have pl : 2 * (prs (xs.map numV)).length = xs.length := by rw [prs_len, List.length_map]; omega
      rw [fx]
      have r2 : ∀ {g : AH} {Q : List D → AH → Prop} {F : Str → AH → Prop}, Wp (rng3M [.int 0, .int (((fl (prs (xs.map numV))).map D.int).length : Int), .int 2] g) Q F ↔ Q (rangeC 0 2 (prs (xs.map numV)).length) g := fun {g Q F} => by
        rw [List.length_map, fl_len, rng_two _ (by omega)]
        exact Iff.rfl
      have run : lcM (rangeC 0 2 (prs (xs.map numV)).length) (c_head_in_1 (.tup ((fl (prs (xs.map numV))).map D.int))) ([] : AH) = .ok (.lst ((prs (xs.map numV)).map pd)) [] := by
        refine pair_run (ns := (fl (prs (xs.map numV))).map D.int) ?_ (by omega) fun k p hp g1 g2 => ?_
        · rw [List.take_of_length_le (by rw [List.length_map, fl_len]; exact Nat.le_refl _)]
        · generalize (fl (prs (xs.map numV))).map D.int = N at g1 g2
          have w : Wp (c_head_in_1 (.tup N) (.int (0 + (k : Nat) * 2)) ([] : AH)) (fun ys hh => ys = [pd p] ∧ hh = []) NoE := by
            unfold c_head_in_1
            have x1 : ∀ {g : AH} {Q : D → AH → Prop} {F : Str → AH → Prop}, Wp (ixM (.tup N) (.int (0 + (k : Int) * 2)) g) Q F ↔ Q (.int p.1) g := w_ixT (atI_pos (by omega) (by rw [show (0 + (k : Int) * 2).toNat = 2 * k by omega]; exact g1))
            have x2 : ∀ {g : AH} {Q : D → AH → Prop} {F : Str → AH → Prop}, Wp (ixM (.tup N) (.int (0 + (k : Int) * 2 + 1)) g) Q F ↔ Q (.int p.2) g := w_ixT (atI_pos (by omega) (by rw [show (0 + (k : Int) * 2 + 1).toNat = 2 * k + 1 by omega]; exact g2))
            simp only [WPS, reduceIte, x1, x2]
            exact ⟨rfl, trivial⟩
          obtain ⟨ys, hh, e, e1, e2⟩ := w.get
          rw [e, e1, e2]
      simp only [WPS, reduceIte, r2, Wp.rn run, st5_w]
      refine numsin_w (zs := [b, d, f]) (.inl rfl) (Nat.le_of_ble_eq_true rfl) g3 (fun al3 => k0 (no (by rw [List.all_append, al3, Bool.and_false]))) fun al3 => ?_
      have rv : rdHw xs "span" b "every" d "least" f = some ⟨prs (xs.map numV), numV b, numV d, numV f⟩ := by
        unfold rdHw hwOk
        rw [List.all_append, al, al3]
        rfl
      have k1 := k1 _ rv
      rw [w_addT (by simp only [List.length_map, List.length_cons, List.length_nil]; omega)]
      refine ⟨?_, k1⟩
      show noRef (.tup [prsD (prs (xs.map numV)), .int (numV b), .int (numV d), .int (numV f)]) = true
      rw [noRef_tup, noRefs_cons, noRefs_cons, noRefs_cons, noRefs_cons, noRefs_nil, nr_prsD]
      rfl
    · have ef : ∀ {g : AH} {Q : D → AH → Prop} {F : Str → AH → Prop}, Wp (eqM (.tup [.str a, .str c, .str e]) (.tup [.str "span", .str "every", .str "least"]) g) Q F ↔ Q (.bl false) g := fun {g Q F} =>
        w_eq_f (h := g) (a := .tup [.str a, .str c, .str e]) (b := .tup [.str "span", .str "every", .str "least"]) n1 n2 (fun z => q (by
          injection z with z
          injection z with z1 z
          injection z with z2 z
          injection z with z3 z
          exact eq3.mp ⟨z1, z2, z3⟩))
      simp only [WPS, reduceIte, st6_w, w_tupL, ef]
      refine need_f (k0 ?_)
      unfold rdHw hwOk
      rw [if_neg]
      intro z
      simp only [Bool.and_eq_true, decide_eq_true_eq] at z
      exact q z.1
end
end Lw
/-! SetMe: a row read as a line by a law's own reader. -/
namespace Lw
open PySem L2
def lnO : Option Rw → D
  | none => .non
  | some r => r.d
def kvsM (m : Int) : List (Key × D) := [(.inr "lent", .int 5), (.inr "back", .int 3), (.inr "cut", .int 3), (.inr "join", .int 2), (.inr "told", .int m)]
theorem disp_m {c : Cell} {m : Int} : dispM (.ref 1) [(.str "lent", .int 5), (.str "back", .int 3), (.str "cut", .int 3), (.str "join", .int 2), (.str "told", .int m)] [c, .dk []] = .ok (.ref 1) [c, .dk (kvsM m)] := by
  unfold dispM
  rfl
theorem val_no {w : Str} {m : Int} (n0 : w ≠ "told") (n1 : w ≠ "lent") (n2 : w ≠ "back") (n3 : w ≠ "cut") (n4 : w ≠ "join") : valD (kvsM m) (.inr w) = none := by
  unfold valD kvsM
  simp [Ne.symm n0, Ne.symm n1, Ne.symm n2, Ne.symm n3, Ne.symm n4]
theorem rdE4 {a z b c : Str} : rdE [a, z, b, c] = if [a, b, c].all isNmb = true then some (.lent (numV a) z (numV b) (numV c)) else none := by
  show (if isNmb a = true then (if [b, c].all isNmb = true then some (Rw.lent (numV a) z (numV b) (numV c)) else none) else none) = _
  rw [show [a, b, c].all isNmb = (isNmb a && [b, c].all isNmb) from rfl]
  by_cases e : isNmb a = true
  · rw [if_pos e, e, Bool.true_and]
  · rw [if_neg e, Bool.eq_false_iff.mpr e, Bool.false_and, if_neg Bool.false_ne_true]
section
variable {h : AH} {E : Str → AH → Prop} {P : D → AH → Prop} {ws : List Str} {z : Str}
theorem w_inR {neg : Bool} {y : Str} {n : Nat} (e : h[n]? = some (.lst (ws.map D.str))) : Wp (inM neg (.str y) (.ref n) h) P E ↔ P (.bl (if neg = true then !decide (y ∈ ws) else decide (y ∈ ws))) h := by
  unfold inM
  rw [show seqOf h (.ref n) = some (ws.map D.str) by unfold seqOf; simp only [lstOf, e]]
  simp only
  rw [if_pos (by
    rw [Bool.and_eq_true]
    refine ⟨rfl, ?_⟩
    rw [List.all_map]
    exact List.all_eq_true.mpr fun _ _ => rfl), inD_str]
  exact Iff.rfl
theorem lnums_run {zs : List Str} (l : zs.length ≤ 1000000) (g : ∀ w ∈ zs, w.length ≤ 1000000) : lcM (zs.map D.str) c_law_line_of_1 h = .ok (.lst (zs.map nmD)) h :=
  lcM_map (f := c_law_line_of_1) (u := D.str) (v := nmD) (zs := zs) l fun w hw => by
    have q : Wp (c_law_line_of_1 (.str w) h) (fun ys hh => ys = [nmD w] ∧ hh = h) NoE := by
      unfold c_law_line_of_1
      simp only [WPS, reduceIte]
      refine lawnum_w (g w hw) ?_
      try simp only [WPS, reduceIte]
      exact ⟨trivial, trivial⟩
    obtain ⟨ys, hh, e, e1, e2⟩ := q.get
    rw [e, e1, e2]
theorem w_splitH {a b : Str} (l : a.length + 2 ≤ 1000000) (n : (b.length == 0) = false) : Wp (splitHM (.str a) (.str b) h) P E ↔ P (.ref h.length) (h ++ [.lst ((Txt.split a b).map D.str)]) := by
  unfold splitHM
  simp only [n, show lenOk (a.length + 2) = true from decide_eq_true (Nat.le_trans l (by decide)), Bool.not_false, Bool.and_true, if_true]
  exact Iff.rfl
theorem w_dget2 {d y x : D} {kvs : List (Key × D)} {k : Key} (e : dkOf h d = some kvs) (ek : keyD y = some k) : Wp (dget2M d y x h) P E ↔ P ((valD kvs k).getD x) h := by
  unfold dget2M
  simp only [e, ek]
  exact Iff.rfl
theorem lnO_nr (v : Option Rw) : noRef (lnO v) = true := by
  cases v with
  | none => rfl
  | some r => exact r.nr
theorem lawline_w (o : okRow z = true) (k : P (lnO (rdL z)) h) : Wp (pcallM (app1 f_law_line_of) [.str z] h) P E := by
  obtain ⟨l, ne, lw, ll, _⟩ := okRow.of o
  rw [w_pcall]
  refine ⟨by rw [noRefs_cons, noRefs_nil, noRef_str]; rfl, ?_⟩
  rw [w_app1]
  unfold f_law_line_of b_law_line_of
  have nr := lnO_nr (rdL z)
  unfold rdL at k nr
  simp only [WPS, reduceIte, w_splitH (h := []) (a := z) (b := " ") (by omega) rfl]
  generalize Txt.split z " " = ws at ne lw ll k nr
  cases ws with
  | nil => exact absurd rfl ne
  | cons w0 r =>
    have lr : r.length ≤ 60000 := by rw [List.length_cons] at ll; omega
    have gr : ∀ w ∈ r, w.length ≤ 1000000 := fun w hw => Nat.le_trans (lw w (List.mem_cons_of_mem _ hw)) (by decide)
    show Wp (lenM (.ref 0) [Cell.lst ((w0 :: r).map D.str), .dk []]) _ _
    rw [w_lenR (show ([Cell.lst ((w0 :: r).map D.str), .dk []] : AH)[0]? = some (.lst ((w0 :: r).map D.str)) from rfl), List.length_map]
    simp only [WPS, reduceIte]
    rw [show (([] : AH) ++ [Cell.lst (List.map D.str (w0 :: r))]).length = 1 from rfl, Wp.rn disp_m]
    have e0 : ("" : Str) = ⟨#[]⟩ := rfl
    generalize hm : max (4 : Int) (((r.length + 1 : Nat)) : Int) = m
    have h0 : ([Cell.lst ((w0 :: r).map D.str), .dk (kvsM m)] : AH)[0]? = some (.lst ((w0 :: r).map D.str)) := rfl
    have h1 : dkOf ([Cell.lst ((w0 :: r).map D.str), .dk (kvsM m)] : AH) (.ref 1) = some (kvsM m) := rfl
    have i0 : ∀ {Q : D → AH → Prop} {F : Str → AH → Prop}, Wp (ixM (.ref 0) (.int 0) ([Cell.lst ((w0 :: r).map D.str), .dk (kvsM m)] : AH)) Q F ↔ Q (.str w0) ([Cell.lst ((w0 :: r).map D.str), .dk (kvsM m)] : AH) := w_ixR h0 (atI_pos (by decide) rfl)
    simp only [WPS, reduceIte, w_dchk h1, i0, w_dget2 h1 (show keyD (.str w0) = some (.inr w0) from rfl), w_inR h0, e0, Bool.false_eq_true, if_false]
    by_cases mm : (⟨#[]⟩ : Str) ∈ w0 :: r
    · rw [if_pos mm] at k nr
      simp only [WPS, reduceIte, mm, decide_true]
      exact ⟨nr, k⟩
    rw [if_neg mm] at k nr
    simp only [WPS, reduceIte, mm, decide_false, w_lenR h0, List.length_map]
    have frz : ∀ {Q : D → AH → Prop} {F : Str → AH → Prop} {xs : List D}, Wp (freezeM (.ref 0) ([Cell.lst xs, .dk (kvsM m)] : AH)) Q F ↔ Q (.lst xs) ([Cell.dead, .dk (kvsM m)] : AH) := fun {Q F xs} => w_freeze (show ([Cell.lst xs, .dk (kvsM m)] : AH)[0]? = some (.lst xs) from rfl)
    have s1 : cutD ((w0 :: r).map D.str) (some 1) none = r.map D.str := by
      rw [show (some (1 : Int)) = some ((1 : Nat) : Int) from rfl, cutD_drop]
      rfl
    have j0 : ∀ {g : AH} {Q : D → AH → Prop} {F : Str → AH → Prop}, Wp (ixM (.lst ((w0 :: r).map D.str)) (.int 0) g) Q F ↔ Q (.str w0) g := w_ixL (atI_pos (by decide) rfl)
    have run := lnums_run (h := [Cell.dead, .dk (kvsM m)]) (zs := r) (by omega) gr
    by_cases c0 : w0 = "told"
    · subst c0
      rw [rdW_told] at k nr
      have v : (valD (kvsM m) (.inr "told")).getD (.int 0) = .int m := rfl
      simp only [WPS, reduceIte, v]
      by_cases c1 : r.length < 3
      · have n1 : ¬ (((r.length + 1 : Nat)) : Int) = m := by omega
        rw [if_pos n1]
        have : rdT r = none := by
          rcases r with _ | ⟨a, _ | ⟨b, _ | ⟨c, ns⟩⟩⟩
          · rfl
          · rfl
          · rfl
          · simp only [List.length_cons] at c1
            omega
        rw [this] at k nr
        exact ⟨nr, k⟩
      · have n1 : (((r.length + 1 : Nat)) : Int) = m := by omega
        obtain ⟨a, b, c, ns, rfl⟩ : ∃ a b c ns, r = a :: b :: c :: ns := by
          rcases r with _ | ⟨a, _ | ⟨b, _ | ⟨c, ns⟩⟩⟩
          · exact absurd (show (0 : Nat) < 3 by decide) c1
          · exact absurd (show (1 : Nat) < 3 by decide) c1
          · exact absurd (show (2 : Nat) < 3 by decide) c1
          · exact ⟨a, b, c, ns, rfl⟩
        have nl : decide (("told" : Str) = "lent") = false := by decide
        have yt : decide (("told" : Str) = "told") = true := by decide
        rw [if_neg fun z => z n1]
        simp only [WPS, reduceIte, i0, nl, frz, s1, Wp.rn run, w_inN (.inr rfl)]
        cases al : (a :: b :: c :: ns).all isNmb with
        | false =>
          have : rdT (a :: b :: c :: ns) = none := by simp only [rdT, al, Bool.false_eq_true, if_false]
          rw [this] at k nr
          simp only [WPS, reduceIte]
          exact ⟨nr, k⟩
        | true =>
          have : rdT (a :: b :: c :: ns) = some (.told (numV a) (numV b) (numV c) (ns.map numV)) := by simp only [rdT, al, if_true]
          rw [this] at k nr
          have nm := nmD_all al
          have p3 : cutD ((((a :: b :: c :: ns).map numV)).map D.int) none (some 3) = [.int (numV a), .int (numV b), .int (numV c)] := by
            rw [show (some (3 : Int)) = some ((3 : Nat) : Int) from rfl, cutD_take]
            rfl
          have d3 : cutD ((((a :: b :: c :: ns).map numV)).map D.int) (some 3) none = (ns.map numV).map D.int := by
            rw [show (some (3 : Int)) = some ((3 : Nat) : Int) from rfl, cutD_drop]
            rfl
          have l4 : ns.length ≤ 60000 := by simp only [List.length_cons] at lr; omega
          rw [nm]
          simp only [WPS, reduceIte, j0, yt, p3, d3]
          rw [w_addT (Nat.le_of_ble_eq_true rfl)]
          rw [w_addT (Nat.le_of_ble_eq_true rfl)]
          exact ⟨nr, k⟩
    · by_cases c1 : w0 = "lent"
      · subst c1
        rw [rdW_lent] at k nr
        have v : (valD (kvsM m) (.inr "lent")).getD (.int 0) = .int 5 := rfl
        simp only [WPS, reduceIte, v]
        by_cases c2 : r.length = 4
        · obtain ⟨a, z, b, c, rfl⟩ : ∃ a z b c, r = [a, z, b, c] := by
            match r, c2 with
            | [a, z, b, c], _ => exact ⟨a, z, b, c, rfl⟩
          have n1 : (((([a, z, b, c] : List Str).length + 1 : Nat)) : Int) = 5 := rfl
          have yl : decide (("lent" : Str) = "lent") = true := by decide
          have nt : decide (("lent" : Str) = "told") = false := by decide
          have pop : popLM (.ref 0) (.int 2) ([Cell.lst (List.map D.str (("lent" : Str) :: [a, z, b, c])), .dk (kvsM m)] : AH) = .ok (.str z) ([Cell.lst (List.map D.str (("lent" : Str) :: [a, b, c])), .dk (kvsM m)] : AH) := rfl
          have lc : ∀ {U : Unit → AH → Prop} {F : Str → AH → Prop}, Wp (lchk (.ref 0) ([Cell.lst (List.map D.str (("lent" : Str) :: [a, z, b, c])), .dk (kvsM m)] : AH)) U F ↔ U () ([Cell.lst (List.map D.str (("lent" : Str) :: [a, z, b, c])), .dk (kvsM m)] : AH) := w_lchk h0
          have run3 := lnums_run (h := [Cell.dead, .dk (kvsM m)]) (zs := [a, b, c]) (Nat.le_of_ble_eq_true rfl) fun w hw => gr w (by
            simp only [List.mem_cons, List.not_mem_nil, or_false] at hw ⊢
            rcases hw with rfl | rfl | rfl <;> simp)
          have s3 : cutD ((("lent" : Str) :: [a, b, c]).map D.str) (some 1) none = [a, b, c].map D.str := rfl
          have k0 : ∀ {g : AH} {Q : D → AH → Prop} {F : Str → AH → Prop}, Wp (ixM (.lst ((("lent" : Str) :: [a, b, c]).map D.str)) (.int 0) g) Q F ↔ Q (.str "lent") g := w_ixL (atI_pos (by decide) rfl)
          rw [if_neg fun z => z n1]
          simp only [WPS, reduceIte, i0, yl, lc, Wp.rn pop, frz, s3, Wp.rn run3, w_inN (.inr rfl)]
          rw [rdE4] at k nr
          cases al : [a, b, c].all isNmb with
          | false =>
            rw [al, if_neg Bool.false_ne_true] at k nr
            simp only [WPS, reduceIte]
            exact ⟨nr, k⟩
          | true =>
            rw [al, if_pos rfl] at k nr
            rw [nmD_all al]
            have ix1 : ∀ {g : AH} {Q : D → AH → Prop} {F : Str → AH → Prop} {x y : D}, Wp (ixM (.lst [x, y]) (.int ((0 + 1 : Nat) : Int)) g) Q F ↔ Q y g := fun {g Q F x y} => w_ixL (atI_pos (by decide) rfl)
            have q1 : cutD (([a, b, c].map numV).map D.int) none (some 1) = [.int (numV a)] := rfl
            have q2 : cutD (([a, b, c].map numV).map D.int) (some 1) none = [.int (numV b), .int (numV c)] := rfl
            simp only [WPS, reduceIte, k0, nt, q1, q2]
            rw [w_addT (Nat.le_of_ble_eq_true rfl)]
            rw [w_addT (Nat.le_of_ble_eq_true rfl), ix1]
            rw [w_addT (Nat.le_of_ble_eq_true rfl)]
            exact ⟨nr, k⟩
        · have n1 : ¬ (((r.length + 1 : Nat)) : Int) = 5 := by omega
          have : rdE r = none := by
            rcases r with _ | ⟨a, _ | ⟨b, _ | ⟨c, _ | ⟨d, _ | _⟩⟩⟩⟩
            · rfl
            · rfl
            · rfl
            · rfl
            · exact absurd rfl c2
            · rfl
          rw [this] at k nr
          rw [if_pos n1]
          exact ⟨nr, k⟩
      · have nl : decide (w0 = "lent") = false := decide_eq_false c1
        have nt : decide (w0 = "told") = false := decide_eq_false c0
        have ix0 : ∀ {g : AH} {Q : D → AH → Prop} {F : Str → AH → Prop} {x y : D}, Wp (ixM (.lst [x, y]) (.int ((0 : Nat) : Int)) g) Q F ↔ Q x g := fun {g Q F x y} => w_ixL (atI_pos (by decide) rfl)
        by_cases c_back : w0 = "back"
        · subst c_back
          rw [rdW_back] at k nr
          have v : (valD (kvsM m) (.inr "back")).getD (.int 0) = .int 3 := rfl
          simp only [WPS, reduceIte, v]
          by_cases c2 : r.length = 2
          · obtain ⟨a, b, rfl⟩ : ∃ a b, r = [a, b] := by
              match r, c2 with
              | [a, b], _ => exact ⟨a, b, rfl⟩
            have n1 : (((([a, b] : List Str).length + 1 : Nat)) : Int) = 3 := rfl
            rw [if_neg fun z => z n1]
            simp only [WPS, reduceIte, i0, nl, frz, s1, Wp.rn run, w_inN (.inr rfl)]
            cases al : [a, b].all isNmb with
            | false =>
              have : rdB [a, b] = none := by simp only [rdB, al, Bool.false_eq_true, if_false]
              rw [this] at k nr
              simp only [WPS, reduceIte]
              exact ⟨nr, k⟩
            | true =>
              have : rdB [a, b] = some (.back (numV a) (numV b)) := by simp only [rdB, al, if_true]
              rw [this] at k nr
              rw [nmD_all al]
              have q1 : cutD (([a, b].map numV).map D.int) none (some 1) = [.int (numV a)] := rfl
              have q2 : cutD (([a, b].map numV).map D.int) (some 1) none = [.int (numV b)] := rfl
              simp only [WPS, reduceIte, j0, nt, q1, q2]
              rw [w_addT (Nat.le_of_ble_eq_true rfl), w_addT (Nat.le_of_ble_eq_true rfl), ix0, w_addT (Nat.le_of_ble_eq_true rfl)]
              exact ⟨nr, k⟩
          · have n1 : ¬ (((r.length + 1 : Nat)) : Int) = 3 := by omega
            have : rdB r = none := by
              rcases r with _ | ⟨a, _ | ⟨b, _ | _⟩⟩
              · rfl
              · rfl
              · exact absurd rfl c2
              · rfl
            rw [this] at k nr
            rw [if_pos n1]
            exact ⟨nr, k⟩
        by_cases c_cut : w0 = "cut"
        · subst c_cut
          rw [rdW_cut] at k nr
          have v : (valD (kvsM m) (.inr "cut")).getD (.int 0) = .int 3 := rfl
          simp only [WPS, reduceIte, v]
          by_cases c2 : r.length = 2
          · obtain ⟨a, b, rfl⟩ : ∃ a b, r = [a, b] := by
              match r, c2 with
              | [a, b], _ => exact ⟨a, b, rfl⟩
            have n1 : (((([a, b] : List Str).length + 1 : Nat)) : Int) = 3 := rfl
            rw [if_neg fun z => z n1]
            simp only [WPS, reduceIte, i0, nl, frz, s1, Wp.rn run, w_inN (.inr rfl)]
            cases al : [a, b].all isNmb with
            | false =>
              have : rdC [a, b] = none := by simp only [rdC, al, Bool.false_eq_true, if_false]
              rw [this] at k nr
              simp only [WPS, reduceIte]
              exact ⟨nr, k⟩
            | true =>
              have : rdC [a, b] = some (.cut (numV a) (numV b)) := by simp only [rdC, al, if_true]
              rw [this] at k nr
              rw [nmD_all al]
              have q1 : cutD (([a, b].map numV).map D.int) none (some 1) = [.int (numV a)] := rfl
              have q2 : cutD (([a, b].map numV).map D.int) (some 1) none = [.int (numV b)] := rfl
              simp only [WPS, reduceIte, j0, nt, q1, q2]
              rw [w_addT (Nat.le_of_ble_eq_true rfl), w_addT (Nat.le_of_ble_eq_true rfl), ix0, w_addT (Nat.le_of_ble_eq_true rfl)]
              exact ⟨nr, k⟩
          · have n1 : ¬ (((r.length + 1 : Nat)) : Int) = 3 := by omega
            have : rdC r = none := by
              rcases r with _ | ⟨a, _ | ⟨b, _ | _⟩⟩
              · rfl
              · rfl
              · exact absurd rfl c2
              · rfl
            rw [this] at k nr
            rw [if_pos n1]
            exact ⟨nr, k⟩
        by_cases c_join : w0 = "join"
        · subst c_join
          rw [rdW_join] at k nr
          have v : (valD (kvsM m) (.inr "join")).getD (.int 0) = .int 2 := rfl
          simp only [WPS, reduceIte, v]
          by_cases c2 : r.length = 1
          · obtain ⟨a, rfl⟩ : ∃ a, r = [a] := by
              match r, c2 with
              | [a], _ => exact ⟨a, rfl⟩
            have n1 : (((([a] : List Str).length + 1 : Nat)) : Int) = 2 := rfl
            rw [if_neg fun z => z n1]
            simp only [WPS, reduceIte, i0, nl, frz, s1, Wp.rn run, w_inN (.inr rfl)]
            cases al : [a].all isNmb with
            | false =>
              have : rdJ [a] = none := by simp only [rdJ, al, Bool.false_eq_true, if_false]
              rw [this] at k nr
              simp only [WPS, reduceIte]
              exact ⟨nr, k⟩
            | true =>
              have : rdJ [a] = some (.join (numV a)) := by simp only [rdJ, al, if_true]
              rw [this] at k nr
              rw [nmD_all al]
              have q1 : cutD (([a].map numV).map D.int) none (some 1) = [.int (numV a)] := rfl
              have q2 : cutD (([a].map numV).map D.int) (some 1) none = [] := rfl
              simp only [WPS, reduceIte, j0, nt, q1, q2]
              rw [w_addT (Nat.le_of_ble_eq_true rfl), w_addT (Nat.le_of_ble_eq_true rfl), ix0, w_addT (Nat.le_of_ble_eq_true rfl)]
              exact ⟨nr, k⟩
          · have n1 : ¬ (((r.length + 1 : Nat)) : Int) = 2 := by omega
            have : rdJ r = none := by
              rcases r with _ | ⟨a, _ | _⟩
              · rfl
              · exact absurd rfl c2
              · rfl
            rw [this] at k nr
            rw [if_pos n1]
            exact ⟨nr, k⟩
        rw [rdW_no c0 c1 c_back c_cut c_join] at k nr
        have v : (valD (kvsM m) (.inr w0)).getD (.int 0) = .int 0 := by rw [val_no c0 c1 c_back c_cut c_join]; rfl
        simp only [WPS, reduceIte, v]
        have n1 : ¬ (((r.length + 1 : Nat)) : Int) = 0 := by omega
        rw [if_pos n1]
        exact ⟨nr, k⟩
end
end Lw
/-! SetCw: what is a whole number. -/
namespace Lw
open PySem L2
/-! data with no list of the heap, no error in it -/
mutual
def pla : D → Bool
  | .ref _ => false
  | .exn _ _ => false
  | .tup xs => plas xs
  | .lst xs => plas xs
  | _ => true
def plas : List D → Bool
  | [] => true
  | d :: ds => pla d && plas ds
end
mutual
theorem pla_noRef : ∀ d : D, pla d = true → noRef d = true
  | .non, _ => by simp [noRef]
  | .bl _, _ => by simp [noRef]
  | .int _, _ => by simp [noRef]
  | .str _, _ => by simp [noRef]
  | .emp, _ => by simp [noRef]
  | .ref _, h => by
    unfold pla at h
    cases h
  | .exn _ _, h => by
    unfold pla at h
    cases h
  | .tup xs, h => by
    unfold pla at h
    rw [noRef_tup]
    exact plas_noRef xs h
  | .lst xs, h => by
    unfold pla at h
    rw [noRef_lst]
    exact plas_noRef xs h
theorem plas_noRef : ∀ ds : List D, plas ds = true → noRefs ds = true
  | [], _ => rfl
  | d :: ds, h => by
    unfold plas at h
    rw [Bool.and_eq_true] at h
    rw [noRefs_cons, pla_noRef d h.1, plas_noRef ds h.2]
    rfl
end
theorem plas_mem : ∀ {ds : List D}, plas ds = true → ∀ d ∈ ds, pla d = true
  | [], _, _, h => nomatch h
  | e :: ds, h, d, hd => by
    unfold plas at h
    rw [Bool.and_eq_true] at h
    rcases List.mem_cons.mp hd with rfl | hd
    · exact h.1
    · exact plas_mem h.2 d hd
theorem plas_of : ∀ {ds : List D}, (∀ d ∈ ds, pla d = true) → plas ds = true
  | [], _ => rfl
  | e :: ds, h => by
    unfold plas
    rw [h e List.mem_cons_self, plas_of fun d hd => h d (List.mem_cons_of_mem _ hd)]
    rfl
theorem pla_pd (p : P2) : pla (pd p) = true := rfl
theorem pla_wk (w : List P2) : pla (wk w) = true := by
  unfold wk pla
  exact plas_of fun d hd => by
    obtain ⟨p, _, rfl⟩ := List.mem_map.mp hd
    exact pla_pd p
def isInt : D → Bool
  | .int _ => true
  | _ => false
def isNum : D → Bool
  | .int _ => true
  | .bl _ => true
  | _ => false
def isTup : D → Bool
  | .tup _ => true
  | _ => false
def isStr : D → Bool
  | .tup [.int a, .int b] => decide (a < b)
  | _ => false
section
variable {h : AH}
theorem isM_T {d : D} {neg : Bool} (b : Bool) : isM neg d (.bl b) h = .ok (.bl (xor neg (isC d (.bl b)))) h := by
  unfold isM
  rfl
theorem isi_int (d : D) (q : pla d = true) : isiM "int" d h = .ok (.bl (isNum d)) h := by
  unfold isiM
  cases d <;> first | rfl | (unfold pla at q; cases q)
theorem isi_tup (d : D) (q : pla d = true) : isiM "tuple" d h = .ok (.bl (isTup d)) h := by
  unfold isiM
  cases d <;> first | rfl | (unfold pla at q; cases q)
theorem whole_body (d : D) (q : pla d = true) : f_is_whole d [] = .ok (.bl (isInt d)) [] := by
  unfold f_is_whole b_is_whole
  have a := isi_int (h := []) d q
  cases d with
  | int i => simp only [r_bind, r_pure, r_ok, r_exc, r_stuck, r_ite, r_iteP, r_obind, r_nx, r_ret, r_bk, r_ct, r_oexc, r_lbind, r_lnx, r_lct, r_lbk, r_lret, r_lexc, r_def, r_dnx, r_dret, r_dexc, r_lift, r_throw, addM_int, subM_int, negM_int, ltM_int, leM_int, gtM_int, geM_int, maxM_int, minM_int, eqM_int, neM_int, asB_bl, asI_int, notV_bl, truM_bl, andV_bl, orV_bl, lenM_tup, lenM_lst, itemsM_tup, itemsM_lst, tupleM_tup, tupleM_lst, listM_tup, listM_lst, sliceM_tup, sliceM_lst, lstH_nil, decide_eq_true_eq, ite_true, ite_false, if_true, if_false, reduceIte, Bool.false_eq_true, List.length_cons, List.length_nil, List.getElem?_cons_zero, List.getElem?_cons_succ, List.nil_append, Bool.not_true, Bool.not_false, a, isNum, isM_T, isC, isInt]; rfl
  | bl b => cases b <;> (simp only [r_bind, r_pure, r_ok, r_exc, r_stuck, r_ite, r_iteP, r_obind, r_nx, r_ret, r_bk, r_ct, r_oexc, r_lbind, r_lnx, r_lct, r_lbk, r_lret, r_lexc, r_def, r_dnx, r_dret, r_dexc, r_lift, r_throw, addM_int, subM_int, negM_int, ltM_int, leM_int, gtM_int, geM_int, maxM_int, minM_int, eqM_int, neM_int, asB_bl, asI_int, notV_bl, truM_bl, andV_bl, orV_bl, lenM_tup, lenM_lst, itemsM_tup, itemsM_lst, tupleM_tup, tupleM_lst, listM_tup, listM_lst, sliceM_tup, sliceM_lst, lstH_nil, decide_eq_true_eq, ite_true, ite_false, if_true, if_false, reduceIte, Bool.false_eq_true, List.length_cons, List.length_nil, List.getElem?_cons_zero, List.getElem?_cons_succ, List.nil_append, Bool.not_true, Bool.not_false, a, isNum, isM_T, isC, isInt]; rfl)
  | non => simp only [r_bind, r_pure, r_ok, r_exc, r_stuck, r_ite, r_iteP, r_obind, r_nx, r_ret, r_bk, r_ct, r_oexc, r_lbind, r_lnx, r_lct, r_lbk, r_lret, r_lexc, r_def, r_dnx, r_dret, r_dexc, r_lift, r_throw, addM_int, subM_int, negM_int, ltM_int, leM_int, gtM_int, geM_int, maxM_int, minM_int, eqM_int, neM_int, asB_bl, asI_int, notV_bl, truM_bl, andV_bl, orV_bl, lenM_tup, lenM_lst, itemsM_tup, itemsM_lst, tupleM_tup, tupleM_lst, listM_tup, listM_lst, sliceM_tup, sliceM_lst, lstH_nil, decide_eq_true_eq, ite_true, ite_false, if_true, if_false, reduceIte, Bool.false_eq_true, List.length_cons, List.length_nil, List.getElem?_cons_zero, List.getElem?_cons_succ, List.nil_append, Bool.not_true, Bool.not_false, a, isNum, isInt]
  | str x => simp only [r_bind, r_pure, r_ok, r_exc, r_stuck, r_ite, r_iteP, r_obind, r_nx, r_ret, r_bk, r_ct, r_oexc, r_lbind, r_lnx, r_lct, r_lbk, r_lret, r_lexc, r_def, r_dnx, r_dret, r_dexc, r_lift, r_throw, addM_int, subM_int, negM_int, ltM_int, leM_int, gtM_int, geM_int, maxM_int, minM_int, eqM_int, neM_int, asB_bl, asI_int, notV_bl, truM_bl, andV_bl, orV_bl, lenM_tup, lenM_lst, itemsM_tup, itemsM_lst, tupleM_tup, tupleM_lst, listM_tup, listM_lst, sliceM_tup, sliceM_lst, lstH_nil, decide_eq_true_eq, ite_true, ite_false, if_true, if_false, reduceIte, Bool.false_eq_true, List.length_cons, List.length_nil, List.getElem?_cons_zero, List.getElem?_cons_succ, List.nil_append, Bool.not_true, Bool.not_false, a, isNum, isInt]
  | tup x => simp only [r_bind, r_pure, r_ok, r_exc, r_stuck, r_ite, r_iteP, r_obind, r_nx, r_ret, r_bk, r_ct, r_oexc, r_lbind, r_lnx, r_lct, r_lbk, r_lret, r_lexc, r_def, r_dnx, r_dret, r_dexc, r_lift, r_throw, addM_int, subM_int, negM_int, ltM_int, leM_int, gtM_int, geM_int, maxM_int, minM_int, eqM_int, neM_int, asB_bl, asI_int, notV_bl, truM_bl, andV_bl, orV_bl, lenM_tup, lenM_lst, itemsM_tup, itemsM_lst, tupleM_tup, tupleM_lst, listM_tup, listM_lst, sliceM_tup, sliceM_lst, lstH_nil, decide_eq_true_eq, ite_true, ite_false, if_true, if_false, reduceIte, Bool.false_eq_true, List.length_cons, List.length_nil, List.getElem?_cons_zero, List.getElem?_cons_succ, List.nil_append, Bool.not_true, Bool.not_false, a, isNum, isInt]
  | lst x => simp only [r_bind, r_pure, r_ok, r_exc, r_stuck, r_ite, r_iteP, r_obind, r_nx, r_ret, r_bk, r_ct, r_oexc, r_lbind, r_lnx, r_lct, r_lbk, r_lret, r_lexc, r_def, r_dnx, r_dret, r_dexc, r_lift, r_throw, addM_int, subM_int, negM_int, ltM_int, leM_int, gtM_int, geM_int, maxM_int, minM_int, eqM_int, neM_int, asB_bl, asI_int, notV_bl, truM_bl, andV_bl, orV_bl, lenM_tup, lenM_lst, itemsM_tup, itemsM_lst, tupleM_tup, tupleM_lst, listM_tup, listM_lst, sliceM_tup, sliceM_lst, lstH_nil, decide_eq_true_eq, ite_true, ite_false, if_true, if_false, reduceIte, Bool.false_eq_true, List.length_cons, List.length_nil, List.getElem?_cons_zero, List.getElem?_cons_succ, List.nil_append, Bool.not_true, Bool.not_false, a, isNum, isInt]
  | emp => simp only [r_bind, r_pure, r_ok, r_exc, r_stuck, r_ite, r_iteP, r_obind, r_nx, r_ret, r_bk, r_ct, r_oexc, r_lbind, r_lnx, r_lct, r_lbk, r_lret, r_lexc, r_def, r_dnx, r_dret, r_dexc, r_lift, r_throw, addM_int, subM_int, negM_int, ltM_int, leM_int, gtM_int, geM_int, maxM_int, minM_int, eqM_int, neM_int, asB_bl, asI_int, notV_bl, truM_bl, andV_bl, orV_bl, lenM_tup, lenM_lst, itemsM_tup, itemsM_lst, tupleM_tup, tupleM_lst, listM_tup, listM_lst, sliceM_tup, sliceM_lst, lstH_nil, decide_eq_true_eq, ite_true, ite_false, if_true, if_false, reduceIte, Bool.false_eq_true, List.length_cons, List.length_nil, List.getElem?_cons_zero, List.getElem?_cons_succ, List.nil_append, Bool.not_true, Bool.not_false, a, isNum, isInt]
  | ref n => unfold pla at q; cases q
  | exn c n => unfold pla at q; cases q
theorem whole_run (d : D) (q : pla d = true) : pcallM (app1 f_is_whole) [d] h = .ok (.bl (isInt d)) h := pcallM_run (noRefs_one (pla_noRef d q)) (whole_body d q) noRef_bl
end
end Lw
/-! SetC: what is a stretch, work. -/
namespace Lw
open PySem L2
section
variable {h : AH}
theorem neInt2 (n : Nat) : neM (.int (n : Int)) (.int 2) h = .ok (.bl (decide (n ≠ 2))) h := by
  rw [neM_int]
  have e : ((n : Int) ≠ 2) = (n ≠ 2) := propext ⟨fun h k => h (by omega), fun h k => h (by omega)⟩
  congr 2
  exact decide_eq_decide.mpr (by rw [e])
theorem isStr_eq {d : D} (e : isStr d = true) : ∃ a b : Int, d = .tup [.int a, .int b] ∧ a < b := by
  unfold isStr at e
  split at e
  · exact ⟨_, _, rfl, of_decide_eq_true e⟩
  · cases e
theorem stretch_body (d : D) (q : pla d = true) : f_is_stretch d [] = .ok (.bl (isStr d)) [] := by
  have it := isi_tup (h := []) d q
  unfold f_is_stretch b_is_stretch
  cases d with
  | tup xs =>
    have q' : plas xs = true := by
      unfold pla at q
      exact q
    by_cases c : xs.length = 2
    · obtain ⟨x, y, rfl⟩ : ∃ x y, xs = [x, y] := by
        match xs, c with
        | [x, y], _ => exact ⟨x, y, rfl⟩
      have px : pla x = true := plas_mem q' x (by simp)
      have py : pla y = true := plas_mem q' y (by simp)
      have x0 : ixM (.tup [x, y]) (.int 0) [] = .ok x [] := ixM_tup rfl
      have x1 : ixM (.tup [x, y]) (.int 1) [] = .ok y [] := ixM_tup rfl
      have l2 : lenM (.tup [x, y]) [] = .ok (.int 2) [] := lenM_tup
      have n2 : neM (.int 2) (.int 2) [] = .ok (.bl false) [] := neInt2 2
      have wx := whole_run (h := []) x px
      have wy := whole_run (h := []) y py
      cases x with
      | int a =>
        cases y with
        | int b =>
          simp only [r_bind, r_pure, r_ok, r_exc, r_stuck, r_ite, r_iteP, r_obind, r_nx, r_ret, r_bk, r_ct, r_oexc, r_lbind, r_lnx, r_lct, r_lbk, r_lret, r_lexc, r_def, r_dnx, r_dret, r_dexc, r_lift, r_throw, addM_int, subM_int, negM_int, ltM_int, leM_int, gtM_int, geM_int, maxM_int, minM_int, asB_bl, asI_int, notV_bl, truM_bl, andV_bl, orV_bl, itemsM_tup, itemsM_lst, tupleM_tup, tupleM_lst, listM_tup, listM_lst, sliceM_tup, sliceM_lst, lstH_nil, decide_eq_true_eq, ite_true, ite_false, if_true, if_false, reduceIte, Bool.false_eq_true, List.getElem?_cons_zero, List.getElem?_cons_succ, List.nil_append, Bool.not_true, Bool.not_false, it, isTup, l2, n2, x0, x1, wx, wy, isInt, isStr]
        | _ => simp only [r_bind, r_pure, r_ok, r_exc, r_stuck, r_ite, r_iteP, r_obind, r_nx, r_ret, r_bk, r_ct, r_oexc, r_lbind, r_lnx, r_lct, r_lbk, r_lret, r_lexc, r_def, r_dnx, r_dret, r_dexc, r_lift, r_throw, addM_int, subM_int, negM_int, ltM_int, leM_int, gtM_int, geM_int, maxM_int, minM_int, asB_bl, asI_int, notV_bl, truM_bl, andV_bl, orV_bl, itemsM_tup, itemsM_lst, tupleM_tup, tupleM_lst, listM_tup, listM_lst, sliceM_tup, sliceM_lst, lstH_nil, decide_eq_true_eq, ite_true, ite_false, if_true, if_false, reduceIte, Bool.false_eq_true, List.getElem?_cons_zero, List.getElem?_cons_succ, List.nil_append, Bool.not_true, Bool.not_false, it, isTup, l2, n2, x0, x1, wx, wy, isInt, isStr]
      | _ => simp only [r_bind, r_pure, r_ok, r_exc, r_stuck, r_ite, r_iteP, r_obind, r_nx, r_ret, r_bk, r_ct, r_oexc, r_lbind, r_lnx, r_lct, r_lbk, r_lret, r_lexc, r_def, r_dnx, r_dret, r_dexc, r_lift, r_throw, addM_int, subM_int, negM_int, ltM_int, leM_int, gtM_int, geM_int, maxM_int, minM_int, asB_bl, asI_int, notV_bl, truM_bl, andV_bl, orV_bl, itemsM_tup, itemsM_lst, tupleM_tup, tupleM_lst, listM_tup, listM_lst, sliceM_tup, sliceM_lst, lstH_nil, decide_eq_true_eq, ite_true, ite_false, if_true, if_false, reduceIte, Bool.false_eq_true, List.getElem?_cons_zero, List.getElem?_cons_succ, List.nil_append, Bool.not_true, Bool.not_false, it, isTup, l2, n2, x0, x1, wx, wy, isInt, isStr]
    · have n2 : neM (.int (xs.length : Int)) (.int 2) [] = .ok (.bl true) [] := by rw [neInt2, decide_eq_true c]
      have e : isStr (.tup xs) = false := by
        cases z : isStr (.tup xs) with
        | false => rfl
        | true =>
          obtain ⟨a, b, e, _⟩ := isStr_eq z
          cases e
          exact absurd rfl c
      rw [e]
      have l2 : lenM (.tup xs) [] = .ok (.int xs.length) [] := lenM_tup
      simp only [r_bind, r_pure, r_ok, r_exc, r_stuck, r_ite, r_iteP, r_obind, r_nx, r_ret, r_bk, r_ct, r_oexc, r_lbind, r_lnx, r_lct, r_lbk, r_lret, r_lexc, r_def, r_dnx, r_dret, r_dexc, r_lift, r_throw, addM_int, subM_int, negM_int, ltM_int, leM_int, gtM_int, geM_int, maxM_int, minM_int, asB_bl, asI_int, notV_bl, truM_bl, andV_bl, orV_bl, itemsM_tup, itemsM_lst, tupleM_tup, tupleM_lst, listM_tup, listM_lst, sliceM_tup, sliceM_lst, lstH_nil, decide_eq_true_eq, ite_true, ite_false, if_true, if_false, reduceIte, Bool.false_eq_true, List.getElem?_cons_zero, List.getElem?_cons_succ, List.nil_append, Bool.not_true, Bool.not_false, it, isTup, l2, n2]
  | ref n => unfold pla at q; cases q
  | exn c n => unfold pla at q; cases q
  | _ => simp only [r_bind, r_pure, r_ok, r_exc, r_stuck, r_ite, r_iteP, r_obind, r_nx, r_ret, r_bk, r_ct, r_oexc, r_lbind, r_lnx, r_lct, r_lbk, r_lret, r_lexc, r_def, r_dnx, r_dret, r_dexc, r_lift, r_throw, addM_int, subM_int, negM_int, ltM_int, leM_int, gtM_int, geM_int, maxM_int, minM_int, asB_bl, asI_int, notV_bl, truM_bl, andV_bl, orV_bl, itemsM_tup, itemsM_lst, tupleM_tup, tupleM_lst, listM_tup, listM_lst, sliceM_tup, sliceM_lst, lstH_nil, decide_eq_true_eq, ite_true, ite_false, if_true, if_false, reduceIte, Bool.false_eq_true, List.getElem?_cons_zero, List.getElem?_cons_succ, List.nil_append, Bool.not_true, Bool.not_false, it, isTup, isStr]
theorem stretch_run (d : D) (q : pla d = true) : pcallM (app1 f_is_stretch) [d] h = .ok (.bl (isStr d)) h := pcallM_run (noRefs_one (pla_noRef d q)) (stretch_body d q) noRef_bl
/-- right work -/
def isWork (d : D) : Prop := ∃ w : List P2, d = wk w ∧ Wk w
theorem all_str : ∀ {xs : List D}, xs.all isStr = true → ∃ w : List P2, xs = w.map pd ∧ ∀ p, p ∈ w → p.1 < p.2
  | [], _ => ⟨[], rfl, fun _ h => nomatch h⟩
  | d :: xs, e => by
    rw [List.all_cons, Bool.and_eq_true] at e
    obtain ⟨a, b, rfl, l⟩ := isStr_eq e.1
    obtain ⟨w, rfl, hw⟩ := all_str e.2
    refine ⟨(a, b) :: w, rfl, fun p hp => ?_⟩
    rcases List.mem_cons.mp hp with rfl | hp
    · exact l
    · exact hw p hp
theorem all_pd {w : List P2} (hw : ∀ p, p ∈ w → p.1 < p.2) : (w.map pd).all isStr = true := by
  rw [List.all_eq_true]
  intro d hd
  obtain ⟨p, hp, rfl⟩ := List.mem_map.mp hd
  exact decide_eq_true (hw p hp)
/-- one by one they rise -/
def rises : List P2 → Bool
  | p :: q :: r => decide (¬ q.1 < p.2) && rises (q :: r)
  | _ => true
theorem rises_wk : ∀ {w : List P2}, (∀ p, p ∈ w → p.1 < p.2) → (rises w = true ↔ Wk w)
  | [], _ => ⟨fun _ => Wk.nil, fun _ => rfl⟩
  | [p], h => ⟨fun _ => ⟨by simp, h⟩, fun _ => rfl⟩
  | p :: q :: r, h => by
    have ih := rises_wk (w := q :: r) fun x hx => h x (List.mem_cons_of_mem _ hx)
    have hq := h q (by simp)
    unfold rises
    rw [Bool.and_eq_true, decide_eq_true_eq, ih]
    constructor
    · rintro ⟨a, b, c⟩
      refine ⟨List.pairwise_cons.mpr ⟨fun x hx => ?_, b⟩, h⟩
      rcases List.mem_cons.mp hx with rfl | hx
      · omega
      · have := (List.pairwise_cons.mp b).1 x hx
        omega
    · rintro ⟨b, c⟩
      have b1 := List.pairwise_cons.mp b
      have := b1.1 q (by simp)
      exact ⟨by omega, b1.2, fun x hx => c x (List.mem_cons_of_mem _ hx)⟩
theorem zip_cons (p q : P2) (r : List P2) : zipD ((p :: q :: r).map pd) ((q :: r).map pd) = .tup [pd p, pd q] :: zipD ((q :: r).map pd) (r.map pd) := rfl
theorem check_loop {β : Type} : ∀ w : List P2, (forM (zipD (w.map pd) (w.tail.map pd)) () l_check_work_2 : M (Out Unit β)) h = if rises w = true then .ok (.nx ()) h else .exc "BadWork" h
  | [] => rfl
  | [p] => rfl
  | p :: q :: r => by
    have x0 : ixM (pd q) (.int 0) h = .ok (.int q.1) h := ixM_tup rfl
    have x1 : ixM (pd p) (.int 1) h = .ok (.int p.2) h := ixM_tup rfl
    have un : (liftO (unpT (uCons some (uCons some uNil)) (.tup [pd p, pd q])) : M _) h = .ok (pd p, pd q, ()) h := rfl
    show (forM (zipD ((p :: q :: r).map pd) ((q :: r).map pd)) () l_check_work_2 : M (Out Unit β)) h = _
    rw [zip_cons, r_for]
    by_cases c : q.1 < p.2
    · have s : l_check_work_2 (.tup [pd p, pd q]) () h = .exc "BadWork" h := by
        unfold l_check_work_2
        simp only [r_bind, r_pure, r_ok, r_exc, r_stuck, r_ite, r_iteP, r_obind, r_nx, r_ret, r_bk, r_ct, r_oexc, r_lbind, r_lnx, r_lct, r_lbk, r_lret, r_lexc, r_def, r_dnx, r_dret, r_dexc, r_lift, r_throw, addM_int, subM_int, negM_int, ltM_int, leM_int, gtM_int, geM_int, maxM_int, minM_int, eqM_int, neM_int, asB_bl, asI_int, notV_bl, truM_bl, andV_bl, orV_bl, lenM_tup, lenM_lst, itemsM_tup, itemsM_lst, tupleM_tup, tupleM_lst, listM_tup, listM_lst, sliceM_tup, sliceM_lst, lstH_nil, decide_eq_true_eq, ite_true, ite_false, if_true, if_false, reduceIte, Bool.false_eq_true, List.length_cons, List.length_nil, List.getElem?_cons_zero, List.getElem?_cons_succ, List.nil_append, Bool.not_true, Bool.not_false, un, x0, x1, c]
      have e : rises (p :: q :: r) = false := by
        unfold rises
        simp [c]
      rw [s, e]
      rfl
    · have s : l_check_work_2 (.tup [pd p, pd q]) () h = .ok (.nx ()) h := by
        unfold l_check_work_2
        simp only [r_bind, r_pure, r_ok, r_exc, r_stuck, r_ite, r_iteP, r_obind, r_nx, r_ret, r_bk, r_ct, r_oexc, r_lbind, r_lnx, r_lct, r_lbk, r_lret, r_lexc, r_def, r_dnx, r_dret, r_dexc, r_lift, r_throw, addM_int, subM_int, negM_int, ltM_int, leM_int, gtM_int, geM_int, maxM_int, minM_int, eqM_int, neM_int, asB_bl, asI_int, notV_bl, truM_bl, andV_bl, orV_bl, lenM_tup, lenM_lst, itemsM_tup, itemsM_lst, tupleM_tup, tupleM_lst, listM_tup, listM_lst, sliceM_tup, sliceM_lst, lstH_nil, decide_eq_true_eq, ite_true, ite_false, if_true, if_false, reduceIte, Bool.false_eq_true, List.length_cons, List.length_nil, List.getElem?_cons_zero, List.getElem?_cons_succ, List.nil_append, Bool.not_true, Bool.not_false, un, x0, x1, c]
      have e : rises (p :: q :: r) = rises (q :: r) := by
        conv => lhs; unfold rises
        simp [c]
      rw [s, e, r_lnx]
      exact check_loop (q :: r)
theorem check_all (xs : List D) (q : plas xs = true) (l : xs.length ≤ 1000000) : lcM xs c_check_work_1 h = .ok (.lst ((xs.map isStr).map D.bl)) h := by
  have z := lcM_map (h := h) (f := c_check_work_1) (u := id) (v := fun x => D.bl (isStr x)) (zs := xs) l fun x hx => by
    have s := fun h => stretch_run (h := h) x (plas_mem q x hx)
    unfold c_check_work_1
    simp only [r_bind, r_pure, r_ok, r_exc, r_stuck, r_ite, r_iteP, r_obind, r_nx, r_ret, r_bk, r_ct, r_oexc, r_lbind, r_lnx, r_lct, r_lbk, r_lret, r_lexc, r_def, r_dnx, r_dret, r_dexc, r_lift, r_throw, addM_int, subM_int, negM_int, ltM_int, leM_int, gtM_int, geM_int, maxM_int, minM_int, eqM_int, neM_int, asB_bl, asI_int, notV_bl, truM_bl, andV_bl, orV_bl, lenM_tup, lenM_lst, itemsM_tup, itemsM_lst, tupleM_tup, tupleM_lst, listM_tup, listM_lst, sliceM_tup, sliceM_lst, lstH_nil, decide_eq_true_eq, ite_true, ite_false, if_true, if_false, reduceIte, Bool.false_eq_true, List.length_cons, List.length_nil, List.getElem?_cons_zero, List.getElem?_cons_succ, List.nil_append, Bool.not_true, Bool.not_false, id, s]
  rw [List.map_id] at z
  rw [z, List.map_map]
  rfl
/-- check_work lets right work by, and refuses all else -/
theorem check_body (d : D) (q : pla d = true) (l : ∀ xs, d = .tup xs → xs.length ≤ 1000000) : (isWork d ∧ f_check_work d [] = .ok .non []) ∨ (¬ isWork d ∧ f_check_work d [] = .exc "BadWork" []) := by
  have it := isi_tup (h := []) d q
  have no : ∀ {d : D}, (∀ xs, d ≠ .tup xs) → ¬ isWork d := fun h ⟨w, e, _⟩ => h _ e
  unfold f_check_work b_check_work
  cases d with
  | tup xs =>
    have q' : plas xs = true := by
      unfold pla at q
      exact q
    have ca := check_all (h := []) xs q' (l xs rfl)
    have al : allM (.lst ((xs.map isStr).map D.bl)) [] = .ok (.bl ((xs.map isStr).all id)) [] := allM_lst
    by_cases c : xs.all isStr = true
    · have e : ((xs.map isStr).all id) = true := by
        rw [List.all_map]
        exact c
      obtain ⟨w, rfl, hw⟩ := all_str c
      have sl : cutD (w.map pd) (some 1) none = w.tail.map pd := by
        rw [show (some (1 : Int)) = some ((1 : Nat) : Int) from rfl, cutD_drop, ← List.map_drop, List.drop_one]
      have zp : zipM [.tup (w.map pd), .tup (w.tail.map pd)] [] = .ok (zipD (w.map pd) (w.tail.map pd)) [] := zipM_tup
      have lp := check_loop (h := []) (β := Empty) w
      by_cases r : rises w = true
      · refine .inl ⟨⟨w, rfl, (rises_wk hw).mp r⟩, ?_⟩
        rw [if_pos r] at lp
        simp only [r_bind, r_pure, r_ok, r_exc, r_stuck, r_ite, r_iteP, r_obind, r_nx, r_ret, r_bk, r_ct, r_oexc, r_lbind, r_lnx, r_lct, r_lbk, r_lret, r_lexc, r_def, r_dnx, r_dret, r_dexc, r_lift, r_throw, addM_int, subM_int, negM_int, ltM_int, leM_int, gtM_int, geM_int, maxM_int, minM_int, asB_bl, asI_int, notV_bl, truM_bl, andV_bl, orV_bl, itemsM_tup, itemsM_lst, tupleM_tup, tupleM_lst, listM_tup, listM_lst, sliceM_tup, sliceM_lst, lstH_nil, decide_eq_true_eq, ite_true, ite_false, if_true, if_false, reduceIte, Bool.false_eq_true, List.getElem?_cons_zero, List.getElem?_cons_succ, List.nil_append, Bool.not_true, Bool.not_false, it, isTup, ca, al, e, sl, zp, lp]
      · refine .inr ⟨fun ⟨u, e, hu⟩ => ?_, ?_⟩
        · have := map_pd_inj (D.tup.inj e)
          subst this
          exact r ((rises_wk hw).mpr hu)
        · rw [if_neg r] at lp
          simp only [r_bind, r_pure, r_ok, r_exc, r_stuck, r_ite, r_iteP, r_obind, r_nx, r_ret, r_bk, r_ct, r_oexc, r_lbind, r_lnx, r_lct, r_lbk, r_lret, r_lexc, r_def, r_dnx, r_dret, r_dexc, r_lift, r_throw, addM_int, subM_int, negM_int, ltM_int, leM_int, gtM_int, geM_int, maxM_int, minM_int, asB_bl, asI_int, notV_bl, truM_bl, andV_bl, orV_bl, itemsM_tup, itemsM_lst, tupleM_tup, tupleM_lst, listM_tup, listM_lst, sliceM_tup, sliceM_lst, lstH_nil, decide_eq_true_eq, ite_true, ite_false, if_true, if_false, reduceIte, Bool.false_eq_true, List.getElem?_cons_zero, List.getElem?_cons_succ, List.nil_append, Bool.not_true, Bool.not_false, it, isTup, ca, al, e, sl, zp, lp]
    · have e : ((xs.map isStr).all id) = false := by
        rw [List.all_map]
        exact Bool.eq_false_iff.mpr c
      refine .inr ⟨fun ⟨u, e, hu⟩ => ?_, ?_⟩
      · rw [D.tup.inj e] at c
        exact c (all_pd hu.2)
      · simp only [r_bind, r_pure, r_ok, r_exc, r_stuck, r_ite, r_iteP, r_obind, r_nx, r_ret, r_bk, r_ct, r_oexc, r_lbind, r_lnx, r_lct, r_lbk, r_lret, r_lexc, r_def, r_dnx, r_dret, r_dexc, r_lift, r_throw, addM_int, subM_int, negM_int, ltM_int, leM_int, gtM_int, geM_int, maxM_int, minM_int, asB_bl, asI_int, notV_bl, truM_bl, andV_bl, orV_bl, itemsM_tup, itemsM_lst, tupleM_tup, tupleM_lst, listM_tup, listM_lst, sliceM_tup, sliceM_lst, lstH_nil, decide_eq_true_eq, ite_true, ite_false, if_true, if_false, reduceIte, Bool.false_eq_true, List.getElem?_cons_zero, List.getElem?_cons_succ, List.nil_append, Bool.not_true, Bool.not_false, it, isTup, ca, al, e]
  | ref n => unfold pla at q; cases q
  | exn c n => unfold pla at q; cases q
  | _ => refine .inr ⟨no (by intro _ z; cases z), ?_⟩; simp only [r_bind, r_pure, r_ok, r_exc, r_stuck, r_ite, r_iteP, r_obind, r_nx, r_ret, r_bk, r_ct, r_oexc, r_lbind, r_lnx, r_lct, r_lbk, r_lret, r_lexc, r_def, r_dnx, r_dret, r_dexc, r_lift, r_throw, addM_int, subM_int, negM_int, ltM_int, leM_int, gtM_int, geM_int, maxM_int, minM_int, asB_bl, asI_int, notV_bl, truM_bl, andV_bl, orV_bl, itemsM_tup, itemsM_lst, tupleM_tup, tupleM_lst, listM_tup, listM_lst, sliceM_tup, sliceM_lst, lstH_nil, decide_eq_true_eq, ite_true, ite_false, if_true, if_false, reduceIte, Bool.false_eq_true, List.getElem?_cons_zero, List.getElem?_cons_succ, List.nil_append, Bool.not_true, Bool.not_false, it, isTup]
theorem check_ok (d : D) (q : pla d = true) (l : ∀ xs, d = .tup xs → xs.length ≤ 1000000) (w : isWork d) (h : AH) : pcallM (app1 f_check_work) [d] h = .ok .non h := by
  rcases check_body d q l with ⟨_, e⟩ | ⟨n, _⟩
  · exact pcallM_run (noRefs_one (pla_noRef d q)) e noRef_non
  · exact absurd w n
theorem check_bad (d : D) (q : pla d = true) (l : ∀ xs, d = .tup xs → xs.length ≤ 1000000) (w : ¬ isWork d) (h : AH) : pcallM (app1 f_check_work) [d] h = .exc "BadWork" h := by
  rcases check_body d q l with ⟨n, _⟩ | ⟨_, e⟩
  · exact absurd n w
  · exact pcallM_exc (noRefs_one (pla_noRef d q)) e
end
end Lw
/-! SetBd: bounds are looked at. -/
namespace Lw
open PySem L2
def isB : D → Bool
  | .int i => decide (1 ≤ i)
  | _ => false
section
variable {h : AH} {E : Str → AH → Prop} {P : D → AH → Prop}
theorem w_pwholeB (d : D) (q : pla d = true) : Wp (pcallM (app1 f_is_whole) [d] h) P E ↔ P (.bl (isInt d)) h := by rw [whole_run d q] <;> exact Iff.rfl
theorem isInt_eqB {x : D} (e : isInt x = true) : ∃ m, x = .int m := by
  cases x <;> first | exact ⟨_, rfl⟩ | cases e
theorem bounds_w {x y z : D} (px : pla x = true) (py : pla y = true) (pz : pla z = true) (bad : ¬ (∃ i j k : Int, x = .int i ∧ y = .int j ∧ z = .int k ∧ 1 ≤ i ∧ 1 ≤ j ∧ 1 ≤ k ∧ j ≤ k) → E "BadBound" h) (k : ∀ i j k : Int, x = .int i → y = .int j → z = .int k → 1 ≤ i → 1 ≤ j → 1 ≤ k → j ≤ k → P .non h) : Wp (pcallM (app3 f_check_bounds) [x, y, z] h) P E := by
  have one : ∀ (u : D) (hu : pla u = true) (O : Out Unit Empty → AH → Prop) (r : List D) (g : AH), (isB u = false → (∀ i, u = .int i → i < 1) → E "BadBound" h) → (∀ i, u = .int i → 1 ≤ i → Wp ((forM r () l_check_bounds_1 : M (Out Unit Empty)) g) O fun x' _ => E x' h) → Wp ((forM (u :: r) () l_check_bounds_1 : M (Out Unit Empty)) g) O fun x' _ => E x' h := by
    intro u hu O r g bad k
    rw [w_for1]
    unfold l_check_bounds_1
    simp only [WPS, reduceIte, w_pwholeB u hu]
    cases hi : isInt u with
    | false =>
      simp only [WPS, reduceIte, Bool.not_false]
      refine bad ?_ ?_
      · cases u <;> first | rfl | cases hi
      · intro i e
        rw [e] at hi
        cases hi
    | true =>
      obtain ⟨m, rfl⟩ := isInt_eqB hi
      simp only [WPS, reduceIte, Bool.not_true]
      by_cases c : m < 1
      · simp only [WPS, reduceIte, c, decide_true]
        refine bad (decide_eq_false (by omega)) fun i e => ?_
        cases e
        exact c
      · simp only [WPS, reduceIte, c, decide_false]
        exact k m rfl (by omega)
  rw [w_pcall]
  refine ⟨by rw [noRefs_cons, noRefs_cons, noRefs_cons, noRefs_nil, pla_noRef x px, pla_noRef y py, pla_noRef z pz]; rfl, ?_⟩
  rw [w_app3]
  unfold f_check_bounds b_check_bounds
  simp only [WPS, reduceIte]
  refine one x px _ _ _ (fun _ f => bad fun ⟨i, j, l, e1, e2, e3, h1, h2, h3, h4⟩ => ?_) fun i ei i1 => ?_
  · have := f i e1
    omega
  refine one y py _ _ _ (fun _ f => bad fun ⟨i, j, l, e1, e2, e3, h1, h2, h3, h4⟩ => ?_) fun j ej j1 => ?_
  · have := f j e2
    omega
  refine one z pz _ _ _ (fun _ f => bad fun ⟨i, j, l, e1, e2, e3, h1, h2, h3, h4⟩ => ?_) fun l el l1 => ?_
  · have := f l e3
    omega
  subst ei ej el
  rw [w_for0, oK_nx]
  simp only [WPS, reduceIte]
  by_cases c : l < j
  · simp only [WPS, reduceIte, c, decide_true]
    refine bad fun ⟨i', j', l', e1, e2, e3, h1, h2, h3, h4⟩ => ?_
    cases e1
    cases e2
    cases e3
    omega
  · simp only [WPS, reduceIte, c, decide_false]
    exact ⟨rfl, k i j l rfl rfl rfl i1 j1 l1 (by omega)⟩
end
end Lw
/-! SetMf: whole texts read by a law's own reader. -/
namespace Lw
open PySem L2
/-! ### works and limits by the law's own look -/
def CW (ps : List P2) : Prop := ∀ (k : Nat) (p : P2), ps[k]? = some p → p.1 < p.2 ∧ ∀ q : P2, 0 < k → ps[k - 1]? = some q → q.2 ≤ p.1
theorem cw_wk {ps : List P2} : CW ps ↔ Wk ps := by
  constructor
  · intro c
    have far : ∀ (d i : Nat) (p q : P2), ps[i]? = some p → ps[i + d + 1]? = some q → p.2 ≤ q.1 := by
      intro d
      induction d with
      | zero =>
        intro i p q h1 h2
        exact (c (i + 1) q h2).2 p (by omega) h1
      | succ d ih =>
        intro i p q h1 h2
        have l := (List.getElem?_eq_some_iff.mp h2).1
        have hm : ps[i + d + 1]? = some ps[i + d + 1] := List.getElem?_eq_getElem (by omega)
        have a := ih i p _ h1 hm
        have b := (c _ _ hm).1
        have e := (c (i + (d + 1) + 1) q h2).2 _ (by omega) (show ps[i + (d + 1) + 1 - 1]? = some ps[i + d + 1] from hm)
        omega
    refine ⟨List.pairwise_iff_getElem.mpr fun i j hi hj l => ?_, fun p hp => ?_⟩
    · have e := far (j - i - 1) i ps[i] ps[j] (List.getElem?_eq_getElem hi) (by rw [show i + (j - i - 1) + 1 = j by omega]; exact List.getElem?_eq_getElem hj)
      exact e
    · obtain ⟨k, hk, e⟩ := List.mem_iff_getElem.mp hp
      exact (c k p (by rw [List.getElem?_eq_getElem hk, e])).1
  · intro w k p hk
    refine ⟨w.2 p (List.mem_of_getElem? hk), fun q k0 hq => ?_⟩
    obtain ⟨l1, e1⟩ := List.getElem?_eq_some_iff.mp hk
    obtain ⟨l2, e2⟩ := List.getElem?_eq_some_iff.mp hq
    have z := List.pairwise_iff_getElem.mp w.1 (k - 1) k l2 l1 (by omega)
    rw [e1, e2] at z
    exact z
section
variable {g : AH} {Q : D → AH → Prop} {F : Str → AH → Prop} {y0 y1 y2 : D}
theorem jx21 : Wp (ixM (.tup [y0, y1]) (.int 1) g) Q F ↔ Q y1 g := w_ixT rfl
theorem jx20 : Wp (ixM (.tup [y0, y1]) (.int 0) g) Q F ↔ Q y0 g := w_ixT rfl
theorem jx31 : Wp (ixM (.tup [y0, y1, y2]) (.int 1) g) Q F ↔ Q y1 g := w_ixT rfl
theorem jx32 : Wp (ixM (.tup [y0, y1, y2]) (.int 2) g) Q F ↔ Q y2 g := w_ixT rfl
end
section
variable {h : AH} {E : Str → AH → Prop} {P : D → AH → Prop}
theorem lawwork_w {ps : List P2} (kt : Wk ps → P (.bl true) h) (kf : ¬ Wk ps → P (.bl false) h) : Wp (pcallM (app1 f_law_is_work) [prsD ps] h) P E := by
  rw [w_pcall]
  refine ⟨by rw [noRefs_cons, noRefs_nil, nr_prsD]; rfl, ?_⟩
  rw [w_app1]
  unfold f_law_is_work b_law_is_work prsD
  simp only [WPS, reduceIte]
  refine w_for (fun k _ g => g = [] ∧ ∀ (j : Nat) (p : P2), j < k → ps[j]? = some p → p.1 < p.2 ∧ ∀ q : P2, 0 < j → ps[j - 1]? = some q → q.2 ≤ p.1) ⟨rfl, fun j p hj => absurd hj (Nat.not_lt_zero _)⟩ (fun k x t g hx i => ?_) fun t g i => ?_
  · obtain ⟨rfl, i⟩ := i
    have lk : k < ps.length := by
      have := (List.getElem?_eq_some_iff.mp hx).1
      rw [enumD_length, List.length_map] at this
      exact this
    have ek : ps[k]? = some ps[k] := List.getElem?_eq_getElem lk
    have q := enumD_get (lo := 0) (xs := ps.map fun p => D.tup [.int p.1, .int p.2]) (i := k) (d := .tup [.int ps[k].1, .int ps[k].2]) (by rw [List.getElem?_map, ek]; rfl)
    rw [hx] at q
    cases q
    generalize ps[k] = p at ek
    have bad : ¬ (p.1 < p.2 ∧ ∀ q : P2, 0 < k → ps[k - 1]? = some q → q.2 ≤ p.1) → noRef (.bl false) = true ∧ P (.bl false) h := fun n => ⟨noRef_bl, kf fun w => n (cw_wk.mpr w k p ek)⟩
    have good : (p.1 < p.2 ∧ ∀ q : P2, 0 < k → ps[k - 1]? = some q → q.2 ≤ p.1) → ∀ (j : Nat) (p : P2), j < k + 1 → ps[j]? = some p → p.1 < p.2 ∧ ∀ q : P2, 0 < j → ps[j - 1]? = some q → q.2 ≤ p.1 := fun g j p' hj e => by
      by_cases c : j = k
      · subst c
        rw [ek] at e
        cases e
        exact g
      · exact i j p' (by omega) e
    unfold l_law_is_work_1
    have up : unpT (uCons some (uCons (unpT (uCons some (uCons some uNil))) uNil)) (.tup [.int ((0 : Int) + (k : Nat)), .tup [.int p.1, .int p.2]]) = some (D.int ((0 : Int) + (k : Nat)), (D.int p.1, D.int p.2, ()), ()) := rfl
    simp only [up, WPS, reduceIte]
    by_cases c1 : p.2 ≤ p.1
    · simp only [c1, decide_true, WPS, reduceIte]
      exact bad fun z => by have := z.1; omega
    · simp only [c1, decide_false, WPS, reduceIte]
      by_cases c2 : (0 : Int) < 0 + (k : Nat)
      · have kp : k - 1 < ps.length := by omega
        have ep : ps[k - 1]? = some ps[k - 1] := List.getElem?_eq_getElem kp
        have i1 : ∀ {g : AH} {Q : D → AH → Prop} {F : Str → AH → Prop}, Wp (ixM (.tup (ps.map fun p => D.tup [.int p.1, .int p.2])) (.int ((0 : Int) + (k : Nat) - 1)) g) Q F ↔ Q (.tup [.int ps[k - 1].1, .int ps[k - 1].2]) g := w_ixT (atI_pos (by omega) (by rw [show ((0 : Int) + (k : Nat) - 1).toNat = k - 1 by omega, List.getElem?_map, ep]; rfl))
        simp only [c2, decide_true, WPS, reduceIte, i1, jx21]
        by_cases c3 : p.1 < ps[k - 1].2
        · simp only [c3, decide_true, WPS, reduceIte]
          exact bad fun z => by have := z.2 _ (by omega) ep; omega
        · simp only [c3, decide_false, WPS, reduceIte]
          exact ⟨trivial, good ⟨by omega, fun q k0 hq => by rw [ep] at hq; cases hq; omega⟩⟩
      · simp only [c2, decide_false, WPS, reduceIte]
        exact ⟨trivial, good ⟨by omega, fun q k0 hq => by omega⟩⟩
  · obtain ⟨rfl, i⟩ := i
    simp only [WPS, reduceIte]
    refine ⟨noRef_bl, kt (cw_wk.mp fun k p hk => i k p ?_ hk)⟩
    rw [enumD_length, List.length_map]
    exact (List.getElem?_eq_some_iff.mp hk).1
theorem lawlimits_w {a b c : Int} (kt : 1 ≤ a ∧ 1 ≤ b ∧ 1 ≤ c ∧ b ≤ c → P (.bl true) h) (kf : ¬ (1 ≤ a ∧ 1 ≤ b ∧ 1 ≤ c ∧ b ≤ c) → P (.bl false) h) : Wp (pcallM (app1 f_law_are_limits) [.tup [.int a, .int b, .int c]] h) P E := by
  rw [w_pcall]
  refine ⟨rfl, ?_⟩
  rw [w_app1]
  unfold f_law_are_limits b_law_are_limits
  have mn : ∀ {g : AH} {Q : D → AH → Prop} {F : Str → AH → Prop}, Wp (minTM (.tup [.int a, .int b, .int c]) g) Q F ↔ Q (.int (min (min a b) c)) g := Iff.rfl
  simp only [WPS, reduceIte, mn, jx31, jx32]
  by_cases c1 : 1 ≤ min (min a b) c
  · simp only [c1, decide_true, WPS, reduceIte]
    refine ⟨noRef_bl, ?_⟩
    by_cases c2 : b ≤ c
    · rw [decide_eq_true c2]
      exact kt (by omega)
    · rw [decide_eq_false c2]
      exact kf (by omega)
  · simp only [c1, decide_false, WPS, reduceIte]
    exact ⟨noRef_bl, kf (by omega)⟩
end
end Lw
/-! SetMg: a whole text by both readers. -/
namespace Lw
open PySem L2
/-- the parts of a text between its line feeds, each of no great length -/
structure Prt (ps : List Str) : Prop where
  ne : ps ≠ []
  free : ∀ r ∈ ps, 10 ∉ sg r
  ok : ∀ r ∈ ps, okRow r = true ∧ PyData.strOk r = true
  many : ps.length ≤ 1000
  len : (Str.join (chS 10) ps).length + 2 ≤ 1000000
/-- a head by its row -/
def HRz (z : Str) (v : Option Hd) : Prop := HR (Txt.split z " ") v
theorem hrz_ex (z : Str) : ∃ v, HRz z v := hr_ex (split_ne _ _)
open Classical in
/-- what is read of a text -/
noncomputable def rdV (v : Option Hd) (ls : List (Option Rw)) : D := match v with
  | none => .str "text"
  | some x => if ls.all Option.isSome = true then (if Wk x.ps then (if 1 ≤ x.a ∧ 1 ≤ x.b ∧ 1 ≤ x.c ∧ x.b ≤ x.c then .tup [prsD x.ps, .int x.a, .int x.b, .int x.c, .tup (ls.map lnO)] else .str "bound") else .str "work") else .str "text"
theorem rdV_l {x : Hd} {ls : List (Option Rw)} (e : ls.all Option.isSome = false) : rdV (some x) ls = .str "text" := if_neg (by rw [e]; exact Bool.false_ne_true)
theorem rdV_w {x : Hd} {ls : List (Option Rw)} (e : ls.all Option.isSome = true) (w : ¬ Wk x.ps) : rdV (some x) ls = .str "work" := (if_pos e).trans (if_neg w)
theorem rdV_b {x : Hd} {ls : List (Option Rw)} (e : ls.all Option.isSome = true) (w : Wk x.ps) (b : ¬ (1 ≤ x.a ∧ 1 ≤ x.b ∧ 1 ≤ x.c ∧ x.b ≤ x.c)) : rdV (some x) ls = .str "bound" := (if_pos e).trans ((if_pos w).trans (if_neg b))
theorem rdV_t {x : Hd} {ls : List (Option Rw)} (e : ls.all Option.isSome = true) (w : Wk x.ps) (b : 1 ≤ x.a ∧ 1 ≤ x.b ∧ 1 ≤ x.c ∧ x.b ≤ x.c) : rdV (some x) ls = .tup [prsD x.ps, .int x.a, .int x.b, .int x.c, .tup (ls.map lnO)] := (if_pos e).trans ((if_pos w).trans (if_pos b))
/-- .. by the text's parts -/
noncomputable def rdP (v : Option Hd) : List Str → D
  | [] => .str "text"
  | [_] => .str "text"
  | hd :: z :: r => rdV v ((z :: r).dropLast.map rdL)
/-! ### numbers of no great size -/
mutual
theorem nb_leM : ∀ (d : D) (n m : Nat), n ≤ m → nb n d = true → nb m d = true
  | .non, n, m, _, _ => by cases m <;> rfl
  | .int _, n, m, _, _ => by cases m <;> rfl
  | .str _, n, m, _, h => by cases n <;> cases m <;> exact h
  | .tup xs, 0, m, _, h => by unfold nb at h; cases h
  | .lst xs, 0, m, _, h => by unfold nb at h; cases h
  | .tup xs, n + 1, 0, l, h => by omega
  | .lst xs, n + 1, 0, l, h => by omega
  | .tup xs, n + 1, m + 1, l, h => by
    unfold nb at h ⊢
    exact nbs_leM xs n m (by omega) h
  | .lst xs, n + 1, m + 1, l, h => by
    unfold nb at h ⊢
    exact nbs_leM xs n m (by omega) h
  | .bl _, n, m, _, h => by cases n <;> (unfold nb at h; cases h)
  | .ref _, n, m, _, h => by cases n <;> (unfold nb at h; cases h)
  | .exn _ _, n, m, _, h => by cases n <;> (unfold nb at h; cases h)
  | .emp, n, m, _, h => by cases n <;> (unfold nb at h; cases h)
theorem nbs_leM : ∀ (ds : List D) (n m : Nat), n ≤ m → nbs n ds = true → nbs m ds = true
  | [], _, _, _, _ => by unfold nbs; rfl
  | d :: ds, n, m, l, h => by
    unfold nbs at h ⊢
    rw [Bool.and_eq_true] at h ⊢
    exact ⟨nb_leM d n m l h.1, nbs_leM ds n m l h.2⟩
end
theorem nbs_map {α : Type} {n : Nat} {f : α → D} : ∀ {l : List α}, (∀ x ∈ l, nb n (f x) = true) → nbs n (l.map f) = true
  | [], _ => by unfold nbs; rfl
  | x :: r, h => by
    rw [List.map_cons]
    unfold nbs
    rw [h x List.mem_cons_self, nbs_map fun y hy => h y (List.mem_cons_of_mem _ hy)]
    rfl
theorem nb_int {n : Nat} {i : Int} : nb n (.int i) = true := by cases n <;> rfl
theorem nb_strO {n : Nat} {z : Str} (o : PyData.strOk z = true) : nb n (.str z) = true := by cases n <;> exact o
theorem nb_rw {r : Rw} (o : ∀ a z b c, r = .lent a z b c → PyData.strOk z = true) : nb 50 r.d = true := by
  have t : ∀ {xs : List D}, nbs 49 xs = true → nb 50 (.tup xs) = true := fun {xs} h => h
  have s : ∀ {z : Str}, PyData.strOk z = true → ∀ {xs : List D}, nbs 49 xs = true → nbs 49 (.str z :: xs) = true := fun {z} h {xs} q => by
    unfold nbs
    rw [nb_strO h, q]
    rfl
  have i : ∀ {z : Int} {xs : List D}, nbs 49 xs = true → nbs 49 (.int z :: xs) = true := fun {z xs} q => by
    unfold nbs
    rw [nb_int, q]
    rfl
  have n0 : nbs 49 [] = true := by unfold nbs; rfl
  have tt : ∀ {xs : List D}, nbs 48 xs = true → nbs 49 [.tup xs] = true := fun {xs} q => by
    unfold nbs
    rw [show nb 49 (.tup xs) = nbs 48 xs from rfl, q, n0]
    rfl
  cases r with
  | told a b c ns => exact t (s (by decide +kernel) (i (i (i (tt (nbs_map fun _ _ => nb_int))))))
  | lent a z b c => exact t (s (by decide +kernel) (i (s (o _ _ _ _ rfl) (i (i n0)))))
  | back a b => exact t (s (by decide +kernel) (i (i n0)))
  | cut a b => exact t (s (by decide +kernel) (i (i n0)))
  | join a => exact t (s (by decide +kernel) (i n0))
theorem rdE_some {r : List Str} {x : Rw} (e : rdE r = some x) : ∃ a z b c, r = [a, z, b, c] ∧ x = .lent (numV a) z (numV b) (numV c) := by
  unfold rdE at e
  split at e
  · split at e
    · split at e
      · cases e
        exact ⟨_, _, _, _, rfl, rfl⟩
      · cases e
    · cases e
  · cases e
theorem rdL_word {z : Str} {a : Int} {w : Str} {b c : Int} (e : rdL z = some (.lent a w b c)) : w ∈ Txt.split z " " := by
  unfold rdL at e
  by_cases m : (⟨#[]⟩ : Str) ∈ Txt.split z " "
  · rw [if_pos m] at e
    cases e
  rw [if_neg m] at e
  generalize Txt.split z " " = ws at e
  cases ws with
  | nil => cases e
  | cons w0 r =>
    by_cases c1 : w0 = "lent"
    · subst c1
      rw [rdW_lent] at e
      obtain ⟨a', z', b', c', rfl, ex⟩ := rdE_some e
      cases ex
      simp
    · exfalso
      have nt : ∀ r, rdT r ≠ some (.lent a w b c) := fun r e => by
        unfold rdT at e
        split at e
        · split at e <;> cases e
        · cases e
      have nb : ∀ r, rdB r ≠ some (.lent a w b c) := fun r e => by
        unfold rdB at e
        split at e
        · split at e <;> cases e
        · cases e
      have nc : ∀ r, rdC r ≠ some (.lent a w b c) := fun r e => by
        unfold rdC at e
        split at e
        · split at e <;> cases e
        · cases e
      have nj : ∀ r, rdJ r ≠ some (.lent a w b c) := fun r e => by
        unfold rdJ at e
        split at e
        · split at e <;> cases e
        · cases e
      by_cases c0 : w0 = "told"
      · subst c0
        rw [rdW_told] at e
        exact nt _ e
      by_cases c2 : w0 = "back"
      · subst c2
        rw [rdW_back] at e
        exact nb _ e
      by_cases c3 : w0 = "cut"
      · subst c3
        rw [rdW_cut] at e
        exact nc _ e
      by_cases c4 : w0 = "join"
      · subst c4
        rw [rdW_join] at e
        exact nj _ e
      rw [rdW_no c0 c1 c2 c3 c4] at e
      cases e
theorem nb_lnO {z : Str} (o : PyData.strOk z = true) : nb 50 (lnO (rdL z)) = true := by
  cases e : rdL z with
  | none => rfl
  | some r => exact nb_rw fun a w b c q => split_ok (c := 32) o w (rdL_word (by rw [e, q]))
theorem nb_prsD {n : Nat} {ps : List P2} : nb (n + 2) (prsD ps) = true := by
  show nbs (n + 1) (ps.map fun p => D.tup [.int p.1, .int p.2]) = true
  refine nbs_map fun p _ => ?_
  show nbs n [.int p.1, .int p.2] = true
  unfold nbs
  rw [nb_int]
  unfold nbs
  rw [nb_int]
  unfold nbs
  rfl
theorem nb_rdV {v : Option Hd} {zs : List Str} (o : ∀ z ∈ zs, PyData.strOk z = true) : nb 58 (rdV v (zs.map rdL)) = true := by
  have t : ∀ {z : Str}, PyData.strOk z = true → nb 58 (.str z) = true := fun h => h
  cases v with
  | none => exact t (by decide +kernel)
  | some x =>
    cases e : (zs.map rdL).all Option.isSome with
    | false => rw [rdV_l e]; exact t (by decide +kernel)
    | true =>
      by_cases w : Wk x.ps
      · by_cases b : 1 ≤ x.a ∧ 1 ≤ x.b ∧ 1 ≤ x.c ∧ x.b ≤ x.c
        · rw [rdV_t e w b, List.map_map]
          show nbs 57 [prsD x.ps, .int x.a, .int x.b, .int x.c, .tup (zs.map (lnO ∘ rdL))] = true
          have m : nbs 56 (zs.map (lnO ∘ rdL)) = true := nbs_map fun z hz => nb_leM _ _ _ (by decide) (nb_lnO (o z hz))
          have m2 : nb 57 (.tup (zs.map (lnO ∘ rdL))) = true := m
          unfold nbs
          rw [nb_prsD (n := 55)]
          unfold nbs
          rw [nb_int]
          unfold nbs
          rw [nb_int]
          unfold nbs
          rw [nb_int]
          unfold nbs
          rw [m2]
          unfold nbs
          rfl
        · rw [rdV_b e w b]; exact t (by decide +kernel)
      · rw [rdV_w e w]; exact t (by decide +kernel)
end Lw
/-! SetMi: a whole text by both readers. -/
namespace Lw
open PySem L2
theorem hr_len {ws : List Str} {v : Option Hd} {u : Hd} (h : HR ws v) (e : v = some u) : 2 * u.ps.length + 7 ≤ ws.length := by
  cases h with
  | emp => cases e
  | few => cases e
  | even => cases e
  | work => cases e
  | @it xs a b c d e' f =>
    unfold rdHw at e
    split at e
    · cases e
      simp only [List.length_cons, List.length_append, List.length_nil, prs_len, List.length_map]
      omega
    · cases e
theorem has_feed : ∀ {x y : Str} {r : List Str}, 10 ∈ sg (Str.join (chS 10) (x :: y :: r)) := fun {x y r} => by
  rw [sg_join2]
  exact List.mem_append_right _ List.mem_cons_self
theorem dropLast2 {α : Type} (x y : α) (r : List α) : (x :: y :: r).dropLast = x :: (y :: r).dropLast := rfl
theorem cutD_last {α : Type} (xs : List α) : cutD xs none (some (-1)) = xs.dropLast := by
  rcases List.eq_nil_or_concat xs with e | ⟨r, l, e⟩
  · rw [e]; rfl
  · rw [e, List.concat_eq_append, cutD_init, List.dropLast_concat]
theorem eqv_ln (o : Option Rw) : PyData.eqv (toP (lnO o)) (toP .non) = o.isNone := by
  cases o with
  | none => rfl
  | some r => cases r <;> rfl
theorem any_none : ∀ ls : List (Option Rw), ((ls.map lnO).any fun z => PyData.eqv (toP z) (toP .non)) = !ls.all Option.isSome
  | [] => rfl
  | o :: r => by
    rw [List.map_cons, List.any_cons, any_none r, eqv_ln, List.all_cons, Bool.not_and]
    cases o <;> rfl
section
variable {h : AH} {E : Str → AH → Prop} {P : D → AH → Prop}
theorem w_signL {z : Str} : Wp (signInM true (.str "\n") (.str z) h) P E ↔ P (.bl (!decide (10 ∈ sg z))) h := by
  show P (.bl (xor true (decide (10 ∈ sg z)))) h ↔ _
  rw [Bool.true_xor]
theorem w_inDN {zs : List Str} (o : ∀ z ∈ zs, PyData.strOk z = true) : Wp (inDM false .non (.lst ((zs.map rdL).map lnO)) h) P E ↔ P (.bl (!(zs.map rdL).all Option.isSome)) h := by
  have n1 : nb 51 (.lst ((zs.map rdL).map lnO)) = true := by
    rw [List.map_map]
    exact nbs_map fun z hz => nb_lnO (o z hz)
  unfold inDM
  rw [lookD_nb (n := 51) (h := h) n1, lookD_nb (n := 51) (h := h) (d := .non) rfl]
  simp only
  rw [okD_nb n1 (by decide), okD_nb (n := 51) (d := .non) rfl (by decide), if_pos (show (true && true) = true from rfl), if_neg Bool.false_ne_true, any_none]
  exact Iff.rfl
theorem lns_run {zs : List Str} (l : zs.length ≤ 1000000) (g : ∀ w ∈ zs, okRow w = true) : lcM (zs.map D.str) c_law_read_1 h = .ok (.lst ((zs.map rdL).map lnO)) h := by
  rw [List.map_map]
  refine lcM_map (f := c_law_read_1) (u := D.str) (v := lnO ∘ rdL) (zs := zs) l fun w hw => ?_
  have q : Wp (c_law_read_1 (.str w) h) (fun ys hh => ys = [lnO (rdL w)] ∧ hh = h) NoE := by
    unfold c_law_read_1
    simp only [WPS, reduceIte]
    refine lawline_w (g w hw) ?_
    try simp only [WPS, reduceIte]
    exact ⟨trivial, trivial⟩
  obtain ⟨ys, hh, e, e1, e2⟩ := q.get
  rw [e, e1, e2]
  rfl
theorem hrow {z : Str} (o : okRow z = true) (so : PyData.strOk z = true) : z.length ≤ 60000 ∧ (Txt.split z " ").length ≤ 60000 ∧ (∀ w ∈ Txt.split z " ", w.length ≤ 60000) ∧ ∀ w ∈ Txt.split z " ", PyData.strOk w = true := by
  obtain ⟨l, _, lw, ll, _⟩ := okRow.of o
  exact ⟨l, ll, lw, split_ok (c := 32) so⟩
theorem hoD_isn (v : Option Hd) : isC (hoD v) .non = v.isNone := by cases v <;> rfl
theorem lawread_w {ps : List Str} (g : Prt ps) {v : Option Hd} (hv : ∀ hd, ps.head? = some hd → HRz hd v) (k : P (rdP v ps) h) : Wp (pcallM (app1 f_law_read) [.str (Str.join (chS 10) ps)] h) P E := by
  rw [w_pcall]
  refine ⟨by rw [noRefs_cons, noRefs_nil, noRef_str]; rfl, ?_⟩
  rw [w_app1]
  unfold f_law_read b_law_read
  have ty : isiM "str" (.str (Str.join (chS 10) ps)) ([] : AH) = .ok (.bl true) [] := rfl
  have sp : Txt.split (Str.join (chS 10) ps) "\n" = ps := split_join (c := 10) g.free g.ne
  have tx : ∀ {z : Str}, P (.str z) h → noRef (.str z) = true ∧ P (.str z) h := fun z => ⟨noRef_str, z⟩
  match ps, g.ne with
  | [x], _ =>
    have no : decide (10 ∈ sg (Str.join (chS 10) [x])) = false := decide_eq_false (g.free x (List.mem_singleton.mpr rfl))
    simp only [WPS, reduceIte, Wp.rn ty, w_signL, no]
    exact tx k
  | x :: y :: r, _ =>
    have yes : decide (10 ∈ sg (Str.join (chS 10) (x :: y :: r))) = true := decide_eq_true has_feed
    have hv := hv x rfl
    have sub : ∀ z ∈ (y :: r).dropLast, z ∈ x :: y :: r := fun z hz => List.mem_cons_of_mem _ (List.dropLast_subset _ hz)
    have okb : ∀ z ∈ (y :: r).dropLast, okRow z = true ∧ PyData.strOk z = true := fun z hz => g.ok z (sub z hz)
    have lb : (y :: r).dropLast.length ≤ 1000000 := by
      have := g.many
      rw [List.length_dropLast]
      simp only [List.length_cons] at this ⊢
      omega
    obtain ⟨x1, x2⟩ := g.ok x List.mem_cons_self
    obtain ⟨h1, h2, h3, h4⟩ := hrow x1 x2
    simp only [WPS, reduceIte, Wp.rn ty, w_signL, yes, w_split (h := []) (a := Str.join (chS 10) (x :: y :: r)) (b := "\n") g.len rfl, sp, cutD_last]
    have k : P (rdV v ((y :: r).dropLast.map rdL)) h := k
    have rw0 : (List.map D.str (x :: y :: r)).dropLast = (x :: (y :: r).dropLast).map D.str := by
      rw [← List.map_dropLast, dropLast2]
    generalize (y :: r).dropLast = body at okb lb k rw0
    have i0 : ∀ {g : AH} {Q : D → AH → Prop} {F : Str → AH → Prop}, Wp (ixM (.lst ((x :: body).map D.str)) (.int 0) g) Q F ↔ Q (.str x) g := w_ixL (atI_pos (by decide) rfl)
    have s1 : cutD ((x :: body).map D.str) (some 1) none = body.map D.str := by
      rw [show (some (1 : Int)) = some ((1 : Nat) : Int) from rfl, cutD_drop]
      rfl
    rw [rw0]
    simp only [WPS, reduceIte, i0]
    refine lawhead_w rfl hv h1 h2 h3 h4 ?_
    simp only [WPS, reduceIte, s1, Wp.rn (lns_run (h := []) lb fun w hw => (okb w hw).1), hoD_isn]
    cases v with
    | none =>
      simp only [WPS, reduceIte, Option.isNone_none]
      exact tx k
    | some u =>
      simp only [WPS, reduceIte, Option.isNone_some, w_inDN (zs := body) fun z hz => (okb z hz).2]
      cases al : (body.map rdL).all Option.isSome with
      | false =>
        rw [rdV_l al] at k
        simp only [WPS, reduceIte]
        exact tx k
      | true =>
        have e0 : hoD (some u) = .tup [prsD u.ps, .tup [.int u.a, .int u.b, .int u.c]] := rfl
        simp only [WPS, reduceIte, e0, jx20, jx21]
        refine lawwork_w (fun w => ?_) fun w => ?_
        · simp only [WPS, reduceIte]
          refine lawlimits_w (fun b => ?_) fun b => ?_
          · rw [rdV_t al w b] at k
            simp only [WPS, reduceIte]
            rw [w_addT (Nat.le_of_ble_eq_true rfl), w_addT (Nat.le_of_ble_eq_true rfl)]
            refine ⟨?_, k⟩
            have m : noRefs ((body.map rdL).map lnO) = true := noRefs_map fun o => lnO_nr o
            show noRef (.tup [prsD u.ps, .int u.a, .int u.b, .int u.c, .tup ((body.map rdL).map lnO)]) = true
            rw [noRef_tup, noRefs_cons, noRefs_cons, noRefs_cons, noRefs_cons, noRefs_cons, noRefs_nil, nr_prsD, noRef_tup, m]
            rfl
          · rw [rdV_b al w b] at k
            simp only [WPS, reduceIte]
            exact tx k
        · rw [rdV_w al w] at k
          simp only [WPS, reduceIte]
          exact tx k
/-- .. by the program's -/
theorem readtext_x {ps : List Str} (g : Prt ps) {v : Option Hd} (hv : ∀ hd, ps.head? = some hd → HRz hd v) {x : Str} (k : ∀ d, rdP v ps = d → (∀ z, d ≠ .str z) → P d h) (kt : rdP v ps = .str "text" → E "NoText" h) (kw : rdP v ps = .str "work" → E "BadWork" h) (kb : rdP v ps = .str "bound" → E "BadBound" h) :
    Wp (pcallM (app1 f_read_text) [.str (Str.join (chS 10) ps)] h) P E := by
  rw [w_pcall]
  refine ⟨by rw [noRefs_cons, noRefs_nil, noRef_str]; rfl, ?_⟩
  rw [w_app1]
  unfold f_read_text b_read_text
  have sp : Txt.split (Str.join (chS 10) ps) "\n" = ps := split_join (c := 10) g.free g.ne
  have ty : isiM "str" (.str (Str.join (chS 10) ps)) ([] : AH) = .ok (.bl true) [] := rfl
  have wr : ∀ {Q : D → AH → Prop} {F : Str → AH → Prop}, (ps.dropLast = [] → F "NoText" []) → (ps.dropLast ≠ [] → Q (.lst (ps.dropLast.map D.str)) []) → Wp (pcallM (app1 f_whole_rows) [.str (Str.join (chS 10) ps)] ([] : AH)) Q F := fun {Q F} q0 q1 => by
    rw [w_pcall]
    refine ⟨by rw [noRefs_cons, noRefs_nil, noRef_str]; rfl, ?_⟩
    rw [w_app1]
    unfold f_whole_rows b_whole_rows
    simp only [WPS, reduceIte, Wp.rn ty]
    refine need_t ?_
    simp only [WPS, reduceIte, w_split (h := []) (a := Str.join (chS 10) ps) (b := "\n") g.len rfl, sp, cutD_last, ← List.map_dropLast]
    rw [w_nen (xs := ps.dropLast.map D.str) rfl]
    generalize ps.dropLast = rows at q0 q1
    refine need_w (fun e => q0 ?_) fun e => ?_
    · cases rows with
      | nil => rfl
      | cons a r => cases e
    · try simp only [WPS, reduceIte]
      refine ⟨by rw [noRef_lst]; exact noRefs_map fun _ => noRef_str, q1 fun z => ?_⟩
      rw [z] at e
      cases e
  simp only [WPS, reduceIte]
  refine wr (fun e => kt ?_) fun ne => ?_
  · match ps, g.ne, e with
    | [x], _, _ => rfl
  match ps, g.ne, ne with
  | x :: y :: r, _, _ =>
    have hv := hv x rfl
    have sub : ∀ z ∈ (y :: r).dropLast, z ∈ x :: y :: r := fun z hz => List.mem_cons_of_mem _ (List.dropLast_subset _ hz)
    have okb : ∀ z ∈ (y :: r).dropLast, okRow z = true ∧ PyData.strOk z = true := fun z hz => g.ok z (sub z hz)
    have lb : (y :: r).dropLast.length ≤ 1000 := by
      have := g.many
      rw [List.length_dropLast]
      simp only [List.length_cons] at this ⊢
      omega
    obtain ⟨x1, x2⟩ := g.ok x List.mem_cons_self
    obtain ⟨h1, h2, h3, h4⟩ := hrow x1 x2
    have er : rdP v (x :: y :: r) = rdV v ((y :: r).dropLast.map rdL) := rfl
    rw [er] at k kt kw kb
    rw [dropLast2]
    generalize (y :: r).dropLast = body at okb lb k kt kw kb
    have i0 : ∀ {g : AH} {Q : D → AH → Prop} {F : Str → AH → Prop}, Wp (ixM (.lst ((x :: body).map D.str)) (.int 0) g) Q F ↔ Q (.str x) g := w_ixL (atI_pos (by decide) rfl)
    have s1 : cutD ((x :: body).map D.str) (some 1) none = body.map D.str := by
      rw [show (some (1 : Int)) = some ((1 : Nat) : Int) from rfl, cutD_drop]
      rfl
    simp only [WPS, reduceIte, i0]
    refine headin_x rfl hv h1 h2 h3 h4 (fun e => kt (by rw [e]; rfl)) fun u eu => ?_
    subst eu
    have up : unpT (uCons some (uCons some (uCons some (uCons some uNil)))) u.d = some (prsD u.ps, .int u.a, .int u.b, .int u.c, ()) := rfl
    have run : lcxM (body.map D.str) c_read_text_1 ([] : AH) = if body.all (fun z => (rdL z).isSome) = true then .ok (.lst (body.map (lnO ∘ rdL))) [] else .exc "NoText" [] := lcx_all (by omega) fun z hz => by
      cases ez : rdL z with
      | none =>
        have q : Wp (c_read_text_1 (.str z) ([] : AH)) (fun _ _ => False) (fun x' h' => x' = "NoText" ∧ h' = []) := by
          unfold c_read_text_1
          simp only [WPS, reduceIte]
          exact linein_x (okb z hz).1 (fun _ => ⟨rfl, rfl⟩) fun d e => by rw [ez] at e; cases e
        obtain ⟨x', h', e, e1, e2⟩ := q.exc_of
        rw [e, e1, e2, Option.isSome_none, if_neg Bool.false_ne_true]
      | some d =>
        have q : Wp (c_read_text_1 (.str z) ([] : AH)) (fun ys h' => ys = [d.d] ∧ h' = []) NoE := by
          unfold c_read_text_1
          simp only [WPS, reduceIte]
          refine linein_x (okb z hz).1 (fun e => by rw [ez] at e; cases e) fun d' e => ?_
          rw [ez] at e
          cases e
          try simp only [WPS, reduceIte]
          exact ⟨trivial, trivial⟩
        obtain ⟨ys, h', e, e1, e2⟩ := q.get
        rw [e, e1, e2, Option.isSome_some, if_pos rfl]
        show Res.ok [d.d] [] = Res.ok [lnO (rdL z)] []
        rw [ez]
        rfl
    have ea : body.all (fun z => (rdL z).isSome) = (body.map rdL).all Option.isSome := by
      rw [List.all_map]
      rfl
    rw [ea] at run
    simp only [WPS, reduceIte, up, s1]
    have wk1 : pla (prsD u.ps) = true := pla_wk u.ps
    have lp : ∀ xs, prsD u.ps = .tup xs → xs.length ≤ 1000000 := fun xs e => by
      cases e
      rw [List.length_map]
      have := hr_len hv rfl
      omega
    cases al : (body.map rdL).all Option.isSome with
    | false =>
      rw [al, if_neg Bool.false_ne_true] at run
      rw [run]
      exact kt (rdV_l al)
    | true =>
      rw [al, if_pos rfl] at run
      simp only [WPS, reduceIte, Wp.rn run]
      by_cases w : Wk u.ps
      · rw [Wp.rn (check_ok (prsD u.ps) wk1 lp ⟨u.ps, rfl, w⟩ [])]
        by_cases b : 1 ≤ u.a ∧ 1 ≤ u.b ∧ 1 ≤ u.c ∧ u.b ≤ u.c
        · refine bounds_w rfl rfl rfl (fun n => absurd ⟨_, _, _, rfl, rfl, rfl, b⟩ n) fun _ _ _ _ _ _ _ _ _ _ => ?_
          have m : noRefs (body.map (lnO ∘ rdL)) = true := noRefs_map fun z => lnO_nr _
          refine ⟨?_, ?_⟩
          · show noRef (.tup [prsD u.ps, .int u.a, .int u.b, .int u.c, .tup (body.map (lnO ∘ rdL))]) = true
            rw [noRef_tup, noRefs_cons, noRefs_cons, noRefs_cons, noRefs_cons, noRefs_cons, noRefs_nil, nr_prsD, noRef_tup, m]
            rfl
          · refine k _ (by rw [rdV_t al w b, List.map_map]) fun z e => by cases e
        · refine bounds_w rfl rfl rfl (fun _ => kb (rdV_b al w b)) fun i j l e1 e2 e3 a1 a2 a3 a4 => absurd ?_ b
          cases e1
          cases e2
          cases e3
          exact ⟨a1, a2, a3, a4⟩
      · rw [check_bad (prsD u.ps) wk1 lp (fun ⟨w', e, hw⟩ => w (by rw [wk_inj (w := u.ps) (u := w') e]; exact hw)) []]
        exact kw (rdV_w al w)
end
end Lw
/-! SetMj: what comes of reading, by its word. -/
namespace Lw
open PySem L2
section
variable {h : AH} {E : Str → AH → Prop} {P : D → AH → Prop}
theorem word_text : f_law_word "NoText" ([] : AH) = .ok (.str "text") [] := by rfl
theorem word_work : f_law_word "BadWork" ([] : AH) = .ok (.str "work") [] := by rfl
theorem word_bound : f_law_word "BadBound" ([] : AH) = .ok (.str "bound") [] := by rfl
theorem found_w {ps : List Str} (g : Prt ps) {v : Option Hd} (hv : ∀ hd, ps.head? = some hd → HRz hd v) (k : P (rdP v ps) h) : Wp (pcallM (app1 f_law_found) [.str (Str.join (chS 10) ps)] h) P E := by
  rw [w_pcall]
  refine ⟨by rw [noRefs_cons, noRefs_nil, noRef_str]; rfl, ?_⟩
  rw [w_app1]
  unfold f_law_found b_law_found
  simp only [WPS, reduceIte, w_try]
  refine readtext_x (x := "") g hv (fun d e n => ?_) (fun e => ?_) (fun e => ?_) fun e => ?_
  · rw [e] at k
    refine ⟨?_, k⟩
    rw [← e]
    match ps, v with
    | [], _ => rfl
    | [_], _ => rfl
    | x :: y :: r, none => rfl
    | x :: y :: r, some u =>
      have q : rdP (some u) (x :: y :: r) = rdV (some u) ((y :: r).dropLast.map rdL) := rfl
      rw [q] at e ⊢
      cases al : ((y :: r).dropLast.map rdL).all Option.isSome with
      | false =>
        rw [rdV_l al]
        rfl
      | true =>
        by_cases w : Wk u.ps
        · by_cases b : 1 ≤ u.a ∧ 1 ≤ u.b ∧ 1 ≤ u.c ∧ u.b ≤ u.c
          · rw [rdV_t al w b]
            have m : noRefs (((y :: r).dropLast.map rdL).map lnO) = true := noRefs_map fun o => lnO_nr o
            rw [noRef_tup, noRefs_cons, noRefs_cons, noRefs_cons, noRefs_cons, noRefs_cons, noRefs_nil, nr_prsD, noRef_tup, m]
            rfl
          · rw [rdV_b al w b]
            rfl
        · rw [rdV_w al w]
          rfl
  · rw [e] at k
    refine (hK_t (c := fun z => isE z "LentError") (x := "NoText") rfl).mpr ?_
    unfold h_law_found_1
    simp only [WPS, reduceIte, Wp.rn word_text]
    exact ⟨noRef_str, k⟩
  · rw [e] at k
    refine (hK_t (c := fun z => isE z "LentError") (x := "BadWork") rfl).mpr ?_
    unfold h_law_found_1
    simp only [WPS, reduceIte, Wp.rn word_work]
    exact ⟨noRef_str, k⟩
  · rw [e] at k
    refine (hK_t (c := fun z => isE z "LentError") (x := "BadBound") rfl).mpr ?_
    unfold h_law_found_1
    simp only [WPS, reduceIte, Wp.rn word_bound]
    exact ⟨noRef_str, k⟩
/-- what is no text -/
theorem foundodd_w {d : D} (nr : noRef d = true) (ty : isiM "str" d ([] : AH) = .ok (.bl false) []) (k : P (.str "text") h) : Wp (pcallM (app1 f_law_found) [d] h) P E := by
  rw [w_pcall]
  refine ⟨by rw [noRefs_cons, noRefs_nil, nr]; rfl, ?_⟩
  rw [w_app1]
  unfold f_law_found b_law_found
  simp only [WPS, reduceIte, w_try]
  rw [w_pcall]
  refine ⟨by rw [noRefs_cons, noRefs_nil, nr]; rfl, ?_⟩
  rw [w_app1]
  unfold f_read_text b_read_text
  simp only [WPS, reduceIte]
  rw [w_pcall]
  refine ⟨by rw [noRefs_cons, noRefs_nil, nr]; rfl, ?_⟩
  rw [w_app1]
  unfold f_whole_rows b_whole_rows
  simp only [WPS, reduceIte, Wp.rn ty]
  refine need_f ?_
  refine (hK_t (c := fun z => isE z "LentError") (x := "NoText") rfl).mpr ?_
  unfold h_law_found_1
  simp only [WPS, reduceIte, Wp.rn word_text]
  exact ⟨noRef_str, k⟩
theorem beyond_w {z : Str} (o : okRow z = true) (so : PyData.strOk z = true) (k : ∀ b, P (.bl b) h) : Wp (pcallM (app1 f_law_is_beyond) [.str z] h) P E := by
  rw [w_pcall]
  refine ⟨by rw [noRefs_cons, noRefs_nil, noRef_str]; rfl, ?_⟩
  rw [w_app1]
  unfold f_law_is_beyond b_law_is_beyond
  obtain ⟨v, hv⟩ := hrz_ex z
  obtain ⟨h1, h2, h3, h4⟩ := hrow o so
  simp only [WPS, reduceIte]
  refine lawhead_w rfl hv h1 h2 h3 h4 ?_
  simp only [WPS, reduceIte, hoD_isn]
  cases v with
  | none =>
    simp only [Option.isNone_none, WPS, reduceIte]
    exact ⟨noRef_bl, k _⟩
  | some u =>
    have e0 : hoD (some u) = .tup [prsD u.ps, .tup [.int u.a, .int u.b, .int u.c]] := rfl
    have lu := hr_len hv rfl
    have run : lcM (u.ps.map pd) c_law_is_beyond_1 ([] : AH) = .ok (.lst (u.ps.map fun p => D.int (max 0 (p.2 - p.1)))) [] := lcM_map (by omega) fun p _ => by
      have q : Wp (c_law_is_beyond_1 (pd p) ([] : AH)) (fun ys h' => ys = [D.int (max 0 (p.2 - p.1))] ∧ h' = []) NoE := by
        unfold c_law_is_beyond_1
        have up : unpT (uCons some (uCons some uNil)) (pd p) = some (D.int p.1, D.int p.2, ()) := rfl
        simp only [up, WPS, reduceIte]
        exact ⟨trivial, trivial⟩
      obtain ⟨ys, hh, e, e1, e2⟩ := q.get
      rw [e, e1, e2]
    have it : ∀ {g : AH} {Q : List D → AH → Prop} {F : Str → AH → Prop}, Wp (itemsM (prsD u.ps) g) Q F ↔ Q (u.ps.map pd) g := Iff.rfl
    have em : (u.ps.map fun p => D.int (max 0 (p.2 - p.1))) = (u.ps.map fun p => max 0 (p.2 - p.1)).map D.int := by rw [List.map_map]; rfl
    rw [em] at run
    simp only [Option.isNone_some, WPS, reduceIte, e0, jx20, it, Wp.rn run, w_sum]
    exact ⟨noRef_bl, k _⟩
end
end Lw
/-! SetLt: lines and heads as they are drawn and written. -/
namespace Lw
open PySem L2
section
variable {h : AH} {n m : Nat} {E : Str → AH → Prop} {P : D → AH → Prop}
/-! ### what is drawn -/
theorem far_w (w : Well h n (m + 10)) (p : ∀ r h', gn r → Well h' n m → Fr n h h' → P (.int r) h') : Wp (f_law_far (.ref n) h) P E := by
  have p9 : (0 : Int) ≤ 9 ∧ (9 : Int) ≤ 1000000 ∧ (10 : Int).natAbs < 2 ^ 64 := by decide
  have p18 : (0 : Int) ≤ 18 ∧ (18 : Int) ≤ 1000000 ∧ (10 : Int).natAbs < 2 ^ 64 := by decide
  have e9 : (10 : Int) ^ (9 : Int).toNat = 1000000000 := rfl
  have e18 : (10 : Int) ^ (18 : Int).toNat = 1000000000000000000 := rfl
  unfold f_law_far b_law_far
  simp only [WPS, reduceIte, w_pow p9, e9]
  refine draw_w (m := m + 9) w (by decide) (by decide) fun r1 h1 a1 b1 w1 f1 => ?_
  try simp only [WPS, reduceIte, w_pow p9, e9, w_mul (mulOk (small (i := r1) (by omega) (by omega)) (small (i := 1000000000) (by decide) (by decide)))]
  refine draw_w (m := m + 8) w1 (by decide) (by decide) fun r2 h2 a2 b2 w2 f2 => ?_
  try simp only [WPS, reduceIte]
  refine draw_w (m := m + 7) w2 (by decide) (by decide) fun r3 h3 a3 b3 w3 f3 => ?_
  try simp only [WPS, reduceIte]
  refine draw_w (m := m + 6) w3 (by decide) (by decide) fun r4 h4 a4 b4 w4 f4 => ?_
  try simp only [WPS, reduceIte, w_pow p18, e18, w_lst (show ([_, _, _, _, _, _] : List D).length ≤ 1000000 from Nat.le_of_ble_eq_true rfl)]
  refine draw_w (m := m + 5) w4 (by decide) (by decide) fun r5 h5 a5 b5 w5 f5 => ?_
  refine w_pick a5 (by simpa using b5) fun x hx => ?_
  have fr := (((f1.trans f2).trans f3).trans f4).trans f5
  simp only [List.mem_cons, List.not_mem_nil, or_false] at hx
  have w6 := w5.less (m' := m) (by omega)
  rcases hx with rfl | rfl | rfl | rfl | rfl | rfl
  all_goals exact p _ h5 (by unfold gn; omega) w6 fr
theorem append_keep {h : AH} {c : Cell} {n m : Nat} (w : Well h n m) : Well (h ++ [c]) n m := by
  obtain ⟨x, y, z, e, q⟩ := w.ex
  exact ⟨x, y, z, by rw [List.getElem?_append_left (getElem?_lt e)]; exact e, q⟩
/-- a drawn work -/
theorem work_w (w : Well h n (m + 100)) (p : ∀ ps h', ps.length ≤ 6 → (∀ q ∈ ps, gn q.1 ∧ gn q.2) → Wk ps → Well h' n m → P (prsD ps) h') : Wp (f_law_free_work (.ref n) h) P E := by
  unfold f_law_free_work b_law_free_work
  have p6 : (0 : Int) ≤ 6 ∧ (6 : Int) ≤ 1000000 ∧ (10 : Int).natAbs < 2 ^ 64 := by decide
  have p17 : (0 : Int) ≤ 17 ∧ (17 : Int) ≤ 1000000 ∧ (10 : Int).natAbs < 2 ^ 64 := by decide
  have p9 : (0 : Int) ≤ 9 ∧ (9 : Int) ≤ 1000000 ∧ (10 : Int).natAbs < 2 ^ 64 := by decide
  have e6 : (10 : Int) ^ (6 : Int).toNat = 1000000 := rfl
  have e9 : (10 : Int) ^ (9 : Int).toNat = 1000000000 := rfl
  have e17 : (10 : Int) ^ (17 : Int).toNat = 100000000000000000 := rfl
  simp only [WPS, reduceIte, w_pow p6, w_pow p17, e6, e17]
  refine draw_w (m := m + 99) w (by decide) (by decide) fun r1 h1 a1 b1 w1 f1 => ?_
  try simp only [WPS, reduceIte, w_pow p17, e17]
  refine draw_w (m := m + 98) w1 (by decide) (by decide) fun r2 h2 a2 b2 w2 f2 => ?_
  try simp only [WPS, reduceIte, w_pow p17, e17]
  refine draw_w (m := m + 97) w2 (by decide) (by decide) fun r3 h3 a3 b3 w3 f3 => ?_
  try simp only [WPS, reduceIte, w_lst (show ([_, _, _] : List D).length ≤ 1000000 from Nat.le_of_ble_eq_true rfl)]
  refine draw_w (m := m + 96) w3 (by decide) (by decide) fun r4 h4 a4 b4 w4 f4 => ?_
  have key : ∀ at0 : Int, -200000000000000000 < at0 → at0 < 200000000000000000 → Wp ((lstH [] h4)) (fun found128 h5 => Wp (f_law_draw (.ref n) (.int 7) h5) (fun x134 h6 => Wp (rng1M [x134] h6) (fun xs135 h7 => Wp ((forM xs135 (D.int at0 : D) (l_law_free_work_1 (.ref n) found128) : M (Out D Empty)) h7) (oK (fun s131 => (freezeM found128 >>= fun found178 => (((pure found178) >>= fun x179 => tupleM x179) >>= fun d180 => (pure (Out.ret d180) : M (Out (Unit) (Empty)))))) (dK P) E) E) E) E) E := by
    intro at0 l0 l1
    rw [lstH_nil, w_ok]
    have hn4 : n < h4.length := by obtain ⟨_, _, _, e, _⟩ := w4.ex; exact getElem?_lt e
    have w5 : Well (h4 ++ [.lst []]) n (m + 96) := append_keep w4
    have q5 : (h4 ++ [Cell.lst []])[h4.length]? = some (.lst []) := by simp
    generalize h4 ++ [Cell.lst []] = h5 at w5 q5
    refine draw_w (m := m + 95) w5 (by decide) (by decide) fun r6 h6 a6 b6 w6 f6 => ?_
    rw [w_rng1 (by omega) (by omega)]
    have q6 := (f6.2 h4.length (by omega)).trans q5
    refine w_for (fun k t hh => k ≤ 7 ∧ ∃ (at1 : Int) (ps : List (Int × Int)), t = .int at1 ∧ -300000000000000000 < at1 ∧ at1 < 200000000000000000 + k * 2000000000 ∧ ps.length = k ∧ (∀ q ∈ ps, gn q.1 ∧ gn q.2) ∧ (Wk ps ∧ ∀ q ∈ ps, q.2 ≤ at1) ∧ Well hh n (m + 95 - 10 * k) ∧ hh[h4.length]? = some (.lst (ps.map fun p => D.tup [.int p.1, .int p.2])))
      ⟨by decide, at0, [], rfl, by omega, by omega, rfl, (fun _ h => nomatch h), ⟨Wk.nil, fun _ h => nomatch h⟩, w6, q6⟩ (fun k x t hh hx i => ?_) fun t hh i => ?_
    · obtain ⟨hk7, at1, ps, rfl, g0, g1, gl, gp, gk, gw, gq⟩ := i
      have hk : k < r6.toNat := by
        have := getElem?_lt hx
        simpa [rangeD] using this
      have hk6 : k < 6 := by omega
      unfold l_law_free_work_1
      simp only [WPS, reduceIte]
      refine draw_w (m := m + 95 - 10 * k - 1) (gw.less (by omega)) (by decide) (by decide) fun s1 g1h c1 d1 v1 t1 => ?_
      try simp only [WPS, reduceIte, w_pow p9, e9]
      refine draw_w (m := m + 95 - 10 * k - 2) (v1.less (by omega)) (by decide) (by decide) fun s2 g2h c2 d2 v2 t2 => ?_
      try simp only [WPS, reduceIte, w_lst (show ([_, _, _] : List D).length ≤ 1000000 from Nat.le_of_ble_eq_true rfl)]
      refine draw_w (m := m + 95 - 10 * k - 3) (v2.less (by omega)) (by decide) (by decide) fun s3 g3h c3 d3 v3 t3 => ?_
      have pick1 : ∀ y ∈ [D.int 0, .int s1, .int s2], ∃ u : Int, y = .int u ∧ 0 ≤ u ∧ u < 1000000000 := by
        intro y hy
        simp only [List.mem_cons, List.not_mem_nil, or_false] at hy
        rcases hy with rfl | rfl | rfl
        · exact ⟨_, rfl, by decide, by decide⟩
        · exact ⟨_, rfl, by omega, by omega⟩
        · exact ⟨_, rfl, by omega, by omega⟩
      refine w_pick c3 (by simpa using d3) fun y hy => ?_
      obtain ⟨u, rfl, u0, u1⟩ := pick1 y hy
      try simp only [WPS, reduceIte]
      refine draw_w (m := m + 95 - 10 * k - 4) (v3.less (by omega)) (by decide) (by decide) fun s4 g4h c4 d4 v4 t4 => ?_
      try simp only [WPS, reduceIte]
      refine draw_w (m := m + 95 - 10 * k - 5) (v4.less (by omega)) (by decide) (by decide) fun s5 g5h c5 d5 v5 t5 => ?_
      try simp only [WPS, reduceIte, w_lst (show ([_, _] : List D).length ≤ 1000000 from Nat.le_of_ble_eq_true rfl)]
      refine draw_w (m := m + 95 - 10 * k - 6) (v5.less (by omega)) (by decide) (by decide) fun s6 g6h c6 d6 v6 t6 => ?_
      have pick2 : ∀ y ∈ [D.int s4, .int s5], ∃ u : Int, y = .int u ∧ 0 ≤ u ∧ u < 1000 := by
        intro y hy
        simp only [List.mem_cons, List.not_mem_nil, or_false] at hy
        rcases hy with rfl | rfl
        · exact ⟨_, rfl, by omega, by omega⟩
        · exact ⟨_, rfl, by omega, by omega⟩
      refine w_pick c6 (by simpa using d6) fun y hy => ?_
      obtain ⟨u2, rfl, u3, u4⟩ := pick2 y hy
      have fr := ((((t1.trans t2).trans t3).trans t4).trans t5).trans t6
      have q := (fr.2 h4.length (by omega)).trans gq
      have lq := getElem?_lt q
      try simp only [WPS, reduceIte, w_lchk q, w_tup (show ([D.int (at1 + u), .int (at1 + u + 1 + u2)] : List D).length ≤ 1000000 from Nat.le_of_ble_eq_true rfl), w_append q (show (ps.map fun p => D.tup [.int p.1, .int p.2]).length < 1000000 by rw [List.length_map]; omega)]
      refine ⟨by omega, at1 + u + 1 + u2, ps ++ [(at1 + u, at1 + u + 1 + u2)], rfl, by omega, by omega, by simp [gl], fun z hz => ?_, ⟨⟨List.pairwise_append.mpr ⟨gk.1.1, List.pairwise_singleton _ _, fun y hy z hz => by
        rw [List.mem_singleton.mp hz]
        have := gk.2 y hy
        show y.2 ≤ at1 + u
        omega⟩, fun z hz => by
        rcases List.mem_append.mp hz with hz | hz
        · exact gk.1.2 z hz
        · rw [List.mem_singleton.mp hz]
          show at1 + u < at1 + u + 1 + u2
          omega⟩, fun z hz => by
        rcases List.mem_append.mp hz with hz | hz
        · have := gk.2 z hz
          omega
        · rw [List.mem_singleton.mp hz]
          exact Int.le_refl _⟩, ?_, by rw [List.getElem?_set_self lq, List.map_append]; rfl⟩
      · rcases List.mem_append.mp hz with hz | hz
        · exact gp z hz
        · simp only [List.mem_cons, List.not_mem_nil, or_false] at hz
          subst hz
          unfold gn
          constructor <;> constructor <;> simp only <;> omega
      · obtain ⟨x1, x2, x3, x4, x5⟩ := (v6.less (m' := m + 95 - 10 * (k + 1)) (by omega)).ex
        exact ⟨x1, x2, x3, by rw [List.getElem?_set_ne (by omega)]; exact x4, x5⟩
    · obtain ⟨hk7, at1, ps, rfl, g0, g1, gl, gp, gk, gw, gq⟩ := i
      have hl : (rangeD 0 r6.toNat).length = r6.toNat := by simp [rangeD]
      rw [hl] at gl
      rw [oK_nx]
      simp only [WPS, reduceIte, w_freeze gq]
      refine p ps _ (by omega) gp gk.1 ?_
      obtain ⟨x1, x2, x3, x4, x5⟩ := (gw.less (m' := m) (by omega)).ex
      exact ⟨x1, x2, x3, by rw [List.getElem?_set_ne (by omega)]; exact x4, x5⟩
  refine w_pick a4 (by simpa using b4) fun x hx => ?_
  simp only [List.mem_cons, List.not_mem_nil, or_false] at hx
  rcases hx with rfl | rfl | rfl
  · exact key _ (by omega) (by omega)
  · exact key _ (by omega) (by omega)
  · exact key _ (by omega) (by omega)
theorem limits_w (w : Well h n (m + 10)) (p : ∀ a b c h', 1 ≤ a → a < 10 ^ 18 → 1 ≤ b → b ≤ c → c < 10 ^ 18 → Well h' n m → P (.tup [.int a, .int b, .int c]) h') : Wp (f_law_free_limits (.ref n) h) P E := by
  have p17 : (0 : Int) ≤ 17 ∧ (17 : Int) ≤ 1000000 ∧ (10 : Int).natAbs < 2 ^ 64 := by decide
  have p9 : (0 : Int) ≤ 9 ∧ (9 : Int) ≤ 1000000 ∧ (10 : Int).natAbs < 2 ^ 64 := by decide
  have e9 : (10 : Int) ^ (9 : Int).toNat = 1000000000 := rfl
  have e17 : (10 : Int) ^ (17 : Int).toNat = 100000000000000000 := rfl
  have two : ∀ {r s b c : Int}, 0 ≤ r → r < b → 0 ≤ s → s < c → b ≤ 100000000000000000 → c ≤ 100000000000000000 → ∀ y ∈ [D.int r, .int s], ∃ u : Int, y = .int u ∧ 0 ≤ u ∧ u < 100000000000000000 := by
    intro r s b c h1 h2 h3 h4 h5 h6 y hy
    simp only [List.mem_cons, List.not_mem_nil, or_false] at hy
    rcases hy with rfl | rfl
    · exact ⟨_, rfl, h1, by omega⟩
    · exact ⟨_, rfl, h3, by omega⟩
  unfold f_law_free_limits b_law_free_limits
  simp only [WPS, reduceIte]
  refine draw_w (m := m + 9) w (by decide) (by decide) fun r1 h1 a1 b1 w1 f1 => ?_
  try simp only [WPS, reduceIte, w_pow p17, e17]
  refine draw_w (m := m + 8) w1 (by decide) (by decide) fun r2 h2 a2 b2 w2 f2 => ?_
  try simp only [WPS, reduceIte, w_lst (show ([_, _] : List D).length ≤ 1000000 from Nat.le_of_ble_eq_true rfl)]
  refine draw_w (m := m + 7) w2 (by decide) (by decide) fun r3 h3 a3 b3 w3 f3 => ?_
  refine w_pick a3 (by simpa using b3) fun x hx => ?_
  obtain ⟨u, rfl, u0, u1⟩ := two a1 b1 a2 b2 (by decide) (by decide) x hx
  try simp only [WPS, reduceIte]
  refine draw_w (m := m + 6) w3 (by decide) (by decide) fun r4 h4 a4 b4 w4 f4 => ?_
  try simp only [WPS, reduceIte, w_pow p17, e17]
  refine draw_w (m := m + 5) w4 (by decide) (by decide) fun r5 h5 a5 b5 w5 f5 => ?_
  try simp only [WPS, reduceIte, w_lst (show ([_, _] : List D).length ≤ 1000000 from Nat.le_of_ble_eq_true rfl)]
  refine draw_w (m := m + 4) w5 (by decide) (by decide) fun r6 h6 a6 b6 w6 f6 => ?_
  refine w_pick a6 (by simpa using b6) fun x hx => ?_
  obtain ⟨v, rfl, v0, v1⟩ := two a4 b4 a5 b5 (by decide) (by decide) x hx
  try simp only [WPS, reduceIte]
  refine draw_w (m := m + 3) w6 (by decide) (by decide) fun r7 h7 a7 b7 w7 f7 => ?_
  try simp only [WPS, reduceIte, w_pow p9, e9]
  refine draw_w (m := m + 2) w7 (by decide) (by decide) fun r8 h8 a8 b8 w8 f8 => ?_
  try simp only [WPS, reduceIte, w_lst (show ([_, _, _] : List D).length ≤ 1000000 from Nat.le_of_ble_eq_true rfl)]
  refine draw_w (m := m + 1) w8 (by decide) (by decide) fun r9 h9 a9 b9 w9 f9 => ?_
  have three : ∀ y ∈ [D.int 0, .int r7, .int r8], ∃ u : Int, y = .int u ∧ 0 ≤ u ∧ u < 100000000000000000 := by
    intro y hy
    simp only [List.mem_cons, List.not_mem_nil, or_false] at hy
    rcases hy with rfl | rfl | rfl
    · exact ⟨_, rfl, by decide, by decide⟩
    · exact ⟨_, rfl, by omega, by omega⟩
    · exact ⟨_, rfl, by omega, by omega⟩
  refine w_pick a9 (by simpa using b9) fun x hx => ?_
  obtain ⟨t, rfl, t0, t1⟩ := three x hx
  try simp only [WPS, reduceIte, w_tup (show ([_, _, _] : List D).length ≤ 1000000 from Nat.le_of_ble_eq_true rfl)]
  exact p _ _ _ _ (by omega) (by omega) (by omega) (by omega) (by omega) (w9.less (by omega))
/-- a sign of a text by its place -/
theorem w_sign {z : Str} {i : Int} (h0 : 0 ≤ i) (h1 : i < z.length) (hz : z.length ≤ 1000000) (p : ∀ c ∈ z.cps.toList, P (.str ⟨#[c]⟩) h) : Wp (ixM (.str z) (.int i) h) P E := by
  obtain ⟨c, e, hc⟩ := atI_in (xs := z.cps.toList) h0 (by simpa [Str.length] using h1)
  unfold ixM
  simp only
  rw [if_pos (show lenOk z.length = true from decide_eq_true (Nat.le_trans hz (by decide))), e]
  exact p c hc
theorem word_w (w : Well h n (m + 20)) (p : ∀ z h', Word z → Well h' n m → Fr n h h' → P (.str z) h') : Wp (f_law_any_word (.ref n) h) P E := by
  unfold f_law_any_word b_law_any_word
  simp only [WPS, reduceIte]
  refine draw_w (m := m + 19) w (by decide) (by decide) fun r1 h1 a1 b1 w1 f1 => ?_
  try simp only [WPS, reduceIte]
  rw [w_rng1 (by omega) (by omega)]
  have hl : (rangeD 0 (1 + r1).toNat).length = (1 + r1).toNat := by simp [rangeD]
  refine w_lc (fun k acc hh => k ≤ 12 ∧ Fr n h hh ∧ Well hh n (m + 19 - k) ∧ ∃ ys : List Str, acc = ys.map D.str ∧ ys.length = k ∧ ∀ y ∈ ys, y.length = 1 ∧ ∀ c ∈ y.cps.toList, wsign c = true) (by omega) ⟨by decide, f1, w1, [], rfl, rfl, fun _ h => nomatch h⟩ (fun k x acc hh hx i => ?_) fun ys hh i => ?_
  · obtain ⟨k12, F, v, ys, rfl, yl, yy⟩ := i
    have hk := getElem?_lt hx
    rw [hl] at hk
    unfold c_law_any_word_1
    simp only [WPS, reduceIte]
    refine draw_w (m := m + 19 - k - 1) (v.less (by omega)) (by decide) (by decide) fun s g c d v1 t => ?_
    refine w_sign c (by exact d) (by decide) fun ch hch => ?_
    try simp only [WPS, reduceIte]
    refine ⟨by omega, F.trans t, v1.less (by omega), ys ++ [⟨#[ch]⟩], by rw [List.map_append]; rfl, by simp [yl], fun y hy => ?_⟩
    rcases List.mem_append.mp hy with hy | hy
    · exact yy y hy
    · rw [List.mem_singleton.mp hy]
      exact ⟨rfl, fun c hc => by rw [List.mem_singleton.mp hc]; exact signs_ok ch hch⟩
  · obtain ⟨k12, F, v, ys, rfl, yl, yy⟩ := i
    rw [hl] at yl
    refine (joinS_w (by omega) (fun y hy => by rw [(yy y hy).1]; decide) (show (("" : Str)).length ≤ 1 from Nat.zero_le _)).mpr ?_
    try simp only [WPS, reduceIte]
    exact p _ _ (word_of (by omega) (by omega) yy) (v.less (by omega)) F
theorem line_w (w : Well h n (m + 1000)) (p : ∀ d h', LnR d → Well h' n m → Fr n h h' → P d h') : Wp (f_law_free_line (.ref n) h) P E := by
  have F : Fr n h h := Fr.refl
  unfold f_law_free_line b_law_free_line
  simp only [WPS, reduceIte]
  refine draw_w (m := m + 999) w (by decide) (by decide) fun r1 h1 a1 b1 w1 f1 => ?_
  have F := F.trans f1
  try simp only [WPS, reduceIte]
  refine far_w (m := m + 989) w1 fun x1 h2 g1 w2 ff => ?_
  have F := F.trans ff
  try simp only [WPS, reduceIte]
  refine far_w (m := m + 979) w2 fun x2 h3 g2 w3 ff => ?_
  have F := F.trans ff
  try simp only [WPS, reduceIte]
  by_cases q0 : r1 = 0
  · simp only [WPS, reduceIte, q0]
    try rw [w_lst (Nat.le_of_ble_eq_true rfl)]
    refine draw_w (m := m + 978) w3 (by decide) (by decide) fun r4 h4 a4 b4 w4 f4 => ?_
    have F := F.trans f4
    refine w_pick a4 (by simpa using b4) fun od hod => ?_
    have god : ∃ z : Str, od = .str z ∧ Word z := by
      simp only [List.mem_cons, List.not_mem_nil, or_false] at hod
      rcases hod with rfl | rfl
      · exact ⟨_, rfl, ⟨by decide, by decide, by decide⟩⟩
      · exact ⟨_, rfl, ⟨by decide, by decide, by decide⟩⟩
    try simp only [WPS, reduceIte]
    refine word_w (m := m + 958) w4 fun z1 h5 l1 w5 ff => ?_
    have F := F.trans ff
    try simp only [WPS, reduceIte]
    refine word_w (m := m + 938) w5 fun z2 h6 l2 w6 ff => ?_
    have F := F.trans ff
    try simp only [WPS, reduceIte]
    try rw [w_lst (Nat.le_of_ble_eq_true rfl)]
    refine draw_w (m := m + 937) w6 (by decide) (by decide) fun r7 h7 a7 b7 w7 f7 => ?_
    have F := F.trans f7
    refine w_pick a7 (by simpa using b7) fun wo hwo => ?_
    have gwo : ∃ z : Str, wo = .str z ∧ Word z := by
      simp only [List.mem_cons, List.not_mem_nil, or_false] at hwo
      rcases hwo with rfl | rfl | rfl | rfl
      · exact ⟨_, rfl, l1⟩
      · exact ⟨_, rfl, l2⟩
      · exact ⟨_, rfl, ⟨by decide, by decide, by decide⟩⟩
      · exact god
    obtain ⟨z, rfl, lz⟩ := gwo
    try simp only [WPS, reduceIte]
    refine far_w (m := m + 927) w7 fun x3 h8 g3 w8 ff => ?_
    have F := F.trans ff
    try simp only [WPS, reduceIte]
    try rw [w_tup (Nat.le_of_ble_eq_true rfl)]
    try simp only [WPS, reduceIte]
    exact p _ _ (.lent g1 lz g2 g3) (w8.less (by omega)) F
  · by_cases q3 : r1 < 3
    · simp only [WPS, reduceIte, q0, q3]
      refine draw_w (m := m + 978) w3 (by decide) (by decide) fun r4 h4 a4 b4 w4 f4 => ?_
      have F := F.trans f4
      try simp only [WPS, reduceIte]
      refine draw_w (m := m + 977) w4 (by decide) (by decide) fun r5 h5 a5 b5 w5 f5 => ?_
      have F := F.trans f5
      try simp only [WPS, reduceIte]
      try rw [w_lst (Nat.le_of_ble_eq_true rfl)]
      refine draw_w (m := m + 976) w5 (by decide) (by decide) fun r6 h6 a6 b6 w6 f6 => ?_
      have F := F.trans f6
      refine w_pick a6 (by simpa using b6) fun mn hmn => ?_
      have gmn : ∃ u : Int, mn = .int u ∧ 0 ≤ u ∧ u < 41 := by
        simp only [List.mem_cons, List.not_mem_nil, or_false] at hmn
        rcases hmn with rfl | rfl | rfl
        · exact ⟨_, rfl, by decide, by decide⟩
        · exact ⟨_, rfl, by omega, by omega⟩
        · exact ⟨_, rfl, by omega, by omega⟩
      obtain ⟨u, rfl, u0, u1⟩ := gmn
      try simp only [WPS, reduceIte]
      refine far_w (m := m + 966) w6 fun x3 h7 g3 w7 ff => ?_
      have F := F.trans ff
      try simp only [WPS, reduceIte]
      rw [w_rng1 (by omega) (by omega)]
      have hl : (rangeD 0 u.toNat).length = u.toNat := by simp [rangeD]
      refine w_lc (fun k acc hh => k ≤ 41 ∧ Fr n h hh ∧ Well hh n (m + 966 - 20 * k) ∧ ∃ ns : List Int, acc = ns.map D.int ∧ ns.length = k ∧ ∀ y ∈ ns, gn y) (by omega) ⟨by decide, F, w7, [], rfl, rfl, fun _ h => nomatch h⟩ (fun k x acc hh hx i => ?_) fun ys hh i => ?_
      · obtain ⟨k12, F, v, ns, rfl, yl, yy⟩ := i
        have hk := getElem?_lt hx
        rw [hl] at hk
        unfold c_law_free_line_1
        simp only [WPS, reduceIte]
        refine far_w (m := m + 966 - 20 * k - 10) (v.less (by omega)) fun s g c d v1 => ?_
        have F := F.trans v1
        try simp only [WPS, reduceIte]
        refine ⟨by omega, F, d.less (by omega), ns ++ [s], by rw [List.map_append]; rfl, by simp [yl], fun y hy => ?_⟩
        rcases List.mem_append.mp hy with hy | hy
        · exact yy y hy
        · rw [List.mem_singleton.mp hy]
          exact c
      · obtain ⟨k12, F, v, ns, rfl, yl, yy⟩ := i
        rw [hl] at yl
        try simp only [WPS, reduceIte]
        try rw [w_tup (Nat.le_of_ble_eq_true rfl)]
        try simp only [WPS, reduceIte]
        exact p _ _ (.told g1 g2 g3 (by omega) yy) (v.less (by omega)) F
    · by_cases q4 : r1 = 3
      · simp only [WPS, reduceIte, q0, q3, q4]
        try simp only [WPS, reduceIte, show ¬ ((3 : Int) < 3) by decide, show ¬ ((3 : Int) = 0) by decide]
        try rw [w_tup (Nat.le_of_ble_eq_true rfl)]
        try simp only [WPS, reduceIte]
        exact p _ _ (.back g1 g2) (w3.less (by omega)) F
      · by_cases q5 : r1 = 4
        · simp only [WPS, reduceIte, q0, q3, q4, q5]
          try simp only [WPS, reduceIte, show ¬ ((4 : Int) < 3) by decide, show ¬ ((4 : Int) = 0) by decide, show ¬ ((4 : Int) = 3) by decide]
          try rw [w_tup (Nat.le_of_ble_eq_true rfl)]
          try simp only [WPS, reduceIte]
          exact p _ _ (.cut g1 g2) (w3.less (by omega)) F
        · simp only [WPS, reduceIte, q0, q3, q4, q5]
          try rw [w_tup (Nat.le_of_ble_eq_true rfl)]
          try simp only [WPS, reduceIte]
          exact p _ _ (.join g1) (w3.less (by omega)) F
end
end Lw
/-! SetMk: heads and lines put together by a law, without defs for rows. -/
namespace Lw
open PySem L2
section
variable {h : AH} {n m : Nat} {E : Str → AH → Prop} {P : D → AH → Prop}
theorem row_bnd {ds : List D} (hw : ∀ d ∈ ds, Wd d) (l : ds.length ≤ 200) : (Txt.join " " (ds.map wrt)).length + (("\n" : Str)).length ≤ 1000000 := by
  have a := joinLen " " (ds.map wrt)
  have b := sum22 (ys := ds.map wrt) fun y hy => by
    obtain ⟨d, hd, rfl⟩ := List.mem_map.mp hy
    exact wrt_len (hw d hd)
  have c : ((" " : Str)).length = 1 := rfl
  have d : (("\n" : Str)).length = 1 := rfl
  rw [c] at a
  rw [d]
  rw [List.length_map] at a b
  omega
theorem rowtext_w {c : D → M (List D)} {ds : List D} (hc : ∀ d, Wd d → c d h = .ok [D.str (wrt d)] h) (hw : ∀ d ∈ ds, Wd d) (l : ds.length ≤ 200) (p : P (.str (rowS ds)) h) :
    Wp (lcM ds c h) (fun a h' => Wp (joinM (.str " ") a h') (fun a h' => Wp (addM a (.str "\n") h') P E) E) E := by
  refine w_lc_map (fun d => [D.str (wrt d)]) (by omega) (fun d hd => hc d (hw d hd)) ?_
  rw [flat_one (fun d => D.str (wrt d)), show ds.map (fun d => D.str (wrt d)) = (ds.map wrt).map D.str by rw [List.map_map]; rfl]
  refine (joinS_w (by rw [List.length_map]; omega) (fun y hy => ?_) (show ((" " : Str)).length ≤ 1 from Nat.le_refl _)).mpr ?_
  · obtain ⟨d, hd, rfl⟩ := List.mem_map.mp hy
    exact wrt_len (hw d hd)
  · rw [w_addS (row_bnd hw l)]
    exact p
theorem headcell {d : D} (w : Wd d) : c_law_head_1 d h = .ok [D.str (wrt d)] h := by
  have e := str_run (h := h) w
  unfold c_law_head_1
  simp only [r_bind, r_pure, r_ok, r_lift, e, if_true]
theorem linecell {d : D} (w : Wd d) : c_law_line_text_1 d h = .ok [D.str (wrt d)] h := by
  have e := str_run (h := h) w
  unfold c_law_line_text_1
  simp only [r_bind, r_pure, r_ok, r_lift, e, if_true]
theorem headN_len {ps : List (Int × Int)} {a b c : Int} (l : ps.length ≤ 20) : (headD ps a b c).length ≤ 200 := by
  unfold headD
  have := flat_len ps
  rw [List.length_append, List.length_cons, this]
  simp only [List.length_cons, List.length_nil]
  omega
theorem lawheadtext_w {ps : List (Int × Int)} {a b c : Int} (l : ps.length ≤ 20) (hp : ∀ p ∈ ps, gd p.1 ∧ gd p.2) (ha : gd a) (hb : gd b) (hc : gd c) (p : P (.str (rowS (headD ps a b c))) h) : Wp (f_law_head (prsD ps) (.tup [.int a, .int b, .int c]) h) P E := by
  unfold f_law_head b_law_head
  simp only [WPS, reduceIte, prsD]
  refine w_for (fun k t h' => h' = h ∧ t = .lst (.str "work" :: ((ps.take k).map fun p => [D.int p.1, .int p.2]).flatten)) ⟨rfl, rfl⟩ (fun k x t h' hx i => ?_) fun t h' i => ?_
  · obtain ⟨rfl, rfl⟩ := i
    rw [List.getElem?_map] at hx
    cases hk : ps[k]? with
    | none => rw [hk] at hx; cases hx
    | some q =>
      rw [hk] at hx
      cases hx
      have hkl := getElem?_lt hk
      unfold l_law_head_2
      simp only [WPS, reduceIte, unpT, items?, uCons, uNil]
      have e := flat_len (ps.take k)
      rw [w_addL (by simp only [List.length_cons, List.length_nil, e, List.length_take]; omega)]
      refine ⟨rfl, ?_⟩
      rw [take_succ_get hk, List.map_append, List.flatten_append]
      rfl
  · obtain ⟨rfl, rfl⟩ := i
    rw [List.length_map, List.take_length]
    simp only [WPS, reduceIte, w_ixT (show atI [D.int a, .int b, .int c] 0 = some (.int a) from rfl), w_ixT (show atI [D.int a, .int b, .int c] 1 = some (.int b) from rfl), w_ixT (show atI [D.int a, .int b, .int c] 2 = some (.int c) from rfl)]
    have e := flat_len ps
    rw [w_addL (by simp only [List.length_cons, List.length_nil, e]; omega)]
    simp only [WPS, reduceIte]
    exact rowtext_w (fun d w => headcell w) (head_wd hp ha hb hc) (headN_len l) p
theorem lawlinetext_w {d : D} (l : Ln d) (p : P (.str (rowS (lnP d))) h) : Wp (f_law_line_text d h) P E := by
  unfold f_law_line_text b_law_line_text
  rcases l with ⟨x, ds, rfl, nx, lx, hw, hl⟩ | ⟨a, b, c, ns, rfl, ga, gb, gc, nl, gn⟩
  · have wd : ∀ y ∈ (D.str x :: ds), Wd y := fun y hy => by
      rcases List.mem_cons.mp hy with rfl | hy
      · exact .inr ⟨_, rfl, lx⟩
      · exact hw y hy
    have e : lnP (.tup (.str x :: ds)) = .str x :: ds := by
      unfold lnP
      split
      · rename_i heq
        cases heq
        exact absurd rfl nx
      · rename_i heq
        cases heq
        rfl
      · rename_i z1 z2
        exact absurd rfl (z2 _)
    rw [e] at p
    simp only [WPS, reduceIte, w_ixT (show atI (D.str x :: ds) 0 = some (.str x) from atI_pos (by decide) rfl), nx, ne_str nx]
    exact rowtext_w (fun d w => linecell w) wd (by simp only [List.length_cons]; omega) p
  · have wd : ∀ y ∈ ([D.str "told", .int a, .int b, .int c] ++ ns.map D.int), Wd y := fun y hy => by
      rcases List.mem_append.mp hy with hy | hy
      · simp only [List.mem_cons, List.not_mem_nil, or_false] at hy
        rcases hy with rfl | rfl | rfl | rfl
        · exact .inr ⟨_, rfl, by decide⟩
        · exact .inl ⟨_, rfl, ga⟩
        · exact .inl ⟨_, rfl, gb⟩
        · exact .inl ⟨_, rfl, gc⟩
      · obtain ⟨i, hi, rfl⟩ := List.mem_map.mp hy
        exact .inl ⟨_, rfl, gn i hi⟩
    simp only [WPS, reduceIte, w_ixT (show atI [D.str "told", .int a, .int b, .int c, .tup (ns.map D.int)] 0 = some (.str "told") from rfl), w_ixT (show atI [D.str "told", .int a, .int b, .int c, .tup (ns.map D.int)] 4 = some (.tup (ns.map D.int)) from rfl),
      show cutD [D.str "told", .int a, .int b, .int c, .tup (ns.map D.int)] none (some 4) = [D.str "told", .int a, .int b, .int c] from rfl, show decide (("told" : Str) = "told") = true by decide]
    rw [w_addT (by simp only [List.length_cons, List.length_nil, List.length_map]; omega)]
    simp only [WPS, reduceIte]
    exact rowtext_w (fun d w => linecell w) wd (by simp only [List.length_append, List.length_cons, List.length_nil, List.length_map]; omega) p
end
end Lw
/-! SetMl: words and rows put otherwise: what is counted. -/
namespace Lw
open PySem L2
/-- signs that a row may have -/
def Sg (z : Str) : Prop := ∀ c ∈ sg z, c ≠ 10 ∧ c < 0x110000
def sgB (z : Str) : Bool := (sg z).all fun c => decide (c ≠ 10) && decide (c < 0x110000)
theorem sgB_of {z : Str} (h : sgB z = true) : Sg z := fun c hc => by
  have := List.all_eq_true.mp h c hc
  simpa using this
theorem Sg.ok {z : Str} (s : Sg z) : PyData.strOk z = true := strOk_iff.mpr fun c hc => (s c hc).2
theorem Sg.free {z : Str} (s : Sg z) : 10 ∉ sg z := fun m => (s 10 m).1 rfl
theorem Sg.app {a b : Str} (ha : Sg a) (hb : Sg b) : Sg (a ++ b) := fun c hc => by
  rw [show sg (a ++ b) = sg a ++ sg b from str_app a b] at hc
  rcases List.mem_append.mp hc with h | h
  · exact ha c h
  · exact hb c h
theorem Sg.split {z w : Str} (s : Sg z) (h : w ∈ Txt.split z " ") : Sg w := fun c hc => s c (split_sub (c := 32) h c hc)
theorem Sg.word {z : Str} (w : Word z) : Sg z := fun c hc => by
  have := w.signs c hc
  unfold wsign at this
  simp only [Bool.and_eq_true, bne_iff_ne, decide_eq_true_eq] at this
  exact ⟨this.2.1, this.2.2⟩
def okW (d : D) : Bool := match d with
  | .str y => decide (y.length ≤ 30) && sgB y
  | _ => false
theorem okW_of {d : D} (h : okW d = true) : ∃ y, d = .str y ∧ y.length ≤ 30 ∧ Sg y := by
  unfold okW at h
  cases d <;> try (cases h; done)
  simp only [Bool.and_eq_true, decide_eq_true_eq] at h
  exact ⟨_, rfl, h.1, sgB_of h.2⟩
/-- how many signs some words have, with a blank for each -/
def Tw (ws : List Str) : Nat := (ws.map fun w => w.length + 1).sum
theorem Tw_nil : Tw [] = 0 := rfl
theorem Tw_cons (w : Str) (r : List Str) : Tw (w :: r) = w.length + 1 + Tw r := by
  unfold Tw
  rw [List.map_cons, List.sum_cons]
theorem Tw_app (a b : List Str) : Tw (a ++ b) = Tw a + Tw b := by
  unfold Tw
  rw [List.map_append, List.sum_append]
theorem Tw_cut (ws : List Str) (k : Nat) : Tw (ws.take k) + Tw (ws.drop k) = Tw ws := by
  rw [← Tw_app, List.take_append_drop]
theorem Tw_mem {ws : List Str} {w : Str} (h : w ∈ ws) : w.length + 1 ≤ Tw ws := by
  induction ws with
  | nil => cases h
  | cons x r ih =>
    rw [Tw_cons]
    rcases List.mem_cons.mp h with rfl | h
    · omega
    · have := ih h
      omega
theorem Tw_drop1 (ws : List Str) (k : Nat) : Tw (ws.drop (k + 1)) ≤ Tw (ws.drop k) := by
  rw [← List.drop_drop]
  generalize ws.drop k = l
  cases l with
  | nil => exact Nat.le_refl _
  | cons x r =>
    rw [List.drop_one, List.tail_cons, Tw_cons]
    omega
theorem Tw_len (ws : List Str) : ws.length ≤ Tw ws := by
  induction ws with
  | nil => exact Nat.le_refl _
  | cons x r ih =>
    rw [Tw_cons, List.length_cons]
    omega
theorem Tw_sum (ws : List Str) : (ws.map (·.length)).sum + ws.length = Tw ws := by
  induction ws with
  | nil => rfl
  | cons x r ih =>
    rw [Tw_cons, List.map_cons, List.sum_cons, List.length_cons]
    omega
theorem join_Tw : ∀ (ws : List Str), ws ≠ [] → (Str.join (chS 32) ws).length + 1 = Tw ws
  | [], h => absurd rfl h
  | [x], _ => by rw [Tw_cons, Tw_nil]; rfl
  | x :: y :: r, _ => by
    have ih := join_Tw (y :: r) (List.cons_ne_nil _ _)
    rw [Tw_cons, ← ih, ← sg_len, sg_join2, List.length_append, List.length_cons, sg_len, sg_len]
    omega
theorem join_Tw_le (ws : List Str) : (Txt.join " " ws).length ≤ Tw ws := by
  rw [TL.join_eq]
  by_cases e : ws = []
  · rw [e]
    exact Nat.zero_le _
  · have := join_Tw ws e
    show (Str.join (chS 32) ws).length ≤ _
    omega
theorem split_Tw (z : Str) : Tw (Txt.split z " ") = z.length + 1 := by
  rw [← join_Tw _ (split_ne z " "), show Str.join (chS 32) (Txt.split z " ") = z from join_split z 32]
theorem mem_join_of {c x : Nat} : ∀ {ys : List Str}, x ∈ sg (Str.join (chS c) ys) → x = c ∨ ∃ y ∈ ys, x ∈ sg y
  | [], h => by cases h
  | [y], h => .inr ⟨y, List.mem_singleton.mpr rfl, h⟩
  | y :: z :: t, h => by
    rw [sg_join2] at h
    rcases List.mem_append.mp h with h | h
    · exact .inr ⟨y, List.mem_cons_self, h⟩
    · rcases List.mem_cons.mp h with h | h
      · exact .inl h
      · rcases mem_join_of h with h | ⟨w, hw, hx⟩
        · exact .inl h
        · exact .inr ⟨w, List.mem_cons_of_mem _ hw, hx⟩
theorem Sg.join {ws : List Str} (h : ∀ w ∈ ws, Sg w) : Sg (Txt.join " " ws) := fun c hc => by
  rw [TL.join_eq] at hc
  rcases mem_join_of (c := 32) hc with rfl | ⟨w, hw, hx⟩
  · exact ⟨by decide, by decide⟩
  · exact h w hw c hx
/-- a row of at most b signs -/
def Rs (b : Nat) (z : Str) : Prop := z.length ≤ b ∧ Sg z
theorem Rs.up {b c : Nat} {z : Str} (r : Rs b z) (l : b ≤ c) : Rs c z := ⟨Nat.le_trans r.1 l, r.2⟩
theorem Rs.okRow {b : Nat} {z : Str} (r : Rs b z) (l : b ≤ 59000) : okRow z = true := by
  have t := split_Tw z
  have m := Tw_len (Txt.split z " ")
  have lz := r.1
  unfold Lw.okRow
  simp only [Bool.and_eq_true, decide_eq_true_eq, List.all_eq_true, Bool.not_eq_true', decide_eq_false_iff_not]
  refine ⟨⟨⟨⟨by omega, ?_⟩, fun w hw => ?_⟩, by omega⟩, r.2.free⟩
  · cases e : Txt.split z " " with
    | nil => exact absurd e (split_ne _ _)
    | cons _ _ => rfl
  · have := Tw_mem hw
    omega
section
variable {h : AH} {n m : Nat} {E : Str → AH → Prop} {P : D → AH → Prop}
theorem consts_ok : ([D.str "0", .str "-0", .str "05", .str "+5", .str "5.0", .str "x", .str "-", .str (repS "1" 18), .str (repS "1" 19), .str ("-" ++ repS "9" 18), .str "span", .str "every", .str "least"] ++
    [D.str "work", .str "lent", .str "told", .str "back", .str "cut", .str "join", .str "ann", .str "", .str "-1", .str "1", .str "7", .str "Lent", .str "--1", .str "1-", .str "~"] ++ [D.str "1_0", .str "_1", .str "1_"]).all okW = true := by decide +kernel
theorem w_mulS {z : Str} {k : Int} (c : 2 ≤ k ∧ k ≤ 1000 ∧ 1 ≤ z.length ∧ z.length ≤ 1000) : Wp (mulSM (.str z) (.int k) h) P E ↔ P (.str (repS z k)) h := by
  unfold mulSM
  simp only [if_pos c]
  exact Iff.rfl
theorem spoiltwords_w {ws : List Str} (ne : ws ≠ []) (lw : ws.length ≤ 100000) (sg : ∀ w ∈ ws, Sg w) (w : Well h n (m + 40)) (p : ∀ ws' h', (∀ w ∈ ws', Sg w) → Tw ws' ≤ 2 * Tw ws + 60 → Well h' n m → Fr n h h' → P (.lst (ws'.map D.str)) h') :
    Wp (f_law_spoilt_words (.ref n) (.lst (ws.map D.str)) h) P E := by
  have l0 : 0 < ws.length := List.length_pos_iff.mpr ne
  unfold f_law_spoilt_words b_law_spoilt_words
  simp only [WPS, reduceIte, List.length_map]
  refine draw_w (m := m + 39) (w.less (by omega)) (by omega) (by omega) fun r h1 r0 r1 w1 f1 => ?_
  obtain ⟨k, rfl⟩ : ∃ k : Nat, r = ((k : Nat) : Int) := ⟨r.toNat, by omega⟩
  have kl : k < ws.length := by omega
  have m1 : ∀ {g : AH} {Q : D → AH → Prop} {F : Str → AH → Prop}, Wp (mulSM (.str "1") (.int 18) g) Q F ↔ Q (.str (repS "1" 18)) g := w_mulS (by decide)
  have m2 : ∀ {g : AH} {Q : D → AH → Prop} {F : Str → AH → Prop}, Wp (mulSM (.str "1") (.int 19) g) Q F ↔ Q (.str (repS "1" 19)) g := w_mulS (by decide)
  have m3 : ∀ {g : AH} {Q : D → AH → Prop} {F : Str → AH → Prop}, Wp (mulSM (.str "9") (.int 18) g) Q F ↔ Q (.str (repS "9" 18)) g := w_mulS (by decide)
  have a1 : ∀ {g : AH} {Q : D → AH → Prop} {F : Str → AH → Prop}, Wp (addM (.str "-") (.str (repS "9" 18)) g) Q F ↔ Q (.str ("-" ++ repS "9" 18)) g := w_addS (by decide)
  simp only [WPS, reduceIte, m1, m2, m3, a1, w_lst (show ([_, _, _, _, _, _, _, _, _, _, _, _, _] : List D).length ≤ 1000000 from Nat.le_of_ble_eq_true rfl), w_lst (show ([_, _, _, _, _, _, _, _, _, _, _, _, _, _, _] : List D).length ≤ 1000000 from Nat.le_of_ble_eq_true rfl)]
  rw [w_addL (Nat.le_of_ble_eq_true rfl)]
  refine word_w (m := m + 19) (w1.less (by omega)) fun z h2 wz w2 f2 => ?_
  try simp only [WPS, reduceIte, w_lst (show ([_, _, _, _] : List D).length ≤ 1000000 from Nat.le_of_ble_eq_true rfl)]
  rw [w_addL (Nat.le_of_ble_eq_true rfl)]
  refine draw_w (m := m + 18) (w2.less (by omega)) (by decide) (by decide) fun way h3 y0 y1 w3 f3 => ?_
  have odd : ∀ x ∈ (([D.str "0", .str "-0", .str "05", .str "+5", .str "5.0", .str "x", .str "-", .str (repS "1" 18), .str (repS "1" 19), .str ("-" ++ repS "9" 18), .str "span", .str "every", .str "least"] ++
      [D.str "work", .str "lent", .str "told", .str "back", .str "cut", .str "join", .str "ann", .str "", .str "-1", .str "1", .str "7", .str "Lent", .str "--1", .str "1-", .str "~"]) ++ [D.str "1_0", .str "_1", .str "1_", .str z]), okW x = true := fun x hx => by
    have e : (([D.str "0", .str "-0", .str "05", .str "+5", .str "5.0", .str "x", .str "-", .str (repS "1" 18), .str (repS "1" 19), .str ("-" ++ repS "9" 18), .str "span", .str "every", .str "least"] ++
      [D.str "work", .str "lent", .str "told", .str "back", .str "cut", .str "join", .str "ann", .str "", .str "-1", .str "1", .str "7", .str "Lent", .str "--1", .str "1-", .str "~"]) ++ [D.str "1_0", .str "_1", .str "1_", .str z]) = (([D.str "0", .str "-0", .str "05", .str "+5", .str "5.0", .str "x", .str "-", .str (repS "1" 18), .str (repS "1" 19), .str ("-" ++ repS "9" 18), .str "span", .str "every", .str "least"] ++
      [D.str "work", .str "lent", .str "told", .str "back", .str "cut", .str "join", .str "ann", .str "", .str "-1", .str "1", .str "7", .str "Lent", .str "--1", .str "1-", .str "~"]) ++ [D.str "1_0", .str "_1", .str "1_"]) ++ [D.str z] := by rw [List.append_assoc]; rfl
    rw [e] at hx
    rcases List.mem_append.mp hx with hx | hx
    · exact List.all_eq_true.mp consts_ok x hx
    · rw [List.mem_singleton.mp hx]
      show (decide (z.length ≤ 30) && sgB z) = true
      rw [decide_eq_true (show z.length ≤ 30 by have := wz.len; omega), Bool.true_and]
      exact List.all_eq_true.mpr fun c hc => by
        have := Sg.word wz c hc
        simpa using this
  have ll : ∀ (a b c : List D), True := fun _ _ _ => trivial
  have F3 := f1.trans (f2.trans f3)
  have cast1 : ((k : Nat) : Int) + 1 = ((k + 1 : Nat) : Int) := by omega
  have tk : ∀ j : Nat, cutD (ws.map D.str) none (some (j : Int)) = (ws.take j).map D.str := fun j => by rw [cutD_take, List.map_take]
  have dr : ∀ j : Nat, cutD (ws.map D.str) (some (j : Int)) none = (ws.drop j).map D.str := fun j => by rw [cutD_drop, List.map_drop]
  have s1 : ∀ j, ∀ w ∈ ws.take j, Sg w := fun j w hw => sg w (List.mem_of_mem_take hw)
  have s2 : ∀ j, ∀ w ∈ ws.drop j, Sg w := fun j w hw => sg w (List.mem_of_mem_drop hw)
  have sap : ∀ {a b : List Str}, (∀ w ∈ a, Sg w) → (∀ w ∈ b, Sg w) → ∀ w ∈ a ++ b, Sg w := fun {a b} ha hb w hw => (List.mem_append.mp hw).elim (ha w) (hb w)
  have lt : ∀ j, (ws.take j).length ≤ 100000 := fun j => by rw [List.length_take]; omega
  have ld : ∀ j, (ws.drop j).length ≤ 100000 := fun j => by rw [List.length_drop]; omega
  have c0 := Tw_cut ws k
  have c1 := Tw_cut ws (k + 1)
  have c2 := Tw_drop1 ws k
  have ek : ws[k]? = some ws[k] := List.getElem?_eq_getElem kl
  have hk : ws[k] ∈ ws := List.getElem_mem _
  have tkk := Tw_mem hk
  have ixk : ∀ {g : AH} {Q : D → AH → Prop} {F : Str → AH → Prop}, Wp (ixM (.lst (ws.map D.str)) (.int ((k : Nat) : Int)) g) Q F ↔ Q (.str ws[k]) g := w_ixL (atI_nat (by rw [List.getElem?_map, ek]; rfl))
  rw [cast1]
  simp only [WPS, reduceIte, tk, dr]
  by_cases y00 : way = 0
  · simp only [y00, decide_true, if_true, WPS, reduceIte]
    rw [w_addL (by rw [List.length_map, List.length_map]; have := lt k; have := ld (k + 1); omega), ← List.map_append]
    exact p _ _ (sap (s1 k) (s2 (k + 1))) (by rw [Tw_app]; omega) (w3.less (by omega)) F3
  by_cases y01 : way = 1
  · simp only [y01, decide_true, decide_false, if_true, WPS, reduceIte, show ¬ (1 : Int) = 0 by decide]
    rw [w_addL (by rw [List.length_map, List.length_map]; have := lt (k + 1); have := ld k; omega), ← List.map_append]
    exact p _ _ (sap (s1 (k + 1)) (s2 k)) (by rw [Tw_app]; omega) (w3.less (by omega)) F3
  by_cases y02 : way = 2
  · simp only [y02, decide_true, decide_false, if_true, WPS, reduceIte, show ¬ (2 : Int) = 0 by decide, show ¬ (2 : Int) = 1 by decide, List.length_map]
    refine draw_w (m := m + 17) (w3.less (by omega)) (by omega) (by omega) fun r2 h4 q0 q1 w4 f4 => ?_
    obtain ⟨j, rfl⟩ : ∃ j : Nat, r2 = ((j : Nat) : Int) := ⟨r2.toNat, by omega⟩
    try simp only [WPS, reduceIte]
    rw [w_addL (by rw [List.length_map, List.length_map]; have := lt k; have := ld (k + 1); omega), ← List.map_append]
    have er : Tw (ws.take k ++ ws.drop (k + 1)) ≤ Tw ws := by rw [Tw_app]; omega
    have sr := sap (s1 k) (s2 (k + 1))
    have lr : (ws.take k ++ ws.drop (k + 1)).length ≤ 200000 := by rw [List.length_append]; have := lt k; have := ld (k + 1); omega
    generalize ws.take k ++ ws.drop (k + 1) = rest at er sr lr
    have tk2 : cutD (rest.map D.str) none (some (j : Int)) = (rest.take j).map D.str := by rw [cutD_take, List.map_take]
    have dr2 : cutD (rest.map D.str) (some (j : Int)) none = (rest.drop j).map D.str := by rw [cutD_drop, List.map_drop]
    have one : [D.str ws[k]] = [ws[k]].map D.str := rfl
    have c3 := Tw_cut rest j
    have a1 : (rest.take j).length ≤ 200000 := by rw [List.length_take]; omega
    have a2 : (rest.drop j).length ≤ 200000 := by rw [List.length_drop]; omega
    simp only [WPS, reduceIte, tk2, dr2, ixk]
    rw [one, w_addL (by rw [List.length_map, List.length_map]; simp only [List.length_cons, List.length_nil]; omega), ← List.map_append, w_addL (by rw [List.length_map, List.length_map, List.length_append]; simp only [List.length_cons, List.length_nil]; omega), ← List.map_append]
    refine p _ _ (sap (sap (fun w hw => sr w (List.mem_of_mem_take hw)) fun w hw => by rw [List.mem_singleton.mp hw]; exact sg _ hk) fun w hw => sr w (List.mem_of_mem_drop hw)) ?_ (w4.less (by omega)) (F3.trans f4)
    rw [Tw_app, Tw_app, Tw_cons, Tw_nil]
    omega
  · simp only [y00, y01, y02, decide_false, WPS, reduceIte]
    refine draw_w (m := m + 17) (w3.less (by omega)) (by decide) (by decide) fun r2 h4 q0 q1 w4 f4 => ?_
    refine w_pick q0 q1 fun x hx => ?_
    obtain ⟨y, rfl, yl, ys⟩ := okW_of (odd x hx)
    have one : [D.str y] = [y].map D.str := rfl
    have fin : ∀ j : Nat, (j = k ∨ j = k + 1) → Wp (addM (.lst ((ws.take k).map D.str ++ [y].map D.str)) (.lst ((ws.drop j).map D.str)) h4) P E := fun j hj => by
      rw [w_addL (by rw [List.length_append, List.length_map, List.length_map, List.length_map]; have := lt k; have := ld j; simp only [List.length_cons, List.length_nil]; omega), ← List.map_append, ← List.map_append]
      refine p _ _ (sap (sap (s1 k) fun w hw => by rw [List.mem_singleton.mp hw]; exact ys) (s2 j)) ?_ (w4.less (by omega)) (F3.trans f4)
      rw [Tw_app, Tw_app, Tw_cons, Tw_nil]
      rcases hj with rfl | rfl <;> omega
    by_cases y3 : 3 < way
    · simp only [WPS, reduceIte, y3, decide_true, tk]
      rw [one, w_addL (by rw [List.length_map, List.length_map]; have := lt k; simp only [List.length_cons, List.length_nil]; omega), cast1, dr]
      exact fin (k + 1) (.inr rfl)
    · simp only [WPS, reduceIte, y3, decide_false, tk]
      rw [one, w_addL (by rw [List.length_map, List.length_map]; have := lt k; simp only [List.length_cons, List.length_nil]; omega), show ((k : Nat) : Int) + 0 = ((k : Nat) : Int) by omega, dr]
      exact fin k (.inl rfl)
end
end Lw
/-! SetMn: rows put otherwise. -/
namespace Lw
open PySem L2
section
variable {h : AH} {n m : Nat} {E : Str → AH → Prop} {P : D → AH → Prop}
theorem lenA (a b : Str) : (a ++ b).length = a.length + b.length := by
  rw [← sg_len, show sg (a ++ b) = sg a ++ sg b from str_app _ _, List.length_append, sg_len, sg_len]
theorem joinT_w {ys : List Str} (l : Tw ys ≤ 1000000) : Wp (joinM (.str " ") (.lst (ys.map D.str)) h) P E ↔ P (.str (Txt.join " " ys)) h := by
  have e := Tw_sum ys
  have l2 : (ys.map (·.length)).sum + ys.length * ((" " : Str)).length ≤ 16777216 := by
    have c : ((" " : Str)).length = 1 := rfl
    rw [c]
    omega
  unfold joinM
  have q : seqOf h (.lst (ys.map D.str)) = some (ys.map D.str) := rfl
  rw [q]
  simp only [strsOf_map]
  rw [if_pos l2]
  exact Iff.rfl
theorem rows6_ok : ([D.str "", .str " ", .str "  ", .str "join", .str "work", .str "join 0 "]).all okW = true := by decide +kernel
theorem spoiltrows_w {rows : List Str} {b : Nat} (ne : rows ≠ []) (lw : rows.length ≤ 1000) (bb : b ≤ 20000) (b30 : 30 ≤ b) (sgr : ∀ w ∈ rows, Rs b w) (w : Well h n (m + 60)) (p : ∀ (rows' : List Str) h', (∀ w ∈ rows', Rs (2 * b + 100) w) → rows'.length ≤ rows.length + 1 → Well h' n m → Fr n h h' → P (.lst (rows'.map D.str)) h') :
    Wp (f_law_spoilt_rows (.ref n) (.lst (rows.map D.str)) h) P E := by
  have l0 : 0 < rows.length := List.length_pos_iff.mpr ne
  unfold f_law_spoilt_rows b_law_spoilt_rows
  simp only [WPS, reduceIte, List.length_map]
  refine draw_w (m := m + 59) (w.less (by omega)) (by omega) (by omega) fun r h1 r0 r1 w1 f1 => ?_
  obtain ⟨k, rfl⟩ : ∃ k : Nat, r = ((k : Nat) : Int) := ⟨r.toNat, by omega⟩
  try simp only [WPS, reduceIte, List.length_map]
  refine draw_w (m := m + 58) (w1.less (by omega)) (by omega) (by omega) fun r h2 q0 q1 w2 f2 => ?_
  obtain ⟨j, rfl⟩ : ∃ j : Nat, r = ((j : Nat) : Int) := ⟨r.toNat, by omega⟩
  try simp only [WPS, reduceIte, List.length_map]
  refine draw_w (m := m + 57) (w2.less (by omega)) (by decide) (by decide) fun way h3 y0 y1 w3 f3 => ?_
  have F3 := f1.trans (f2.trans f3)
  have cast1 : ((k : Nat) : Int) + 1 = ((k + 1 : Nat) : Int) := by omega
  have cast2 : ((k : Nat) : Int) + 2 = ((k + 2 : Nat) : Int) := by omega
  have tk : ∀ j : Nat, cutD (rows.map D.str) none (some (j : Int)) = (rows.take j).map D.str := fun j => by rw [cutD_take, List.map_take]
  have dr : ∀ j : Nat, cutD (rows.map D.str) (some (j : Int)) none = (rows.drop j).map D.str := fun j => by rw [cutD_drop, List.map_drop]
  have up : ∀ {z}, Rs b z → Rs (2 * b + 100) z := fun {z} r => r.up (by omega)
  have s1 : ∀ j, ∀ w ∈ rows.take j, Rs (2 * b + 100) w := fun j w hw => up (sgr w (List.mem_of_mem_take hw))
  have s2 : ∀ j, ∀ w ∈ rows.drop j, Rs (2 * b + 100) w := fun j w hw => up (sgr w (List.mem_of_mem_drop hw))
  have sap : ∀ {c d : List Str}, (∀ w ∈ c, Rs (2 * b + 100) w) → (∀ w ∈ d, Rs (2 * b + 100) w) → ∀ w ∈ c ++ d, Rs (2 * b + 100) w := fun {c d} hc hd w hw => (List.mem_append.mp hw).elim (hc w) (hd w)
  have lt : ∀ j, (rows.take j).length = min j rows.length := fun j => List.length_take
  have ld : ∀ j, (rows.drop j).length = rows.length - j := fun j => List.length_drop
  have kl : k < rows.length := by omega
  have ek : rows[k]? = some rows[k] := List.getElem?_eq_getElem kl
  have hk : rows[k] ∈ rows := List.getElem_mem _
  have rk := sgr _ hk
  have ixk : ∀ {g : AH} {Q : D → AH → Prop} {F : Str → AH → Prop}, Wp (ixM (.lst (rows.map D.str)) (.int ((k : Nat) : Int)) g) Q F ↔ Q (.str rows[k]) g := w_ixL (atI_nat (by rw [List.getElem?_map, ek]; rfl))
  -- a row in the place of the one at k, or ahead of it
  have put : ∀ (y : Str) (i : Nat) (h' : AH), Rs (2 * b + 100) y → k ≤ i → Well h' n m → Fr n h h' → Wp (addM (.lst ((rows.take k).map D.str ++ [D.str y])) (.lst ((rows.drop i).map D.str)) h') P E := fun y i h' ry ki w' f' => by
    have one : [D.str y] = [y].map D.str := rfl
    rw [one, w_addL (by rw [List.length_append, List.length_map, List.length_map, List.length_map, lt, ld]; simp only [List.length_cons, List.length_nil]; omega), ← List.map_append, ← List.map_append]
    refine p _ _ (sap (sap (s1 k) fun w hw => by rw [List.mem_singleton.mp hw]; exact ry) (s2 i)) ?_ w' f'
    rw [List.length_append, List.length_append, lt, ld]
    simp only [List.length_cons, List.length_nil]
    omega
  have a1 : ∀ (x : D), ((rows.take k).map D.str).length + [x].length ≤ 1000000 := fun x => by rw [List.length_map, lt]; simp only [List.length_cons, List.length_nil]; omega
  rw [cast1, cast2]
  simp only [WPS, reduceIte, tk, dr]
  have n0 : ∀ i : Int, i ≠ 0 → ¬ i = 0 := fun _ h => h
  by_cases y00 : way = 0
  · simp only [y00, decide_true, if_true, WPS, reduceIte]
    rw [w_addL (by rw [List.length_map, List.length_map, lt, ld]; omega), ← List.map_append]
    exact p _ _ (sap (s1 k) (s2 (k + 1))) (by rw [List.length_append, lt, ld]; omega) (w3.less (by omega)) F3
  by_cases y01 : way = 1
  · simp only [y01, decide_true, decide_false, if_true, WPS, reduceIte, show ¬ (1 : Int) = 0 by decide]
    rw [w_addL (by rw [List.length_map, List.length_map, lt, ld]; omega), ← List.map_append]
    exact p _ _ (sap (s1 (k + 1)) (s2 k)) (by rw [List.length_append, lt, ld]; omega) (w3.less (by omega)) F3
  by_cases y02 : way = 2
  · simp only [y02, decide_true, decide_false, if_true, WPS, reduceIte, show ¬ (2 : Int) = 0 by decide, show ¬ (2 : Int) = 1 by decide]
    rw [w_addL (by rw [List.length_map, List.length_map, lt, ld]; omega), ← List.map_append]
    have sr := sap (s1 k) (s2 (k + 1))
    have lr : (rows.take k ++ rows.drop (k + 1)).length ≤ rows.length := by rw [List.length_append, lt, ld]; omega
    generalize rows.take k ++ rows.drop (k + 1) = rest at sr lr
    have tk2 : cutD (rest.map D.str) none (some (j : Int)) = (rest.take j).map D.str := by rw [cutD_take, List.map_take]
    have dr2 : cutD (rest.map D.str) (some (j : Int)) none = (rest.drop j).map D.str := by rw [cutD_drop, List.map_drop]
    have one : [D.str rows[k]] = [rows[k]].map D.str := rfl
    have b1 : (rest.take j).length = min j rest.length := List.length_take
    have b2 : (rest.drop j).length = rest.length - j := List.length_drop
    simp only [WPS, reduceIte, tk2, dr2, ixk]
    rw [one, w_addL (by rw [List.length_map, List.length_map, b1]; simp only [List.length_cons, List.length_nil]; omega), ← List.map_append, w_addL (by rw [List.length_map, List.length_map, List.length_append, b1, b2]; simp only [List.length_cons, List.length_nil]; omega), ← List.map_append]
    refine p _ _ (sap (sap (fun w hw => sr w (List.mem_of_mem_take hw)) fun w hw => by rw [List.mem_singleton.mp hw]; exact up rk) fun w hw => sr w (List.mem_of_mem_drop hw)) ?_ (w3.less (by omega)) F3
    rw [List.length_append, List.length_append, b1, b2]
    simp only [List.length_cons, List.length_nil]
    omega
  by_cases y03 : way = 3
  · simp only [y03, decide_true, decide_false, if_true, WPS, reduceIte, show ¬ (3 : Int) = 0 by decide, show ¬ (3 : Int) = 1 by decide, show ¬ (3 : Int) = 2 by decide]
    refine draw_w (m := m + 56) (w3.less (by omega)) (by decide) (by decide) fun r2 h4 q0 q1 w4 f4 => ?_
    refine w_pick q0 q1 fun x hx => ?_
    obtain ⟨y, rfl, yl, ys⟩ := okW_of (List.all_eq_true.mp rows6_ok x hx)
    try simp only [WPS, reduceIte]
    rw [w_addL (a1 _)]
    exact put y k h4 ⟨by omega, ys⟩ (Nat.le_refl _) (w4.less (by omega)) (F3.trans f4)
  by_cases y04 : way = 4
  · simp only [y04, decide_true, decide_false, if_true, WPS, reduceIte, show ¬ (4 : Int) = 0 by decide, show ¬ (4 : Int) = 1 by decide, show ¬ (4 : Int) = 2 by decide, show ¬ (4 : Int) = 3 by decide]
    -- the row at k and the one behind it
    have first : ∀ (i : Nat), ∃ z, Rs b z ∧ ∀ {g : AH} {Q : D → AH → Prop} {F : Str → AH → Prop}, Wp (addM (.lst ((rows.drop i).map D.str)) (.lst [.str ""]) g) (fun a h' => Wp (ixM a (.int 0) h') Q F) F ↔ Q (.str z) g := fun i => by
      have ll : ((rows.drop i).map D.str).length + [D.str ""].length ≤ 1000000 := by rw [List.length_map, ld]; simp only [List.length_cons, List.length_nil]; omega
      cases e : rows.drop i with
      | nil =>
        refine ⟨"", ⟨Nat.zero_le _, sgB_of rfl⟩, fun {g Q F} => ?_⟩
        rw [w_addL (by simp only [List.map_nil, List.length_cons, List.length_nil]; omega)]
        exact w_ixL (atI_pos (by decide) rfl)
      | cons x r =>
        refine ⟨x, sgr x (List.mem_of_mem_drop (i := i) (by rw [e]; exact List.mem_cons_self)), fun {g Q F} => ?_⟩
        rw [e] at ll
        rw [w_addL ll]
        exact w_ixL (atI_pos (by decide) rfl)
    obtain ⟨x1, x2, x3⟩ := first k
    obtain ⟨z1, z2, z3⟩ := first (k + 1)
    have l1 : ((" " : Str)).length = 1 := rfl
    have lx := x2.1
    have lz := z2.1
    have sb : Sg " " := sgB_of rfl
    have la : (x1 ++ " ").length = x1.length + 1 := by rw [lenA, l1]
    have lb : (x1 ++ " " ++ z1).length = x1.length + 1 + z1.length := by rw [lenA, la]
    rw [x3, w_addS (by omega), z3, w_addS (by omega), w_addL (a1 _)]
    exact put _ (k + 2) h3 ⟨by omega, (x2.2.app sb).app z2.2⟩ (by omega) (w3.less (by omega)) F3
  by_cases y05 : way = 5
  · simp only [y05, decide_true, decide_false, if_true, WPS, reduceIte, show ¬ (5 : Int) = 0 by decide, show ¬ (5 : Int) = 1 by decide, show ¬ (5 : Int) = 2 by decide, show ¬ (5 : Int) = 3 by decide, show ¬ (5 : Int) = 4 by decide, ixk]
    have l1 : ((" " : Str)).length = 1 := rfl
    have sb : Sg " " := sgB_of rfl
    have lk := rk.1
    have la : (rows[k] ++ " ").length = rows[k].length + 1 := by rw [lenA, l1]
    have lb : (" " ++ rows[k]).length = 1 + rows[k].length := by rw [lenA, l1]
    rw [w_addS (by omega)]
    try simp only [WPS, reduceIte, ixk]
    rw [w_addS (by omega)]
    try simp only [WPS, reduceIte]
    refine draw_w (m := m + 56) (w3.less (by omega)) (by decide) (by decide) fun r2 h4 q0 q1 w4 f4 => ?_
    have both : ∀ x ∈ [D.str (" " ++ rows[k]), .str (rows[k] ++ " ")], ∃ y, x = .str y ∧ Rs (2 * b + 100) y := fun x hx => by
      simp only [List.mem_cons, List.not_mem_nil, or_false] at hx
      rcases hx with rfl | rfl
      · exact ⟨_, rfl, by omega, sb.app rk.2⟩
      · exact ⟨_, rfl, by omega, rk.2.app sb⟩
    refine w_pick q0 q1 fun x hx => ?_
    obtain ⟨y, rfl, ry⟩ := both x hx
    try simp only [WPS, reduceIte]
    rw [w_addL (a1 _)]
    exact put y (k + 1) h4 ry (by omega) (w4.less (by omega)) (F3.trans f4)
  · simp only [y00, y01, y02, y03, y04, y05, decide_false, WPS, reduceIte, ixk]
    have lk := rk.1
    have tw := split_Tw rows[k]
    have twl := Tw_len (Txt.split rows[k] " ")
    rw [w_split (by omega) rfl]
    refine spoiltwords_w (m := m + 17) (split_ne _ _) (by omega) (fun w hw => rk.2.split hw) (w3.less (by omega)) fun ws' h4 sw tw' w4 f4 => ?_
    rw [joinT_w (by omega)]
    try simp only [WPS, reduceIte, tk, dr]
    rw [w_addL (a1 _)]
    have jl := join_Tw_le ws'
    exact put _ (k + 1) h4 ⟨by omega, Sg.join sw⟩ (by omega) (w4.less (by omega)) (F3.trans f4)
end
end Lw
/-! SetNc: how deep things are. -/
namespace Lw
open PySem L2
end Lw
/-! SetRv: rows of a book. -/
namespace Lw
open PySem L2
section
variable {h : AH} {E : Str → AH → Prop} {P : D → AH → Prop}
theorem line_words {d : D} (l : LnR d) : (∀ x ∈ (lnP d).map wrt, Word x) ∧ ((lnP d).map wrt).length ≤ 200 := by
  have lit : ∀ {z : Str}, 1 ≤ z.length → z.length ≤ 22 → (∀ c ∈ sg z, wsign c = true) → Word z := fun a b c => ⟨a, b, c⟩
  cases l with
  | @lent a b c z ga gz gb gc =>
    refine ⟨fun x hx => ?_, Nat.le_of_ble_eq_true rfl⟩
    have hx : x ∈ ([ "lent", numS a, z, numS b, numS c] : List Str) := hx
    simp only [List.mem_cons, List.not_mem_nil, or_false] at hx
    rcases hx with rfl | rfl | rfl | rfl | rfl
    · exact lit (by decide) (by decide) (by decide)
    · exact num_word ga
    · exact gz
    · exact num_word gb
    · exact num_word gc
  | @told a b c ns ga gb gc ln gns =>
    have e : (lnP (.tup [.str "told", .int a, .int b, .int c, .tup (ns.map D.int)])).map wrt = ("told" : Str) :: (a :: b :: c :: ns).map numS := by
      show List.map wrt ([D.str "told", .int a, .int b, .int c] ++ ns.map D.int) = _
      rw [List.map_append, List.map_map]
      rfl
    rw [e]
    refine ⟨fun x hx => ?_, by rw [List.length_cons, List.length_map]; show ns.length + 1 + 1 + 1 + 1 ≤ 200; omega⟩
    rcases List.mem_cons.mp hx with rfl | hx
    · exact lit (by decide) (by decide) (by decide)
    · obtain ⟨i, hi, rfl⟩ := List.mem_map.mp hx
      refine num_word ?_
      rcases List.mem_cons.mp hi with rfl | hi
      · exact ga
      · rcases List.mem_cons.mp hi with rfl | hi
        · exact gb
        · rcases List.mem_cons.mp hi with rfl | hi
          · exact gc
          · exact gns i hi
  | @back a b ga gb =>
    refine ⟨fun x hx => ?_, Nat.le_of_ble_eq_true rfl⟩
    have hx : x ∈ ([ "back", numS a, numS b] : List Str) := hx
    simp only [List.mem_cons, List.not_mem_nil, or_false] at hx
    rcases hx with rfl | rfl | rfl
    · exact lit (by decide) (by decide) (by decide)
    · exact num_word ga
    · exact num_word gb
  | @cut a b ga gb =>
    refine ⟨fun x hx => ?_, Nat.le_of_ble_eq_true rfl⟩
    have hx : x ∈ ([ "cut", numS a, numS b] : List Str) := hx
    simp only [List.mem_cons, List.not_mem_nil, or_false] at hx
    rcases hx with rfl | rfl | rfl
    · exact lit (by decide) (by decide) (by decide)
    · exact num_word ga
    · exact num_word gb
  | @join a ga =>
    refine ⟨fun x hx => ?_, Nat.le_of_ble_eq_true rfl⟩
    have hx : x ∈ ([ "join", numS a] : List Str) := hx
    simp only [List.mem_cons, List.not_mem_nil, or_false] at hx
    rcases hx with rfl | rfl
    · exact lit (by decide) (by decide) (by decide)
    · exact num_word ga
end
end Lw
/-! SetMo: the rows that are drawn. -/
namespace Lw
open PySem L2
theorem Tw_word {ws : List Str} (h : ∀ w ∈ ws, Word w) : Tw ws ≤ 23 * ws.length := by
  induction ws with
  | nil => exact Nat.le_refl _
  | cons x r ih =>
    have := ih fun w hw => h w (List.mem_cons_of_mem _ hw)
    have := (h x List.mem_cons_self).len
    rw [Tw_cons, List.length_cons]
    omega
theorem rs_join {ws : List Str} (h : ∀ w ∈ ws, Word w) (l : ws.length ≤ 47) : Rs 1100 (Txt.join " " ws) := by
  have a := join_Tw_le ws
  have b := Tw_word h
  exact ⟨by omega, Sg.join fun w hw => Sg.word (h w hw)⟩
theorem cutS_feedM (a : Str) : cutS (a ++ "\n") none (some (-1)) = a := str_ext (by
  show cutD (sg (a ++ "\n")) none (some (-1)) = sg a
  rw [show sg (a ++ "\n") = sg a ++ [10] from str_app _ _]
  exact cutD_init _ _)
section
variable {h h' : AH} {n m : Nat} {E : Str → AH → Prop} {P : D → AH → Prop}
theorem slrow_w {a : Str} (l : a.length ≤ 5000) : Wp (sliceM (.str (a ++ "\n")) none (some (-1)) h) P E ↔ P (.str a) h := by
  have l1 : (("\n" : Str)).length = 1 := rfl
  rw [w_slS (by rw [lenA]; omega), cutS_feedM]
theorem headleaf {ps : List P2} {a b c : Int} (l : ps.length ≤ 10) (gp : ∀ p ∈ ps, gn p.1 ∧ gn p.2) (ga : gn a) (gb : gn b) (gc : gn c) (k : ∀ z, Rs 1100 z → P (.str z) h) :
    Wp (pcallM (app2 f_law_head) [.tup (ps.map fun p => D.tup [.int p.1, .int p.2]), .tup [.int a, .int b, .int c]] h) (fun x h' => Wp (sliceM x none (some (-1)) h') P E) E := by
  rw [w_pcall]
  refine ⟨?_, ?_⟩
  · have z : noRef (.tup (ps.map fun p => D.tup [.int p.1, .int p.2])) = true := nr_prsD ps
    rw [noRefs_cons, z]
    rfl
  rw [w_app2]
  refine lawheadtext_w (ps := ps) (by omega) (fun p hp => ⟨(gp p hp).1.gd, (gp p hp).2.gd⟩) ga.gd gb.gd gc.gd ⟨noRef_str, ?_⟩
  have hw := head_word gp ga gb gc
  have len : ((headD ps a b c).map wrt).length ≤ 47 := by
    rw [head_words, List.length_cons, List.length_append, List.length_map, fl_len]
    simp only [List.length_cons, List.length_nil]
    omega
  have r := rs_join hw len
  have lr := r.1
  show Wp (sliceM (.str (Txt.join " " ((headD ps a b c).map wrt) ++ "\n")) none (some (-1)) h) P E
  rw [slrow_w (by omega)]
  exact k _ r
theorem somehead_w (w : Well h n (m + 200)) (p : ∀ z h', Rs 1100 z → Well h' n m → P (.str z) h') : Wp (f_law_some_head (.ref n) h) P E := by
  unfold f_law_some_head b_law_some_head
  try simp only [WPS, reduceIte]
  refine work_w (m := m + 100) (w.less (by omega)) fun ps h1 lp gp wp w1 => ?_
  try simp only [WPS, reduceIte]
  refine limits_w (m := m + 90) (w1.less (by omega)) fun a b c h2 a1 a2 b1 bc c2 w2 => ?_
  try simp only [WPS, reduceIte]
  refine draw_w (m := m + 80) (w2.less (by omega)) (by decide) (by decide) fun way h3 y0 y1 w3 f3 => ?_
  have ga : gn a := ⟨by omega, a2⟩
  have gb : gn b := ⟨by omega, by omega⟩
  have gc : gn c := ⟨by omega, c2⟩
  have small : ∀ i : Int, -100 ≤ i → i ≤ 100 → gn i := fun i h1 h2 => ⟨by omega, by omega⟩
  have lims : ∀ x ∈ [D.tup [.int 0, .int 1, .int 1], .tup [.int 1, .int 0, .int 1], .tup [.int 1, .int 1, .int 0], .tup [.int 5, .int 3, .int 2], .tup [.int (0 - 1), .int 1, .int 1], .tup [.int 2, .int 9, .int 8]], ∃ i j l : Int, x = .tup [.int i, .int j, .int l] ∧ gn i ∧ gn j ∧ gn l := fun x hx => by
    simp only [List.mem_cons, List.not_mem_nil, or_false] at hx
    rcases hx with rfl | rfl | rfl | rfl | rfl | rfl <;> exact ⟨_, _, _, rfl, small _ (by decide) (by decide), small _ (by decide) (by decide), small _ (by decide) (by decide)⟩
  have pl : (ps.map fun p : P2 => D.tup [.int p.1, .int p.2]).length ≤ 6 := by rw [List.length_map]; exact lp
  have gapp : ∀ {qs : List P2}, (∀ q ∈ qs, gn q.1 ∧ gn q.2) → ∀ q ∈ ps ++ qs, gn q.1 ∧ gn q.2 := fun {qs} hq q h => (List.mem_append.mp h).elim (gp q) (hq q)
  unfold prsD
  by_cases y00 : way = 0
  · subst y00
    simp only [WPS, reduceIte, decide_true, show ¬ (0 : Int) = 1 by decide, show ¬ (0 : Int) = 2 by decide, show ¬ (1 : Int) < 0 by decide, decide_false]
    rw [w_addT (by simp only [List.length_map, List.length_cons, List.length_nil]; omega)]
    have e : (ps.map fun p : P2 => D.tup [.int p.1, .int p.2]) ++ [D.tup [.int 5, .int 5]] = (ps ++ [(5, 5)]).map fun p : P2 => D.tup [.int p.1, .int p.2] := by rw [List.map_append]; rfl
    simp only [WPS, reduceIte, e]
    exact headleaf (by rw [List.length_append]; simp only [List.length_cons, List.length_nil]; omega) (gapp fun q hq => by rw [List.mem_singleton.mp hq]; exact ⟨small _ (by decide) (by decide), small _ (by decide) (by decide)⟩) ga gb gc fun z rz => p z _ rz (w3.less (by omega))
  by_cases y01 : way = 1
  · subst y01
    simp only [WPS, reduceIte, decide_true, show ¬ (1 : Int) = 0 by decide, show ¬ (1 : Int) = 2 by decide, show ¬ (1 : Int) < 1 by decide, decide_false]
    rw [w_addT (by simp only [List.length_map, List.length_cons, List.length_nil]; omega)]
    have e : (ps.map fun p : P2 => D.tup [.int p.1, .int p.2]) ++ [D.tup [.int 3, .int 9], D.tup [.int 8, .int 12]] = (ps ++ [(3, 9), (8, 12)]).map fun p : P2 => D.tup [.int p.1, .int p.2] := by rw [List.map_append]; rfl
    simp only [WPS, reduceIte, e]
    exact headleaf (by rw [List.length_append]; simp only [List.length_cons, List.length_nil]; omega) (gapp fun q hq => by
      simp only [List.mem_cons, List.not_mem_nil, or_false] at hq
      rcases hq with rfl | rfl <;> exact ⟨small _ (by decide) (by decide), small _ (by decide) (by decide)⟩) ga gb gc fun z rz => p z _ rz (w3.less (by omega))
  by_cases y02 : way = 2
  · subst y02
    simp only [WPS, reduceIte, decide_true, show ¬ (2 : Int) = 0 by decide, show ¬ (2 : Int) = 1 by decide, show (1 : Int) < 2 by decide, show (2 : Int) < 5 by decide, decide_false]
    rw [w_addT (by simp only [List.length_map, List.length_cons, List.length_nil]; omega)]
    have e : [D.tup [.int 7, .int 2]] ++ (ps.map fun p : P2 => D.tup [.int p.1, .int p.2]) = ((7, 2) :: ps).map fun p : P2 => D.tup [.int p.1, .int p.2] := rfl
    simp only [WPS, reduceIte, e]
    refine draw_w (m := m + 70) (w3.less (by omega)) (by decide) (by decide) fun r2 h4 q0 q1 w4 f4 => ?_
    refine w_pick q0 q1 fun x hx => ?_
    obtain ⟨i, j, l, rfl, gi, gj, gl⟩ := lims x hx
    try simp only [WPS, reduceIte]
    exact headleaf (by simp only [List.length_cons]; omega) (fun q hq => by
      rcases List.mem_cons.mp hq with rfl | hq
      · exact ⟨small _ (by decide) (by decide), small _ (by decide) (by decide)⟩
      · exact gp q hq) gi gj gl fun z rz => p z _ rz (w4.less (by omega))
  by_cases y03 : way < 5
  · have y04 : (1 : Int) < way := by omega
    simp only [WPS, reduceIte, y00, y01, y02, y03, y04, decide_true, decide_false]
    refine draw_w (m := m + 70) (w3.less (by omega)) (by decide) (by decide) fun r2 h4 q0 q1 w4 f4 => ?_
    refine w_pick q0 q1 fun x hx => ?_
    obtain ⟨i, j, l, rfl, gi, gj, gl⟩ := lims x hx
    try simp only [WPS, reduceIte]
    exact headleaf (by omega) gp gi gj gl fun z rz => p z _ rz (w4.less (by omega))
  · have y04 : (1 : Int) < way := by omega
    simp only [WPS, reduceIte, y00, y01, y02, y03, y04, decide_true, decide_false]
    exact headleaf (by omega) gp ga gb gc fun z rz => p z _ rz (w3.less (by omega))
/-- the row of a drawn line -/
theorem linerow_w {d : D} (l : LnR d) (k : ∀ z, Rs 1100 z → P (.str z) h) : Wp (pcallM (app1 f_law_line_text) [d] h) (fun x h' => Wp (sliceM x none (some (-1)) h') P E) E := by
  rw [w_pcall]
  refine ⟨by rw [noRefs_cons, noRefs_nil, ln_nr l.ln]; rfl, ?_⟩
  rw [w_app1]
  refine lawlinetext_w l.ln ⟨noRef_str, ?_⟩
  have q := line_words l
  have ll : ((lnP d).map wrt).length ≤ 47 := by
    rw [List.length_map]
    cases l with
    | lent => exact Nat.le_of_ble_eq_true rfl
    | told ga gb gc ln gns =>
      show ([D.str "told", .int _, .int _, .int _] ++ _).length ≤ 47
      rw [List.length_append, List.length_map]
      simp only [List.length_cons, List.length_nil]
      omega
    | back => exact Nat.le_of_ble_eq_true rfl
    | cut => exact Nat.le_of_ble_eq_true rfl
    | join => exact Nat.le_of_ble_eq_true rfl
  have r := rs_join q.1 ll
  have lr := r.1
  show Wp (sliceM (.str (Txt.join " " ((lnP d).map wrt) ++ "\n")) none (some (-1)) h) P E
  rw [slrow_w (by omega)]
  exact k _ r
end
end Lw
/-! k36: texts of no book. -/
namespace Lw
open PySem L2
theorem join_snocM {c : Nat} : ∀ {xs : List Str} {y : Str}, xs ≠ [] → sg (Str.join (chS c) (xs ++ [y])) = sg (Str.join (chS c) xs) ++ c :: sg y
  | [], _, h => absurd rfl h
  | [x], y, _ => by
    rw [List.singleton_append, sg_join2]
    rfl
  | x :: z :: t, y, _ => by
    have ih := join_snocM (c := c) (xs := z :: t) (y := y) (List.cons_ne_nil _ _)
    rw [sg_join2, List.cons_append, List.cons_append, sg_join2, ← List.cons_append, ih, List.append_assoc, List.cons_append]
theorem join_max {c : Nat} {b : Nat} : ∀ {xs : List Str}, (∀ x ∈ xs, x.length ≤ b) → (Str.join (chS c) xs).length ≤ xs.length * (b + 1)
  | [], _ => Nat.zero_le _
  | [x], h => by
    have := h x (List.mem_singleton.mpr rfl)
    show x.length ≤ _
    rw [List.length_singleton]
    omega
  | x :: z :: t, h => by
    have ih := join_max (c := c) (b := b) (xs := z :: t) fun y hy => h y (List.mem_cons_of_mem _ hy)
    have hx := h x List.mem_cons_self
    rw [← sg_len, sg_join2, List.length_append, List.length_cons, sg_len, sg_len, List.length_cons, Nat.succ_mul]
    omega
def firstR : List Str → Str
  | [] => ""
  | x :: _ => x
/-- the text of some rows with what stands behind them, by its parts -/
theorem parts_of {rows : List Str} (l : rows.length ≤ 20) (g : ∀ r ∈ rows, Rs 20000 r) {t : Str} (ht : t = "\n" ∨ t = "" ∨ t = "\n\n") :
    ∃ ps, Prt ps ∧ Txt.join "\n" rows ++ t = Str.join (chS 10) ps ∧ ∀ hd, ps.head? = some hd → hd = firstR rows := by
  have e0 : Rs 20000 "" := ⟨Nat.zero_le _, sgB_of rfl⟩
  obtain ⟨R, Rne, Rj, Rg, Rl, Rh⟩ : ∃ R : List Str, R ≠ [] ∧ Txt.join "\n" rows = Str.join (chS 10) R ∧ (∀ r ∈ R, Rs 20000 r) ∧ R.length ≤ 20 ∧ ∀ hd, R.head? = some hd → hd = firstR rows := by
    cases rows with
    | nil => exact ⟨[""], List.cons_ne_nil _ _, rfl, fun r hr => by rw [List.mem_singleton.mp hr]; exact e0, by decide, fun hd e => by cases e; rfl⟩
    | cons x r => exact ⟨x :: r, List.cons_ne_nil _ _, TL.join_eq _ _, g, l, fun hd e => by cases e; rfl⟩
  have prt : ∀ {ps : List Str}, ps ≠ [] → ps.length ≤ 22 → (∀ r ∈ ps, Rs 20000 r) → Prt ps := fun {ps} ne lp gp => ⟨ne, fun r hr => (gp r hr).2.free, fun r hr => ⟨(gp r hr).okRow (by decide), (gp r hr).2.ok⟩, by omega, by
    have := join_max (c := 10) (b := 20000) (xs := ps) fun x hx => (gp x hx).1
    have : ps.length * (20000 + 1) ≤ 22 * 20001 := Nat.mul_le_mul_right _ lp
    omega⟩
  have add : ∀ {ps : List Str}, (∀ r ∈ ps, Rs 20000 r) → ∀ r ∈ ps ++ [("" : Str)], Rs 20000 r := fun {ps} gp r hr => (List.mem_append.mp hr).elim (gp r) fun h => by rw [List.mem_singleton.mp h]; exact e0
  have hd1 : ∀ {ps : List Str} {y : Str}, ps ≠ [] → (ps ++ [y]).head? = ps.head? := fun {ps y} ne => by
    cases ps with
    | nil => exact absurd rfl ne
    | cons x r => rfl
  rcases ht with rfl | rfl | rfl
  · refine ⟨R ++ [("" : Str)], prt (by simp) (by rw [List.length_append, List.length_singleton]; omega) (add Rg), ?_, fun hd e => Rh hd (by rw [hd1 Rne] at e; exact e)⟩
    refine str_ext ?_
    rw [join_snocM Rne, ← Rj]
    exact str_app _ _
  · refine ⟨R, prt Rne (by omega) Rg, ?_, Rh⟩
    rw [← Rj]
    refine str_ext ?_
    rw [show sg (Txt.join "\n" rows ++ "") = sg (Txt.join "\n" rows) ++ [] from str_app _ _, List.append_nil]
  · refine ⟨(R ++ [("" : Str)]) ++ [("" : Str)], prt (by simp) (by rw [List.length_append, List.length_append, List.length_singleton]; omega) (add (add Rg)), ?_, fun hd e => Rh hd (by rw [hd1 (List.append_ne_nil_of_left_ne_nil Rne _), hd1 Rne] at e; exact e)⟩
    refine str_ext ?_
    rw [join_snocM (by simp), join_snocM Rne, ← Rj, List.append_assoc]
    exact str_app _ _
def bt : Nat → Nat
  | 0 => 1100
  | t + 1 => 2 * bt t + 100
theorem bt_le {t : Nat} (h : t ≤ 3) : bt t ≤ 9500 ∧ 1100 ≤ bt t := by
  have : t = 0 ∨ t = 1 ∨ t = 2 ∨ t = 3 := by omega
  rcases this with rfl | rfl | rfl | rfl <;> exact ⟨by decide, by decide⟩
section
variable {h h' : AH} {n m : Nat} {E : Str → AH → Prop} {P : D → AH → Prop}
theorem wellLt (w : Well h n m) : n < h.length := by
  obtain ⟨a, b, c, e, _⟩ := w.ex
  exact (List.getElem?_eq_some_iff.mp e).1
theorem wellApp {c : Cell} (w : Well h n m) : Well (h ++ [c]) n m := by
  have l := wellLt w
  obtain ⟨a, b, c, e, r⟩ := w.ex
  exact ⟨a, b, c, by rw [List.getElem?_append_left l]; exact e, r⟩
theorem turn2_w {rows : List Str} {b : Nat} (lw : rows.length ≤ 500) (bb : b ≤ 20000) (b30 : 30 ≤ b) (sgr : ∀ w ∈ rows, Rs b w) (w : Well h n (m + 60)) {x : D} {O : Out D D → AH → Prop}
    (p : ∀ (rows' : List Str) h', (∀ w ∈ rows', Rs (2 * b + 100) w) → rows'.length ≤ rows.length + 2 → Well h' n m → O (.nx (.lst (rows'.map D.str))) h') : Wp (l_law_4 (.ref n) x (.lst (rows.map D.str)) h) O E := by
  unfold l_law_4
  simp only [WPS, reduceIte]
  rw [w_eqn (xs := rows.map D.str) rfl]
  simp only [WPS, reduceIte]
  have w1 := wellApp (c := .lst [.str ""]) w
  have go : ∀ (R : List Str), R ≠ [] → R.length ≤ rows.length + 1 → (∀ w ∈ R, Rs b w) → Wp (f_law_spoilt_rows (.ref n) (.lst (R.map D.str)) (h ++ [.lst [.str ""]])) (fun a h' => O (.nx a) h') E := fun R ne lR gR =>
    spoiltrows_w (m := m) ne (by omega) bb b30 gR w1 fun rows' h' g' l' w' _ => p rows' h' g' (by omega) w'
  have at_ : (h ++ [Cell.lst [.str ""]])[h.length]? = some (.lst [.str ""]) := by simp
  cases rows with
  | nil =>
    have rp : repLM (.ref h.length) (.int 1) (h ++ [Cell.lst [.str ""]]) = .ok (.lst [.str ""]) (h ++ [Cell.lst [.str ""]]) := by
      unfold repLM
      simp only [at_]
      rw [if_pos (by decide)]
      rfl
    simp only [List.map_nil, List.isEmpty_nil, WPS, reduceIte, Wp.rn rp]
    rw [w_addL (by decide)]
    exact go [""] (List.cons_ne_nil _ _) (by decide) fun r hr => by rw [List.mem_singleton.mp hr]; exact ⟨Nat.zero_le _, sgB_of rfl⟩
  | cons y r =>
    have rp : repLM (.ref h.length) (.int 0) (h ++ [Cell.lst [.str ""]]) = .ok (.lst []) (h ++ [Cell.lst [.str ""]]) := by
      unfold repLM
      simp only [at_]
      rw [if_pos (by decide)]
      rfl
    simp only [List.map_cons, List.isEmpty_cons, WPS, reduceIte, Wp.rn rp]
    rw [w_addL (by simp only [List.length_cons, List.length_map, List.length_nil] at lw ⊢; omega), List.append_nil]
    exact go (y :: r) (List.cons_ne_nil _ _) (by omega) sgr
theorem joinN_w {ys : List Str} (l : Tw ys ≤ 1000000) : Wp (joinM (.str "\n") (.lst (ys.map D.str)) h) P E ↔ P (.str (Txt.join "\n" ys)) h := by
  have e := Tw_sum ys
  have l2 : (ys.map (·.length)).sum + ys.length * (("\n" : Str)).length ≤ 16777216 := by
    have c : (("\n" : Str)).length = 1 := rfl
    rw [c]
    omega
  unfold joinM
  have q : seqOf h (.lst (ys.map D.str)) = some (ys.map D.str) := rfl
  rw [q]
  simp only [strsOf_map]
  rw [if_pos l2]
  exact Iff.rfl
theorem Tw_max {b : Nat} {ws : List Str} (h : ∀ w ∈ ws, w.length ≤ b) : Tw ws ≤ ws.length * (b + 1) := by
  induction ws with
  | nil => exact Nat.zero_le _
  | cons x r ih =>
    have := ih fun w hw => h w (List.mem_cons_of_mem _ hw)
    have := h x List.mem_cons_self
    rw [Tw_cons, List.length_cons, Nat.succ_mul]
    omega
theorem prt_lit {ps : List Str} (ne : ps ≠ []) (l : ps.length ≤ 20) (g : (ps.all fun r => decide (r.length ≤ 100) && sgB r) = true) : Prt ps := by
  have rs : ∀ r ∈ ps, Rs 100 r := fun r hr => by
    have := List.all_eq_true.mp g r hr
    rw [Bool.and_eq_true, decide_eq_true_eq] at this
    exact ⟨this.1, sgB_of this.2⟩
  refine ⟨ne, fun r hr => (rs r hr).2.free, fun r hr => ⟨(rs r hr).okRow (by decide), (rs r hr).2.ok⟩, by omega, ?_⟩
  have := join_max (c := 10) (b := 100) (xs := ps) fun x hx => (rs x hx).1
  have : ps.length * (100 + 1) ≤ 20 * 101 := Nat.mul_le_mul_right _ l
  omega
theorem prt1 : Prt [""] := prt_lit (List.cons_ne_nil _ _) (by decide) (by decide +kernel)
theorem prt2 : Prt [("" : Str), ""] := prt_lit (List.cons_ne_nil _ _) (by decide) (by decide +kernel)
theorem prt3 : Prt ["work span 1 every 1 least 1"] := prt_lit (List.cons_ne_nil _ _) (by decide) (by decide +kernel)
theorem prt4 : Prt ["work span 1 every 1 least 1", ""] := prt_lit (List.cons_ne_nil _ _) (by decide) (by decide +kernel)
theorem odd_w {z : Str} (w : Well h n 600) {O : Out Unit Unit → AH → Prop} (p : ∀ h', O (.nx ()) h') : Wp (q_law_3 (.str z) (.ref n) h) O E := by
  unfold q_law_3 q_law_2
  simp only [WPS, reduceIte, w_lst (show ([_, _, _, _, _, _, _, _] : List D).length ≤ 1000000 from Nat.le_of_ble_eq_true rfl)]
  refine draw_w (m := 599) w (by decide) (by decide) fun r3 h4 q2 q3 w4 f4 => ?_
  have odd : ∀ x ∈ [D.non, .int 5, .bl true, .lst [.str z], .tup [.str z], .str "", .str "\n", .str "work span 1 every 1 least 1"], ∀ {Q : D → AH → Prop}, Q (.str "text") h4 → Wp (pcallM (app1 f_law_found) [x] h4) Q E := fun x hx Q q => by
    simp only [List.mem_cons, List.not_mem_nil, or_false] at hx
    rcases hx with rfl | rfl | rfl | rfl | rfl | rfl | rfl | rfl
    · exact foundodd_w rfl rfl q
    · exact foundodd_w rfl rfl q
    · exact foundodd_w rfl rfl q
    · exact foundodd_w rfl rfl q
    · exact foundodd_w rfl rfl q
    · exact found_w (ps := [""]) prt1 (v := none) (fun hd e => by cases e; exact .emp (by decide +kernel)) q
    · exact found_w (ps := ["", ""]) prt2 (v := none) (fun hd e => by cases e; exact .emp (by decide +kernel)) q
    · obtain ⟨v', hv'⟩ := hrz_ex "work span 1 every 1 least 1"
      exact found_w (ps := ["work span 1 every 1 least 1"]) prt3 (v := v') (fun hd e => by cases e; exact hv') q
  refine w_pick q2 q3 fun x hx => ?_
  try simp only [WPS, reduceIte]
  refine odd x hx ?_
  have nt : neM (.str "text") (.str "text") h4 = .ok (.bl false) h4 := rfl
  simp only [WPS, reduceIte, Wp.rn nt]
  exact p _
theorem turn3_w {ns : List Int} {rows : List Str} {k : Nat} (hk : k < 1000) (lr : rows.length ≤ 8) (gr : ∀ r ∈ rows, Rs 1100 r) {O : Out Unit Unit → AH → Prop} (p : ∀ h', O (.nx ()) h') :
    Wp (l_law_5 (.lst (ns.map D.int)) (.lst (rows.map D.str)) (.int k) () h) O E := by
  unfold l_law_5
  simp only [WPS, reduceIte]
  refine well_w hk fun h1 w1 l1 k1 => ?_
  try simp only [WPS, reduceIte]
  refine draw_w (m := 999) (w1.less (by decide)) (by decide) (by decide) fun r h2 r0 r1 w2 f2 => ?_
  rw [w_rng1 (by omega) (by omega)]
  refine w_for (fun t u hh => ∃ R : List Str, u = .lst (R.map D.str) ∧ R.length ≤ 8 + 2 * t ∧ (∀ r ∈ R, Rs (bt t) r) ∧ Well hh h.length (999 - 60 * t)) ⟨rows, rfl, by omega, gr, w2⟩ (fun t y u hh hy i => ?_) fun u hh i => ?_
  · obtain ⟨R, rfl, lR, gR, wR⟩ := i
    obtain ⟨ht, _⟩ := rangeD_get hy
    have t3 : t ≤ 3 := by omega
    obtain ⟨b1, b2⟩ := bt_le t3
    refine turn2_w (m := 999 - 60 * (t + 1)) (b := bt t) (by omega) (by omega) (by omega) gR (wR.less (by omega)) fun rows' h' g' l' w' => ?_
    rw [tK_nx]
    exact ⟨rows', rfl, by omega, g', w'⟩
  · obtain ⟨R, rfl, lR, gR, wR⟩ := i
    rw [rangeD_len] at lR gR wR
    have t3 : r.toNat ≤ 3 := by omega
    obtain ⟨b1, b2⟩ := bt_le t3
    have gR : ∀ r ∈ R, Rs 20000 r := fun z hz => (gR z hz).up (by omega)
    have tw := Tw_max (b := 20000) (ws := R) fun w hw => (gR w hw).1
    have : R.length * (20000 + 1) ≤ 20 * 20001 := Nat.mul_le_mul_right _ (by omega)
    rw [oK_nx]
    try simp only [WPS, reduceIte]
    rw [joinN_w (by omega)]
    try simp only [WPS, reduceIte]
    refine draw_w (m := 700) (wR.less (by omega)) (by decide) (by decide) fun r2 h3 q0 q1 w3 f3 => ?_
    refine w_pick q0 q1 fun x hx => ?_
    obtain ⟨t, rfl, ht⟩ : ∃ t : Str, x = .str t ∧ (t = "\n" ∨ t = "" ∨ t = "\n\n") := by
      simp only [List.mem_cons, List.not_mem_nil, or_false] at hx
      rcases hx with rfl | rfl | rfl | rfl
      · exact ⟨_, rfl, .inl rfl⟩
      · exact ⟨_, rfl, .inl rfl⟩
      · exact ⟨_, rfl, .inr (.inl rfl)⟩
      · exact ⟨_, rfl, .inr (.inr rfl)⟩
    obtain ⟨ps, prt, et, hd⟩ := parts_of (rows := R) (by omega) gR ht
    have lt : t.length ≤ 2 := by rcases ht with rfl | rfl | rfl <;> decide
    have lj : (Txt.join "\n" R).length ≤ R.length * (20000 + 1) := by
      rw [TL.join_eq]
      exact join_max (c := 10) fun x hx => (gR x hx).1
    rw [w_addS (by omega), et]
    obtain ⟨v, hv⟩ := hrz_ex (firstR R)
    have hv : ∀ hd, ps.head? = some hd → HRz hd v := fun d e => by rw [hd d e]; exact hv
    try simp only [WPS, reduceIte]
    refine lawread_w prt hv ?_
    have rf : Rs 20000 (firstR R) := by
      cases R with
      | nil => exact ⟨Nat.zero_le _, sgB_of rfl⟩
      | cons x r => exact gR x List.mem_cons_self
    have i0 : ∀ {g : AH} {Q : D → AH → Prop} {F : Str → AH → Prop}, Wp (addM (.lst (R.map D.str)) (.lst [.str ""]) g) (fun a h' => Wp (ixM a (.int 0) h') Q F) F ↔ Q (.str (firstR R)) g := fun {g Q F} => by
      rw [w_addL (by rw [List.length_map]; simp only [List.length_cons, List.length_nil]; omega)]
      cases R with
      | nil => exact w_ixL (atI_pos (by decide) rfl)
      | cons x r => exact w_ixL (atI_pos (by decide) rfl)
    try simp only [WPS, reduceIte]
    rw [i0]
    refine beyond_w (rf.okRow (by decide)) rf.2.ok fun b => ?_
    have nbd : nb 59 (rdP v ps) = true := by
      match ps, prt with
      | [], _ => show PyData.strOk "text" = true; decide +kernel
      | [x], _ => show PyData.strOk "text" = true; decide +kernel
      | x :: y :: r, prt =>
        refine nb_leM _ 58 59 (by decide) (nb_rdV (zs := (y :: r).dropLast) fun z hz => (prt.ok z (List.mem_cons_of_mem _ (List.dropLast_subset _ hz))).2)
    have nb2 : nb 60 (.lst [rdP v ps, rdP v ps]) = true := by
      show nbs 59 [rdP v ps, rdP v ps] = true
      unfold nbs
      rw [nbd]
      unfold nbs
      rw [nbd]
      unfold nbs
      rfl
    cases b with
    | true =>
      simp only [WPS, reduceIte]
      exact odd_w (w3.less (by omega)) p
    | false =>
      simp only [WPS, reduceIte]
      refine found_w prt hv ?_
      try simp only [WPS, reduceIte]
      refine found_w prt hv ?_
      try simp only [WPS, reduceIte]
      rw [w_ne_f (a := .lst [rdP v ps, rdP v ps]) (b := .lst [rdP v ps, rdP v ps]) (by rw [lookD_nb nb2]; exact nb2) (by rw [lookD_nb nb2]; exact nb2) rfl]
      simp only [WPS, reduceIte]
      exact odd_w (w3.less (by omega)) p
theorem last_w {Q : D → AH → Prop} (q : Q (.tup [.tup [], .int 1, .int 1, .int 1, .tup []]) h) : Wp (pcallM (app1 f_law_found) [.str "work span 1 every 1 least 1\n"] h) Q E := by
  have sp : Txt.split "work span 1 every 1 least 1" " " = ("work" : Str) :: (([] : List Str) ++ (["span", "1", "every", "1", "least", "1"] : List Str)) := by decide +kernel
  have hv : HRz "work span 1 every 1 least 1" (rdHw [] "span" "1" "every" "1" "least" "1") := by
    show HR (Txt.split "work span 1 every 1 least 1" " ") _
    rw [sp]
    exact .it (by decide +kernel) rfl
  have ev : rdHw [] "span" "1" "every" "1" "least" "1" = some ⟨[], 1, 1, 1⟩ := by
    unfold rdHw
    rw [if_pos (by decide +kernel)]
    have n1 : numV "1" = 1 := by decide +kernel
    rw [n1]
    rfl
  rw [ev] at hv
  refine found_w (ps := ["work span 1 every 1 least 1", ""]) prt4 (v := some ⟨[], 1, 1, 1⟩) (fun hd e => by cases e; exact hv) ?_
  have e : rdP (some ⟨[], 1, 1, 1⟩) ["work span 1 every 1 least 1", ""] = .tup [.tup [], .int 1, .int 1, .int 1, .tup []] := rdV_t (x := ⟨[], 1, 1, 1⟩) (ls := []) rfl Wk.nil (by decide)
  rw [e]
  exact q
end
theorem plain (ns : List Int) (hl : ns.length ≤ 63) (hb : ∀ z ∈ ns, Builtin.Int.intBits z ≤ 1048576) : ∃ ah, f_law (.lst (ns.map D.int)) [] = .ok (.bl true) ah := by
  have goal : Wp (f_law (.lst (ns.map D.int)) []) (fun d _ => d = .bl true) NoE := by
    unfold f_law b_law
    simp only [WPS, reduceIte]
    refine well_w (k := 0) (by decide) fun h1 w1 l1 k1 => ?_
    try simp only [WPS, reduceIte]
    refine somehead_w (m := 900000) (w1.less (by decide)) fun hd h2 rh w2 => ?_
    try simp only [WPS, reduceIte]
    refine draw_w (m := 800000) (w2.less (by decide)) (by decide) (by decide) fun r h3 r0 r1 w3 f3 => ?_
    rw [w_rng1 (by omega) (by omega)]
    refine w_lc (fun k acc hh => ∃ R : List Str, acc = R.map D.str ∧ R.length = k ∧ (∀ r ∈ R, Rs 1100 r) ∧ Well hh ([] : AH).length (800000 - 1001 * k)) (by rw [rangeD_len]; omega) ⟨[], rfl, rfl, (fun r hr => nomatch hr), w3⟩ (fun k x acc hh hx i => ?_) fun acc hh i => ?_
    · obtain ⟨R, rfl, lR, gR, wR⟩ := i
      obtain ⟨ht, _⟩ := rangeD_get hx
      unfold c_law_1
      try simp only [WPS, reduceIte]
      refine line_w (m := 800000 - 1001 * (k + 1)) (wR.less (by omega)) fun d h4 ld w4 f4 => ?_
      try simp only [WPS, reduceIte]
      refine linerow_w ld fun z rz => ?_
      try simp only [WPS, reduceIte]
      refine ⟨R ++ [z], by rw [List.map_append]; rfl, by rw [List.length_append, lR]; rfl, fun r hr => ?_, w4⟩
      rcases List.mem_append.mp hr with hr | hr
      · exact gR r hr
      · rw [List.mem_singleton.mp hr]
        exact rz
    · obtain ⟨R, rfl, lR, gR, wR⟩ := i
      rw [rangeD_len] at lR
      rw [w_addL (by rw [List.length_map]; simp only [List.length_cons, List.length_nil]; omega)]
      have one : [D.str hd] ++ R.map D.str = (hd :: R).map D.str := rfl
      have g : ∀ r ∈ hd :: R, Rs 1100 r := fun r hr => (List.mem_cons.mp hr).elim (fun e => by rw [e]; exact rh) (gR r)
      rw [one, w_rng2 (by decide) (by decide) (by decide) (by decide)]
      refine w_for (fun _ _ _ => True) trivial (fun k x t hh hx _ => ?_) fun t hh _ => ?_
      · obtain ⟨ht, rfl⟩ := rangeD_get hx
        have e : (1 : Int) + (k : Nat) = ((k + 1 : Nat) : Int) := by omega
        rw [e]
        refine turn3_w (by omega) (by rw [List.length_cons]; omega) g fun h' => ?_
        rw [tK_nx]
        trivial
      · rw [oK_nx]
        simp only [WPS, reduceIte]
        refine last_w ?_
        have nb1 : nb 60 (.tup [.tup [], .int 1, .int 1, .int 1, .tup []]) = true := rfl
        rw [w_eq_t (a := .tup [.tup [], .int 1, .int 1, .int 1, .tup []]) (b := .tup [.tup [], .int 1, .int 1, .int 1, .tup []]) nb1 nb1 rfl]
        try simp only [WPS, reduceIte]
  obtain ⟨a, h', e, rfl⟩ := goal.get
  exact ⟨h', e⟩
end Lw
/-! each def does what the plain reading says (printed by gen.py) -/
namespace Lw
open PySem L2
def top (i : Nat) : Stmt := PySem.Challenge.pw_lentwork_k36_texts_of_no_book.main.body.getD i (.Pass ⟨0, 0, 0, 0⟩)
abbrev s_law_well : Stmt := top 43
theorem sc_law_well : FnScope ["_law_script", "_law_k", "_law_cell"] ["_law_script", "_law_k"] (defScope s_law_well) := ⟨rfl, rfl, rfl, by decide +kernel, rfl, by decide +kernel, by decide +kernel⟩
abbrev s_law_number : Stmt := top 53
theorem sc_law_number : FnScope ["_law_word_here", "_law_figures"] ["_law_word_here"] (defScope s_law_number) := ⟨rfl, rfl, rfl, by decide +kernel, rfl, by decide +kernel, by decide +kernel⟩
abbrev s_law_head_of : Stmt := top 54
theorem sc_law_head_of : FnScope ["_law_row", "_law_words", "_law_numbers", "_law_pairs", "_law_word_here", "_law_k"] ["_law_row"] (defScope s_law_head_of) := ⟨rfl, rfl, rfl, by decide +kernel, rfl, by decide +kernel, by decide +kernel⟩
abbrev s_law_line_of : Stmt := top 55
theorem sc_law_line_of : FnScope ["_law_row", "_law_words", "_law_many", "_law_worker", "_law_numbers", "_law_word_here"] ["_law_row"] (defScope s_law_line_of) := ⟨rfl, rfl, rfl, by decide +kernel, rfl, by decide +kernel, by decide +kernel⟩
abbrev s_law_is_work : Stmt := top 56
theorem sc_law_is_work : FnScope ["_law_work", "_law_k", "_law_low", "_law_high"] ["_law_work"] (defScope s_law_is_work) := ⟨rfl, rfl, rfl, by decide +kernel, rfl, by decide +kernel, by decide +kernel⟩
abbrev s_law_are_limits : Stmt := top 57
theorem sc_law_are_limits : FnScope ["_law_limits"] ["_law_limits"] (defScope s_law_are_limits) := ⟨rfl, rfl, rfl, by decide +kernel, rfl, by decide +kernel, by decide +kernel⟩
abbrev s_law_read : Stmt := top 58
theorem sc_law_read : FnScope ["_law_text", "_law_rows", "_law_head_here", "_law_lines", "_law_row"] ["_law_text"] (defScope s_law_read) := ⟨rfl, rfl, rfl, by decide +kernel, rfl, by decide +kernel, by decide +kernel⟩
abbrev s_need : Stmt := top 33
theorem sc_need : FnScope ["good"] ["good"] (defScope s_need) := ⟨rfl, rfl, rfl, by decide +kernel, rfl, by decide +kernel, by decide +kernel⟩
abbrev s_whole_rows : Stmt := top 40
theorem sc_whole_rows : FnScope ["text", "rows"] ["text"] (defScope s_whole_rows) := ⟨rfl, rfl, rfl, by decide +kernel, rfl, by decide +kernel, by decide +kernel⟩
abbrev s_words_in : Stmt := top 37
theorem sc_words_in : FnScope ["row", "words"] ["row"] (defScope s_words_in) := ⟨rfl, rfl, rfl, by decide +kernel, rfl, by decide +kernel, by decide +kernel⟩
abbrev s_is_number : Stmt := top 34
theorem sc_is_number : FnScope ["word", "figures", "sign"] ["word"] (defScope s_is_number) := ⟨rfl, rfl, rfl, by decide +kernel, rfl, by decide +kernel, by decide +kernel⟩
abbrev s_number_in : Stmt := top 35
theorem sc_number_in : FnScope ["word"] ["word"] (defScope s_number_in) := ⟨rfl, rfl, rfl, by decide +kernel, rfl, by decide +kernel, by decide +kernel⟩
abbrev s_numbers_in : Stmt := top 36
theorem sc_numbers_in : FnScope ["words", "word"] ["words"] (defScope s_numbers_in) := ⟨rfl, rfl, rfl, by decide +kernel, rfl, by decide +kernel, by decide +kernel⟩
abbrev s_head_in : Stmt := top 38
theorem sc_head_in : FnScope ["row", "words", "places", "work", "k"] ["row"] (defScope s_head_in) := ⟨rfl, rfl, rfl, by decide +kernel, rfl, by decide +kernel, by decide +kernel⟩
abbrev s_is_whole : Stmt := top 23
theorem sc_is_whole : FnScope ["thing"] ["thing"] (defScope s_is_whole) := ⟨rfl, rfl, rfl, by decide +kernel, rfl, by decide +kernel, by decide +kernel⟩
abbrev s_is_stretch : Stmt := top 24
theorem sc_is_stretch : FnScope ["thing"] ["thing"] (defScope s_is_stretch) := ⟨rfl, rfl, rfl, by decide +kernel, rfl, by decide +kernel, by decide +kernel⟩
abbrev s_check_work : Stmt := top 25
theorem sc_check_work : FnScope ["work", "one", "other"] ["work"] (defScope s_check_work) := ⟨rfl, rfl, rfl, by decide +kernel, rfl, by decide +kernel, by decide +kernel⟩
abbrev s_check_bounds : Stmt := top 27
theorem sc_check_bounds : FnScope ["span", "every", "least", "bound"] ["span", "every", "least"] (defScope s_check_bounds) := ⟨rfl, rfl, rfl, by decide +kernel, rfl, by decide +kernel, by decide +kernel⟩
abbrev s_line_in : Stmt := top 39
theorem sc_line_in : FnScope ["row", "words", "numbers"] ["row"] (defScope s_line_in) := ⟨rfl, rfl, rfl, by decide +kernel, rfl, by decide +kernel, by decide +kernel⟩
abbrev s_read_text : Stmt := top 41
theorem sc_read_text : FnScope ["text", "rows", "work", "span", "every", "least", "lines", "row"] ["text"] (defScope s_read_text) := ⟨rfl, rfl, rfl, by decide +kernel, rfl, by decide +kernel, by decide +kernel⟩
abbrev s_law_word : Stmt := top 52
theorem sc_law_word : FnScope ["_law_e", "_law_kinds", "_law_words", "_law_found_here", "_law_word_here", "_law_one"] ["_law_e"] (defScope s_law_word) := ⟨rfl, rfl, rfl, by decide +kernel, rfl, by decide +kernel, by decide +kernel⟩
abbrev s_law_found : Stmt := top 62
theorem sc_law_found : FnScope ["_law_text", "_law_found_here", "_law_e"] ["_law_text"] (defScope s_law_found) := ⟨rfl, rfl, rfl, by decide +kernel, rfl, by decide +kernel, by decide +kernel⟩
abbrev s_law_draw : Stmt := top 44
theorem sc_law_draw : FnScope ["_law_well_here", "_law_most", "_law_number_here"] ["_law_well_here", "_law_most"] (defScope s_law_draw) := ⟨rfl, rfl, rfl, by decide +kernel, rfl, by decide +kernel, by decide +kernel⟩
abbrev s_law_free_work : Stmt := top 46
theorem sc_law_free_work : FnScope ["_law_well_here", "_law_far_here", "_law_at", "_law_found_here", "_law_k", "_law_high"] ["_law_well_here"] (defScope s_law_free_work) := ⟨rfl, rfl, rfl, by decide +kernel, rfl, by decide +kernel, by decide +kernel⟩
abbrev s_law_free_limits : Stmt := top 47
theorem sc_law_free_limits : FnScope ["_law_well_here", "_law_every", "_law_span"] ["_law_well_here"] (defScope s_law_free_limits) := ⟨rfl, rfl, rfl, by decide +kernel, rfl, by decide +kernel, by decide +kernel⟩
abbrev s_law_head : Stmt := top 50
theorem sc_law_head : FnScope ["_law_work", "_law_limits", "_law_parts", "_law_low", "_law_high", "_law_part"] ["_law_work", "_law_limits"] (defScope s_law_head) := ⟨rfl, rfl, rfl, by decide +kernel, rfl, by decide +kernel, by decide +kernel⟩
abbrev s_law_some_head : Stmt := top 61
theorem sc_law_some_head : FnScope ["_law_well_here", "_law_work", "_law_limits", "_law_way"] ["_law_well_here"] (defScope s_law_some_head) := ⟨rfl, rfl, rfl, by decide +kernel, rfl, by decide +kernel, by decide +kernel⟩
abbrev s_law_any_word : Stmt := top 48
theorem sc_law_any_word : FnScope ["_law_well_here", "_law_signs", "_law_k"] ["_law_well_here"] (defScope s_law_any_word) := ⟨rfl, rfl, rfl, by decide +kernel, rfl, by decide +kernel, by decide +kernel⟩
abbrev s_law_spoilt_words : Stmt := top 59
theorem sc_law_spoilt_words : FnScope ["_law_well_here", "_law_words", "_law_at", "_law_some", "_law_way", "_law_other", "_law_rest", "_law_odd"] ["_law_well_here", "_law_words"] (defScope s_law_spoilt_words) := ⟨rfl, rfl, rfl, by decide +kernel, rfl, by decide +kernel, by decide +kernel⟩
abbrev s_law_spoilt_rows : Stmt := top 60
theorem sc_law_spoilt_rows : FnScope ["_law_well_here", "_law_rows", "_law_at", "_law_other", "_law_way", "_law_rest", "_law_row"] ["_law_well_here", "_law_rows"] (defScope s_law_spoilt_rows) := ⟨rfl, rfl, rfl, by decide +kernel, rfl, by decide +kernel, by decide +kernel⟩
abbrev s_law_line_text : Stmt := top 51
theorem sc_law_line_text : FnScope ["_law_line", "_law_part"] ["_law_line"] (defScope s_law_line_text) := ⟨rfl, rfl, rfl, by decide +kernel, rfl, by decide +kernel, by decide +kernel⟩
abbrev s_law_is_beyond : Stmt := top 63
theorem sc_law_is_beyond : FnScope ["_law_row", "_law_head_here", "_law_low", "_law_high"] ["_law_row"] (defScope s_law_is_beyond) := ⟨rfl, rfl, rfl, by decide +kernel, rfl, by decide +kernel, by decide +kernel⟩
abbrev s_law_far : Stmt := top 45
theorem sc_law_far : FnScope ["_law_well_here", "_law_far_here", "_law_some"] ["_law_well_here"] (defScope s_law_far) := ⟨rfl, rfl, rfl, by decide +kernel, rfl, by decide +kernel, by decide +kernel⟩
abbrev s_law_free_line : Stmt := top 49
theorem sc_law_free_line : FnScope ["_law_well_here", "_law_way", "_law_one", "_law_other", "_law_odd", "_law_worker", "_law_many", "_law_k"] ["_law_well_here"] (defScope s_law_free_line) := ⟨rfl, rfl, rfl, by decide +kernel, rfl, by decide +kernel, by decide +kernel⟩
abbrev s_law : Stmt := top 64
theorem sc_law : FnScope ["_law_script", "_law_well_here", "_law_rows", "_law_k", "_law_some", "_law_turn", "_law_text", "_law_due", "_law_odd"] ["_law_script"] (defScope s_law) := ⟨rfl, rfl, rfl, by decide +kernel, rfl, by decide +kernel, by decide +kernel⟩
structure Tx (w : World) (K : Fg) (mg : Str → Option Value) : Prop where
  no_len : mg "len" = none
  no_int : mg "int" = none
  no_tuple : mg "tuple" = none
  no_range : mg "range" = none
  no_max : mg "max" = none
  no_enumerate : mg "enumerate" = none
  no_min : mg "min" = none
  no_isinstance : mg "isinstance" = none
  no_str : mg "str" = none
  no_all : mg "all" = none
  no_zip : mg "zip" = none
  no_ValueError : mg "ValueError" = none
  no_sum : mg "sum" = none
  no_list : mg "list" = none
  ex : ExF K mg isE
  g_MOST_FIGURES : GvF K mg "MOST_FIGURES" (.int 18)
  g_FIGURES : GvF K mg "FIGURES" (.str "0123456789")
  g_BOUNDS : GvF K mg "BOUNDS" (.tup [.str "span", .str "every", .str "least"])
  k_COUNTS : KdF w K mg "COUNTS" kd_COUNTS
  x_NoText : ∃ C, ClF K mg "NoText" C
  x_BadWork : ∃ C, ClF K mg "BadWork" C
  x_BadBound : ∃ C, ClF K mg "BadBound" C
  x_LentError : ∃ C, ClF K mg "LentError" C
  d_law_well : Dfn K mg "_law_well" "_law_well" s_law_well ["_law_script", "_law_k"]
  d_law_number : Dfn K mg "_law_number" "_law_number" s_law_number ["_law_word_here"]
  d_law_head_of : Dfn K mg "_law_head_of" "_law_head_of" s_law_head_of ["_law_row"]
  d_law_line_of : Dfn K mg "_law_line_of" "_law_line_of" s_law_line_of ["_law_row"]
  d_law_is_work : Dfn K mg "_law_is_work" "_law_is_work" s_law_is_work ["_law_work"]
  d_law_are_limits : Dfn K mg "_law_are_limits" "_law_are_limits" s_law_are_limits ["_law_limits"]
  d_law_read : Dfn K mg "_law_read" "_law_read" s_law_read ["_law_text"]
  d_need : Dfn K mg "need" "need" s_need ["good"]
  d_whole_rows : Dfn K mg "whole_rows" "whole_rows" s_whole_rows ["text"]
  d_words_in : Dfn K mg "words_in" "words_in" s_words_in ["row"]
  d_is_number : Dfn K mg "is_number" "is_number" s_is_number ["word"]
  d_number_in : Dfn K mg "number_in" "number_in" s_number_in ["word"]
  d_numbers_in : Dfn K mg "numbers_in" "numbers_in" s_numbers_in ["words"]
  d_head_in : Dfn K mg "head_in" "head_in" s_head_in ["row"]
  d_is_whole : Dfn K mg "is_whole" "is_whole" s_is_whole ["thing"]
  d_is_stretch : Dfn K mg "is_stretch" "is_stretch" s_is_stretch ["thing"]
  d_check_work : Dfn K mg "check_work" "check_work" s_check_work ["work"]
  d_check_bounds : Dfn K mg "check_bounds" "check_bounds" s_check_bounds ["span", "every", "least"]
  d_line_in : Dfn K mg "line_in" "line_in" s_line_in ["row"]
  d_read_text : Dfn K mg "read_text" "read_text" s_read_text ["text"]
  d_law_word : Dfn K mg "_law_word" "_law_word" s_law_word ["_law_e"]
  d_law_found : Dfn K mg "_law_found" "_law_found" s_law_found ["_law_text"]
  d_law_draw : Dfn K mg "_law_draw" "_law_draw" s_law_draw ["_law_well_here", "_law_most"]
  d_law_free_work : Dfn K mg "_law_free_work" "_law_free_work" s_law_free_work ["_law_well_here"]
  d_law_free_limits : Dfn K mg "_law_free_limits" "_law_free_limits" s_law_free_limits ["_law_well_here"]
  d_law_head : Dfn K mg "_law_head" "_law_head" s_law_head ["_law_work", "_law_limits"]
  d_law_some_head : Dfn K mg "_law_some_head" "_law_some_head" s_law_some_head ["_law_well_here"]
  d_law_any_word : Dfn K mg "_law_any_word" "_law_any_word" s_law_any_word ["_law_well_here"]
  d_law_spoilt_words : Dfn K mg "_law_spoilt_words" "_law_spoilt_words" s_law_spoilt_words ["_law_well_here", "_law_words"]
  d_law_spoilt_rows : Dfn K mg "_law_spoilt_rows" "_law_spoilt_rows" s_law_spoilt_rows ["_law_well_here", "_law_rows"]
  d_law_line_text : Dfn K mg "_law_line_text" "_law_line_text" s_law_line_text ["_law_line"]
  d_law_is_beyond : Dfn K mg "_law_is_beyond" "_law_is_beyond" s_law_is_beyond ["_law_row"]
  d_law_far : Dfn K mg "_law_far" "_law_far" s_law_far ["_law_well_here"]
  d_law_free_line : Dfn K mg "_law_free_line" "_law_free_line" s_law_free_line ["_law_well_here"]
  d_law : Dfn K mg "law" "law" s_law ["_law_script"]
theorem fo_law_well {P : Program} {w : World} {K : Fg} {mg : Str → Option Value} {base : Heap} (T : Tx w K mg) {f : Addr} {fd : FuncData} (F : Fun K "_law_well" "_law_well" s_law_well f fd) : FnOk P w K mg base (L2N.CX P w) 1 f fd ["_law_script", "_law_k"] (spD K mg 2 (app2 f_law_well)) := by
  refine fn2 (N := ["_law_script", "_law_k", "_law_cell"]) (mk := fun _ : Unit => [none, none, none]) (lp := fun e : Empty => e.elim) (mc := b_law_well) F sc_law_well rfl fun cdv A outer s H E hr script1 k2 => ?_
  unfold b_law_well
  exact (show DS _ _ _ [some script1, some k2, none] _ _ _ _ from (ds_set 2 sc_law_well.nd (fun cell3 => [some script1, some k2, some cell3]) de_int (EnvLe.noth rfl) (fun cell3 => (ds_if (mk' := fun t : D => [some script1, some k2, some t]) (dt_cmp op_lt (int2_ok fun _ _ _ _ _ => Rep.bl) (de_var 1) (de_len T.no_len (de_var 0)) (nomark _)) (ds_set 2 sc_law_well.nd (fun cell9 => [some script1, some k2, some cell9]) (de_ix (de_var 0) (de_var 1)) (EnvLe.noth rfl) (fun cell9 => (ds_nil (t := cell9) (EnvLe.refl _)))) (ds_nil (t := cell3) (EnvLe.refl _)) (EnvLe.noth rfl) (fun s12 => (show DS _ _ _ [some script1, some k2, some s12] _ _ _ _ from (ds_ret (de_lstH (da_cons (de_add (de_mod (de_var 2) de_int) (de_mul de_int (de_var 1))) (da_two (de_ix (de_lst (da_two de_int (de_var 2))) (de_intf T.no_int (de_ge (de_var 2) (de_pow de_int de_int)))) de_int))) (EnvLe.noth rfl))))))))
theorem ok_law_well {P : Program} {w : World} {K : Fg} {mg : Str → Option Value} {base : Heap} (T : Tx w K mg) : Cal P w K mg base "_law_well" 1 2 (app2 f_law_well) := Dfn.cal T.d_law_well fun _ _ F => fo_law_well T F
theorem fo_law_number {P : Program} {w : World} {K : Fg} {mg : Str → Option Value} {base : Heap} (T : Tx w K mg) {f : Addr} {fd : FuncData} (F : Fun K "_law_number" "_law_number" s_law_number f fd) : FnOk P w K mg base (L2N.CX P w) 1 f fd ["_law_word_here"] (spD K mg 1 (app1 f_law_number)) := by
  refine fn1 (N := ["_law_word_here", "_law_figures"]) (mk := fun _ : Unit => [none, none]) (lp := fun e : Empty => e.elim) (mc := b_law_number) F sc_law_number rfl fun cdv A outer s H E hr word_here35 => ?_
  unfold b_law_number
  exact (show DS _ _ _ [some word_here35, none] _ _ _ _ from (ds_set 1 sc_law_number.nd (fun figures36 => [some word_here35, some figures36]) (de_slice (de_var 0) (do_some (de_intf T.no_int (de_eq (hu64 hr) (de_slice (de_var 0) do_none (do_some de_int)) de_str))) do_none) (EnvLe.noth rfl) (fun figures36 => (ds_ifr (fun e : Empty => e.elim) (dt_w (dw_or (dt_not (dt_chain op_le (int2_ok fun _ _ _ _ _ => Rep.bl) op_le (int2_ok fun _ _ _ _ _ => Rep.bl) de_int (de_len T.no_len (de_var 1)) de_int)) (dw_or1 (dt_cmp (op_neX (hu64 hr)) ne_ok (de_stripC (de_var 1) de_str) de_str (nomark _))))) (ds_ret de_non (EnvLe.noth rfl)) (EnvLe.noth rfl) (ds_ifr (fun e : Empty => e.elim) (dt_w (dw_and (dt_cmp (op_eqX (hu64 hr)) eq_ok (de_ix (de_var 1) de_int) de_str (nomark _)) (dw_and1 (dt_cmp (op_neX (hu64 hr)) ne_ok (de_var 0) de_str (nomark _))))) (ds_ret de_non (EnvLe.noth rfl)) (EnvLe.noth rfl) (ds_ret (de_intf T.no_int (de_var 0)) (EnvLe.noth rfl)) rfl) rfl))))
theorem ok_law_number {P : Program} {w : World} {K : Fg} {mg : Str → Option Value} {base : Heap} (T : Tx w K mg) : Cal P w K mg base "_law_number" 1 1 (app1 f_law_number) := Dfn.cal T.d_law_number fun _ _ F => fo_law_number T F
theorem fo_law_head_of {P : Program} {w : World} {K : Fg} {mg : Str → Option Value} {base : Heap} (T : Tx w K mg) (c_law_number : Cal P w K mg base "_law_number" 1 1 (app1 f_law_number)) {f : Addr} {fd : FuncData} (F : Fun K "_law_head_of" "_law_head_of" s_law_head_of f fd) : FnOk P w K mg base (L2N.CX P w) 2 f fd ["_law_row"] (spD K mg 1 (app1 f_law_head_of)) := by
  refine fn1 (N := ["_law_row", "_law_words", "_law_numbers", "_law_pairs", "_law_word_here", "_law_k"]) (mk := fun _ : Unit => [none, none, none, none, none, none]) (lp := fun e : Empty => e.elim) (mc := b_law_head_of) F sc_law_head_of rfl fun cdv A outer s H E hr row74 => ?_
  unfold b_law_head_of c_law_head_of_2 c_law_head_of_1
  exact (show DS _ _ _ [some row74, none, none, none, none, none] _ _ _ _ from (ds_set 1 sc_law_head_of.nd (fun words75 => [some row74, some words75, none, none, none, none]) (de_split (de_var 0) de_str) (EnvLe.noth rfl) (fun words75 => (ds_ifr (fun e : Empty => e.elim) (dt_w (dw_or (dt_cmp op_in_seq in_ok de_str (de_var 1) (by rfl)) (dw_or (dt_cmp op_lt (int2_ok fun _ _ _ _ _ => Rep.bl) (de_len T.no_len (de_var 1)) de_int (nomark _)) (dw_or (dt_cmp (op_eqX (hu64 hr)) eq_ok (de_mod (de_len T.no_len (de_var 1)) de_int) de_int (nomark _)) (dw_or1 (dt_cmp (op_neX (hu64 hr)) ne_ok (de_ix (de_var 1) de_int) de_str (nomark _))))))) (ds_ret de_non (EnvLe.noth rfl)) (EnvLe.noth rfl) (ds_set 2 sc_law_head_of.nd (fun numbers101 => [some row74, some words75, some numbers101, none, none, none]) (de_lc (own := [("_law_word_here", 4)]) rfl sc_law_head_of.nd (di_seq (de_add (de_slice (de_var 1) (do_some de_int) (do_some (de_neg de_int))) (de_step (by decide) (de_var 1) (do_some (de_neg de_int))))) (blkOk_by (by show blkC [("_law_row" : Str), ("_law_words" : Str), ("_law_numbers" : Str), ("_law_pairs" : Str), ("_law_word_here" : Str), ("_law_k" : Str)] (defScope s_law_head_of) _ _ = true; decide +kernel)) (by decide) (fun _ _ _ _ _ => (dg_name 4 sc_law_head_of.nd)) (fun _ _ _ _ _ p117 => (show PTs _ _ (TC _ _ W0 RB [some row74, some words75, none, none, some p117, none] _) from dts_nil)) (fun _ _ _ _ _ p117 => (show DE _ W0 [some row74, some words75, none, none, some p117, none] _ _ from (de_p1 c_law_number (hr.mono (by decide)) takes0N (de_var 4))))) (EnvLe.noth rfl) (fun numbers101 => (ds_ifr (fun e : Empty => e.elim) (dt_w (dw_or (dt_cmp (op_neX (hu64 hr)) ne_ok (de_step (by decide) (de_var 1) (do_some (de_neg de_int))) (de_lst (da_cons de_str (da_two de_str de_str))) (nomark _)) (dw_or1 (dt_cmp op_in_seq in_ok de_non (de_var 2) (by rfl))))) (ds_ret de_non (EnvLe.noth rfl)) (EnvLe.noth rfl) (ds_set 3 sc_law_head_of.nd (fun pairs139 => [some row74, some words75, some numbers101, some pairs139, none, none]) (de_tuple T.no_tuple (de_lc (own := [("_law_k", 5)]) rfl sc_law_head_of.nd (di_range3 T.no_range de_int (de_sub (de_len T.no_len (de_var 2)) de_int) de_int) (blkOk_by (by show blkC [("_law_row" : Str), ("_law_words" : Str), ("_law_numbers" : Str), ("_law_pairs" : Str), ("_law_word_here" : Str), ("_law_k" : Str)] (defScope s_law_head_of) _ _ = true; decide +kernel)) (by decide) (fun _ _ _ _ _ => (dg_name 5 sc_law_head_of.nd)) (fun _ _ _ _ _ p148 => (show PTs _ _ (TC _ _ W0 RB [some row74, some words75, some numbers101, none, none, some p148] _) from dts_nil)) (fun _ _ _ _ _ p148 => (show DE _ W0 [some row74, some words75, some numbers101, none, none, some p148] _ _ from (de_tup (da_two (de_ix (de_var 2) (de_var 5)) (de_ix (de_var 2) (de_add (de_var 5) de_int)))))))) (EnvLe.noth rfl) (fun pairs139 => (ds_ret (de_tup (da_two (de_var 3) (de_tuple T.no_tuple (de_slice (de_var 2) (do_some (de_neg de_int)) do_none)))) (EnvLe.noth rfl)))) rfl))) rfl))))
theorem ok_law_head_of {P : Program} {w : World} {K : Fg} {mg : Str → Option Value} {base : Heap} (T : Tx w K mg) (c_law_number : Cal P w K mg base "_law_number" 1 1 (app1 f_law_number)) : Cal P w K mg base "_law_head_of" 2 1 (app1 f_law_head_of) := Dfn.cal T.d_law_head_of fun _ _ F => fo_law_head_of T c_law_number F
theorem fo_law_line_of {P : Program} {w : World} {K : Fg} {mg : Str → Option Value} {base : Heap} (T : Tx w K mg) (c_law_number : Cal P w K mg base "_law_number" 1 1 (app1 f_law_number)) {f : Addr} {fd : FuncData} (F : Fun K "_law_line_of" "_law_line_of" s_law_line_of f fd) : FnOk P w K mg base (L2N.CX P w) 2 f fd ["_law_row"] (spD K mg 1 (app1 f_law_line_of)) := by
  refine fn1 (N := ["_law_row", "_law_words", "_law_many", "_law_worker", "_law_numbers", "_law_word_here"]) (mk := fun _ : Unit => [none, none, none, none, none, none]) (lp := fun e : Empty => e.elim) (mc := b_law_line_of) F sc_law_line_of rfl fun cdv A outer s H E hr row171 => ?_
  unfold b_law_line_of c_law_line_of_1
  exact (show DS _ _ _ [some row171, none, none, none, none, none] _ _ _ _ from (ds_set 1 sc_law_line_of.nd (fun words172 => [some row171, some words172, none, none, none, none]) (de_splitH (de_var 0) de_str) (EnvLe.noth rfl) (fun words172 => (ds_set 2 sc_law_line_of.nd (fun many175 => [some row171, some words172, some many175, none, none, none]) (de_dget2 (hu64 hr) (de_disp (dps_cons de_str de_int (dps_cons de_str de_int (dps_cons de_str de_int (dps_cons de_str de_int (dps_cons de_str (de_max2 rfl T.no_max de_int (de_len T.no_len (de_var 1))) dps_nil)))))) (de_ix (de_var 1) de_int) de_int) (EnvLe.noth rfl) (fun many175 => (ds_ifr (fun e : Empty => e.elim) (dt_w (dw_or (dt_cmp op_in_seq in_ok de_str (de_var 1) (by rfl)) (dw_or1 (dt_cmp (op_neX (hu64 hr)) ne_ok (de_len T.no_len (de_var 1)) (de_var 2) (nomark _))))) (ds_ret de_non (EnvLe.noth rfl)) (EnvLe.noth rfl) (ds_set 3 sc_law_line_of.nd (fun worker211 => [some row171, some words172, some many175, some worker211, none, none]) (de_tup da_nil) (EnvLe.noth rfl) (fun worker211 => (ds_if (mk' := fun t : D => [some row171, some words172, some many175, some t, none, none]) (dt_cmp (op_eqX (hu64 hr)) eq_ok (de_ix (de_var 1) de_int) de_str (nomark _)) (ds_set 3 sc_law_line_of.nd (fun worker219 => [some row171, some words172, some many175, some worker219, none, none]) (de_tup (da_one (de_popL (de_var 1) de_int))) (EnvLe.noth rfl) (fun worker219 => (ds_nil (t := worker219) (EnvLe.refl _)))) (ds_nil (t := worker211) (EnvLe.refl _)) (EnvLe.noth rfl) (fun s224 => (show DS _ _ _ [some row171, some words172, some many175, some s224, none, none] _ _ _ _ from (ds_freeze 1 (fun words225 => [some row171, some words225, some many175, some s224, none, none]) (fun words225 => (ds_set 4 sc_law_line_of.nd (fun numbers226 => [some row171, some words225, some many175, some s224, some numbers226, none]) (de_tuple T.no_tuple (de_lc (own := [("_law_word_here", 5)]) rfl sc_law_line_of.nd (di_seq (de_slice (de_var 1) (do_some de_int) do_none)) (blkOk_by (by show blkC [("_law_row" : Str), ("_law_words" : Str), ("_law_many" : Str), ("_law_worker" : Str), ("_law_numbers" : Str), ("_law_word_here" : Str)] (defScope s_law_line_of) _ _ = true; decide +kernel)) (by decide) (fun _ _ _ _ _ => (dg_name 5 sc_law_line_of.nd)) (fun _ _ _ _ _ p234 => (show PTs _ _ (TC _ _ W0 RB [some row171, some words225, some many175, some s224, none, some p234] _) from dts_nil)) (fun _ _ _ _ _ p234 => (show DE _ W0 [some row171, some words225, some many175, some s224, none, some p234] _ _ from (de_p1 c_law_number (hr.mono (by decide)) takes0N (de_var 5)))))) (EnvLe.noth rfl) (fun numbers226 => (ds_ifr (fun e : Empty => e.elim) (dt_cmp op_in_seq in_ok de_non (de_var 4) (by rfl)) (ds_ret de_non (EnvLe.noth rfl)) (EnvLe.noth rfl) (ds_ifr (fun e : Empty => e.elim) (dt_cmp (op_eqX (hu64 hr)) eq_ok (de_ix (de_var 1) de_int) de_str (nomark _)) (ds_ret (de_add (de_add (de_tup (da_one de_str)) (de_slice (de_var 4) do_none (do_some de_int))) (de_tup (da_one (de_slice (de_var 4) (do_some de_int) do_none)))) (EnvLe.noth rfl)) (EnvLe.noth rfl) (ds_ret (de_add (de_tup (da_one (de_ix (de_var 1) de_int))) (de_ix (de_lst (da_two (de_var 4) (de_add (de_add (de_slice (de_var 4) do_none (do_some de_int)) (de_var 3)) (de_slice (de_var 4) (do_some de_int) do_none)))) (de_len T.no_len (de_var 3)))) (EnvLe.noth rfl)) rfl) rfl)))))))))) rfl))))))
theorem ok_law_line_of {P : Program} {w : World} {K : Fg} {mg : Str → Option Value} {base : Heap} (T : Tx w K mg) (c_law_number : Cal P w K mg base "_law_number" 1 1 (app1 f_law_number)) : Cal P w K mg base "_law_line_of" 2 1 (app1 f_law_line_of) := Dfn.cal T.d_law_line_of fun _ _ F => fo_law_line_of T c_law_number F
theorem fo_law_is_work {P : Program} {w : World} {K : Fg} {mg : Str → Option Value} {base : Heap} (T : Tx w K mg) {f : Addr} {fd : FuncData} (F : Fun K "_law_is_work" "_law_is_work" s_law_is_work f fd) : FnOk P w K mg base (L2N.CX P w) 1 f fd ["_law_work"] (spD K mg 1 (app1 f_law_is_work)) := by
  refine fn1 (N := ["_law_work", "_law_k", "_law_low", "_law_high"]) (mk := fun _ : Unit => [none, none, none, none]) (lp := fun e : Empty => e.elim) (mc := b_law_is_work) F sc_law_is_work rfl fun cdv A outer s H E hr work292 => ?_
  unfold b_law_is_work l_law_is_work_1
  exact (show DS _ _ _ [some work292, none, none, none] _ _ _ _ from (ds_for (mkL := fun t : Unit => [some work292, none, none, none]) (t0 := ()) (passes_of rfl) rfl (di_enum T.no_enumerate (de_var 0)) (dg_tup rfl (dgs_cons (dg_name 1 sc_law_is_work.nd) (dgs_cons (dg_tup rfl (dgs_cons (dg_name 2 sc_law_is_work.nd) (dgs_cons (dg_name 3 sc_law_is_work.nd) dgs_nil)) (uCons_l (uCons_l uNil_l))) dgs_nil)) (uCons_l (uCons_l uNil_l))) (EnvLe.refl _) (EnvLe.noth rfl) (fun p298 t293 => (show DS _ _ _ [some work292, some p298.1, some p298.2.1.1, some p298.2.1.2.1] _ _ _ _ from (ds_ifr (fun e : Empty => e.elim) (dt_w (dw_or (dt_cmp op_ge ge_ok (de_var 2) (de_var 3) (nomark _)) (dw_or1 (dt_w (dw_and (dt_cmp op_gt gt_ok (de_var 1) de_int (nomark _)) (dw_and1 (dt_cmp op_lt (int2_ok fun _ _ _ _ _ => Rep.bl) (de_var 2) (de_ix (de_ix (de_var 0) (de_sub (de_var 1) de_int)) de_int) (nomark _)))))))) (ds_ret de_bl (EnvLe.noth rfl)) (EnvLe.noth rfl) (ds_nil (t := ()) (show EnvLe _ _ from (.keep (.drop (.drop (.drop .nil)))))) rfl))) (fun s294 => (show DS _ _ _ [some work292, none, none, none] _ _ _ _ from (ds_ret de_bl (EnvLe.noth rfl))))))
theorem ok_law_is_work {P : Program} {w : World} {K : Fg} {mg : Str → Option Value} {base : Heap} (T : Tx w K mg) : Cal P w K mg base "_law_is_work" 1 1 (app1 f_law_is_work) := Dfn.cal T.d_law_is_work fun _ _ F => fo_law_is_work T F
theorem fo_law_are_limits {P : Program} {w : World} {K : Fg} {mg : Str → Option Value} {base : Heap} (T : Tx w K mg) {f : Addr} {fd : FuncData} (F : Fun K "_law_are_limits" "_law_are_limits" s_law_are_limits f fd) : FnOk P w K mg base (L2N.CX P w) 1 f fd ["_law_limits"] (spD K mg 1 (app1 f_law_are_limits)) := by
  refine fn1 (N := ["_law_limits"]) (mk := fun _ : Unit => [none]) (lp := fun e : Empty => e.elim) (mc := b_law_are_limits) F sc_law_are_limits rfl fun cdv A outer s H E hr limits319 => ?_
  unfold b_law_are_limits
  exact (show DS _ _ _ [some limits319] _ _ _ _ from (ds_ret (de_and (de_ge (de_minT rfl T.no_min (de_var 0)) de_int) (de_one (de_ge (de_ix (de_var 0) de_int) (de_ix (de_var 0) de_int)))) (EnvLe.noth rfl)))
theorem ok_law_are_limits {P : Program} {w : World} {K : Fg} {mg : Str → Option Value} {base : Heap} (T : Tx w K mg) : Cal P w K mg base "_law_are_limits" 1 1 (app1 f_law_are_limits) := Dfn.cal T.d_law_are_limits fun _ _ F => fo_law_are_limits T F
theorem fo_law_read {P : Program} {w : World} {K : Fg} {mg : Str → Option Value} {base : Heap} (T : Tx w K mg) (c_law_head_of : Cal P w K mg base "_law_head_of" 2 1 (app1 f_law_head_of)) (c_law_line_of : Cal P w K mg base "_law_line_of" 2 1 (app1 f_law_line_of)) (c_law_is_work : Cal P w K mg base "_law_is_work" 1 1 (app1 f_law_is_work)) (c_law_are_limits : Cal P w K mg base "_law_are_limits" 1 1 (app1 f_law_are_limits)) {f : Addr} {fd : FuncData} (F : Fun K "_law_read" "_law_read" s_law_read f fd) : FnOk P w K mg base (L2N.CX P w) 3 f fd ["_law_text"] (spD K mg 1 (app1 f_law_read)) := by
  refine fn1 (N := ["_law_text", "_law_rows", "_law_head_here", "_law_lines", "_law_row"]) (mk := fun _ : Unit => [none, none, none, none, none]) (lp := fun e : Empty => e.elim) (mc := b_law_read) F sc_law_read rfl fun cdv A outer s H E hr text331 => ?_
  unfold b_law_read c_law_read_1
  exact (show DS _ _ _ [some text331, none, none, none, none] _ _ _ _ from (ds_ifr (fun e : Empty => e.elim) (dt_w (dw_or (dt_not (dt_tru (de_isi "str" T.no_isinstance T.no_str (by decide +kernel) (by decide +kernel) (de_var 0)))) (dw_or1 (dt_cmp op_notIn_sign signN_ok de_str (de_var 0) (by rfl))))) (ds_ret de_str (EnvLe.noth rfl)) (EnvLe.noth rfl) (ds_set 1 sc_law_read.nd (fun rows341 => [some text331, some rows341, none, none, none]) (de_slice (de_split (de_var 0) de_str) do_none (do_some (de_neg de_int))) (EnvLe.noth rfl) (fun rows341 => (ds_set 2 sc_law_read.nd (fun head_here349 => [some text331, some rows341, some head_here349, none, none]) (de_p1 c_law_head_of (hr.mono (by decide)) (L2N.takes_of rfl rfl rfl rfl) (de_ix (de_var 1) de_int)) (EnvLe.noth rfl) (fun head_here349 => (ds_setLc 3 (own := [("_law_row", 4)]) rfl sc_law_read.nd (di_seq (de_slice (de_var 1) (do_some de_int) do_none)) (blkOk_by (by show blkC [("_law_text" : Str), ("_law_rows" : Str), ("_law_head_here" : Str), ("_law_lines" : Str), ("_law_row" : Str)] (defScope s_law_read) _ _ = true; decide +kernel)) (by decide) (fun _ _ _ _ _ => (dg_name 4 sc_law_read.nd)) (fun _ _ _ _ _ p361 => (show PTs _ _ (TC _ _ W0 RB [some text331, some rows341, some head_here349, none, some p361] _) from dts_nil)) (fun _ _ _ _ _ p361 => (show DE _ W0 [some text331, some rows341, some head_here349, none, some p361] _ _ from (de_p1 c_law_line_of (hr.mono (by decide)) takes0N (de_var 4)))) (fun lines353 => [some text331, some rows341, some head_here349, some lines353, none]) (EnvLe.noth rfl) (fun lines353 => (ds_ifr (fun e : Empty => e.elim) (dt_w (dw_or (dt_cmp op_isC isM_ok (de_var 2) de_non (nomark _)) (dw_or1 (dt_inD (hu66 hr) de_non (de_var 3))))) (ds_ret de_str (EnvLe.noth rfl)) (EnvLe.noth rfl) (ds_ifr (fun e : Empty => e.elim) (dt_not (dt_tru (de_p1 c_law_is_work (hr.mono (by decide)) (L2N.takes_of rfl rfl rfl rfl) (de_ix (de_var 2) de_int)))) (ds_ret de_str (EnvLe.noth rfl)) (EnvLe.noth rfl) (ds_ifr (fun e : Empty => e.elim) (dt_not (dt_tru (de_p1 c_law_are_limits (hr.mono (by decide)) (L2N.takes_of rfl rfl rfl rfl) (de_ix (de_var 2) de_int)))) (ds_ret de_str (EnvLe.noth rfl)) (EnvLe.noth rfl) (ds_ret (de_add (de_add (de_tup (da_one (de_ix (de_var 2) de_int))) (de_ix (de_var 2) de_int)) (de_tup (da_one (de_tuple T.no_tuple (de_var 3))))) (EnvLe.noth rfl)) rfl) rfl) rfl))))))) rfl))
theorem ok_law_read {P : Program} {w : World} {K : Fg} {mg : Str → Option Value} {base : Heap} (T : Tx w K mg) (c_law_head_of : Cal P w K mg base "_law_head_of" 2 1 (app1 f_law_head_of)) (c_law_line_of : Cal P w K mg base "_law_line_of" 2 1 (app1 f_law_line_of)) (c_law_is_work : Cal P w K mg base "_law_is_work" 1 1 (app1 f_law_is_work)) (c_law_are_limits : Cal P w K mg base "_law_are_limits" 1 1 (app1 f_law_are_limits)) : Cal P w K mg base "_law_read" 3 1 (app1 f_law_read) := Dfn.cal T.d_law_read fun _ _ F => fo_law_read T c_law_head_of c_law_line_of c_law_is_work c_law_are_limits F
theorem fo_need {P : Program} {w : World} {K : Fg} {mg : Str → Option Value} {base : Heap} (T : Tx w K mg) {f : Addr} {fd : FuncData} (F : Fun K "need" "need" s_need f fd) : FnOk P w K mg base (L2N.CX P w) 1 f fd ["good"] (spD K mg 1 (app1 f_need)) := by
  refine fn1 (N := ["good"]) (mk := fun _ : Unit => [none]) (lp := fun e : Empty => e.elim) (mc := b_need) F sc_need rfl fun cdv A outer s H E hr good402 => ?_
  unfold b_need
  exact (show DS _ _ _ [some good402] _ _ _ _ from (ds_ifr (fun e : Empty => e.elim) (dt_not (dt_tru (de_var 0))) (ds_raiseE T.x_NoText rfl (L2N.takes_of rfl rfl rfl rfl) (EnvLe.noth rfl)) (EnvLe.noth rfl) (ds_nil (t := ()) (show EnvLe _ _ from (.drop .nil))) rfl))
theorem ok_need {P : Program} {w : World} {K : Fg} {mg : Str → Option Value} {base : Heap} (T : Tx w K mg) : Cal P w K mg base "need" 1 1 (app1 f_need) := Dfn.cal T.d_need fun _ _ F => fo_need T F
theorem fo_whole_rows {P : Program} {w : World} {K : Fg} {mg : Str → Option Value} {base : Heap} (T : Tx w K mg) (c_need : Cal P w K mg base "need" 1 1 (app1 f_need)) {f : Addr} {fd : FuncData} (F : Fun K "whole_rows" "whole_rows" s_whole_rows f fd) : FnOk P w K mg base (L2N.CX P w) 2 f fd ["text"] (spD K mg 1 (app1 f_whole_rows)) := by
  refine fn1 (N := ["text", "rows"]) (mk := fun _ : Unit => [none, none]) (lp := fun e : Empty => e.elim) (mc := b_whole_rows) F sc_whole_rows rfl fun cdv A outer s H E hr text406 => ?_
  unfold b_whole_rows
  exact (show DS _ _ _ [some text406, none] _ _ _ _ from (ds_expr (de_p1 c_need (hr.mono (by decide)) (L2N.takes_of rfl rfl rfl rfl) (de_isi "str" T.no_isinstance T.no_str (by decide +kernel) (by decide +kernel) (de_var 0))) (EnvLe.noth rfl) (ds_set 1 sc_whole_rows.nd (fun rows409 => [some text406, some rows409]) (de_slice (de_split (de_var 0) de_str) do_none (do_some (de_neg de_int))) (EnvLe.noth rfl) (fun rows409 => (ds_expr (de_p1 c_need (hr.mono (by decide)) (L2N.takes_of rfl rfl rfl rfl) (de_ne (hu64 hr) (de_var 1) (de_lst da_nil))) (EnvLe.noth rfl) (ds_ret (de_var 1) (EnvLe.noth rfl)))))))
theorem ok_whole_rows {P : Program} {w : World} {K : Fg} {mg : Str → Option Value} {base : Heap} (T : Tx w K mg) (c_need : Cal P w K mg base "need" 1 1 (app1 f_need)) : Cal P w K mg base "whole_rows" 2 1 (app1 f_whole_rows) := Dfn.cal T.d_whole_rows fun _ _ F => fo_whole_rows T c_need F
theorem fo_words_in {P : Program} {w : World} {K : Fg} {mg : Str → Option Value} {base : Heap} (T : Tx w K mg) (c_need : Cal P w K mg base "need" 1 1 (app1 f_need)) {f : Addr} {fd : FuncData} (F : Fun K "words_in" "words_in" s_words_in f fd) : FnOk P w K mg base (L2N.CX P w) 2 f fd ["row"] (spD K mg 1 (app1 f_words_in)) := by
  refine fn1 (N := ["row", "words"]) (mk := fun _ : Unit => [none, none]) (lp := fun e : Empty => e.elim) (mc := b_words_in) F sc_words_in rfl fun cdv A outer s H E hr row422 => ?_
  unfold b_words_in
  exact (show DS _ _ _ [some row422, none] _ _ _ _ from (ds_set 1 sc_words_in.nd (fun words423 => [some row422, some words423]) (de_split (de_var 0) de_str) (EnvLe.noth rfl) (fun words423 => (ds_expr (de_p1 c_need (hr.mono (by decide)) (L2N.takes_of rfl rfl rfl rfl) (de_notin de_str (de_var 1))) (EnvLe.noth rfl) (ds_ret (de_var 1) (EnvLe.noth rfl))))))
theorem ok_words_in {P : Program} {w : World} {K : Fg} {mg : Str → Option Value} {base : Heap} (T : Tx w K mg) (c_need : Cal P w K mg base "need" 1 1 (app1 f_need)) : Cal P w K mg base "words_in" 2 1 (app1 f_words_in) := Dfn.cal T.d_words_in fun _ _ F => fo_words_in T c_need F
theorem fo_is_number {P : Program} {w : World} {K : Fg} {mg : Str → Option Value} {base : Heap} (T : Tx w K mg) {f : Addr} {fd : FuncData} (F : Fun K "is_number" "is_number" s_is_number f fd) : FnOk P w K mg base (L2N.CX P w) 1 f fd ["word"] (spD K mg 1 (app1 f_is_number)) := by
  refine fn1 (N := ["word", "figures", "sign"]) (mk := fun _ : Unit => [none, none, none]) (lp := fun e : Empty => e.elim) (mc := b_is_number) F sc_is_number rfl fun cdv A outer s H E hr word430 => ?_
  unfold b_is_number c_is_number_1
  exact (show DS _ _ _ [some word430, none, none] _ _ _ _ from (ds_set 1 sc_is_number.nd (fun figures431 => [some word430, some figures431, none]) (de_var 0) (EnvLe.noth rfl) (fun figures431 => (ds_if (mk' := fun t : D => [some word430, some t, none]) (dt_cmp (op_eqX (hu64 hr)) eq_ok (de_slice (de_var 0) do_none (do_some de_int)) de_str (nomark _)) (ds_set 1 sc_is_number.nd (fun figures440 => [some word430, some figures440, none]) (de_slice (de_var 0) (do_some de_int) do_none) (EnvLe.noth rfl) (fun figures440 => (ds_nil (t := figures440) (EnvLe.refl _)))) (ds_nil (t := figures431) (EnvLe.refl _)) (EnvLe.noth rfl) (fun s445 => (show DS _ _ _ [some word430, some s445, none] _ _ _ _ from (ds_ifr (fun e : Empty => e.elim) (dt_w (dw_or (dt_not (dt_chain op_le (int2_ok fun _ _ _ _ _ => Rep.bl) op_le (int2_ok fun _ _ _ _ _ => Rep.bl) de_int (de_len T.no_len (de_var 1)) (de_glob T.g_MOST_FIGURES))) (dw_or1 (dt_not (dt_tru (de_all rfl T.no_all (de_lc (own := [("sign", 2)]) rfl sc_is_number.nd (di_str (de_var 1)) (blkOk_by (by show blkC [("word" : Str), ("figures" : Str), ("sign" : Str)] (defScope s_is_number) _ _ = true; decide +kernel)) (by decide) (fun _ _ _ _ _ => (dg_name 2 sc_is_number.nd)) (fun _ _ _ _ _ p454 => (show PTs _ _ (TC _ _ W0 RB [some word430, some s445, some p454] _) from dts_nil)) (fun _ _ _ _ _ p454 => (show DE _ W0 [some word430, some s445, some p454] _ _ from (de_signin (de_var 2) (de_glob T.g_FIGURES))))))))))) (ds_ret de_bl (EnvLe.noth rfl)) (EnvLe.noth rfl) (ds_ret (de_or (de_ne (hu64 hr) (de_ix (de_var 1) de_int) de_str) (de_one (de_eq (hu64 hr) (de_var 0) de_str))) (EnvLe.noth rfl)) rfl)))))))
theorem ok_is_number {P : Program} {w : World} {K : Fg} {mg : Str → Option Value} {base : Heap} (T : Tx w K mg) : Cal P w K mg base "is_number" 1 1 (app1 f_is_number) := Dfn.cal T.d_is_number fun _ _ F => fo_is_number T F
theorem fo_number_in {P : Program} {w : World} {K : Fg} {mg : Str → Option Value} {base : Heap} (T : Tx w K mg) (c_need : Cal P w K mg base "need" 1 1 (app1 f_need)) (c_is_number : Cal P w K mg base "is_number" 1 1 (app1 f_is_number)) {f : Addr} {fd : FuncData} (F : Fun K "number_in" "number_in" s_number_in f fd) : FnOk P w K mg base (L2N.CX P w) 2 f fd ["word"] (spD K mg 1 (app1 f_number_in)) := by
  refine fn1 (N := ["word"]) (mk := fun _ : Unit => [none]) (lp := fun e : Empty => e.elim) (mc := b_number_in) F sc_number_in rfl fun cdv A outer s H E hr word473 => ?_
  unfold b_number_in
  exact (show DS _ _ _ [some word473] _ _ _ _ from (ds_expr (de_p1 c_need (hr.mono (by decide)) (L2N.takes_of rfl rfl rfl rfl) (de_p1 c_is_number (hr.mono (by decide)) (L2N.takes_of rfl rfl rfl rfl) (de_var 0))) (EnvLe.noth rfl) (ds_ret (de_intf T.no_int (de_var 0)) (EnvLe.noth rfl))))
theorem ok_number_in {P : Program} {w : World} {K : Fg} {mg : Str → Option Value} {base : Heap} (T : Tx w K mg) (c_need : Cal P w K mg base "need" 1 1 (app1 f_need)) (c_is_number : Cal P w K mg base "is_number" 1 1 (app1 f_is_number)) : Cal P w K mg base "number_in" 2 1 (app1 f_number_in) := Dfn.cal T.d_number_in fun _ _ F => fo_number_in T c_need c_is_number F
theorem fo_numbers_in {P : Program} {w : World} {K : Fg} {mg : Str → Option Value} {base : Heap} (T : Tx w K mg) (c_number_in : Cal P w K mg base "number_in" 2 1 (app1 f_number_in)) {f : Addr} {fd : FuncData} (F : Fun K "numbers_in" "numbers_in" s_numbers_in f fd) : FnOk P w K mg base (L2N.CX P w) 3 f fd ["words"] (spD K mg 1 (app1 f_numbers_in)) := by
  refine fn1 (N := ["words", "word"]) (mk := fun _ : Unit => [none, none]) (lp := fun e : Empty => e.elim) (mc := b_numbers_in) F sc_numbers_in rfl fun cdv A outer s H E hr words478 => ?_
  unfold b_numbers_in c_numbers_in_1
  exact (show DS _ _ _ [some words478, none] _ _ _ _ from (ds_ret (de_tuple T.no_tuple (de_lcx (own := [("word", 1)]) rfl sc_numbers_in.nd rfl rfl (L2N.takes_of rfl rfl rfl rfl) (di_seq (de_var 0)) (blkOk_by (by show blkC [("words" : Str), ("word" : Str)] (defScope s_numbers_in) _ _ = true; decide +kernel)) (by decide) (fun _ _ _ _ _ => (dg_name 1 sc_numbers_in.nd)) (fun _ _ _ _ _ _ _ _ tk p482 => (show DE _ _ [some words478, some p482] _ _ from (de_p1 c_number_in (hr.mono (by decide)) tk (de_var 1)))))) (EnvLe.noth rfl)))
theorem ok_numbers_in {P : Program} {w : World} {K : Fg} {mg : Str → Option Value} {base : Heap} (T : Tx w K mg) (c_number_in : Cal P w K mg base "number_in" 2 1 (app1 f_number_in)) : Cal P w K mg base "numbers_in" 3 1 (app1 f_numbers_in) := Dfn.cal T.d_numbers_in fun _ _ F => fo_numbers_in T c_number_in F
theorem fo_head_in {P : Program} {w : World} {K : Fg} {mg : Str → Option Value} {base : Heap} (T : Tx w K mg) (c_need : Cal P w K mg base "need" 1 1 (app1 f_need)) (c_words_in : Cal P w K mg base "words_in" 2 1 (app1 f_words_in)) (c_numbers_in : Cal P w K mg base "numbers_in" 3 1 (app1 f_numbers_in)) {f : Addr} {fd : FuncData} (F : Fun K "head_in" "head_in" s_head_in f fd) : FnOk P w K mg base (L2N.CX P w) 4 f fd ["row"] (spD K mg 1 (app1 f_head_in)) := by
  refine fn1 (N := ["row", "words", "places", "work", "k"]) (mk := fun _ : Unit => [none, none, none, none, none]) (lp := fun e : Empty => e.elim) (mc := b_head_in) F sc_head_in rfl fun cdv A outer s H E hr row488 => ?_
  unfold b_head_in c_head_in_1
  exact (show DS _ _ _ [some row488, none, none, none, none] _ _ _ _ from (ds_set 1 sc_head_in.nd (fun words489 => [some row488, some words489, none, none, none]) (de_p1 c_words_in (hr.mono (by decide)) (L2N.takes_of rfl rfl rfl rfl) (de_var 0)) (EnvLe.noth rfl) (fun words489 => (ds_expr (de_p1 c_need (hr.mono (by decide)) (L2N.takes_of rfl rfl rfl rfl) (de_and (de_ge (de_len T.no_len (de_var 1)) de_int) (de_and (de_eq (hu64 hr) (de_mod (de_len T.no_len (de_var 1)) de_int) de_int) (de_one (de_eq (hu64 hr) (de_ix (de_var 1) de_int) de_str))))) (EnvLe.noth rfl) (ds_expr (de_p1 c_need (hr.mono (by decide)) (L2N.takes_of rfl rfl rfl rfl) (de_eq (hu64 hr) (de_tuple T.no_tuple (de_step (by decide) (de_var 1) (do_some (de_neg de_int)))) (de_glob T.g_BOUNDS))) (EnvLe.noth rfl) (ds_set 2 sc_head_in.nd (fun places514 => [some row488, some words489, some places514, none, none]) (de_p1 c_numbers_in (hr.mono (by decide)) (L2N.takes_of rfl rfl rfl rfl) (de_slice (de_var 1) (do_some de_int) (do_some (de_neg de_int)))) (EnvLe.noth rfl) (fun places514 => (ds_set 3 sc_head_in.nd (fun work522 => [some row488, some words489, some places514, some work522, none]) (de_tuple T.no_tuple (de_lc (own := [("k", 4)]) rfl sc_head_in.nd (di_range3 T.no_range de_int (de_len T.no_len (de_var 2)) de_int) (blkOk_by (by show blkC [("row" : Str), ("words" : Str), ("places" : Str), ("work" : Str), ("k" : Str)] (defScope s_head_in) _ _ = true; decide +kernel)) (by decide) (fun _ _ _ _ _ => (dg_name 4 sc_head_in.nd)) (fun _ _ _ _ _ p529 => (show PTs _ _ (TC _ _ W0 RB [some row488, some words489, some places514, none, some p529] _) from dts_nil)) (fun _ _ _ _ _ p529 => (show DE _ W0 [some row488, some words489, some places514, none, some p529] _ _ from (de_tup (da_two (de_ix (de_var 2) (de_var 4)) (de_ix (de_var 2) (de_add (de_var 4) de_int)))))))) (EnvLe.noth rfl) (fun work522 => (ds_ret (de_add (de_tup (da_one (de_var 3))) (de_p1 c_numbers_in (hr.mono (by decide)) (L2N.takes_of rfl rfl rfl rfl) (de_step (by decide) (de_var 1) (do_some (de_neg de_int))))) (EnvLe.noth rfl)))))))))))
theorem ok_head_in {P : Program} {w : World} {K : Fg} {mg : Str → Option Value} {base : Heap} (T : Tx w K mg) (c_need : Cal P w K mg base "need" 1 1 (app1 f_need)) (c_words_in : Cal P w K mg base "words_in" 2 1 (app1 f_words_in)) (c_numbers_in : Cal P w K mg base "numbers_in" 3 1 (app1 f_numbers_in)) : Cal P w K mg base "head_in" 4 1 (app1 f_head_in) := Dfn.cal T.d_head_in fun _ _ F => fo_head_in T c_need c_words_in c_numbers_in F
theorem fo_is_whole {P : Program} {w : World} {K : Fg} {mg : Str → Option Value} {base : Heap} (T : Tx w K mg) {f : Addr} {fd : FuncData} (F : Fun K "is_whole" "is_whole" s_is_whole f fd) : FnOk P w K mg base (L2N.CX P w) 1 f fd ["thing"] (spD K mg 1 (app1 f_is_whole)) := by
  refine fn1 (N := ["thing"]) (mk := fun _ : Unit => [none]) (lp := fun e : Empty => e.elim) (mc := b_is_whole) F sc_is_whole rfl fun cdv A outer s H E hr thing552 => ?_
  unfold b_is_whole
  exact (show DS _ _ _ [some thing552] _ _ _ _ from (ds_ret (de_and (de_isi "int" T.no_isinstance T.no_int (by decide +kernel) (by decide +kernel) (de_var 0)) (de_and (de_isnot (de_var 0) de_bl) (de_one (de_isnot (de_var 0) de_bl)))) (EnvLe.noth rfl)))
theorem ok_is_whole {P : Program} {w : World} {K : Fg} {mg : Str → Option Value} {base : Heap} (T : Tx w K mg) : Cal P w K mg base "is_whole" 1 1 (app1 f_is_whole) := Dfn.cal T.d_is_whole fun _ _ F => fo_is_whole T F
theorem fo_is_stretch {P : Program} {w : World} {K : Fg} {mg : Str → Option Value} {base : Heap} (T : Tx w K mg) (c_is_whole : Cal P w K mg base "is_whole" 1 1 (app1 f_is_whole)) {f : Addr} {fd : FuncData} (F : Fun K "is_stretch" "is_stretch" s_is_stretch f fd) : FnOk P w K mg base (L2N.CX P w) 2 f fd ["thing"] (spD K mg 1 (app1 f_is_stretch)) := by
  refine fn1 (N := ["thing"]) (mk := fun _ : Unit => [none]) (lp := fun e : Empty => e.elim) (mc := b_is_stretch) F sc_is_stretch rfl fun cdv A outer s H E hr thing561 => ?_
  unfold b_is_stretch
  exact (show DS _ _ _ [some thing561] _ _ _ _ from (ds_ifr (fun e : Empty => e.elim) (dt_w (dw_or (dt_not (dt_tru (de_isi "tuple" T.no_isinstance T.no_tuple (by decide +kernel) (by decide +kernel) (de_var 0)))) (dw_or1 (dt_cmp (op_neX (hu64 hr)) ne_ok (de_len T.no_len (de_var 0)) de_int (nomark _))))) (ds_ret de_bl (EnvLe.noth rfl)) (EnvLe.noth rfl) (ds_ret (de_and (de_p1 c_is_whole (hr.mono (by decide)) (L2N.takes_of rfl rfl rfl rfl) (de_ix (de_var 0) de_int)) (de_and (de_p1 c_is_whole (hr.mono (by decide)) (L2N.takes_of rfl rfl rfl rfl) (de_ix (de_var 0) de_int)) (de_one (de_lt (de_ix (de_var 0) de_int) (de_ix (de_var 0) de_int))))) (EnvLe.noth rfl)) rfl))
theorem ok_is_stretch {P : Program} {w : World} {K : Fg} {mg : Str → Option Value} {base : Heap} (T : Tx w K mg) (c_is_whole : Cal P w K mg base "is_whole" 1 1 (app1 f_is_whole)) : Cal P w K mg base "is_stretch" 2 1 (app1 f_is_stretch) := Dfn.cal T.d_is_stretch fun _ _ F => fo_is_stretch T c_is_whole F
theorem fo_check_work {P : Program} {w : World} {K : Fg} {mg : Str → Option Value} {base : Heap} (T : Tx w K mg) (c_is_stretch : Cal P w K mg base "is_stretch" 2 1 (app1 f_is_stretch)) {f : Addr} {fd : FuncData} (F : Fun K "check_work" "check_work" s_check_work f fd) : FnOk P w K mg base (L2N.CX P w) 3 f fd ["work"] (spD K mg 1 (app1 f_check_work)) := by
  refine fn1 (N := ["work", "one", "other"]) (mk := fun _ : Unit => [none, none, none]) (lp := fun e : Empty => e.elim) (mc := b_check_work) F sc_check_work rfl fun cdv A outer s H E hr work587 => ?_
  unfold b_check_work l_check_work_2 c_check_work_1
  exact (show DS _ _ _ [some work587, none, none] _ _ _ _ from (ds_ifr (fun e : Empty => e.elim) (dt_w (dw_or (dt_not (dt_tru (de_isi "tuple" T.no_isinstance T.no_tuple (by decide +kernel) (by decide +kernel) (de_var 0)))) (dw_or1 (dt_not (dt_tru (de_all rfl T.no_all (de_lc (own := [("one", 1)]) rfl sc_check_work.nd (di_seq (de_var 0)) (blkOk_by (by show blkC [("work" : Str), ("one" : Str), ("other" : Str)] (defScope s_check_work) _ _ = true; decide +kernel)) (by decide) (fun _ _ _ _ _ => (dg_name 1 sc_check_work.nd)) (fun _ _ _ _ _ p594 => (show PTs _ _ (TC _ _ W0 RB [some work587, some p594, none] _) from dts_nil)) (fun _ _ _ _ _ p594 => (show DE _ W0 [some work587, some p594, none] _ _ from (de_p1 c_is_stretch (hr.mono (by decide)) takes0N (de_var 1))))))))))) (ds_raiseE T.x_BadWork rfl (L2N.takes_of rfl rfl rfl rfl) (EnvLe.noth rfl)) (EnvLe.noth rfl) (ds_for (mkL := fun t : Unit => [some work587, none, none]) (t0 := ()) (passes_of rfl) rfl (di_zip T.no_zip (de_var 0) (de_slice (de_var 0) (do_some de_int) do_none)) (dg_tup rfl (dgs_cons (dg_name 1 sc_check_work.nd) (dgs_cons (dg_name 2 sc_check_work.nd) dgs_nil)) (uCons_l (uCons_l uNil_l))) (EnvLe.refl _) (EnvLe.noth rfl) (fun p613 t603 => (show DS _ _ _ [some work587, some p613.1, some p613.2.1] _ _ _ _ from (ds_ifr (fun e : Empty => e.elim) (dt_cmp op_lt (int2_ok fun _ _ _ _ _ => Rep.bl) (de_ix (de_var 2) de_int) (de_ix (de_var 1) de_int) (nomark _)) (ds_raiseE T.x_BadWork rfl (L2N.takes_of rfl rfl rfl rfl) (EnvLe.noth rfl)) (EnvLe.noth rfl) (ds_nil (t := ()) (show EnvLe _ _ from (.keep (.drop (.drop .nil))))) rfl))) (fun s604 => (show DS _ _ _ [some work587, none, none] _ _ _ _ from (ds_nil (t := ()) (show EnvLe _ _ from (.drop (.keep (.keep .nil)))))))) rfl))
theorem ok_check_work {P : Program} {w : World} {K : Fg} {mg : Str → Option Value} {base : Heap} (T : Tx w K mg) (c_is_stretch : Cal P w K mg base "is_stretch" 2 1 (app1 f_is_stretch)) : Cal P w K mg base "check_work" 3 1 (app1 f_check_work) := Dfn.cal T.d_check_work fun _ _ F => fo_check_work T c_is_stretch F
theorem fo_check_bounds {P : Program} {w : World} {K : Fg} {mg : Str → Option Value} {base : Heap} (T : Tx w K mg) (c_is_whole : Cal P w K mg base "is_whole" 1 1 (app1 f_is_whole)) {f : Addr} {fd : FuncData} (F : Fun K "check_bounds" "check_bounds" s_check_bounds f fd) : FnOk P w K mg base (L2N.CX P w) 2 f fd ["span", "every", "least"] (spD K mg 3 (app3 f_check_bounds)) := by
  refine fn3 (N := ["span", "every", "least", "bound"]) (mk := fun _ : Unit => [none, none, none, none]) (lp := fun e : Empty => e.elim) (mc := b_check_bounds) F sc_check_bounds rfl fun cdv A outer s H E hr span622 every623 least624 => ?_
  unfold b_check_bounds l_check_bounds_1
  exact (show DS _ _ _ [some span622, some every623, some least624, none] _ _ _ _ from (ds_for (mkL := fun t : Unit => [some span622, some every623, some least624, none]) (t0 := ()) (passes_of rfl) rfl (di_seq (de_tup (da_cons (de_var 0) (da_two (de_var 1) (de_var 2))))) (dg_name 3 sc_check_bounds.nd) (EnvLe.refl _) (EnvLe.noth rfl) (fun p635 t625 => (show DS _ _ _ [some span622, some every623, some least624, some p635] _ _ _ _ from (ds_ifr (fun e : Empty => e.elim) (dt_w (dw_or (dt_not (dt_tru (de_p1 c_is_whole (hr.mono (by decide)) (L2N.takes_of rfl rfl rfl rfl) (de_var 3)))) (dw_or1 (dt_cmp op_lt (int2_ok fun _ _ _ _ _ => Rep.bl) (de_var 3) de_int (nomark _))))) (ds_raiseE T.x_BadBound rfl (L2N.takes_of rfl rfl rfl rfl) (EnvLe.noth rfl)) (EnvLe.noth rfl) (ds_nil (t := ()) (show EnvLe _ _ from (.keep (.keep (.keep (.drop .nil)))))) rfl))) (fun s626 => (show DS _ _ _ [some span622, some every623, some least624, none] _ _ _ _ from (ds_ifr (fun e : Empty => e.elim) (dt_cmp op_lt (int2_ok fun _ _ _ _ _ => Rep.bl) (de_var 2) (de_var 1) (nomark _)) (ds_raiseE T.x_BadBound rfl (L2N.takes_of rfl rfl rfl rfl) (EnvLe.noth rfl)) (EnvLe.noth rfl) (ds_nil (t := ()) (show EnvLe _ _ from (.drop (.drop (.drop (.keep .nil)))))) rfl)))))
theorem ok_check_bounds {P : Program} {w : World} {K : Fg} {mg : Str → Option Value} {base : Heap} (T : Tx w K mg) (c_is_whole : Cal P w K mg base "is_whole" 1 1 (app1 f_is_whole)) : Cal P w K mg base "check_bounds" 2 3 (app3 f_check_bounds) := Dfn.cal T.d_check_bounds fun _ _ F => fo_check_bounds T c_is_whole F
theorem fo_line_in {P : Program} {w : World} {K : Fg} {mg : Str → Option Value} {base : Heap} (T : Tx w K mg) (c_need : Cal P w K mg base "need" 1 1 (app1 f_need)) (c_words_in : Cal P w K mg base "words_in" 2 1 (app1 f_words_in)) (c_number_in : Cal P w K mg base "number_in" 2 1 (app1 f_number_in)) (c_numbers_in : Cal P w K mg base "numbers_in" 3 1 (app1 f_numbers_in)) {f : Addr} {fd : FuncData} (F : Fun K "line_in" "line_in" s_line_in f fd) : FnOk P w K mg base (L2N.CX P w) 4 f fd ["row"] (spD K mg 1 (app1 f_line_in)) := by
  refine fn1 (N := ["row", "words", "numbers"]) (mk := fun _ : Unit => [none, none, none]) (lp := fun e : Empty => e.elim) (mc := b_line_in) F sc_line_in rfl fun cdv A outer s H E hr row648 => ?_
  unfold b_line_in
  exact (show DS _ _ _ [some row648, none, none] _ _ _ _ from (ds_set 1 sc_line_in.nd (fun words649 => [some row648, some words649, none]) (de_p1 c_words_in (hr.mono (by decide)) (L2N.takes_of rfl rfl rfl rfl) (de_var 0)) (EnvLe.noth rfl) (fun words649 => (ds_ifr (fun e : Empty => e.elim) (dt_cmp (op_eqX (hu64 hr)) eq_ok (de_ix (de_var 1) de_int) de_str (nomark _)) (ds_expr (de_p1 c_need (hr.mono (by decide)) (L2N.takes_of rfl rfl rfl rfl) (de_ge (de_len T.no_len (de_var 1)) de_int)) (EnvLe.noth rfl) (ds_set 2 sc_line_in.nd (fun numbers661 => [some row648, some words649, some numbers661]) (de_p1 c_numbers_in (hr.mono (by decide)) (L2N.takes_of rfl rfl rfl rfl) (de_slice (de_var 1) (do_some de_int) do_none)) (EnvLe.noth rfl) (fun numbers661 => (ds_ret (de_add (de_add (de_tup (da_one de_str)) (de_slice (de_var 2) do_none (do_some de_int))) (de_tup (da_one (de_slice (de_var 2) (do_some de_int) do_none)))) (EnvLe.noth rfl))))) (EnvLe.noth rfl) (ds_expr (de_p1 c_need (hr.mono (by decide)) (L2N.takes_of rfl rfl rfl rfl) (de_and (de_kin T.k_COUNTS (de_ix (de_var 1) de_int)) (de_one (de_eq (hu64 hr) (de_len T.no_len (de_var 1)) (de_kget T.k_COUNTS (de_ix (de_var 1) de_int)))))) (EnvLe.noth rfl) (ds_ifr (fun e : Empty => e.elim) (dt_cmp (op_eqX (hu64 hr)) eq_ok (de_ix (de_var 1) de_int) de_str (nomark _)) (ds_ret (de_add (de_tup (da_cons de_str (da_two (de_p1 c_number_in (hr.mono (by decide)) (L2N.takes_of rfl rfl rfl rfl) (de_ix (de_var 1) de_int)) (de_ix (de_var 1) de_int)))) (de_p1 c_numbers_in (hr.mono (by decide)) (L2N.takes_of rfl rfl rfl rfl) (de_slice (de_var 1) (do_some de_int) do_none))) (EnvLe.noth rfl)) (EnvLe.noth rfl) (ds_ret (de_add (de_tup (da_one (de_ix (de_var 1) de_int))) (de_p1 c_numbers_in (hr.mono (by decide)) (L2N.takes_of rfl rfl rfl rfl) (de_slice (de_var 1) (do_some de_int) do_none))) (EnvLe.noth rfl)) rfl)) rfl))))
theorem ok_line_in {P : Program} {w : World} {K : Fg} {mg : Str → Option Value} {base : Heap} (T : Tx w K mg) (c_need : Cal P w K mg base "need" 1 1 (app1 f_need)) (c_words_in : Cal P w K mg base "words_in" 2 1 (app1 f_words_in)) (c_number_in : Cal P w K mg base "number_in" 2 1 (app1 f_number_in)) (c_numbers_in : Cal P w K mg base "numbers_in" 3 1 (app1 f_numbers_in)) : Cal P w K mg base "line_in" 4 1 (app1 f_line_in) := Dfn.cal T.d_line_in fun _ _ F => fo_line_in T c_need c_words_in c_number_in c_numbers_in F
theorem fo_read_text {P : Program} {w : World} {K : Fg} {mg : Str → Option Value} {base : Heap} (T : Tx w K mg) (c_whole_rows : Cal P w K mg base "whole_rows" 2 1 (app1 f_whole_rows)) (c_head_in : Cal P w K mg base "head_in" 4 1 (app1 f_head_in)) (c_check_work : Cal P w K mg base "check_work" 3 1 (app1 f_check_work)) (c_check_bounds : Cal P w K mg base "check_bounds" 2 3 (app3 f_check_bounds)) (c_line_in : Cal P w K mg base "line_in" 4 1 (app1 f_line_in)) {f : Addr} {fd : FuncData} (F : Fun K "read_text" "read_text" s_read_text f fd) : FnOk P w K mg base (L2N.CX P w) 5 f fd ["text"] (spD K mg 1 (app1 f_read_text)) := by
  refine fn1 (N := ["text", "rows", "work", "span", "every", "least", "lines", "row"]) (mk := fun _ : Unit => [none, none, none, none, none, none, none, none]) (lp := fun e : Empty => e.elim) (mc := b_read_text) F sc_read_text rfl fun cdv A outer s H E hr text731 => ?_
  unfold b_read_text c_read_text_1
  exact (show DS _ _ _ [some text731, none, none, none, none, none, none, none] _ _ _ _ from (ds_set 1 sc_read_text.nd (fun rows732 => [some text731, some rows732, none, none, none, none, none, none]) (de_p1 c_whole_rows (hr.mono (by decide)) (L2N.takes_of rfl rfl rfl rfl) (de_var 0)) (EnvLe.noth rfl) (fun rows732 => (ds_unpack (de_p1 c_head_in (hr.mono (by decide)) (L2N.takes_of rfl rfl rfl rfl) (de_ix (de_var 1) de_int)) (dg_tup rfl (dgs_cons (dg_name 2 sc_read_text.nd) (dgs_cons (dg_name 3 sc_read_text.nd) (dgs_cons (dg_name 4 sc_read_text.nd) (dgs_cons (dg_name 5 sc_read_text.nd) dgs_nil)))) (uCons_l (uCons_l (uCons_l (uCons_l uNil_l))))) (EnvLe.noth rfl) (fun p738 => (show DS _ _ _ [some text731, some rows732, some p738.1, some p738.2.1, some p738.2.2.1, some p738.2.2.2.1, none, none] _ _ _ _ from (ds_set 6 sc_read_text.nd (fun lines739 => [some text731, some rows732, some p738.1, some p738.2.1, some p738.2.2.1, some p738.2.2.2.1, some lines739, none]) (de_tuple T.no_tuple (de_lcx (own := [("row", 7)]) rfl sc_read_text.nd rfl rfl (L2N.takes_of rfl rfl rfl rfl) (di_seq (de_slice (de_var 1) (do_some de_int) do_none)) (blkOk_by (by show blkC [("text" : Str), ("rows" : Str), ("work" : Str), ("span" : Str), ("every" : Str), ("least" : Str), ("lines" : Str), ("row" : Str)] (defScope s_read_text) _ _ = true; decide +kernel)) (by decide) (fun _ _ _ _ _ => (dg_name 7 sc_read_text.nd)) (fun _ _ _ _ _ _ _ _ tk p747 => (show DE _ _ [some text731, some rows732, some p738.1, some p738.2.1, some p738.2.2.1, some p738.2.2.2.1, none, some p747] _ _ from (de_p1 c_line_in (hr.mono (by decide)) tk (de_var 7)))))) (EnvLe.noth rfl) (fun lines739 => (ds_expr (de_p1 c_check_work (hr.mono (by decide)) (L2N.takes_of rfl rfl rfl rfl) (de_var 2)) (EnvLe.noth rfl) (ds_expr (de_p3 c_check_bounds (hr.mono (by decide)) (L2N.takes_of rfl rfl rfl rfl) (de_var 3) (de_var 4) (de_var 5)) (EnvLe.noth rfl) (ds_ret (de_tup (da_cons (de_var 2) (da_cons (de_var 3) (da_cons (de_var 4) (da_two (de_var 5) (de_var 6)))))) (EnvLe.noth rfl))))))))))))
theorem ok_read_text {P : Program} {w : World} {K : Fg} {mg : Str → Option Value} {base : Heap} (T : Tx w K mg) (c_whole_rows : Cal P w K mg base "whole_rows" 2 1 (app1 f_whole_rows)) (c_head_in : Cal P w K mg base "head_in" 4 1 (app1 f_head_in)) (c_check_work : Cal P w K mg base "check_work" 3 1 (app1 f_check_work)) (c_check_bounds : Cal P w K mg base "check_bounds" 2 3 (app3 f_check_bounds)) (c_line_in : Cal P w K mg base "line_in" 4 1 (app1 f_line_in)) : Cal P w K mg base "read_text" 5 1 (app1 f_read_text) := Dfn.cal T.d_read_text fun _ _ F => fo_read_text T c_whole_rows c_head_in c_check_work c_check_bounds c_line_in F
theorem fo_law_word {P : Program} {w : World} {K : Fg} {mg : Str → Option Value} {base : Heap} (T : Tx w K mg) {f : Addr} {fd : FuncData} (F : Fun K "_law_word" "_law_word" s_law_word f fd) (z766 : Str) (a C : Addr) (oe : Obj) (hz : L2N.Zn (.ref C) none oe) (hvs : ∃ vs, oe.data = .fields vs) (hzz : mg z766 = some (.ref C)) : L2H.FnP P w K mg base (L2N.CX P w) 1 f fd ["_law_e"] (a, oe) (spD K mg 1 (gE z766 a (f_law_word z766))) := by
  refine fnP1 (N := ["_law_e", "_law_kinds", "_law_words", "_law_found_here", "_law_word_here", "_law_one"]) (mk := fun _ : Unit => [none, none, none, none, none, none]) (lp := fun e : Empty => e.elim) (mc := b_law_word z766) F sc_law_word rfl fun cdv A outer s H E hot hr => ?_
  unfold b_law_word c_law_word_1
  exact (show DS _ _ _ [some (.exn z766 a), none, none, none, none, none] _ _ _ _ from (ds_set 1 sc_law_word.nd (fun kinds767 => [some (.exn z766 a), some kinds767, none, none, none, none]) (de_lst (da_cons (de_isP 0 T.ex List.mem_cons_self hz hvs hzz T.no_isinstance) (da_cons (de_isP 0 T.ex List.mem_cons_self hz hvs hzz T.no_isinstance) (da_two (de_isP 0 T.ex List.mem_cons_self hz hvs hzz T.no_isinstance) (de_isP 0 T.ex List.mem_cons_self hz hvs hzz T.no_isinstance))))) (EnvLe.noth rfl) (fun kinds767 => (ds_set 1 sc_law_word.nd (fun kinds775 => [some (.exn z766 a), some kinds775, none, none, none, none]) (de_add (de_var 1) (de_lst (da_cons (de_isP 0 T.ex List.mem_cons_self hz hvs hzz T.no_isinstance) (da_two (de_isP 0 T.ex List.mem_cons_self hz hvs hzz T.no_isinstance) (de_isP 0 T.ex List.mem_cons_self hz hvs hzz T.no_isinstance))))) (EnvLe.noth rfl) (fun kinds775 => (ds_set 1 sc_law_word.nd (fun kinds783 => [some (.exn z766 a), some kinds783, none, none, none, none]) (de_add (de_var 1) (de_lst (da_cons (de_isP 0 T.ex List.mem_cons_self hz hvs hzz T.no_isinstance) (da_two (de_isP 0 T.ex List.mem_cons_self hz hvs hzz T.no_isinstance) (de_isP 0 T.ex List.mem_cons_self hz hvs hzz T.no_isinstance))))) (EnvLe.noth rfl) (fun kinds783 => (ds_set 1 sc_law_word.nd (fun kinds791 => [some (.exn z766 a), some kinds791, none, none, none, none]) (de_add (de_var 1) (de_lst (da_cons (de_isP 0 T.ex List.mem_cons_self hz hvs hzz T.no_isinstance) (da_cons (de_isP 0 T.ex List.mem_cons_self hz hvs hzz T.no_isinstance) (da_two (de_isP 0 T.ex List.mem_cons_self hz hvs hzz T.no_isinstance) (de_isP 0 T.ex List.mem_cons_self hz hvs hzz T.no_isinstance)))))) (EnvLe.noth rfl) (fun kinds791 => (ds_set 1 sc_law_word.nd (fun kinds801 => [some (.exn z766 a), some kinds801, none, none, none, none]) (de_add (de_var 1) (de_lst (da_cons (de_isP 0 T.ex List.mem_cons_self hz hvs hzz T.no_isinstance) (da_two (de_isP 0 T.ex List.mem_cons_self hz hvs hzz T.no_isinstance) (de_isP 0 T.ex List.mem_cons_self hz hvs hzz T.no_isinstance))))) (EnvLe.noth rfl) (fun kinds801 => (ds_set 1 sc_law_word.nd (fun kinds809 => [some (.exn z766 a), some kinds809, none, none, none, none]) (de_add (de_var 1) (de_lst (da_cons (de_isP 0 T.ex List.mem_cons_self hz hvs hzz T.no_isinstance) (da_two (de_isP 0 T.ex List.mem_cons_self hz hvs hzz T.no_isinstance) (de_isP 0 T.ex List.mem_cons_self hz hvs hzz T.no_isinstance))))) (EnvLe.noth rfl) (fun kinds809 => (ds_set 2 sc_law_word.nd (fun words817 => [some (.exn z766 a), some kinds809, some words817, none, none, none]) (de_lst (da_cons de_str (da_cons de_str (da_cons de_str (da_cons de_str (da_cons de_str (da_cons de_str (da_cons de_str (da_cons de_str (da_cons de_str (da_two de_str de_str))))))))))) (EnvLe.noth rfl) (fun words817 => (ds_set 2 sc_law_word.nd (fun words839 => [some (.exn z766 a), some kinds809, some words839, none, none, none]) (de_add (de_var 2) (de_lst (da_cons de_str (da_cons de_str (da_cons de_str (da_cons de_str (da_cons de_str (da_cons de_str (da_cons de_str (da_two de_str de_str)))))))))) (EnvLe.noth rfl) (fun words839 => (ds_setLcQ 3 (own := [("_law_word_here", 4), ("_law_one", 5)]) (hotC_of hot) sc_law_word.nd (di_zipH T.no_zip (de_var 2) (de_var 1)) (blkOk_by (by show blkC [("_law_e" : Str), ("_law_kinds" : Str), ("_law_words" : Str), ("_law_found_here" : Str), ("_law_word_here" : Str), ("_law_one" : Str)] (defScope s_law_word) _ _ = true; decide +kernel)) (by decide) (fun _ _ _ _ _ => (dg_tupHh (hotC_of hot) (dgs_cons (dg_name 4 sc_law_word.nd) (dgs_cons (dg_name 5 sc_law_word.nd) dgs_nil)) (uCons_l (uCons_l uNil_l)))) (fun _ _ _ _ _ p864 => (show PTs _ _ (TC _ _ W0 RB [some (.exn z766 a), some kinds809, some words839, none, some p864.1, some p864.2.1] _) from (dts_one (dt_tru (de_var 5))))) (fun _ _ _ _ _ p864 => (show DE _ W0 [some (.exn z766 a), some kinds809, some words839, none, some p864.1, some p864.2.1] _ _ from (de_var 4))) (fun found_here859 => [some (.exn z766 a), some kinds809, some words839, some found_here859, none, none]) (EnvLe.noth rfl) (fun found_here859 => (ds_ret (de_ix (de_add (de_var 3) (de_lst (da_one de_str))) (de_mul (de_intf T.no_int (de_or (de_ne (hu64H hr) (de_len T.no_len (de_var 3)) de_int) (de_one (de_not (de_isP 0 T.ex List.mem_cons_self hz hvs hzz T.no_isinstance))))) (de_len T.no_len (de_var 3)))) (EnvLe.noth rfl)))))))))))))))))))))
theorem ok_law_word {P : Program} {w : World} {K : Fg} {mg : Str → Option Value} {base : Heap} (T : Tx w K mg) : CalP P w K mg base "_law_word" 1 f_law_word := T.d_law_word.calP fun _ _ F => fo_law_word T F
theorem fo_law_found {P : Program} {w : World} {K : Fg} {mg : Str → Option Value} {base : Heap} (T : Tx w K mg) (c_read_text : Cal P w K mg base "read_text" 5 1 (app1 f_read_text)) (c_law_word : CalP P w K mg base "_law_word" 1 f_law_word) {f : Addr} {fd : FuncData} (F : Fun K "_law_found" "_law_found" s_law_found f fd) : FnOk P w K mg base (L2N.CX P w) 6 f fd ["_law_text"] (spD K mg 1 (app1 f_law_found)) := by
  refine fn1 (N := ["_law_text", "_law_found_here", "_law_e"]) (mk := fun _ : Unit => [none, none, none]) (lp := fun e : Empty => e.elim) (mc := b_law_found) F sc_law_found rfl fun cdv A outer s H E hr text884 => ?_
  obtain ⟨a_LentError, c_LentError⟩ := T.x_LentError
  unfold b_law_found h_law_found_1
  exact (show DS _ _ _ [some text884, none, none] _ _ _ _ from (ds_set 1 sc_law_found.nd (fun found_here885 => [some text884, some found_here885, none]) de_str (EnvLe.noth rfl) (fun found_here885 => (ds_tryas 2 (mk' := fun t : D => [some text884, some t, none]) (exB := [some text884, some found_here885, none]) sc_law_found.nd rfl rfl (names_of c_LentError rfl (by decide)) (L2N.takes_of rfl rfl rfl rfl) (cf_of T.ex c_LentError) (EnvLe.noth rfl) (fun z886 a => [some text884, some found_here885, some (.exn z886 a)]) (fun Wb pn xe tkB hpB => (show DS _ _ _ [some text884, some found_here885, none] _ _ _ _ from (ds_set 1 sc_law_found.nd (fun found_here887 => [some text884, some found_here887, none]) (de_p1 c_read_text (hr.mono (by decide)) tkB (de_var 0)) (EnvLe.refl _) (fun found_here887 => (ds_nil (t := found_here887) (EnvLe.refl _)))))) (fun a C oe pn z886 hz hvs hzz => (show DS _ _ _ [some text884, some found_here885, some (.exn z886 a)] _ _ _ _ from (ds_set 1 sc_law_found.nd (fun found_here889 => [some text884, some found_here889, some (.exn z886 a)]) (de_cP c_law_word hr (by decide) 2 hz hvs hzz) (EnvLe.noth rfl) (fun found_here889 => (ds_nil (t := found_here889) (show EnvLe _ _ from (.keep (.keep (.drop .nil))))))))) (fun s890 => (show DS _ _ _ [some text884, some s890, none] _ _ _ _ from (ds_ret (de_var 1) (EnvLe.noth rfl))))))))
theorem ok_law_found {P : Program} {w : World} {K : Fg} {mg : Str → Option Value} {base : Heap} (T : Tx w K mg) (c_read_text : Cal P w K mg base "read_text" 5 1 (app1 f_read_text)) (c_law_word : CalP P w K mg base "_law_word" 1 f_law_word) : Cal P w K mg base "_law_found" 6 1 (app1 f_law_found) := Dfn.cal T.d_law_found fun _ _ F => fo_law_found T c_read_text c_law_word F
theorem fo_law_draw {P : Program} {w : World} {K : Fg} {mg : Str → Option Value} {base : Heap} (T : Tx w K mg) {f : Addr} {fd : FuncData} (F : Fun K "_law_draw" "_law_draw" s_law_draw f fd) : FnOk P w K mg base (L2N.CX P w) 1 f fd ["_law_well_here", "_law_most"] (spD K mg 2 (app2 f_law_draw)) := by
  refine fn2 (N := ["_law_well_here", "_law_most", "_law_number_here"]) (mk := fun _ : Unit => [none, none, none]) (lp := fun e : Empty => e.elim) (mc := b_law_draw) F sc_law_draw rfl fun cdv A outer s H E hr well_here892 most893 => ?_
  unfold b_law_draw
  exact (show DS _ _ _ [some well_here892, some most893, none] _ _ _ _ from (ds_ifr (fun e : Empty => e.elim) (dt_cmp op_gt gt_ok (de_ix (de_var 0) de_int) de_int (nomark _)) (ds_set 2 sc_law_draw.nd (fun number_here900 => [some well_here892, some most893, some number_here900]) (de_mod (de_ix (de_var 0) de_int) (de_var 1)) (EnvLe.noth rfl) (fun number_here900 => (ds_setix (de_fdiv (de_ix (de_var 0) de_int) (de_var 1)) (de_var 0) de_int (EnvLe.noth rfl) (ds_ret (de_var 2) (EnvLe.noth rfl))))) (EnvLe.noth rfl) (ds_setix (de_add (de_ix (de_var 0) de_int) de_int) (de_var 0) de_int (EnvLe.noth rfl) (ds_set 2 sc_law_draw.nd (fun number_here920 => [some well_here892, some most893, some number_here920]) (de_mod (de_mul (de_add (de_add (de_ix (de_var 0) de_int) (de_mul de_int (de_ix (de_var 0) de_int))) de_int) de_int) de_int) (EnvLe.noth rfl) (fun number_here920 => (ds_set 2 sc_law_draw.nd (fun number_here935 => [some well_here892, some most893, some number_here935]) (de_mod (de_mul (de_var 2) (de_add (de_fdiv (de_var 2) de_int) de_int)) de_int) (EnvLe.noth rfl) (fun number_here935 => (ds_ret (de_mod (de_mod (de_mul (de_var 2) (de_add (de_fdiv (de_var 2) de_int) de_int)) de_int) (de_var 1)) (EnvLe.noth rfl))))))) rfl))
theorem ok_law_draw {P : Program} {w : World} {K : Fg} {mg : Str → Option Value} {base : Heap} (T : Tx w K mg) : Cal P w K mg base "_law_draw" 1 2 (app2 f_law_draw) := Dfn.cal T.d_law_draw fun _ _ F => fo_law_draw T F
theorem fo_law_free_work {P : Program} {w : World} {K : Fg} {mg : Str → Option Value} {base : Heap} (T : Tx w K mg) (c_law_draw : Cal P w K mg base "_law_draw" 1 2 (app2 f_law_draw)) {f : Addr} {fd : FuncData} (F : Fun K "_law_free_work" "_law_free_work" s_law_free_work f fd) : FnOk P w K mg base (L2N.CX P w) 2 f fd ["_law_well_here"] (spD K mg 1 (app1 f_law_free_work)) := by
  refine fn1 (N := ["_law_well_here", "_law_far_here", "_law_at", "_law_found_here", "_law_k", "_law_high"]) (mk := fun _ : Unit => [none, none, none, none, none, none]) (lp := fun e : Empty => e.elim) (mc := b_law_free_work) F sc_law_free_work rfl fun cdv A outer s H E hr well_here955 => ?_
  unfold b_law_free_work l_law_free_work_1
  exact (show DS _ _ _ [some well_here955, none, none, none, none, none] _ _ _ _ from (ds_set 1 sc_law_free_work.nd (fun far_here956 => [some well_here955, some far_here956, none, none, none, none]) (de_sub (de_sub de_int (de_pow de_int de_int)) (de_c2 c_law_draw (hr.mono (by decide)) (L2N.takes_of rfl rfl rfl rfl) (de_var 0) (de_pow de_int de_int))) (EnvLe.noth rfl) (fun far_here956 => (ds_set 2 sc_law_free_work.nd (fun at967 => [some well_here955, some far_here956, some at967, none, none, none]) (de_ix (de_lst (da_cons (de_sub (de_c2 c_law_draw (hr.mono (by decide)) (L2N.takes_of rfl rfl rfl rfl) (de_var 0) de_int) de_int) (da_two (de_var 1) (de_c2 c_law_draw (hr.mono (by decide)) (L2N.takes_of rfl rfl rfl rfl) (de_var 0) (de_pow de_int de_int))))) (de_c2 c_law_draw (hr.mono (by decide)) (L2N.takes_of rfl rfl rfl rfl) (de_var 0) de_int)) (EnvLe.noth rfl) (fun at967 => (ds_set 3 sc_law_free_work.nd (fun found_here985 => [some well_here955, some far_here956, some at967, some found_here985, none, none]) (de_lstH da_nil) (EnvLe.noth rfl) (fun found_here985 => (ds_for (mkL := fun t : D => [some well_here955, some far_here956, some t, some found_here985, none, none]) (t0 := at967) (passes_of rfl) rfl (di_range1 T.no_range (de_c2 c_law_draw (hr.mono (by decide)) (L2N.takes_of rfl rfl rfl rfl) (de_var 0) de_int)) (dg_name 4 sc_law_free_work.nd) (EnvLe.refl _) (EnvLe.noth rfl) (fun p994 t987 => (show DS _ _ _ [some well_here955, some far_here956, some t987, some found_here985, some p994, none] _ _ _ _ from (ds_set 2 sc_law_free_work.nd (fun at995 => [some well_here955, some far_here956, some at995, some found_here985, some p994, none]) (de_add (de_var 2) (de_ix (de_lst (da_cons de_int (da_two (de_c2 c_law_draw (hr.mono (by decide)) (L2N.takes_of rfl rfl rfl rfl) (de_var 0) de_int) (de_c2 c_law_draw (hr.mono (by decide)) (L2N.takes_of rfl rfl rfl rfl) (de_var 0) (de_pow de_int de_int))))) (de_c2 c_law_draw (hr.mono (by decide)) (L2N.takes_of rfl rfl rfl rfl) (de_var 0) de_int))) (EnvLe.noth rfl) (fun at995 => (ds_set 5 sc_law_free_work.nd (fun high1013 => [some well_here955, some far_here956, some at995, some found_here985, some p994, some high1013]) (de_add (de_add (de_var 2) de_int) (de_ix (de_lst (da_two (de_c2 c_law_draw (hr.mono (by decide)) (L2N.takes_of rfl rfl rfl rfl) (de_var 0) de_int) (de_c2 c_law_draw (hr.mono (by decide)) (L2N.takes_of rfl rfl rfl rfl) (de_var 0) de_int))) (de_c2 c_law_draw (hr.mono (by decide)) (L2N.takes_of rfl rfl rfl rfl) (de_var 0) de_int))) (EnvLe.noth rfl) (fun high1013 => (ds_expr (de_append (de_var 3) (de_tup (da_two (de_var 2) (de_var 5)))) (EnvLe.noth rfl) (ds_set 2 sc_law_free_work.nd (fun at1034 => [some well_here955, some far_here956, some at1034, some found_here985, some p994, some high1013]) (de_var 5) (EnvLe.noth rfl) (fun at1034 => (ds_nil (t := at1034) (show EnvLe _ _ from (.keep (.keep (.keep (.keep (.drop (.drop .nil))))))))))))))))) (fun s988 => (show DS _ _ _ [some well_here955, some far_here956, some s988, some found_here985, none, none] _ _ _ _ from (ds_freeze 3 (fun found_here1035 => [some well_here955, some far_here956, some s988, some found_here1035, none, none]) (fun found_here1035 => (ds_ret (de_tuple T.no_tuple (de_var 3)) (EnvLe.noth rfl))))))))))))))
theorem ok_law_free_work {P : Program} {w : World} {K : Fg} {mg : Str → Option Value} {base : Heap} (T : Tx w K mg) (c_law_draw : Cal P w K mg base "_law_draw" 1 2 (app2 f_law_draw)) : Cal P w K mg base "_law_free_work" 2 1 (app1 f_law_free_work) := Dfn.cal T.d_law_free_work fun _ _ F => fo_law_free_work T c_law_draw F
theorem fo_law_free_limits {P : Program} {w : World} {K : Fg} {mg : Str → Option Value} {base : Heap} (T : Tx w K mg) (c_law_draw : Cal P w K mg base "_law_draw" 1 2 (app2 f_law_draw)) {f : Addr} {fd : FuncData} (F : Fun K "_law_free_limits" "_law_free_limits" s_law_free_limits f fd) : FnOk P w K mg base (L2N.CX P w) 2 f fd ["_law_well_here"] (spD K mg 1 (app1 f_law_free_limits)) := by
  refine fn1 (N := ["_law_well_here", "_law_every", "_law_span"]) (mk := fun _ : Unit => [none, none, none]) (lp := fun e : Empty => e.elim) (mc := b_law_free_limits) F sc_law_free_limits rfl fun cdv A outer s H E hr well_here1038 => ?_
  unfold b_law_free_limits
  exact (show DS _ _ _ [some well_here1038, none, none] _ _ _ _ from (ds_set 1 sc_law_free_limits.nd (fun every1039 => [some well_here1038, some every1039, none]) (de_add de_int (de_ix (de_lst (da_two (de_c2 c_law_draw (hr.mono (by decide)) (L2N.takes_of rfl rfl rfl rfl) (de_var 0) de_int) (de_c2 c_law_draw (hr.mono (by decide)) (L2N.takes_of rfl rfl rfl rfl) (de_var 0) (de_pow de_int de_int)))) (de_c2 c_law_draw (hr.mono (by decide)) (L2N.takes_of rfl rfl rfl rfl) (de_var 0) de_int))) (EnvLe.noth rfl) (fun every1039 => (ds_set 2 sc_law_free_limits.nd (fun span1055 => [some well_here1038, some every1039, some span1055]) (de_add de_int (de_ix (de_lst (da_two (de_c2 c_law_draw (hr.mono (by decide)) (L2N.takes_of rfl rfl rfl rfl) (de_var 0) de_int) (de_c2 c_law_draw (hr.mono (by decide)) (L2N.takes_of rfl rfl rfl rfl) (de_var 0) (de_pow de_int de_int)))) (de_c2 c_law_draw (hr.mono (by decide)) (L2N.takes_of rfl rfl rfl rfl) (de_var 0) de_int))) (EnvLe.noth rfl) (fun span1055 => (ds_ret (de_tup (da_cons (de_var 2) (da_two (de_var 1) (de_add (de_var 1) (de_ix (de_lst (da_cons de_int (da_two (de_c2 c_law_draw (hr.mono (by decide)) (L2N.takes_of rfl rfl rfl rfl) (de_var 0) de_int) (de_c2 c_law_draw (hr.mono (by decide)) (L2N.takes_of rfl rfl rfl rfl) (de_var 0) (de_pow de_int de_int))))) (de_c2 c_law_draw (hr.mono (by decide)) (L2N.takes_of rfl rfl rfl rfl) (de_var 0) de_int)))))) (EnvLe.noth rfl)))))))
theorem ok_law_free_limits {P : Program} {w : World} {K : Fg} {mg : Str → Option Value} {base : Heap} (T : Tx w K mg) (c_law_draw : Cal P w K mg base "_law_draw" 1 2 (app2 f_law_draw)) : Cal P w K mg base "_law_free_limits" 2 1 (app1 f_law_free_limits) := Dfn.cal T.d_law_free_limits fun _ _ F => fo_law_free_limits T c_law_draw F
theorem fo_law_head {P : Program} {w : World} {K : Fg} {mg : Str → Option Value} {base : Heap} (T : Tx w K mg) {f : Addr} {fd : FuncData} (F : Fun K "_law_head" "_law_head" s_law_head f fd) : FnOk P w K mg base (L2N.CX P w) 1 f fd ["_law_work", "_law_limits"] (spD K mg 2 (app2 f_law_head)) := by
  refine fn2 (N := ["_law_work", "_law_limits", "_law_parts", "_law_low", "_law_high", "_law_part"]) (mk := fun _ : Unit => [none, none, none, none, none, none]) (lp := fun e : Empty => e.elim) (mc := b_law_head) F sc_law_head rfl fun cdv A outer s H E hr work1094 limits1095 => ?_
  unfold b_law_head l_law_head_2 c_law_head_1
  exact (show DS _ _ _ [some work1094, some limits1095, none, none, none, none] _ _ _ _ from (ds_set 2 sc_law_head.nd (fun parts1096 => [some work1094, some limits1095, some parts1096, none, none, none]) (de_lst (da_one de_str)) (EnvLe.noth rfl) (fun parts1096 => (ds_for (mkL := fun t : D => [some work1094, some limits1095, some t, none, none, none]) (t0 := parts1096) (passes_of rfl) rfl (di_seq (de_var 0)) (dg_tup rfl (dgs_cons (dg_name 3 sc_law_head.nd) (dgs_cons (dg_name 4 sc_law_head.nd) dgs_nil)) (uCons_l (uCons_l uNil_l))) (EnvLe.refl _) (EnvLe.noth rfl) (fun p1104 t1099 => (show DS _ _ _ [some work1094, some limits1095, some t1099, some p1104.1, some p1104.2.1, none] _ _ _ _ from (ds_set 2 sc_law_head.nd (fun parts1105 => [some work1094, some limits1095, some parts1105, some p1104.1, some p1104.2.1, none]) (de_add (de_var 2) (de_lst (da_two (de_var 3) (de_var 4)))) (EnvLe.noth rfl) (fun parts1105 => (ds_nil (t := parts1105) (show EnvLe _ _ from (.keep (.keep (.keep (.drop (.drop (.keep .nil)))))))))))) (fun s1100 => (show DS _ _ _ [some work1094, some limits1095, some s1100, none, none, none] _ _ _ _ from (ds_set 2 sc_law_head.nd (fun parts1111 => [some work1094, some limits1095, some parts1111, none, none, none]) (de_add (de_var 2) (de_lst (da_cons de_str (da_cons (de_ix (de_var 1) de_int) (da_cons de_str (da_cons (de_ix (de_var 1) de_int) (da_two de_str (de_ix (de_var 1) de_int)))))))) (EnvLe.noth rfl) (fun parts1111 => (ds_ret (de_add (de_join de_str (de_lc (own := [("_law_part", 5)]) rfl sc_law_head.nd (di_seq (de_var 2)) (blkOk_by (by show blkC [("_law_work" : Str), ("_law_limits" : Str), ("_law_parts" : Str), ("_law_low" : Str), ("_law_high" : Str), ("_law_part" : Str)] (defScope s_law_head) _ _ = true; decide +kernel)) (by decide) (fun _ _ _ _ _ => (dg_name 5 sc_law_head.nd)) (fun _ _ _ _ _ p1134 => (show PTs _ _ (TC _ _ W0 RB [some work1094, some limits1095, some parts1111, none, none, some p1134] _) from dts_nil)) (fun _ _ _ _ _ p1134 => (show DE _ W0 [some work1094, some limits1095, some parts1111, none, none, some p1134] _ _ from (de_strf T.no_str (de_var 5)))))) de_str) (EnvLe.noth rfl))))))))))
theorem ok_law_head {P : Program} {w : World} {K : Fg} {mg : Str → Option Value} {base : Heap} (T : Tx w K mg) : Cal P w K mg base "_law_head" 1 2 (app2 f_law_head) := Dfn.cal T.d_law_head fun _ _ F => fo_law_head T F
theorem fo_law_some_head {P : Program} {w : World} {K : Fg} {mg : Str → Option Value} {base : Heap} (T : Tx w K mg) (c_law_draw : Cal P w K mg base "_law_draw" 1 2 (app2 f_law_draw)) (c_law_free_work : Cal P w K mg base "_law_free_work" 2 1 (app1 f_law_free_work)) (c_law_free_limits : Cal P w K mg base "_law_free_limits" 2 1 (app1 f_law_free_limits)) (c_law_head : Cal P w K mg base "_law_head" 1 2 (app2 f_law_head)) {f : Addr} {fd : FuncData} (F : Fun K "_law_some_head" "_law_some_head" s_law_some_head f fd) : FnOk P w K mg base (L2N.CX P w) 3 f fd ["_law_well_here"] (spD K mg 1 (app1 f_law_some_head)) := by
  refine fn1 (N := ["_law_well_here", "_law_work", "_law_limits", "_law_way"]) (mk := fun _ : Unit => [none, none, none, none]) (lp := fun e : Empty => e.elim) (mc := b_law_some_head) F sc_law_some_head rfl fun cdv A outer s H E hr well_here1143 => ?_
  unfold b_law_some_head
  exact (show DS _ _ _ [some well_here1143, none, none, none] _ _ _ _ from (ds_set 1 sc_law_some_head.nd (fun work1144 => [some well_here1143, some work1144, none, none]) (de_c1 c_law_free_work (hr.mono (by decide)) (L2N.takes_of rfl rfl rfl rfl) (de_var 0)) (EnvLe.noth rfl) (fun work1144 => (ds_set 2 sc_law_some_head.nd (fun limits1146 => [some well_here1143, some work1144, some limits1146, none]) (de_c1 c_law_free_limits (hr.mono (by decide)) (L2N.takes_of rfl rfl rfl rfl) (de_var 0)) (EnvLe.noth rfl) (fun limits1146 => (ds_set 3 sc_law_some_head.nd (fun way1148 => [some well_here1143, some work1144, some limits1146, some way1148]) (de_c2 c_law_draw (hr.mono (by decide)) (L2N.takes_of rfl rfl rfl rfl) (de_var 0) de_int) (EnvLe.noth rfl) (fun way1148 => (ds_if (mk' := fun t : D => [some well_here1143, some t, some limits1146, some way1148]) (dt_cmp (op_eqX (hu64 hr)) eq_ok (de_var 3) de_int (nomark _)) (ds_set 1 sc_law_some_head.nd (fun work1155 => [some well_here1143, some work1155, some limits1146, some way1148]) (de_add (de_var 1) (de_tup (da_one (de_tup (da_two de_int de_int))))) (EnvLe.noth rfl) (fun work1155 => (ds_nil (t := work1155) (EnvLe.refl _)))) (ds_nil (t := work1144) (EnvLe.refl _)) (EnvLe.noth rfl) (fun s1163 => (show DS _ _ _ [some well_here1143, some s1163, some limits1146, some way1148] _ _ _ _ from (ds_if (mk' := fun t : D => [some well_here1143, some t, some limits1146, some way1148]) (dt_cmp (op_eqX (hu64 hr)) eq_ok (de_var 3) de_int (nomark _)) (ds_set 1 sc_law_some_head.nd (fun work1168 => [some well_here1143, some work1168, some limits1146, some way1148]) (de_add (de_var 1) (de_tup (da_two (de_tup (da_two de_int de_int)) (de_tup (da_two de_int de_int))))) (EnvLe.noth rfl) (fun work1168 => (ds_nil (t := work1168) (EnvLe.refl _)))) (ds_nil (t := s1163) (EnvLe.refl _)) (EnvLe.noth rfl) (fun s1180 => (show DS _ _ _ [some well_here1143, some s1180, some limits1146, some way1148] _ _ _ _ from (ds_if (mk' := fun t : D => [some well_here1143, some t, some limits1146, some way1148]) (dt_cmp (op_eqX (hu64 hr)) eq_ok (de_var 3) de_int (nomark _)) (ds_set 1 sc_law_some_head.nd (fun work1185 => [some well_here1143, some work1185, some limits1146, some way1148]) (de_add (de_tup (da_one (de_tup (da_two de_int de_int)))) (de_var 1)) (EnvLe.noth rfl) (fun work1185 => (ds_nil (t := work1185) (EnvLe.refl _)))) (ds_nil (t := s1180) (EnvLe.refl _)) (EnvLe.noth rfl) (fun s1193 => (show DS _ _ _ [some well_here1143, some s1193, some limits1146, some way1148] _ _ _ _ from (ds_if (mk' := fun t : D => [some well_here1143, some s1193, some t, some way1148]) (dt_w (dw_and (dt_cmp op_gt gt_ok (de_var 3) de_int (nomark _)) (dw_and1 (dt_cmp op_lt (int2_ok fun _ _ _ _ _ => Rep.bl) (de_var 3) de_int (nomark _))))) (ds_set 2 sc_law_some_head.nd (fun limits1202 => [some well_here1143, some s1193, some limits1202, some way1148]) (de_ix (de_lst (da_cons (de_tup (da_cons de_int (da_two de_int de_int))) (da_cons (de_tup (da_cons de_int (da_two de_int de_int))) (da_cons (de_tup (da_cons de_int (da_two de_int de_int))) (da_cons (de_tup (da_cons de_int (da_two de_int de_int))) (da_two (de_tup (da_cons (de_sub de_int de_int) (da_two de_int de_int))) (de_tup (da_cons de_int (da_two de_int de_int))))))))) (de_c2 c_law_draw (hr.mono (by decide)) (L2N.takes_of rfl rfl rfl rfl) (de_var 0) de_int)) (EnvLe.noth rfl) (fun limits1202 => (ds_nil (t := limits1202) (EnvLe.refl _)))) (ds_nil (t := limits1146) (EnvLe.refl _)) (EnvLe.noth rfl) (fun s1250 => (show DS _ _ _ [some well_here1143, some s1193, some s1250, some way1148] _ _ _ _ from (ds_ret (de_slice (de_p2 c_law_head (hr.mono (by decide)) (L2N.takes_of rfl rfl rfl rfl) (de_var 1) (de_var 2)) do_none (do_some (de_neg de_int))) (EnvLe.noth rfl)))))))))))))))))))))
theorem ok_law_some_head {P : Program} {w : World} {K : Fg} {mg : Str → Option Value} {base : Heap} (T : Tx w K mg) (c_law_draw : Cal P w K mg base "_law_draw" 1 2 (app2 f_law_draw)) (c_law_free_work : Cal P w K mg base "_law_free_work" 2 1 (app1 f_law_free_work)) (c_law_free_limits : Cal P w K mg base "_law_free_limits" 2 1 (app1 f_law_free_limits)) (c_law_head : Cal P w K mg base "_law_head" 1 2 (app2 f_law_head)) : Cal P w K mg base "_law_some_head" 3 1 (app1 f_law_some_head) := Dfn.cal T.d_law_some_head fun _ _ F => fo_law_some_head T c_law_draw c_law_free_work c_law_free_limits c_law_head F
theorem fo_law_any_word {P : Program} {w : World} {K : Fg} {mg : Str → Option Value} {base : Heap} (T : Tx w K mg) (c_law_draw : Cal P w K mg base "_law_draw" 1 2 (app2 f_law_draw)) {f : Addr} {fd : FuncData} (F : Fun K "_law_any_word" "_law_any_word" s_law_any_word f fd) : FnOk P w K mg base (L2N.CX P w) 2 f fd ["_law_well_here"] (spD K mg 1 (app1 f_law_any_word)) := by
  refine fn1 (N := ["_law_well_here", "_law_signs", "_law_k"]) (mk := fun _ : Unit => [none, none, none]) (lp := fun e : Empty => e.elim) (mc := b_law_any_word) F sc_law_any_word rfl fun cdv A outer s H E hr well_here1259 => ?_
  unfold b_law_any_word c_law_any_word_1
  exact (show DS _ _ _ [some well_here1259, none, none] _ _ _ _ from (ds_set 1 sc_law_any_word.nd (fun signs1260 => [some well_here1259, some signs1260, none]) de_str (EnvLe.noth rfl) (fun signs1260 => (ds_ret (de_join de_str (de_lc (own := [("_law_k", 2)]) rfl sc_law_any_word.nd (di_range1 T.no_range (de_add de_int (de_c2 c_law_draw (hr.mono (by decide)) (L2N.takes_of rfl rfl rfl rfl) (de_var 0) de_int))) (blkOk_by (by show blkC [("_law_well_here" : Str), ("_law_signs" : Str), ("_law_k" : Str)] (defScope s_law_any_word) _ _ = true; decide +kernel)) (by decide) (fun _ _ _ _ _ => (dg_name 2 sc_law_any_word.nd)) (fun _ _ _ _ _ p1268 => (show PTs _ _ (TC _ _ W0 RB [some well_here1259, some signs1260, some p1268] _) from dts_nil)) (fun _ _ _ _ _ p1268 => (show DE _ W0 [some well_here1259, some signs1260, some p1268] _ _ from (de_ix (de_var 1) (de_c2 c_law_draw (hr.mono (by decide)) takes0N (de_var 0) de_int)))))) (EnvLe.noth rfl)))))
theorem ok_law_any_word {P : Program} {w : World} {K : Fg} {mg : Str → Option Value} {base : Heap} (T : Tx w K mg) (c_law_draw : Cal P w K mg base "_law_draw" 1 2 (app2 f_law_draw)) : Cal P w K mg base "_law_any_word" 2 1 (app1 f_law_any_word) := Dfn.cal T.d_law_any_word fun _ _ F => fo_law_any_word T c_law_draw F
theorem fo_law_spoilt_words {P : Program} {w : World} {K : Fg} {mg : Str → Option Value} {base : Heap} (T : Tx w K mg) (c_law_draw : Cal P w K mg base "_law_draw" 1 2 (app2 f_law_draw)) (c_law_any_word : Cal P w K mg base "_law_any_word" 2 1 (app1 f_law_any_word)) {f : Addr} {fd : FuncData} (F : Fun K "_law_spoilt_words" "_law_spoilt_words" s_law_spoilt_words f fd) : FnOk P w K mg base (L2N.CX P w) 3 f fd ["_law_well_here", "_law_words"] (spD K mg 2 (app2 f_law_spoilt_words)) := by
  refine fn2 (N := ["_law_well_here", "_law_words", "_law_at", "_law_some", "_law_way", "_law_other", "_law_rest", "_law_odd"]) (mk := fun _ : Unit => [none, none, none, none, none, none, none, none]) (lp := fun e : Empty => e.elim) (mc := b_law_spoilt_words) F sc_law_spoilt_words rfl fun cdv A outer s H E hr well_here1278 words1279 => ?_
  unfold b_law_spoilt_words
  exact (show DS _ _ _ [some well_here1278, some words1279, none, none, none, none, none, none] _ _ _ _ from (ds_set 2 sc_law_spoilt_words.nd (fun at1280 => [some well_here1278, some words1279, some at1280, none, none, none, none, none]) (de_c2 c_law_draw (hr.mono (by decide)) (L2N.takes_of rfl rfl rfl rfl) (de_var 0) (de_len T.no_len (de_var 1))) (EnvLe.noth rfl) (fun at1280 => (ds_set 3 sc_law_spoilt_words.nd (fun some1284 => [some well_here1278, some words1279, some at1280, some some1284, none, none, none, none]) (de_lst (da_cons de_str (da_cons de_str (da_cons de_str (da_cons de_str (da_cons de_str (da_cons de_str (da_cons de_str (da_cons (de_mulS de_str de_int) (da_cons (de_mulS de_str de_int) (da_cons (de_add de_str (de_mulS de_str de_int)) (da_cons de_str (da_two de_str de_str))))))))))))) (EnvLe.noth rfl) (fun some1284 => (ds_set 3 sc_law_spoilt_words.nd (fun some1318 => [some well_here1278, some words1279, some at1280, some some1318, none, none, none, none]) (de_add (de_var 3) (de_lst (da_cons de_str (da_cons de_str (da_cons de_str (da_cons de_str (da_cons de_str (da_cons de_str (da_cons de_str (da_cons de_str (da_cons de_str (da_cons de_str (da_cons de_str (da_cons de_str (da_cons de_str (da_two de_str de_str)))))))))))))))) (EnvLe.noth rfl) (fun some1318 => (ds_set 3 sc_law_spoilt_words.nd (fun some1350 => [some well_here1278, some words1279, some at1280, some some1350, none, none, none, none]) (de_add (de_var 3) (de_lst (da_cons de_str (da_cons de_str (da_two de_str (de_c1 c_law_any_word (hr.mono (by decide)) (L2N.takes_of rfl rfl rfl rfl) (de_var 0))))))) (EnvLe.noth rfl) (fun some1350 => (ds_set 4 sc_law_spoilt_words.nd (fun way1361 => [some well_here1278, some words1279, some at1280, some some1350, some way1361, none, none, none]) (de_c2 c_law_draw (hr.mono (by decide)) (L2N.takes_of rfl rfl rfl rfl) (de_var 0) de_int) (EnvLe.noth rfl) (fun way1361 => (ds_ifr (fun e : Empty => e.elim) (dt_cmp (op_eqX (hu64 hr)) eq_ok (de_var 4) de_int (nomark _)) (ds_ret (de_add (de_slice (de_var 1) do_none (do_some (de_var 2))) (de_slice (de_var 1) (do_some (de_add (de_var 2) de_int)) do_none)) (EnvLe.noth rfl)) (EnvLe.noth rfl) (ds_ifr (fun e : Empty => e.elim) (dt_cmp (op_eqX (hu64 hr)) eq_ok (de_var 4) de_int (nomark _)) (ds_ret (de_add (de_slice (de_var 1) do_none (do_some (de_add (de_var 2) de_int))) (de_slice (de_var 1) (do_some (de_var 2)) do_none)) (EnvLe.noth rfl)) (EnvLe.noth rfl) (ds_ifr (fun e : Empty => e.elim) (dt_cmp (op_eqX (hu64 hr)) eq_ok (de_var 4) de_int (nomark _)) (ds_set 5 sc_law_spoilt_words.nd (fun other1402 => [some well_here1278, some words1279, some at1280, some some1350, some way1361, some other1402, none, none]) (de_c2 c_law_draw (hr.mono (by decide)) (L2N.takes_of rfl rfl rfl rfl) (de_var 0) (de_len T.no_len (de_var 1))) (EnvLe.noth rfl) (fun other1402 => (ds_set 6 sc_law_spoilt_words.nd (fun rest1406 => [some well_here1278, some words1279, some at1280, some some1350, some way1361, some other1402, some rest1406, none]) (de_add (de_slice (de_var 1) do_none (do_some (de_var 2))) (de_slice (de_var 1) (do_some (de_add (de_var 2) de_int)) do_none)) (EnvLe.noth rfl) (fun rest1406 => (ds_ret (de_add (de_add (de_slice (de_var 6) do_none (do_some (de_var 5))) (de_lst (da_one (de_ix (de_var 1) (de_var 2))))) (de_slice (de_var 6) (do_some (de_var 5)) do_none)) (EnvLe.noth rfl)))))) (EnvLe.noth rfl) (ds_set 7 sc_law_spoilt_words.nd (fun odd1436 => [some well_here1278, some words1279, some at1280, some some1350, some way1361, none, none, some odd1436]) (de_ix (de_var 3) (de_c2 c_law_draw (hr.mono (by decide)) (L2N.takes_of rfl rfl rfl rfl) (de_var 0) de_int)) (EnvLe.noth rfl) (fun odd1436 => (ds_ret (de_add (de_add (de_slice (de_var 1) do_none (do_some (de_var 2))) (de_lst (da_one (de_var 7)))) (de_slice (de_var 1) (do_some (de_add (de_var 2) (de_intf T.no_int (de_gt (de_var 4) de_int)))) do_none)) (EnvLe.noth rfl)))) rfl) rfl) rfl))))))))))))
theorem ok_law_spoilt_words {P : Program} {w : World} {K : Fg} {mg : Str → Option Value} {base : Heap} (T : Tx w K mg) (c_law_draw : Cal P w K mg base "_law_draw" 1 2 (app2 f_law_draw)) (c_law_any_word : Cal P w K mg base "_law_any_word" 2 1 (app1 f_law_any_word)) : Cal P w K mg base "_law_spoilt_words" 3 2 (app2 f_law_spoilt_words) := Dfn.cal T.d_law_spoilt_words fun _ _ F => fo_law_spoilt_words T c_law_draw c_law_any_word F
theorem fo_law_spoilt_rows {P : Program} {w : World} {K : Fg} {mg : Str → Option Value} {base : Heap} (T : Tx w K mg) (c_law_draw : Cal P w K mg base "_law_draw" 1 2 (app2 f_law_draw)) (c_law_spoilt_words : Cal P w K mg base "_law_spoilt_words" 3 2 (app2 f_law_spoilt_words)) {f : Addr} {fd : FuncData} (F : Fun K "_law_spoilt_rows" "_law_spoilt_rows" s_law_spoilt_rows f fd) : FnOk P w K mg base (L2N.CX P w) 4 f fd ["_law_well_here", "_law_rows"] (spD K mg 2 (app2 f_law_spoilt_rows)) := by
  refine fn2 (N := ["_law_well_here", "_law_rows", "_law_at", "_law_other", "_law_way", "_law_rest", "_law_row"]) (mk := fun _ : Unit => [none, none, none, none, none, none, none]) (lp := fun e : Empty => e.elim) (mc := b_law_spoilt_rows) F sc_law_spoilt_rows rfl fun cdv A outer s H E hr well_here1461 rows1462 => ?_
  unfold b_law_spoilt_rows
  exact (show DS _ _ _ [some well_here1461, some rows1462, none, none, none, none, none] _ _ _ _ from (ds_set 2 sc_law_spoilt_rows.nd (fun at1463 => [some well_here1461, some rows1462, some at1463, none, none, none, none]) (de_c2 c_law_draw (hr.mono (by decide)) (L2N.takes_of rfl rfl rfl rfl) (de_var 0) (de_len T.no_len (de_var 1))) (EnvLe.noth rfl) (fun at1463 => (ds_set 3 sc_law_spoilt_rows.nd (fun other1467 => [some well_here1461, some rows1462, some at1463, some other1467, none, none, none]) (de_c2 c_law_draw (hr.mono (by decide)) (L2N.takes_of rfl rfl rfl rfl) (de_var 0) (de_len T.no_len (de_var 1))) (EnvLe.noth rfl) (fun other1467 => (ds_set 4 sc_law_spoilt_rows.nd (fun way1471 => [some well_here1461, some rows1462, some at1463, some other1467, some way1471, none, none]) (de_c2 c_law_draw (hr.mono (by decide)) (L2N.takes_of rfl rfl rfl rfl) (de_var 0) de_int) (EnvLe.noth rfl) (fun way1471 => (ds_ifr (fun e : Empty => e.elim) (dt_cmp (op_eqX (hu64 hr)) eq_ok (de_var 4) de_int (nomark _)) (ds_ret (de_add (de_slice (de_var 1) do_none (do_some (de_var 2))) (de_slice (de_var 1) (do_some (de_add (de_var 2) de_int)) do_none)) (EnvLe.noth rfl)) (EnvLe.noth rfl) (ds_ifr (fun e : Empty => e.elim) (dt_cmp (op_eqX (hu64 hr)) eq_ok (de_var 4) de_int (nomark _)) (ds_ret (de_add (de_slice (de_var 1) do_none (do_some (de_add (de_var 2) de_int))) (de_slice (de_var 1) (do_some (de_var 2)) do_none)) (EnvLe.noth rfl)) (EnvLe.noth rfl) (ds_ifr (fun e : Empty => e.elim) (dt_cmp (op_eqX (hu64 hr)) eq_ok (de_var 4) de_int (nomark _)) (ds_set 5 sc_law_spoilt_rows.nd (fun rest1512 => [some well_here1461, some rows1462, some at1463, some other1467, some way1471, some rest1512, none]) (de_add (de_slice (de_var 1) do_none (do_some (de_var 2))) (de_slice (de_var 1) (do_some (de_add (de_var 2) de_int)) do_none)) (EnvLe.noth rfl) (fun rest1512 => (ds_ret (de_add (de_add (de_slice (de_var 5) do_none (do_some (de_var 3))) (de_lst (da_one (de_ix (de_var 1) (de_var 2))))) (de_slice (de_var 5) (do_some (de_var 3)) do_none)) (EnvLe.noth rfl)))) (EnvLe.noth rfl) (ds_ifr (fun e : Empty => e.elim) (dt_cmp (op_eqX (hu64 hr)) eq_ok (de_var 4) de_int (nomark _)) (ds_ret (de_add (de_add (de_slice (de_var 1) do_none (do_some (de_var 2))) (de_lst (da_one (de_ix (de_lst (da_cons de_str (da_cons de_str (da_cons de_str (da_cons de_str (da_two de_str de_str)))))) (de_c2 c_law_draw (hr.mono (by decide)) (L2N.takes_of rfl rfl rfl rfl) (de_var 0) de_int))))) (de_slice (de_var 1) (do_some (de_var 2)) do_none)) (EnvLe.noth rfl)) (EnvLe.noth rfl) (ds_ifr (fun e : Empty => e.elim) (dt_cmp (op_eqX (hu64 hr)) eq_ok (de_var 4) de_int (nomark _)) (ds_ret (de_add (de_add (de_slice (de_var 1) do_none (do_some (de_var 2))) (de_lst (da_one (de_add (de_add (de_ix (de_add (de_slice (de_var 1) (do_some (de_var 2)) do_none) (de_lst (da_one de_str))) de_int) de_str) (de_ix (de_add (de_slice (de_var 1) (do_some (de_add (de_var 2) de_int)) do_none) (de_lst (da_one de_str))) de_int))))) (de_slice (de_var 1) (do_some (de_add (de_var 2) de_int)) do_none)) (EnvLe.noth rfl)) (EnvLe.noth rfl) (ds_ifr (fun e : Empty => e.elim) (dt_cmp (op_eqX (hu64 hr)) eq_ok (de_var 4) de_int (nomark _)) (ds_ret (de_add (de_add (de_slice (de_var 1) do_none (do_some (de_var 2))) (de_lst (da_one (de_ix (de_lst (da_two (de_add de_str (de_ix (de_var 1) (de_var 2))) (de_add (de_ix (de_var 1) (de_var 2)) de_str))) (de_c2 c_law_draw (hr.mono (by decide)) (L2N.takes_of rfl rfl rfl rfl) (de_var 0) de_int))))) (de_slice (de_var 1) (do_some (de_add (de_var 2) de_int)) do_none)) (EnvLe.noth rfl)) (EnvLe.noth rfl) (ds_set 6 sc_law_spoilt_rows.nd (fun row1659 => [some well_here1461, some rows1462, some at1463, some other1467, some way1471, none, some row1659]) (de_join de_str (de_c2 c_law_spoilt_words (hr.mono (by decide)) (L2N.takes_of rfl rfl rfl rfl) (de_var 0) (de_split (de_ix (de_var 1) (de_var 2)) de_str))) (EnvLe.noth rfl) (fun row1659 => (ds_ret (de_add (de_add (de_slice (de_var 1) do_none (do_some (de_var 2))) (de_lst (da_one (de_var 6)))) (de_slice (de_var 1) (do_some (de_add (de_var 2) de_int)) do_none)) (EnvLe.noth rfl)))) rfl) rfl) rfl) rfl) rfl) rfl))))))))
theorem ok_law_spoilt_rows {P : Program} {w : World} {K : Fg} {mg : Str → Option Value} {base : Heap} (T : Tx w K mg) (c_law_draw : Cal P w K mg base "_law_draw" 1 2 (app2 f_law_draw)) (c_law_spoilt_words : Cal P w K mg base "_law_spoilt_words" 3 2 (app2 f_law_spoilt_words)) : Cal P w K mg base "_law_spoilt_rows" 4 2 (app2 f_law_spoilt_rows) := Dfn.cal T.d_law_spoilt_rows fun _ _ F => fo_law_spoilt_rows T c_law_draw c_law_spoilt_words F
theorem fo_law_line_text {P : Program} {w : World} {K : Fg} {mg : Str → Option Value} {base : Heap} (T : Tx w K mg) {f : Addr} {fd : FuncData} (F : Fun K "_law_line_text" "_law_line_text" s_law_line_text f fd) : FnOk P w K mg base (L2N.CX P w) 1 f fd ["_law_line"] (spD K mg 1 (app1 f_law_line_text)) := by
  refine fn1 (N := ["_law_line", "_law_part"]) (mk := fun _ : Unit => [none, none]) (lp := fun e : Empty => e.elim) (mc := b_law_line_text) F sc_law_line_text rfl fun cdv A outer s H E hr line1685 => ?_
  unfold b_law_line_text c_law_line_text_1
  exact (show DS _ _ _ [some line1685, none] _ _ _ _ from (ds_if (mk' := fun t : D => [some t, none]) (dt_cmp (op_eqX (hu64 hr)) eq_ok (de_ix (de_var 0) de_int) de_str (nomark _)) (ds_set 0 sc_law_line_text.nd (fun line1692 => [some line1692, none]) (de_add (de_slice (de_var 0) do_none (do_some de_int)) (de_ix (de_var 0) de_int)) (EnvLe.noth rfl) (fun line1692 => (ds_nil (t := line1692) (EnvLe.refl _)))) (ds_nil (t := line1685) (EnvLe.refl _)) (EnvLe.noth rfl) (fun s1701 => (show DS _ _ _ [some s1701, none] _ _ _ _ from (ds_ret (de_add (de_join de_str (de_lc (own := [("_law_part", 1)]) rfl sc_law_line_text.nd (di_seq (de_var 0)) (blkOk_by (by show blkC [("_law_line" : Str), ("_law_part" : Str)] (defScope s_law_line_text) _ _ = true; decide +kernel)) (by decide) (fun _ _ _ _ _ => (dg_name 1 sc_law_line_text.nd)) (fun _ _ _ _ _ p1705 => (show PTs _ _ (TC _ _ W0 RB [some s1701, some p1705] _) from dts_nil)) (fun _ _ _ _ _ p1705 => (show DE _ W0 [some s1701, some p1705] _ _ from (de_strf T.no_str (de_var 1)))))) de_str) (EnvLe.noth rfl))))))
theorem ok_law_line_text {P : Program} {w : World} {K : Fg} {mg : Str → Option Value} {base : Heap} (T : Tx w K mg) : Cal P w K mg base "_law_line_text" 1 1 (app1 f_law_line_text) := Dfn.cal T.d_law_line_text fun _ _ F => fo_law_line_text T F
theorem fo_law_is_beyond {P : Program} {w : World} {K : Fg} {mg : Str → Option Value} {base : Heap} (T : Tx w K mg) (c_law_head_of : Cal P w K mg base "_law_head_of" 2 1 (app1 f_law_head_of)) {f : Addr} {fd : FuncData} (F : Fun K "_law_is_beyond" "_law_is_beyond" s_law_is_beyond f fd) : FnOk P w K mg base (L2N.CX P w) 3 f fd ["_law_row"] (spD K mg 1 (app1 f_law_is_beyond)) := by
  refine fn1 (N := ["_law_row", "_law_head_here", "_law_low", "_law_high"]) (mk := fun _ : Unit => [none, none, none, none]) (lp := fun e : Empty => e.elim) (mc := b_law_is_beyond) F sc_law_is_beyond rfl fun cdv A outer s H E hr row1714 => ?_
  unfold b_law_is_beyond c_law_is_beyond_1
  exact (show DS _ _ _ [some row1714, none, none, none] _ _ _ _ from (ds_set 1 sc_law_is_beyond.nd (fun head_here1715 => [some row1714, some head_here1715, none, none]) (de_p1 c_law_head_of (hr.mono (by decide)) (L2N.takes_of rfl rfl rfl rfl) (de_var 0)) (EnvLe.noth rfl) (fun head_here1715 => (ds_ret (de_and (de_isnot (de_var 1) de_non) (de_one (de_gt (de_sum rfl T.no_sum (de_lc (own := [("_law_low", 2), ("_law_high", 3)]) rfl sc_law_is_beyond.nd (di_seq (de_ix (de_var 1) de_int)) (blkOk_by (by show blkC [("_law_row" : Str), ("_law_head_here" : Str), ("_law_low" : Str), ("_law_high" : Str)] (defScope s_law_is_beyond) _ _ = true; decide +kernel)) (by decide) (fun _ _ _ _ _ => (dg_tup rfl (dgs_cons (dg_name 2 sc_law_is_beyond.nd) (dgs_cons (dg_name 3 sc_law_is_beyond.nd) dgs_nil)) (uCons_l (uCons_l uNil_l)))) (fun _ _ _ _ _ p1724 => (show PTs _ _ (TC _ _ W0 RB [some row1714, some head_here1715, some p1724.1, some p1724.2.1] _) from dts_nil)) (fun _ _ _ _ _ p1724 => (show DE _ W0 [some row1714, some head_here1715, some p1724.1, some p1724.2.1] _ _ from (de_max2 rfl T.no_max de_int (de_sub (de_var 3) (de_var 2))))))) de_int))) (EnvLe.noth rfl)))))
theorem ok_law_is_beyond {P : Program} {w : World} {K : Fg} {mg : Str → Option Value} {base : Heap} (T : Tx w K mg) (c_law_head_of : Cal P w K mg base "_law_head_of" 2 1 (app1 f_law_head_of)) : Cal P w K mg base "_law_is_beyond" 3 1 (app1 f_law_is_beyond) := Dfn.cal T.d_law_is_beyond fun _ _ F => fo_law_is_beyond T c_law_head_of F
theorem fo_law_far {P : Program} {w : World} {K : Fg} {mg : Str → Option Value} {base : Heap} (T : Tx w K mg) (c_law_draw : Cal P w K mg base "_law_draw" 1 2 (app2 f_law_draw)) {f : Addr} {fd : FuncData} (F : Fun K "_law_far" "_law_far" s_law_far f fd) : FnOk P w K mg base (L2N.CX P w) 2 f fd ["_law_well_here"] (spD K mg 1 (app1 f_law_far)) := by
  refine fn1 (N := ["_law_well_here", "_law_far_here", "_law_some"]) (mk := fun _ : Unit => [none, none, none]) (lp := fun e : Empty => e.elim) (mc := b_law_far) F sc_law_far rfl fun cdv A outer s H E hr well_here1736 => ?_
  unfold b_law_far
  exact (show DS _ _ _ [some well_here1736, none, none] _ _ _ _ from (ds_set 1 sc_law_far.nd (fun far_here1737 => [some well_here1736, some far_here1737, none]) (de_add (de_mul (de_c2 c_law_draw (hr.mono (by decide)) (L2N.takes_of rfl rfl rfl rfl) (de_var 0) (de_pow de_int de_int)) (de_pow de_int de_int)) (de_c2 c_law_draw (hr.mono (by decide)) (L2N.takes_of rfl rfl rfl rfl) (de_var 0) (de_pow de_int de_int))) (EnvLe.noth rfl) (fun far_here1737 => (ds_set 2 sc_law_far.nd (fun some1752 => [some well_here1736, some far_here1737, some some1752]) (de_lst (da_cons (de_c2 c_law_draw (hr.mono (by decide)) (L2N.takes_of rfl rfl rfl rfl) (de_var 0) de_int) (da_cons (de_sub (de_c2 c_law_draw (hr.mono (by decide)) (L2N.takes_of rfl rfl rfl rfl) (de_var 0) de_int) de_int) (da_cons (de_var 1) (da_cons (de_sub de_int (de_var 1)) (da_two (de_sub (de_pow de_int de_int) de_int) (de_sub de_int (de_pow de_int de_int)))))))) (EnvLe.noth rfl) (fun some1752 => (ds_ret (de_ix (de_var 2) (de_c2 c_law_draw (hr.mono (by decide)) (L2N.takes_of rfl rfl rfl rfl) (de_var 0) de_int)) (EnvLe.noth rfl)))))))
theorem ok_law_far {P : Program} {w : World} {K : Fg} {mg : Str → Option Value} {base : Heap} (T : Tx w K mg) (c_law_draw : Cal P w K mg base "_law_draw" 1 2 (app2 f_law_draw)) : Cal P w K mg base "_law_far" 2 1 (app1 f_law_far) := Dfn.cal T.d_law_far fun _ _ F => fo_law_far T c_law_draw F
theorem fo_law_free_line {P : Program} {w : World} {K : Fg} {mg : Str → Option Value} {base : Heap} (T : Tx w K mg) (c_law_draw : Cal P w K mg base "_law_draw" 1 2 (app2 f_law_draw)) (c_law_any_word : Cal P w K mg base "_law_any_word" 2 1 (app1 f_law_any_word)) (c_law_far : Cal P w K mg base "_law_far" 2 1 (app1 f_law_far)) {f : Addr} {fd : FuncData} (F : Fun K "_law_free_line" "_law_free_line" s_law_free_line f fd) : FnOk P w K mg base (L2N.CX P w) 3 f fd ["_law_well_here"] (spD K mg 1 (app1 f_law_free_line)) := by
  refine fn1 (N := ["_law_well_here", "_law_way", "_law_one", "_law_other", "_law_odd", "_law_worker", "_law_many", "_law_k"]) (mk := fun _ : Unit => [none, none, none, none, none, none, none, none]) (lp := fun e : Empty => e.elim) (mc := b_law_free_line) F sc_law_free_line rfl fun cdv A outer s H E hr well_here1785 => ?_
  unfold b_law_free_line c_law_free_line_1
  exact (show DS _ _ _ [some well_here1785, none, none, none, none, none, none, none] _ _ _ _ from (ds_set 1 sc_law_free_line.nd (fun way1786 => [some well_here1785, some way1786, none, none, none, none, none, none]) (de_c2 c_law_draw (hr.mono (by decide)) (L2N.takes_of rfl rfl rfl rfl) (de_var 0) de_int) (EnvLe.noth rfl) (fun way1786 => (ds_set 2 sc_law_free_line.nd (fun one1789 => [some well_here1785, some way1786, some one1789, none, none, none, none, none]) (de_c1 c_law_far (hr.mono (by decide)) (L2N.takes_of rfl rfl rfl rfl) (de_var 0)) (EnvLe.noth rfl) (fun one1789 => (ds_set 3 sc_law_free_line.nd (fun other1791 => [some well_here1785, some way1786, some one1789, some other1791, none, none, none, none]) (de_c1 c_law_far (hr.mono (by decide)) (L2N.takes_of rfl rfl rfl rfl) (de_var 0)) (EnvLe.noth rfl) (fun other1791 => (ds_ifr (fun e : Empty => e.elim) (dt_cmp (op_eqX (hu64 hr)) eq_ok (de_var 1) de_int (nomark _)) (ds_set 4 sc_law_free_line.nd (fun odd1797 => [some well_here1785, some way1786, some one1789, some other1791, some odd1797, none, none, none]) (de_ix (de_lst (da_two de_str de_str)) (de_c2 c_law_draw (hr.mono (by decide)) (L2N.takes_of rfl rfl rfl rfl) (de_var 0) de_int)) (EnvLe.noth rfl) (fun odd1797 => (ds_set 5 sc_law_free_line.nd (fun worker1805 => [some well_here1785, some way1786, some one1789, some other1791, some odd1797, some worker1805, none, none]) (de_ix (de_lst (da_cons (de_c1 c_law_any_word (hr.mono (by decide)) (L2N.takes_of rfl rfl rfl rfl) (de_var 0)) (da_cons (de_c1 c_law_any_word (hr.mono (by decide)) (L2N.takes_of rfl rfl rfl rfl) (de_var 0)) (da_two de_str (de_var 4))))) (de_c2 c_law_draw (hr.mono (by decide)) (L2N.takes_of rfl rfl rfl rfl) (de_var 0) de_int)) (EnvLe.noth rfl) (fun worker1805 => (ds_ret (de_tup (da_cons de_str (da_cons (de_var 2) (da_cons (de_var 5) (da_two (de_var 3) (de_c1 c_law_far (hr.mono (by decide)) (L2N.takes_of rfl rfl rfl rfl) (de_var 0))))))) (EnvLe.noth rfl)))))) (EnvLe.noth rfl) (ds_ifr (fun e : Empty => e.elim) (dt_cmp op_lt (int2_ok fun _ _ _ _ _ => Rep.bl) (de_var 1) de_int (nomark _)) (ds_set 6 sc_law_free_line.nd (fun many1834 => [some well_here1785, some way1786, some one1789, some other1791, none, none, some many1834, none]) (de_ix (de_lst (da_cons de_int (da_two (de_c2 c_law_draw (hr.mono (by decide)) (L2N.takes_of rfl rfl rfl rfl) (de_var 0) de_int) (de_c2 c_law_draw (hr.mono (by decide)) (L2N.takes_of rfl rfl rfl rfl) (de_var 0) de_int)))) (de_c2 c_law_draw (hr.mono (by decide)) (L2N.takes_of rfl rfl rfl rfl) (de_var 0) de_int)) (EnvLe.noth rfl) (fun many1834 => (ds_ret (de_tup (da_cons de_str (da_cons (de_var 2) (da_cons (de_var 3) (da_two (de_c1 c_law_far (hr.mono (by decide)) (L2N.takes_of rfl rfl rfl rfl) (de_var 0)) (de_tuple T.no_tuple (de_lc (own := [("_law_k", 7)]) rfl sc_law_free_line.nd (di_range1 T.no_range (de_var 6)) (blkOk_by (by show blkC [("_law_well_here" : Str), ("_law_way" : Str), ("_law_one" : Str), ("_law_other" : Str), ("_law_odd" : Str), ("_law_worker" : Str), ("_law_many" : Str), ("_law_k" : Str)] (defScope s_law_free_line) _ _ = true; decide +kernel)) (by decide) (fun _ _ _ _ _ => (dg_name 7 sc_law_free_line.nd)) (fun _ _ _ _ _ p1852 => (show PTs _ _ (TC _ _ W0 RB [some well_here1785, some way1786, some one1789, some other1791, none, none, some many1834, some p1852] _) from dts_nil)) (fun _ _ _ _ _ p1852 => (show DE _ W0 [some well_here1785, some way1786, some one1789, some other1791, none, none, some many1834, some p1852] _ _ from (de_c1 c_law_far (hr.mono (by decide)) takes0N (de_var 0))))))))))) (EnvLe.noth rfl)))) (EnvLe.noth rfl) (ds_ifr (fun e : Empty => e.elim) (dt_cmp (op_eqX (hu64 hr)) eq_ok (de_var 1) de_int (nomark _)) (ds_ret (de_tup (da_cons de_str (da_two (de_var 2) (de_var 3)))) (EnvLe.noth rfl)) (EnvLe.noth rfl) (ds_ifr (fun e : Empty => e.elim) (dt_cmp (op_eqX (hu64 hr)) eq_ok (de_var 1) de_int (nomark _)) (ds_ret (de_tup (da_cons de_str (da_two (de_var 2) (de_var 3)))) (EnvLe.noth rfl)) (EnvLe.noth rfl) (ds_ret (de_tup (da_two de_str (de_var 2))) (EnvLe.noth rfl)) rfl) rfl) rfl) rfl))))))))
theorem ok_law_free_line {P : Program} {w : World} {K : Fg} {mg : Str → Option Value} {base : Heap} (T : Tx w K mg) (c_law_draw : Cal P w K mg base "_law_draw" 1 2 (app2 f_law_draw)) (c_law_any_word : Cal P w K mg base "_law_any_word" 2 1 (app1 f_law_any_word)) (c_law_far : Cal P w K mg base "_law_far" 2 1 (app1 f_law_far)) : Cal P w K mg base "_law_free_line" 3 1 (app1 f_law_free_line) := Dfn.cal T.d_law_free_line fun _ _ F => fo_law_free_line T c_law_draw c_law_any_word c_law_far F
theorem fo_law {P : Program} {w : World} {K : Fg} {mg : Str → Option Value} {base : Heap} (T : Tx w K mg) (c_law_well : Cal P w K mg base "_law_well" 1 2 (app2 f_law_well)) (c_law_read : Cal P w K mg base "_law_read" 3 1 (app1 f_law_read)) (c_law_found : Cal P w K mg base "_law_found" 6 1 (app1 f_law_found)) (c_law_draw : Cal P w K mg base "_law_draw" 1 2 (app2 f_law_draw)) (c_law_some_head : Cal P w K mg base "_law_some_head" 3 1 (app1 f_law_some_head)) (c_law_spoilt_rows : Cal P w K mg base "_law_spoilt_rows" 4 2 (app2 f_law_spoilt_rows)) (c_law_line_text : Cal P w K mg base "_law_line_text" 1 1 (app1 f_law_line_text)) (c_law_is_beyond : Cal P w K mg base "_law_is_beyond" 3 1 (app1 f_law_is_beyond)) (c_law_free_line : Cal P w K mg base "_law_free_line" 3 1 (app1 f_law_free_line)) {f : Addr} {fd : FuncData} (F : Fun K "law" "law" s_law f fd) : FnOk P w K mg base (L2N.CX P w) 7 f fd ["_law_script"] (spD K mg 1 (app1 f_law)) := by
  refine fn1 (N := ["_law_script", "_law_well_here", "_law_rows", "_law_k", "_law_some", "_law_turn", "_law_text", "_law_due", "_law_odd"]) (mk := fun _ : Unit => [none, none, none, none, none, none, none, none, none]) (lp := fun e : Empty => e.elim) (mc := b_law) F sc_law rfl fun cdv A outer s H E hr script1891 => ?_
  unfold b_law l_law_5 l_law_4 q_law_3 q_law_2 c_law_1
  exact (show DS _ _ _ [some script1891, none, none, none, none, none, none, none, none] _ _ _ _ from (ds_set 1 sc_law.nd (fun well_here1892 => [some script1891, some well_here1892, none, none, none, none, none, none, none]) (de_c2 c_law_well (hr.mono (by decide)) (L2N.takes_of rfl rfl rfl rfl) (de_var 0) de_int) (EnvLe.noth rfl) (fun well_here1892 => (ds_set 2 sc_law.nd (fun rows1895 => [some script1891, some well_here1892, some rows1895, none, none, none, none, none, none]) (de_add (de_lst (da_one (de_c1 c_law_some_head (hr.mono (by decide)) (L2N.takes_of rfl rfl rfl rfl) (de_var 1)))) (de_lc (own := [("_law_k", 3)]) rfl sc_law.nd (di_range1 T.no_range (de_c2 c_law_draw (hr.mono (by decide)) (L2N.takes_of rfl rfl rfl rfl) (de_var 1) de_int)) (blkOk_by (by show blkC [("_law_script" : Str), ("_law_well_here" : Str), ("_law_rows" : Str), ("_law_k" : Str), ("_law_some" : Str), ("_law_turn" : Str), ("_law_text" : Str), ("_law_due" : Str), ("_law_odd" : Str)] (defScope s_law) _ _ = true; decide +kernel)) (by decide) (fun _ _ _ _ _ => (dg_name 3 sc_law.nd)) (fun _ _ _ _ _ p1904 => (show PTs _ _ (TC _ _ W0 RB [some script1891, some well_here1892, none, some p1904, none, none, none, none, none] _) from dts_nil)) (fun _ _ _ _ _ p1904 => (show DE _ W0 [some script1891, some well_here1892, none, some p1904, none, none, none, none, none] _ _ from (de_slice (de_p1 c_law_line_text (hr.mono (by decide)) takes0N (de_c1 c_law_free_line (hr.mono (by decide)) takes0N (de_var 1))) do_none (do_some (de_neg de_int))))))) (EnvLe.noth rfl) (fun rows1895 => (ds_for (mkL := fun t : Unit => [some script1891, none, some rows1895, none, none, none, none, none, none]) (t0 := ()) (passes_of rfl) rfl (di_range2 T.no_range de_int de_int) (dg_name 3 sc_law.nd) (show EnvLe _ _ from (.keep (.drop (.keep (.keep (.keep (.keep (.keep (.keep (.keep .nil)))))))))) (EnvLe.noth rfl) (fun p1922 t1916 => (show DS _ _ _ [some script1891, none, some rows1895, some p1922, none, none, none, none, none] _ _ _ _ from (ds_set 1 sc_law.nd (fun well_here1923 => [some script1891, some well_here1923, some rows1895, some p1922, none, none, none, none, none]) (de_c2 c_law_well (hr.mono (by decide)) (L2N.takes_of rfl rfl rfl rfl) (de_var 0) (de_var 3)) (EnvLe.noth rfl) (fun well_here1923 => (ds_set 4 sc_law.nd (fun some1926 => [some script1891, some well_here1923, some rows1895, some p1922, some some1926, none, none, none, none]) (de_list T.no_list (de_var 2)) (EnvLe.noth rfl) (fun some1926 => (ds_for (mkL := fun t : D => [some script1891, some well_here1923, some rows1895, some p1922, some t, none, none, none, none]) (t0 := some1926) (passes_of rfl) rfl (di_range1 T.no_range (de_c2 c_law_draw (hr.mono (by decide)) (L2N.takes_of rfl rfl rfl rfl) (de_var 1) de_int)) (dg_name 5 sc_law.nd) (EnvLe.refl _) (EnvLe.noth rfl) (fun p1935 t1928 => (show DS _ _ _ [some script1891, some well_here1923, some rows1895, some p1922, some t1928, some p1935, none, none, none] _ _ _ _ from (ds_set 4 sc_law.nd (fun some1936 => [some script1891, some well_here1923, some rows1895, some p1922, some some1936, some p1935, none, none, none]) (de_c2 c_law_spoilt_rows (hr.mono (by decide)) (L2N.takes_of rfl rfl rfl rfl) (de_var 1) (de_add (de_var 4) (de_repL (de_lstH (da_one de_str)) (de_intf T.no_int (de_eq (hu64 hr) (de_var 4) (de_lst da_nil)))))) (EnvLe.noth rfl) (fun some1936 => (ds_nil (t := some1936) (show EnvLe _ _ from (.keep (.keep (.keep (.keep (.keep (.drop (.keep (.keep (.keep .nil))))))))))))))) (fun s1929 => (show DS _ _ _ [some script1891, some well_here1923, some rows1895, some p1922, some s1929, none, none, none, none] _ _ _ _ from (ds_set 6 sc_law.nd (fun text1949 => [some script1891, some well_here1923, some rows1895, some p1922, some s1929, none, some text1949, none, none]) (de_add (de_join de_str (de_var 4)) (de_ix (de_lst (da_cons de_str (da_cons de_str (da_two de_str de_str)))) (de_c2 c_law_draw (hr.mono (by decide)) (L2N.takes_of rfl rfl rfl rfl) (de_var 1) de_int))) (EnvLe.noth rfl) (fun text1949 => (ds_set 7 sc_law.nd (fun due1965 => [some script1891, some well_here1923, some rows1895, some p1922, some s1929, none, some text1949, some due1965, none]) (de_p1 c_law_read (hr.mono (by decide)) (L2N.takes_of rfl rfl rfl rfl) (de_var 6)) (EnvLe.noth rfl) (fun due1965 => (ds_ifr (fun e : Empty => e.elim) (dt_w (dw_and (dt_not (dt_tru (de_p1 c_law_is_beyond (hr.mono (by decide)) (L2N.takes_of rfl rfl rfl rfl) (de_ix (de_add (de_var 4) (de_lst (da_one de_str))) de_int)))) (dw_and1 (dt_cmp (op_neX (hu64 hr)) ne_ok (de_lst (da_two (de_p1 c_law_found (hr.mono (by decide)) (L2N.takes_of rfl rfl rfl rfl) (de_var 6)) (de_p1 c_law_found (hr.mono (by decide)) (L2N.takes_of rfl rfl rfl rfl) (de_var 6)))) (de_lst (da_two (de_var 7) (de_var 7))) (nomark _))))) (ds_ret de_bl (EnvLe.noth rfl)) (EnvLe.noth rfl) (ds_set 8 sc_law.nd (fun odd1990 => [some script1891, some well_here1923, some rows1895, some p1922, some s1929, none, some text1949, some due1965, some odd1990]) (de_ix (de_lst (da_cons de_non (da_cons de_int (da_cons de_bl (da_cons (de_lst (da_one (de_var 6))) (da_cons (de_tup (da_one (de_var 6))) (da_cons de_str (da_two de_str de_str)))))))) (de_c2 c_law_draw (hr.mono (by decide)) (L2N.takes_of rfl rfl rfl rfl) (de_var 1) de_int)) (EnvLe.noth rfl) (fun odd1990 => (ds_ifr (fun e : Empty => e.elim) (dt_cmp (op_neX (hu64 hr)) ne_ok (de_p1 c_law_found (hr.mono (by decide)) (L2N.takes_of rfl rfl rfl rfl) (de_var 8)) de_str (nomark _)) (ds_ret de_bl (EnvLe.noth rfl)) (EnvLe.noth rfl) (ds_nil (t := ()) (show EnvLe _ _ from (.keep (.drop (.keep (.drop (.drop (.keep (.drop (.drop (.drop .nil))))))))))) rfl))) rfl)))))))))))))) (fun s1917 => (show DS _ _ _ [some script1891, none, some rows1895, none, none, none, none, none, none] _ _ _ _ from (ds_ret (de_eq (hu64 hr) (de_p1 c_law_found (hr.mono (by decide)) (L2N.takes_of rfl rfl rfl rfl) de_str) (de_tup (da_cons (de_tup da_nil) (da_cons de_int (da_cons de_int (da_two de_int (de_tup da_nil))))))) (EnvLe.noth rfl))))))))))
theorem ok_all {P : Program} {w : World} {K : Fg} {mg : Str → Option Value} {base : Heap} (T : Tx w K mg) (f : Addr) (fd : FuncData) (F : Fun K "law" "law" s_law f fd) : FnOk P w K mg base (L2N.CX P w) 7 f fd ["_law_script"] (spD K mg 1 (app1 f_law)) := by
  have c_law_well := ok_law_well (P := P) (w := w) (base := base) T
  have c_law_number := ok_law_number (P := P) (w := w) (base := base) T
  have c_law_head_of := ok_law_head_of (P := P) (w := w) (base := base) T c_law_number
  have c_law_line_of := ok_law_line_of (P := P) (w := w) (base := base) T c_law_number
  have c_law_is_work := ok_law_is_work (P := P) (w := w) (base := base) T
  have c_law_are_limits := ok_law_are_limits (P := P) (w := w) (base := base) T
  have c_law_read := ok_law_read (P := P) (w := w) (base := base) T c_law_head_of c_law_line_of c_law_is_work c_law_are_limits
  have c_need := ok_need (P := P) (w := w) (base := base) T
  have c_whole_rows := ok_whole_rows (P := P) (w := w) (base := base) T c_need
  have c_words_in := ok_words_in (P := P) (w := w) (base := base) T c_need
  have c_is_number := ok_is_number (P := P) (w := w) (base := base) T
  have c_number_in := ok_number_in (P := P) (w := w) (base := base) T c_need c_is_number
  have c_numbers_in := ok_numbers_in (P := P) (w := w) (base := base) T c_number_in
  have c_head_in := ok_head_in (P := P) (w := w) (base := base) T c_need c_words_in c_numbers_in
  have c_is_whole := ok_is_whole (P := P) (w := w) (base := base) T
  have c_is_stretch := ok_is_stretch (P := P) (w := w) (base := base) T c_is_whole
  have c_check_work := ok_check_work (P := P) (w := w) (base := base) T c_is_stretch
  have c_check_bounds := ok_check_bounds (P := P) (w := w) (base := base) T c_is_whole
  have c_line_in := ok_line_in (P := P) (w := w) (base := base) T c_need c_words_in c_number_in c_numbers_in
  have c_read_text := ok_read_text (P := P) (w := w) (base := base) T c_whole_rows c_head_in c_check_work c_check_bounds c_line_in
  have c_law_word := ok_law_word (P := P) (w := w) (base := base) T
  have c_law_found := ok_law_found (P := P) (w := w) (base := base) T c_read_text c_law_word
  have c_law_draw := ok_law_draw (P := P) (w := w) (base := base) T
  have c_law_free_work := ok_law_free_work (P := P) (w := w) (base := base) T c_law_draw
  have c_law_free_limits := ok_law_free_limits (P := P) (w := w) (base := base) T c_law_draw
  have c_law_head := ok_law_head (P := P) (w := w) (base := base) T
  have c_law_some_head := ok_law_some_head (P := P) (w := w) (base := base) T c_law_draw c_law_free_work c_law_free_limits c_law_head
  have c_law_any_word := ok_law_any_word (P := P) (w := w) (base := base) T c_law_draw
  have c_law_spoilt_words := ok_law_spoilt_words (P := P) (w := w) (base := base) T c_law_draw c_law_any_word
  have c_law_spoilt_rows := ok_law_spoilt_rows (P := P) (w := w) (base := base) T c_law_draw c_law_spoilt_words
  have c_law_line_text := ok_law_line_text (P := P) (w := w) (base := base) T
  have c_law_is_beyond := ok_law_is_beyond (P := P) (w := w) (base := base) T c_law_head_of
  have c_law_far := ok_law_far (P := P) (w := w) (base := base) T c_law_draw
  have c_law_free_line := ok_law_free_line (P := P) (w := w) (base := base) T c_law_draw c_law_any_word c_law_far
  exact fo_law T c_law_well c_law_read c_law_found c_law_draw c_law_some_head c_law_spoilt_rows c_law_line_text c_law_is_beyond c_law_free_line F
end Lw
/-! the end: the top by one run, facts by names -/
noncomputable section
namespace Lw
open PySem PySem.Spec PyProof.Rows L2
abbrev rowH : PySem.W.OpenRow := PySem.W.OpenLaw.row PySem.Challenge.rw_lentwork_k36_texts_of_no_book
abbrev qvH : Program := PySem.W.view rowH.prog [64]
def looseH : List PySem.Str := (["LentError", "BadWork", "BadPlace", "Twice", "BadBound", "BadWorker", "BadMoment", "NoLending", "Lost", "BadTelling", "Otherwise", "NoPiece", "BadCut", "BadJoin", "BadLine", "NoText", "Fallen", "NoBook", "Down", "BadPlan", "NoLine", "is_whole", "is_stretch", "check_work", "check_bounds"] : List PySem.Str) ++ (["FIGURES", "MOST_FIGURES", "BOUNDS", "COUNTS", "need", "is_number", "number_in", "numbers_in", "words_in", "head_in", "line_in", "whole_rows", "read_text", "_law_well", "_law_draw", "_law_far", "_law_free_work", "_law_free_limits", "_law_any_word", "_law_free_line", "_law_head", "_law_line_text", "_law_word", "_law_number", "_law_head_of"] : List PySem.Str) ++ (["_law_line_of", "_law_is_work", "_law_are_limits", "_law_read", "_law_spoilt_words", "_law_spoilt_rows", "_law_some_head", "_law_found", "_law_is_beyond"] : List PySem.Str)
def clsH0 : List Str := ["NoText", "BadWork", "BadBound", "LentError", "BadCut", "BadJoin", "BadLine", "BadMoment", "BadPlace", "BadPlan", "BadTelling", "BadWorker", "Down", "Fallen", "Lost", "NoBook", "NoLending", "NoLine", "NoPiece", "Otherwise", "Twice"]
def clsH : List Str := clsH0
def tabH0 : Tab := (tabE.drop 0).take 16
def faQ0 : List He.Fa := ([.free "len", .free "int", .free "tuple", .free "range", .free "max", .free "enumerate", .free "min", .free "isinstance", .free "str", .free "all", .free "zip", .free "ValueError", .free "sum", .free "list", .int "MOST_FIGURES" 18, .str "FIGURES" "0123456789"] : List He.Fa)
def fnQ0 : List He.FnD := ([] : List He.FnD)
def faQ1 : List He.Fa := [] ++ (clsH.map He.Fa.glo ++ clsH.map He.Fa.exc)
def fnQ1 : List He.FnD := ([] : List He.FnD)
def faQ2 : List He.Fa := ([.glo "_law_well", .keep "_law_well", .glo "_law_number", .keep "_law_number", .glo "_law_head_of", .keep "_law_head_of", .glo "_law_line_of", .keep "_law_line_of", .glo "_law_is_work", .keep "_law_is_work", .glo "_law_are_limits", .keep "_law_are_limits", .glo "_law_read", .keep "_law_read", .glo "need", .keep "need", .glo "whole_rows", .keep "whole_rows", .glo "words_in", .keep "words_in", .glo "is_number", .keep "is_number", .glo "number_in", .keep "number_in", .glo "numbers_in"] : List He.Fa) ++ ([.keep "numbers_in", .glo "head_in", .keep "head_in", .glo "is_whole", .keep "is_whole", .glo "is_stretch", .keep "is_stretch", .glo "check_work", .keep "check_work", .glo "check_bounds", .keep "check_bounds", .glo "line_in", .keep "line_in", .glo "read_text", .keep "read_text", .glo "_law_word", .keep "_law_word", .glo "_law_found", .keep "_law_found", .glo "_law_draw", .keep "_law_draw", .glo "_law_free_work", .keep "_law_free_work", .glo "_law_free_limits", .keep "_law_free_limits"] : List He.Fa) ++ ([.glo "_law_head", .keep "_law_head", .glo "_law_some_head", .keep "_law_some_head", .glo "_law_any_word", .keep "_law_any_word", .glo "_law_spoilt_words", .keep "_law_spoilt_words", .glo "_law_spoilt_rows", .keep "_law_spoilt_rows"] : List He.Fa)
def fnQ2 : List He.FnD := ([⟨("_law_well", none), "_law_well", "_law_well", defArgs s_law_well, defBody s_law_well, defScope s_law_well⟩, ⟨("_law_number", none), "_law_number", "_law_number", defArgs s_law_number, defBody s_law_number, defScope s_law_number⟩, ⟨("_law_head_of", none), "_law_head_of", "_law_head_of", defArgs s_law_head_of, defBody s_law_head_of, defScope s_law_head_of⟩, ⟨("_law_line_of", none), "_law_line_of", "_law_line_of", defArgs s_law_line_of, defBody s_law_line_of, defScope s_law_line_of⟩, ⟨("_law_is_work", none), "_law_is_work", "_law_is_work", defArgs s_law_is_work, defBody s_law_is_work, defScope s_law_is_work⟩, ⟨("_law_are_limits", none), "_law_are_limits", "_law_are_limits", defArgs s_law_are_limits, defBody s_law_are_limits, defScope s_law_are_limits⟩, ⟨("_law_read", none), "_law_read", "_law_read", defArgs s_law_read, defBody s_law_read, defScope s_law_read⟩, ⟨("need", none), "need", "need", defArgs s_need, defBody s_need, defScope s_need⟩, ⟨("whole_rows", none), "whole_rows", "whole_rows", defArgs s_whole_rows, defBody s_whole_rows, defScope s_whole_rows⟩, ⟨("words_in", none), "words_in", "words_in", defArgs s_words_in, defBody s_words_in, defScope s_words_in⟩, ⟨("is_number", none), "is_number", "is_number", defArgs s_is_number, defBody s_is_number, defScope s_is_number⟩, ⟨("number_in", none), "number_in", "number_in", defArgs s_number_in, defBody s_number_in, defScope s_number_in⟩, ⟨("numbers_in", none), "numbers_in", "numbers_in", defArgs s_numbers_in, defBody s_numbers_in, defScope s_numbers_in⟩, ⟨("head_in", none), "head_in", "head_in", defArgs s_head_in, defBody s_head_in, defScope s_head_in⟩, ⟨("is_whole", none), "is_whole", "is_whole", defArgs s_is_whole, defBody s_is_whole, defScope s_is_whole⟩, ⟨("is_stretch", none), "is_stretch", "is_stretch", defArgs s_is_stretch, defBody s_is_stretch, defScope s_is_stretch⟩, ⟨("check_work", none), "check_work", "check_work", defArgs s_check_work, defBody s_check_work, defScope s_check_work⟩, ⟨("check_bounds", none), "check_bounds", "check_bounds", defArgs s_check_bounds, defBody s_check_bounds, defScope s_check_bounds⟩, ⟨("line_in", none), "line_in", "line_in", defArgs s_line_in, defBody s_line_in, defScope s_line_in⟩, ⟨("read_text", none), "read_text", "read_text", defArgs s_read_text, defBody s_read_text, defScope s_read_text⟩, ⟨("_law_word", none), "_law_word", "_law_word", defArgs s_law_word, defBody s_law_word, defScope s_law_word⟩, ⟨("_law_found", none), "_law_found", "_law_found", defArgs s_law_found, defBody s_law_found, defScope s_law_found⟩, ⟨("_law_draw", none), "_law_draw", "_law_draw", defArgs s_law_draw, defBody s_law_draw, defScope s_law_draw⟩, ⟨("_law_free_work", none), "_law_free_work", "_law_free_work", defArgs s_law_free_work, defBody s_law_free_work, defScope s_law_free_work⟩, ⟨("_law_free_limits", none), "_law_free_limits", "_law_free_limits", defArgs s_law_free_limits, defBody s_law_free_limits, defScope s_law_free_limits⟩] : List He.FnD) ++ ([⟨("_law_head", none), "_law_head", "_law_head", defArgs s_law_head, defBody s_law_head, defScope s_law_head⟩, ⟨("_law_some_head", none), "_law_some_head", "_law_some_head", defArgs s_law_some_head, defBody s_law_some_head, defScope s_law_some_head⟩, ⟨("_law_any_word", none), "_law_any_word", "_law_any_word", defArgs s_law_any_word, defBody s_law_any_word, defScope s_law_any_word⟩, ⟨("_law_spoilt_words", none), "_law_spoilt_words", "_law_spoilt_words", defArgs s_law_spoilt_words, defBody s_law_spoilt_words, defScope s_law_spoilt_words⟩, ⟨("_law_spoilt_rows", none), "_law_spoilt_rows", "_law_spoilt_rows", defArgs s_law_spoilt_rows, defBody s_law_spoilt_rows, defScope s_law_spoilt_rows⟩] : List He.FnD)
def faQ3 : List He.Fa := ([.glo "_law_line_text", .keep "_law_line_text", .glo "_law_is_beyond", .keep "_law_is_beyond", .glo "_law_far", .keep "_law_far", .glo "_law_free_line", .keep "_law_free_line", .glo "law", .keep "law"] : List He.Fa)
def fnQ3 : List He.FnD := ([⟨("_law_line_text", none), "_law_line_text", "_law_line_text", defArgs s_law_line_text, defBody s_law_line_text, defScope s_law_line_text⟩, ⟨("_law_is_beyond", none), "_law_is_beyond", "_law_is_beyond", defArgs s_law_is_beyond, defBody s_law_is_beyond, defScope s_law_is_beyond⟩, ⟨("_law_far", none), "_law_far", "_law_far", defArgs s_law_far, defBody s_law_far, defScope s_law_far⟩, ⟨("_law_free_line", none), "_law_free_line", "_law_free_line", defArgs s_law_free_line, defBody s_law_free_line, defScope s_law_free_line⟩, ⟨("law", none), "law", "law", defArgs s_law, defBody s_law, defScope s_law⟩] : List He.FnD)
def exH0 : Fg → Bool := allB
def exH1 : Fg → Bool := fun K => clsH0.all fun z => clB K z
def exH2 : Fg → Bool := fun K => tabB K tabH0
def exH3 : Fg → Bool := fun K => tupB K "BOUNDS" ["span", "every", "least"]
def partsH : List (List He.Fa × List He.FnD) := [(faQ0, fnQ0), (faQ1, fnQ1), (faQ2, fnQ2), (faQ3, fnQ3)]
def dnH : List He.DefD := ([] : List He.DefD)
def exsH : List (Fg → Bool) := [exH0, exH1, exH2, exH3]
def dksH : List (Str × List (Str × Int)) := [("COUNTS", kd_COUNTS)]
def obsK (K : Fg) : List AlK := dksH.map fun d => dkW K d.1
def valK (w : World) : List AlK := dksH.map fun d => some (itsIn w.params d.2)
abbrev hkH : PySem.W.Hook := hookP 910 partsH dnH exsH dksH
def obH (s : PySem.W.SharedT) : AlP := obsP partsH dnH exsH dksH (KS 910 s)
theorem obH_eq (s : PySem.W.SharedT) : obH s = hkH.obs s.abs := obsP_eq s
abbrev xH (w : World) (os : OsState) : Option PySem.W.SharedT := HandSHeadRun.endF (HandSHeadRun.stepQ (HandSHeadRun.denQ HandSHeadRun.tabQ) rowH.prog w) 16000 rowH.prog w os
abbrev p_runA (w : World) : Prop := ∀ os : OsState, ((xH w os).map fun s => (HandSHeadRun.looksF rowH.prog (PySem.W.boot_heap w.params) s.abs, HandSHeadRun.seenQ qvH looseH (importedModules rowH.prog.main.body) (fun s => PySem.W.xlAt qvH [] s && PySem.W.recOk rowH.toRowW.records s) s.abs)) = some (true, PySem.W.openGood qvH looseH)
theorem runA_f (w : World) : p_runA (w.withFollow "special-get-raises" false) := by
  intro os
  kernel_rfl
theorem runA_t (w : World) : p_runA (w.withFollow "special-get-raises" true) := by
  intro os
  kernel_rfl
theorem runA (w : World) (os : OsState) : ((xH w os).map fun s => (HandSHeadRun.looksF rowH.prog (PySem.W.boot_heap w.params) s.abs, HandSHeadRun.seenQ qvH looseH (importedModules rowH.prog.main.body) (fun s => PySem.W.xlAt qvH [] s && PySem.W.recOk rowH.toRowW.records s) s.abs)) = some (true, PySem.W.openGood qvH looseH) := PySem.W.byRow2 "special-get-raises" (P := p_runA) runA_f runA_t w os
abbrev p_runP0 (w : World) : Prop := ∀ os : OsState, ((xH w os).map fun s => He.obsE faQ0 fnQ0 (KS 910 s)) = some (He.valE fnQ0)
theorem runP0_f (w : World) : p_runP0 (w.withFollow "special-get-raises" false) := by
  intro os
  refine ks_map (f := fun K => He.obsE faQ0 fnQ0 K) ?_
  kernel_rfl
theorem runP0_t (w : World) : p_runP0 (w.withFollow "special-get-raises" true) := by
  intro os
  refine ks_map (f := fun K => He.obsE faQ0 fnQ0 K) ?_
  kernel_rfl
theorem runP0 (w : World) (os : OsState) : ((xH w os).map fun s => He.obsE faQ0 fnQ0 (KS 910 s)) = some (He.valE fnQ0) := PySem.W.byRow2 "special-get-raises" (P := p_runP0) runP0_f runP0_t w os
abbrev p_runP1 (w : World) : Prop := ∀ os : OsState, ((xH w os).map fun s => He.obsE faQ1 fnQ1 (KS 910 s)) = some (He.valE fnQ1)
theorem runP1_f (w : World) : p_runP1 (w.withFollow "special-get-raises" false) := by
  intro os
  refine ks_map (f := fun K => He.obsE faQ1 fnQ1 K) ?_
  kernel_rfl
theorem runP1_t (w : World) : p_runP1 (w.withFollow "special-get-raises" true) := by
  intro os
  refine ks_map (f := fun K => He.obsE faQ1 fnQ1 K) ?_
  kernel_rfl
theorem runP1 (w : World) (os : OsState) : ((xH w os).map fun s => He.obsE faQ1 fnQ1 (KS 910 s)) = some (He.valE fnQ1) := PySem.W.byRow2 "special-get-raises" (P := p_runP1) runP1_f runP1_t w os
abbrev p_runP2 (w : World) : Prop := ∀ os : OsState, ((xH w os).map fun s => He.obsE faQ2 fnQ2 (KS 910 s)) = some (He.valE fnQ2)
theorem runP2_f (w : World) : p_runP2 (w.withFollow "special-get-raises" false) := by
  intro os
  refine ks_map (f := fun K => He.obsE faQ2 fnQ2 K) ?_
  kernel_rfl
theorem runP2_t (w : World) : p_runP2 (w.withFollow "special-get-raises" true) := by
  intro os
  refine ks_map (f := fun K => He.obsE faQ2 fnQ2 K) ?_
  kernel_rfl
theorem runP2 (w : World) (os : OsState) : ((xH w os).map fun s => He.obsE faQ2 fnQ2 (KS 910 s)) = some (He.valE fnQ2) := PySem.W.byRow2 "special-get-raises" (P := p_runP2) runP2_f runP2_t w os
abbrev p_runP3 (w : World) : Prop := ∀ os : OsState, ((xH w os).map fun s => He.obsE faQ3 fnQ3 (KS 910 s)) = some (He.valE fnQ3)
theorem runP3_f (w : World) : p_runP3 (w.withFollow "special-get-raises" false) := by
  intro os
  refine ks_map (f := fun K => He.obsE faQ3 fnQ3 K) ?_
  kernel_rfl
theorem runP3_t (w : World) : p_runP3 (w.withFollow "special-get-raises" true) := by
  intro os
  refine ks_map (f := fun K => He.obsE faQ3 fnQ3 K) ?_
  kernel_rfl
theorem runP3 (w : World) (os : OsState) : ((xH w os).map fun s => He.obsE faQ3 fnQ3 (KS 910 s)) = some (He.valE fnQ3) := PySem.W.byRow2 "special-get-raises" (P := p_runP3) runP3_f runP3_t w os
abbrev p_runE0 (w : World) : Prop := ∀ os : OsState, ((xH w os).map fun s => exH0 (KS 910 s)) = some true
theorem runE0_f (w : World) : p_runE0 (w.withFollow "special-get-raises" false) := by
  intro os
  refine ks_map (f := exH0) ?_
  kernel_rfl
theorem runE0_t (w : World) : p_runE0 (w.withFollow "special-get-raises" true) := by
  intro os
  refine ks_map (f := exH0) ?_
  kernel_rfl
theorem runE0 (w : World) (os : OsState) : ((xH w os).map fun s => exH0 (KS 910 s)) = some true := PySem.W.byRow2 "special-get-raises" (P := p_runE0) runE0_f runE0_t w os
abbrev p_runE1 (w : World) : Prop := ∀ os : OsState, ((xH w os).map fun s => exH1 (KS 910 s)) = some true
theorem runE1_f (w : World) : p_runE1 (w.withFollow "special-get-raises" false) := by
  intro os
  refine ks_map (f := exH1) ?_
  kernel_rfl
theorem runE1_t (w : World) : p_runE1 (w.withFollow "special-get-raises" true) := by
  intro os
  refine ks_map (f := exH1) ?_
  kernel_rfl
theorem runE1 (w : World) (os : OsState) : ((xH w os).map fun s => exH1 (KS 910 s)) = some true := PySem.W.byRow2 "special-get-raises" (P := p_runE1) runE1_f runE1_t w os
abbrev p_runE2 (w : World) : Prop := ∀ os : OsState, ((xH w os).map fun s => exH2 (KS 910 s)) = some true
theorem runE2_f (w : World) : p_runE2 (w.withFollow "special-get-raises" false) := by
  intro os
  refine ks_map (f := exH2) ?_
  kernel_rfl
theorem runE2_t (w : World) : p_runE2 (w.withFollow "special-get-raises" true) := by
  intro os
  refine ks_map (f := exH2) ?_
  kernel_rfl
theorem runE2 (w : World) (os : OsState) : ((xH w os).map fun s => exH2 (KS 910 s)) = some true := PySem.W.byRow2 "special-get-raises" (P := p_runE2) runE2_f runE2_t w os
abbrev p_runE3 (w : World) : Prop := ∀ os : OsState, ((xH w os).map fun s => exH3 (KS 910 s)) = some true
theorem runE3_f (w : World) : p_runE3 (w.withFollow "special-get-raises" false) := by
  intro os
  refine ks_map (f := exH3) ?_
  kernel_rfl
theorem runE3_t (w : World) : p_runE3 (w.withFollow "special-get-raises" true) := by
  intro os
  refine ks_map (f := exH3) ?_
  kernel_rfl
theorem runE3 (w : World) (os : OsState) : ((xH w os).map fun s => exH3 (KS 910 s)) = some true := PySem.W.byRow2 "special-get-raises" (P := p_runE3) runE3_f runE3_t w os
abbrev p_runK (w : World) : Prop := ∀ os : OsState, ((xH w os).map fun s => obsK (KS 910 s)) = some (valK w)
theorem runK_f (w : World) : p_runK (w.withFollow "special-get-raises" false) := by
  intro os
  refine ks_map (f := obsK) ?_
  kernel_rfl
theorem runK_t (w : World) : p_runK (w.withFollow "special-get-raises" true) := by
  intro os
  refine ks_map (f := obsK) ?_
  kernel_rfl
theorem runK (w : World) (os : OsState) : ((xH w os).map fun s => obsK (KS 910 s)) = some (valK w) := PySem.W.byRow2 "special-get-raises" (P := p_runK) runK_f runK_t w os
theorem runH (w : World) : HandSHeadRun.RunEq rowH qvH hkH obH 16000 looseH w := fun os => by
  obtain ⟨s, e, hA⟩ := Option.map_eq_some_iff.mp (runA w os)
  have e : xH w os = some s := e
  have h0 : He.obsE faQ0 fnQ0 (KS 910 s) = He.valE fnQ0 := map_at e (runP0 w os)
  have h1 : He.obsE faQ1 fnQ1 (KS 910 s) = He.valE fnQ1 := map_at e (runP1 w os)
  have h2 : He.obsE faQ2 fnQ2 (KS 910 s) = He.valE fnQ2 := map_at e (runP2 w os)
  have h3 : He.obsE faQ3 fnQ3 (KS 910 s) = He.valE fnQ3 := map_at e (runP3 w os)
  have e0 : exH0 (KS 910 s) = true := map_at e (runE0 w os)
  have e1 : exH1 (KS 910 s) = true := map_at e (runE1 w os)
  have e2 : exH2 (KS 910 s) = true := map_at e (runE2 w os)
  have e3 : exH3 (KS 910 s) = true := map_at e (runE3 w os)
  have hd : He.obsD [] dnH (KS 910 s) = He.valD dnH := rfl
  have hp : (partsH.map fun p => He.obsE p.1 p.2 (KS 910 s)) = partsH.map fun p => He.valE p.2 := by
    show [He.obsE faQ0 fnQ0 (KS 910 s), He.obsE faQ1 fnQ1 (KS 910 s), He.obsE faQ2 fnQ2 (KS 910 s), He.obsE faQ3 fnQ3 (KS 910 s)] = [He.valE fnQ0, He.valE fnQ1, He.valE fnQ2, He.valE fnQ3]
    exact (congr (congrArg List.cons h0) (congr (congrArg List.cons h1) (congr (congrArg List.cons h2) (congr (congrArg List.cons h3) rfl))))
  have he : (exsH.map fun e => e (KS 910 s)) = exsH.map fun _ => true := by
    show [exH0 (KS 910 s), exH1 (KS 910 s), exH2 (KS 910 s), exH3 (KS 910 s)] = [true, true, true, true]
    exact (congr (congrArg List.cons e0) (congr (congrArg List.cons e1) (congr (congrArg List.cons e2) (congr (congrArg List.cons e3) rfl))))
  have hk : (dksH.map fun d => dkW (KS 910 s) d.1) = dksH.map fun d => some (itsIn w.params d.2) := map_at e (runK w os)
  have ho : obH s = hkH.val w := congr (congrArg Prod.mk hp) (congr (congrArg Prod.mk hd) (congr (congrArg Prod.mk he) hk))
  obtain ⟨hA1, hA2⟩ := Prod.mk.inj hA
  show (xH w os).map _ = _
  rw [e]
  exact congrArg some (congr (congrArg Prod.mk hA1) (congr (congrArg Prod.mk hA2) ho))
theorem factsH {K : Fg} {h : Heap} {mg : Str → Option Value} {w : World} (X : K.In h) (G : h.Ns mainGlobals mg) (c : obsP partsH dnH exsH dksH K = valP partsH dnH exsH dksH w) : Tx w K mg := by
  obtain ⟨cp, cd, ce, ck⟩ := saysP c
  have c0 := cp 0 faQ0 fnQ0 rfl
  have c1 := cp 1 faQ1 fnQ1 rfl
  have c2 := cp 2 faQ2 fnQ2 rfl
  have c3 := cp 3 faQ3 fnQ3 rfl
  have a1 : allB K = true := ce 0 exH0 rfl
  have a2_0 : (clsH0.all fun z => clB K z) = true := ce 1 exH1 rfl
  have cl := cla_h (cs := clsH) (fp := []) X G rfl c1 a1 a2_0
  have t0 : tabB K tabH0 = true := ce 2 exH2 rfl
  have tb : tabB K tabE = true := by
    have et : tabE = tabH0 := by decide +kernel
    rw [et]
    exact t0
  have tu_BOUNDS : tupB K "BOUNDS" ["span", "every", "least"] = true := ce 3 exH3 rfl
  refine' ⟨?_, ?_, ?_, ?_, ?_, ?_, ?_, ?_, ?_, ?_, ?_, ?_, ?_, ?_, ?_, ?_, ?_, ?_, ?_, ?_, ?_, ?_, ?_, ?_, ?_, ?_, ?_, ?_, ?_, ?_, ?_, ?_, ?_, ?_, ?_, ?_, ?_, ?_, ?_, ?_, ?_, ?_, ?_, ?_, ?_, ?_, ?_, ?_, ?_, ?_, ?_, ?_, ?_, ?_, ?_, ?_, ?_, ?_⟩
  · exact He.free_ok X G (c0.fact 0 (f := .free "len") rfl)
  · exact He.free_ok X G (c0.fact 1 (f := .free "int") rfl)
  · exact He.free_ok X G (c0.fact 2 (f := .free "tuple") rfl)
  · exact He.free_ok X G (c0.fact 3 (f := .free "range") rfl)
  · exact He.free_ok X G (c0.fact 4 (f := .free "max") rfl)
  · exact He.free_ok X G (c0.fact 5 (f := .free "enumerate") rfl)
  · exact He.free_ok X G (c0.fact 6 (f := .free "min") rfl)
  · exact He.free_ok X G (c0.fact 7 (f := .free "isinstance") rfl)
  · exact He.free_ok X G (c0.fact 8 (f := .free "str") rfl)
  · exact He.free_ok X G (c0.fact 9 (f := .free "all") rfl)
  · exact He.free_ok X G (c0.fact 10 (f := .free "zip") rfl)
  · exact He.free_ok X G (c0.fact 11 (f := .free "ValueError") rfl)
  · exact He.free_ok X G (c0.fact 12 (f := .free "sum") rfl)
  · exact He.free_ok X G (c0.fact 13 (f := .free "list") rfl)
  · exact exf_c tb cl (by decide +kernel) (by decide +kernel) (He.free_ok X G (c0.fact 11 (f := .free "ValueError") rfl))
  · exact gvi_h X G c0 14
  · exact gvs_h X G c0 15
  · exact tupB_ok (zs := [("span" : Str), ("every" : Str), ("least" : Str)]) X G tu_BOUNDS
  · exact dkW_ok X G (by decide +kernel) (ck 0 "COUNTS" kd_COUNTS rfl)
  · exact ⟨_, cl "NoText" (by decide +kernel)⟩
  · exact ⟨_, cl "BadWork" (by decide +kernel)⟩
  · exact ⟨_, cl "BadBound" (by decide +kernel)⟩
  · exact ⟨_, cl "LentError" (by decide +kernel)⟩
  · exact dfn_h (fun _ _ _ _ _ _ us hl => match us, hl with | [_, _], _ => rfl) X G c2 0 1 0
  · exact dfn_h (fun _ _ _ _ _ _ us hl => match us, hl with | [_], _ => rfl) X G c2 2 3 1
  · exact dfn_h (fun _ _ _ _ _ _ us hl => match us, hl with | [_], _ => rfl) X G c2 4 5 2
  · exact dfn_h (fun _ _ _ _ _ _ us hl => match us, hl with | [_], _ => rfl) X G c2 6 7 3
  · exact dfn_h (fun _ _ _ _ _ _ us hl => match us, hl with | [_], _ => rfl) X G c2 8 9 4
  · exact dfn_h (fun _ _ _ _ _ _ us hl => match us, hl with | [_], _ => rfl) X G c2 10 11 5
  · exact dfn_h (fun _ _ _ _ _ _ us hl => match us, hl with | [_], _ => rfl) X G c2 12 13 6
  · exact dfn_h (fun _ _ _ _ _ _ us hl => match us, hl with | [_], _ => rfl) X G c2 14 15 7
  · exact dfn_h (fun _ _ _ _ _ _ us hl => match us, hl with | [_], _ => rfl) X G c2 16 17 8
  · exact dfn_h (fun _ _ _ _ _ _ us hl => match us, hl with | [_], _ => rfl) X G c2 18 19 9
  · exact dfn_h (fun _ _ _ _ _ _ us hl => match us, hl with | [_], _ => rfl) X G c2 20 21 10
  · exact dfn_h (fun _ _ _ _ _ _ us hl => match us, hl with | [_], _ => rfl) X G c2 22 23 11
  · exact dfn_h (fun _ _ _ _ _ _ us hl => match us, hl with | [_], _ => rfl) X G c2 24 25 12
  · exact dfn_h (fun _ _ _ _ _ _ us hl => match us, hl with | [_], _ => rfl) X G c2 26 27 13
  · exact dfn_h (fun _ _ _ _ _ _ us hl => match us, hl with | [_], _ => rfl) X G c2 28 29 14
  · exact dfn_h (fun _ _ _ _ _ _ us hl => match us, hl with | [_], _ => rfl) X G c2 30 31 15
  · exact dfn_h (fun _ _ _ _ _ _ us hl => match us, hl with | [_], _ => rfl) X G c2 32 33 16
  · exact dfn_h (fun _ _ _ _ _ _ us hl => match us, hl with | [_, _, _], _ => rfl) X G c2 34 35 17
  · exact dfn_h (fun _ _ _ _ _ _ us hl => match us, hl with | [_], _ => rfl) X G c2 36 37 18
  · exact dfn_h (fun _ _ _ _ _ _ us hl => match us, hl with | [_], _ => rfl) X G c2 38 39 19
  · exact dfn_h (fun _ _ _ _ _ _ us hl => match us, hl with | [_], _ => rfl) X G c2 40 41 20
  · exact dfn_h (fun _ _ _ _ _ _ us hl => match us, hl with | [_], _ => rfl) X G c2 42 43 21
  · exact dfn_h (fun _ _ _ _ _ _ us hl => match us, hl with | [_, _], _ => rfl) X G c2 44 45 22
  · exact dfn_h (fun _ _ _ _ _ _ us hl => match us, hl with | [_], _ => rfl) X G c2 46 47 23
  · exact dfn_h (fun _ _ _ _ _ _ us hl => match us, hl with | [_], _ => rfl) X G c2 48 49 24
  · exact dfn_h (fun _ _ _ _ _ _ us hl => match us, hl with | [_, _], _ => rfl) X G c2 50 51 25
  · exact dfn_h (fun _ _ _ _ _ _ us hl => match us, hl with | [_], _ => rfl) X G c2 52 53 26
  · exact dfn_h (fun _ _ _ _ _ _ us hl => match us, hl with | [_], _ => rfl) X G c2 54 55 27
  · exact dfn_h (fun _ _ _ _ _ _ us hl => match us, hl with | [_, _], _ => rfl) X G c2 56 57 28
  · exact dfn_h (fun _ _ _ _ _ _ us hl => match us, hl with | [_, _], _ => rfl) X G c2 58 59 29
  · exact dfn_h (fun _ _ _ _ _ _ us hl => match us, hl with | [_], _ => rfl) X G c3 0 1 0
  · exact dfn_h (fun _ _ _ _ _ _ us hl => match us, hl with | [_], _ => rfl) X G c3 2 3 1
  · exact dfn_h (fun _ _ _ _ _ _ us hl => match us, hl with | [_], _ => rfl) X G c3 4 5 2
  · exact dfn_h (fun _ _ _ _ _ _ us hl => match us, hl with | [_], _ => rfl) X G c3 6 7 3
  · exact dfn_h (fun _ _ _ _ _ _ us hl => match us, hl with | [_], _ => rfl) X G c3 8 9 4
end Lw
end
open PySem PySem.W PyProof.Rows in
set_option maxRecDepth 100000 in
set_option maxHeartbeats 0 in
theorem PySem.Challenge.cw_lentwork_k36_texts_of_no_book_holds : PySem.Challenge.rw_lentwork_k36_texts_of_no_book.Holds := by
  w_on; o_law
  refine HandSHeadRun.head_any (r := OpenLaw.row PySem.Challenge.rw_lentwork_k36_texts_of_no_book) (q := Lw.qvH) (H := Lw.hkH) (ob := Lw.obH) (M := 16000) (loose := Lw.looseH) (d := HandSHeadRun.topDef (OpenLaw.row PySem.Challenge.rw_lentwork_k36_texts_of_no_book).prog 64) (kwd := []) Lw.obH_eq (by kernel_rfl) (fun s => by kernel_rfl) Lw.runH (by kernel_rfl) (by kernel_rfl) (by kernel_rfl) (by rfl) (by first | assumption | decide +kernel) (by decide +kernel) ⟨rfl, rfl, rfl, rfl, rfl, by decide +kernel⟩ ?hw ?hc
  case hw => w_witness2
  case hc =>
    refine Lw.walkE (l := PySem.Challenge.rw_lentwork_k36_texts_of_no_book) (g := Lw.f_law) (k := 7) (x := "_law_script") (st := Lw.s_law) rfl (by kernel_rfl) ⟨rfl, by decide, by decide⟩ (by kernel_rfl) (fun _ _ _ _ _ _ _ _ => .of_eq rfl) ?F Lw.plain
    intro w mg h Y G
    obtain ⟨K, KX, c⟩ := Y
    have T := Lw.factsH KX G c
    exact ⟨K, KX, T.d_law, fun base f fd Fn => Lw.ok_all T f fd Fn⟩
#print axioms PySem.Challenge.cw_lentwork_k36_texts_of_no_book_holds
