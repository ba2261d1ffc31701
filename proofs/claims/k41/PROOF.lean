import PyProof.Rows.All
import Wide.All
import OpenK.AllK
import Wide.FinOn
import HandS.ForMost
import HandS.ForExc
import HandS.Wide
import HandS.CallSlots
import HandS.Nested
import HandS.Comp
import HandS.TryOnly
import HandS.IsInst
import HandS.TupAny
import HandS.Zip
import HandS.TupLe
import PyProof.NeKinds
import HandS.ExcOwn
import HandS.ExcCtx
import KE.SortData
import HandS.EndBits
import HandS.RaiseMore
import HandS.Text
import HandS.Conv
import HandS.ExcIs
import HandS.TryMany
import KE.GoesMore
import PyProof.Draws
import KE.GoesZip
import KE.GoesEnum
import HandS.SortInts
import HandS.SetFor
import HandS.Deep
import HandS.Lambda
import HandS.Defaults
import HandS.HotCalls
import HandS.StrMore
import HandS.Iter
import HandS.Style
import HandS.Head0
import HandS.Head1
import HandS.Head2
import HandS.HeadHook1
import HandS.HeadHook2
import HandS.HeadEnd
import HandS.EndTab
import KE.KNestM
import PySem.Challenge.RW_lentwork_k41_stores
import PyProof.Rows.StrJoinMade
import PyProof.StrLawsJoin
set_option Elab.async false
set_option linter.all false
set_option maxRecDepth 100000
set_option maxHeartbeats 4000000
set_option maxHeartbeats 1000000
/-! SimA: plain data D, plain heaps, plain computations M, and what it means that an expression or a statement of the text
    computes one of them (DE, DT, DA, DS). Over the hand layer's judgements. -/
namespace Lw
open PySem L2
abbrev Fg := PySem.W.Frag
/-- plain data: tuples and lists that are never written are values -/
inductive D where
  | non | bl (b : Bool) | int (i : Int) | str (x : Str)
  | ref (n : Nat) | exn (c : Str) (a : Addr) | emp | tup (xs : List D) | lst (xs : List D)
mutual
def Rep (K : Fg) (F : Hp) (m : List Addr) : D → V → Prop
  | .non, v => v = .non
  | .bl b, v => v = .bl b
  | .int i, v => v = .int i
  | .str x, v => v = .str x
  | .ref n, v => ∃ a, m[n]? = some a ∧ v = .ref a
  | .exn _ a, v => v = .ref a
  | .emp, v => ∃ a, F a = some (.dK []) ∧ v = .ref a
  | .tup xs, v => ∃ a vs, v = .ref a ∧ SqT K F a vs ∧ RepL K F m xs vs
  | .lst xs, v => ∃ a vs, v = .ref a ∧ SqL K F a vs ∧ RepL K F m xs vs
def RepL (K : Fg) (F : Hp) (m : List Addr) : List D → List V → Prop
  | [], vs => vs = []
  | d :: ds, vs => ∃ v r, vs = v :: r ∧ Rep K F m d v ∧ RepL K F m ds r
end
structure Ext (F : Hp) (m : List Addr) (F' : Hp) (m' : List Addr) : Prop where
  sub : ∀ a o, F a = some o → F' a = some o
  pre : ∀ (i : Nat) a, m[i]? = some a → m'[i]? = some a
section
variable {K : Fg} {F F' F2 H : Hp} {m m' m2 : List Addr}
theorem Ext.refl : Ext F m F m := ⟨fun _ _ h => h, fun _ _ h => h⟩
theorem Ext.trans (a : Ext F m F' m') (b : Ext F' m' F2 m2) : Ext F m F2 m2 := ⟨fun x o h => b.sub x o (a.sub x o h), fun i x h => b.pre i x (a.pre i x h)⟩
theorem Rd.up {a : Addr} {u : HO} (s : ∀ a o, F a = some o → H a = some o) (h : Rd F a u) : Rd H a u := by
  rcases h with h | ⟨o, h⟩
  · exact .inl (s _ _ h)
  · exact .inr ⟨o, s _ _ h⟩
theorem SqT.up {a : Addr} {xs : List V} (s : ∀ a o, F a = some o → H a = some o) (h : SqT K F a xs) : SqT K H a xs := by
  rcases h with h | h
  · exact .inl (Rd.up s h)
  · exact .inr h
theorem SqL.up {a : Addr} {xs : List V} (s : ∀ a o, F a = some o → H a = some o) (h : SqL K F a xs) : SqL K H a xs := by
  rcases h with h | h
  · exact .inl (Rd.up s h)
  · exact .inr h
mutual
theorem Rep.ext (e : Ext F m F' m') : ∀ (d : D) (v : V), Rep K F m d v → Rep K F' m' d v
  | .non, _, h => h
  | .bl _, _, h => h
  | .int _, _, h => h
  | .str _, _, h => h
  | .ref n, v, h => by
    unfold Rep at h ⊢
    obtain ⟨a, q, h⟩ := h
    exact ⟨a, e.pre _ _ q, h⟩
  | .exn _ _, _, h => h
  | .emp, v, h => by
    unfold Rep at h ⊢
    obtain ⟨a, q, h⟩ := h
    exact ⟨a, e.sub _ _ q, h⟩
  | .tup xs, v, h => by
    unfold Rep at h ⊢
    obtain ⟨a, vs, h1, h2, h3⟩ := h
    exact ⟨a, vs, h1, SqT.up e.sub h2, RepL.ext e xs vs h3⟩
  | .lst xs, v, h => by
    unfold Rep at h ⊢
    obtain ⟨a, vs, h1, h2, h3⟩ := h
    exact ⟨a, vs, h1, SqL.up e.sub h2, RepL.ext e xs vs h3⟩
theorem RepL.ext (e : Ext F m F' m') : ∀ (ds : List D) (vs : List V), RepL K F m ds vs → RepL K F' m' ds vs
  | [], _, h => h
  | d :: ds, vs, h => by
    unfold RepL at h ⊢
    obtain ⟨v, r, h1, h2, h3⟩ := h
    exact ⟨v, r, h1, Rep.ext e d v h2, RepL.ext e ds r h3⟩
end
theorem RepL.length : ∀ {ds : List D} {vs : List V}, RepL K F m ds vs → vs.length = ds.length
  | [], vs, h => by
    unfold RepL at h
    rw [h]
    rfl
  | d :: ds, vs, h => by
    unfold RepL at h
    obtain ⟨v, r, h1, h2, h3⟩ := h
    rw [h1, List.length_cons, List.length_cons, RepL.length h3]
theorem RepL.get : ∀ {ds : List D} {vs : List V} {i : Nat} {d : D}, RepL K F m ds vs → ds[i]? = some d → ∃ v, vs[i]? = some v ∧ Rep K F m d v
  | [], _, _, _, _, e => by simp at e
  | d :: ds, vs, 0, x, h, e => by
    unfold RepL at h
    obtain ⟨v, r, h1, h2, h3⟩ := h
    simp at e
    subst e
    exact ⟨v, by rw [h1]; rfl, h2⟩
  | d :: ds, vs, i + 1, x, h, e => by
    unfold RepL at h
    obtain ⟨v, r, h1, h2, h3⟩ := h
    obtain ⟨u, q1, q2⟩ := RepL.get (i := i) (d := x) h3 (by simpa using e)
    exact ⟨u, by rw [h1]; simpa using q1, q2⟩
theorem RepL.nil : RepL K F m [] [] := by
  unfold RepL
  rfl
theorem RepL.cons {d : D} {v : V} {ds : List D} {vs : List V} (h : Rep K F m d v) (t : RepL K F m ds vs) : RepL K F m (d :: ds) (v :: vs) := by
  unfold RepL
  exact ⟨v, vs, rfl, h, t⟩
theorem RepL.append : ∀ {ds es : List D} {vs us : List V}, RepL K F m ds vs → RepL K F m es us → RepL K F m (ds ++ es) (vs ++ us)
  | [], es, vs, us, h, t => by
    unfold RepL at h
    rw [h]
    exact t
  | d :: ds, es, vs, us, h, t => by
    unfold RepL at h
    obtain ⟨v, r, h1, h2, h3⟩ := h
    rw [h1]
    exact RepL.cons h2 (RepL.append h3 t)
theorem RepL.of_get : ∀ {ds : List D} {vs : List V}, vs.length = ds.length → (∀ (i : Nat) d v, ds[i]? = some d → vs[i]? = some v → Rep K F m d v) → RepL K F m ds vs
  | [], vs, hl, _ => by
    have : vs = [] := List.length_eq_zero_iff.mp hl
    rw [this]
    exact RepL.nil
  | d :: ds, [], hl, _ => by simp at hl
  | d :: ds, v :: vs, hl, h => RepL.cons (h 0 d v rfl rfl) (RepL.of_get (by simpa using hl) fun i x y h1 h2 => h (i + 1) x y (by simpa using h1) (by simpa using h2))
end
/-! ### plain heaps -/
/-- a def within a def: its words, its name, the names that it captures -/
structure FnS where
  ob : Addr → List (Str × Addr) → Addr → Heap → Prop
  qual : Str
  fr : List Str
  isf : ∀ f cl c h, ob f cl c h → PySem.W.FnAt f h
/-- the object at a is the function S with the cells cl and the code object c -/
abbrev FO (S : FnS) (a : Addr) (cl : List (Str × Addr)) (c : Addr) : HO := .ext (S.ob a cl c)
def defOb (st : Stmt) (name qual : Str) (f : Addr) (cl : List (Str × Addr)) (c : Addr) (h : Heap) : Prop := ∃ (od : Option Addr) (sl : Array (Option Value)) (doc pm ctv : Value), h.get? f = some (⟨.type "function", od, .func ((NdefX.NF.of st name qual cl c).fd doc pm ctv), sl⟩ : Obj)
def defS (st : Stmt) (name qual : Str) (fr : List Str) : FnS := ⟨defOb st name qual, qual, fr, fun f cl c h ⟨od, sl, doc, pm, ctv, e⟩ => ⟨_, _, _, _, e⟩⟩
inductive Cell where
  | lst (xs : List D) | dk (kvs : List (Key × D)) | ins (c : Str) (fs : List (Str × D)) | dead | dkL (kvs : List (Key × D))
  | fn (S : FnS) (cs : List D) | tab (x qc : Str) | hid
/-- a captured cell and what it holds -/
def CellO (b : Addr) (v : V) : HO := .ext fun h => ∃ u, L2.RelV v u ∧ h.IsCell b (some u)
/-- it may be written -/
def trk : Cell → Bool
  | .dead => false
  | .dkL _ => false
  | .fn _ _ => false
  | .hid => false
  | _ => true
abbrev AH := List Cell
/-- what a def was called with: the objects that stand outside of the plain heap, and the plain heap's places -/
structure Fm where
  H0 : Hp
  F0 : Hp
  m0 : List Addr
def RepK (K : Fg) (F : Hp) (m : List Addr) {κ : Type} : List (κ × D) → List (κ × V) → Prop := Paired fun p q => p.1 = q.1 ∧ Rep K F m p.2 q.2
/-- the table of the code of the def x -/
def TabOf (K : Fg) (mg : Str → Option Value) (x : Str) (a : Addr) : Prop := ∃ (f c : Addr) (oc : Value) (od : Option Addr) (fd : FuncData) (osl : Array (Option Value)), mg x = some (.ref f) ∧ K.lookup f = some ⟨oc, od, .func fd, osl⟩ ∧ fd.code = .ref c ∧ PySem.W.codeHdIn K c a = true
def CellOk (K : Fg) (mg : Str → Option Value) (F : Hp) (m : List Addr) (H : Hp) (a : Addr) : Cell → Prop
  | .dead => ∃ vs, F a = some (.lst vs)
  | .hid => ∃ (S : FnS) (cl : List (Str × Addr)) (c : Addr), F a = some (FO S a cl c)
  | .dkL kvs => ∃ o vs, F a = some (.frz o (.dK vs)) ∧ RepK K F m kvs vs
  | .lst xs => F a = none ∧ ∃ vs, H a = some (.lst vs) ∧ RepL K F m xs vs
  | .dk kvs => F a = none ∧ ∃ vs, H a = some (.dK vs) ∧ RepK K F m kvs vs
  | .ins c fs => F a = none ∧ ∃ C dx vs, mg c = some (.ref C) ∧ H a = some (.ins C dx vs) ∧ RepK K F m fs vs
  | .fn S cs => ∃ (c : Addr) (cl : List (Str × Addr)) (vs : List V) (φ : Addr → Option V), F a = some (FO S a cl c) ∧ F c = some (LamX.CodeO c S.qual) ∧ RepL K F m cs vs ∧ vs.length = S.fr.length ∧ φ a = none ∧ φ c = none ∧ (∀ y b, cl.lookup y = some b → ∃ v, φ b = some v) ∧
      (∀ x y b, cl.lookup x = some b → cl.lookup y = some b → x = y) ∧ (∀ (i : Nat) (y : Str) (v : V), S.fr[i]? = some y → vs[i]? = some v → ∃ b, cl.lookup y = some b ∧ φ b = some v) ∧ (∀ b v, φ b = some v → F b = some (CellO b v))
  | .tab x qc => F a = none ∧ TabOf K mg x a ∧ ∃ ps : Array Value, H a = some (.tbl ps) ∧ TriplesOk ps.toList ∧ ∀ (pos : Pos) (cv : Value), codeAmong pos ps.toList = some cv → ∃ c, cv = .ref c ∧ F c = some (LamX.CodeO c qc)
structure Sim (K : Fg) (mg : Str → Option Value) (fr : Fm) (F : Hp) (m : List Addr) (ah : AH) (H : Hp) : Prop where
  sub : ∀ a o, F a = some o → H a = some o
  len : m.length = ah.length
  nod : m.Nodup
  cells : ∀ (i : Nat) c, ah[i]? = some c → ∃ a, m[i]? = some a ∧ CellOk K mg F m H a c
  frame : ∀ a o, fr.H0 a = some o → a ∉ fr.m0 → H a = some o
  young : ∀ a, a ∈ m → a ∉ fr.m0 → fr.H0 a = none
  pre : ∀ (i : Nat) a, fr.m0[i]? = some a → m[i]? = some a
  there : ∀ a, a ∈ m → ∃ o, H a = some o
  old : ∀ a o, F a = some o → fr.F0 a = some o ∨ fr.H0 a = none ∨ a ∈ fr.m0
section
variable {K : Fg} {mg : Str → Option Value} {fr : Fm} {F F' H H' : Hp} {m m' : List Addr} {ah : AH}
theorem Paired.imp {α β : Type} {R S : α → β → Prop} (h : ∀ a b, R a b → S a b) : ∀ {xs : List α} {ys : List β}, Paired R xs ys → Paired S xs ys
  | _, _, .nil => .nil
  | _, _, .cons r t => .cons (h _ _ r) (Paired.imp h t)
theorem RepK.ext {κ : Type} {xs : List (κ × D)} {ys : List (κ × V)} (e : Ext F m F' m') (h : RepK K F m xs ys) : RepK K F' m' xs ys :=
  Paired.imp (fun _ _ r => ⟨r.1, Rep.ext e _ _ r.2⟩) h
theorem CellOk.ext {a : Addr} : ∀ {c : Cell}, CellOk K mg F m H a c → Ext F m F' m' → (trk c = true → F' a = none) → (trk c = true → H' a = H a) → CellOk K mg F' m' H' a c
  | .dead, ⟨vs, h⟩, e, _, _ => ⟨vs, e.sub _ _ h⟩
  | .hid, ⟨S, cl, c, h⟩, e, _, _ => ⟨S, cl, c, e.sub _ _ h⟩
  | .dkL kvs, ⟨o, vs, h1, h2⟩, e, _, _ => ⟨o, vs, e.sub _ _ h1, RepK.ext e h2⟩
  | .lst xs, ⟨f, vs, h1, h2⟩, e, n, q => ⟨n rfl, vs, by rw [q rfl]; exact h1, RepL.ext e _ _ h2⟩
  | .dk kvs, ⟨f, vs, h1, h2⟩, e, n, q => ⟨n rfl, vs, by rw [q rfl]; exact h1, RepK.ext e h2⟩
  | .ins c fs, ⟨f, C, dx, vs, h0, h1, h2⟩, e, n, q => ⟨n rfl, C, dx, vs, h0, by rw [q rfl]; exact h1, RepK.ext e h2⟩
  | .fn S cs, ⟨c, cl, vs, φ, h1, h2, h3, h4, h5, h6, h7, h8, h9, h10⟩, e, _, _ => ⟨c, cl, vs, φ, e.sub _ _ h1, e.sub _ _ h2, RepL.ext e _ _ h3, h4, h5, h6, h7, h8, h9, fun b v q => e.sub _ _ (h10 b v q)⟩
  | .tab x qc, ⟨f, a0, ps, h1, h2, h3⟩, e, n, q => ⟨n rfl, a0, ps, by rw [q rfl]; exact h1, h2, fun pos cv hc => by
    obtain ⟨c, e1, e2⟩ := h3 pos cv hc
    exact ⟨c, e1, e.sub _ _ e2⟩⟩
theorem CellOk.free {a : Addr} : ∀ {c : Cell}, CellOk K mg F m H a c → trk c = true → F a = none
  | .dead, _, n => nomatch n
  | .dkL _, _, n => nomatch n
  | .lst _, h, _ => h.1
  | .dk _, h, _ => h.1
  | .ins _ _, h, _ => h.1
  | .fn _ _, _, n => nomatch n
  | .hid, _, n => nomatch n
  | .tab _ _, h, _ => h.1
theorem Sim.mem0 (S : Sim K mg fr F m ah H) {a : Addr} (h : a ∈ fr.m0) : a ∈ m := by
  obtain ⟨i, hi⟩ := List.mem_iff_getElem?.mp h
  exact List.mem_of_getElem? (S.pre i a hi)
theorem Sim.fresh0 (S : Sim K mg fr F m ah H) {p : Addr} (hp : H p = none) : fr.H0 p = none := by
  cases q : fr.H0 p with
  | none => rfl
  | some o =>
    by_cases z : p ∈ fr.m0
    · obtain ⟨u, hu⟩ := S.there p (S.mem0 z)
      rw [hp] at hu
      cases hu
    · rw [S.frame p o q z] at hp
      cases hp
/-- a new thing that is never written is laid at p -/
theorem Sim.frozen {p : Addr} {o : HO} (S : Sim K mg fr F m ah H) (hp : H p = none) : Sim K mg fr (upd F p o) m ah (upd H p o) ∧ Ext F m (upd F p o) m := by
  have Fp : F p = none := by
    cases q : F p with
    | none => rfl
    | some u =>
      rw [S.sub _ _ q] at hp
      cases hp
  have e : Ext F m (upd F p o) m := ⟨fun a u h => by rw [upd_ne (ne_of_none h Fp)]; exact h, fun _ _ h => h⟩
  have nm : ∀ a, a ∈ m → a ≠ p := fun a ha z => by
    obtain ⟨u, hu⟩ := S.there a ha
    rw [z, hp] at hu
    cases hu
  refine ⟨⟨fun a u h => ?_, S.len, S.nod, fun i c h => ?_, fun a u h n => ?_, S.young, S.pre, fun a ha => ?_, fun a u h => ?_⟩, e⟩
  · by_cases z : a = p
    · subst z
      rw [upd_same] at h
      cases h
      exact upd_same
    · rw [upd_ne z] at h ⊢
      exact S.sub _ _ h
  · obtain ⟨a, q, ok⟩ := S.cells i c h
    have ne := nm a (List.mem_of_getElem? q)
    exact ⟨a, q, ok.ext e (fun z => by rw [upd_ne ne]; exact ok.free z) fun _ => by rw [upd_ne ne]⟩
  · have q := S.frame a u h n
    rw [upd_ne (ne_of_none q hp)]
    exact q
  · rw [upd_ne (nm a ha)]
    exact S.there a ha
  · by_cases z : a = p
    · exact .inr (.inl (by rw [z]; exact S.fresh0 hp))
    · rw [upd_ne z] at h
      exact S.old a u h
end
/-! ### plain computations -/
inductive Res (α : Type) where
  | ok (a : α) (h : AH) | exc (x : Str) (h : AH) | stuck
def M (α : Type) := AH → Res α
def M.pure {α : Type} (a : α) : M α := fun h => .ok a h
def M.bind {α β : Type} (x : M α) (f : α → M β) : M β := fun h => match x h with
  | .ok a h' => f a h'
  | .exc e h' => .exc e h'
  | .stuck => .stuck
instance : Monad M where
  pure := M.pure
  bind := M.bind
def stuck {α : Type} : M α := fun _ => .stuck
def throwM {α : Type} (x : Str) : M α := fun h => .exc x h
theorem bind_def {α β : Type} (x : M α) (f : α → M β) (h : AH) : (x >>= f) h = (match x h with
  | .ok a h' => f a h'
  | .exc e h' => .exc e h'
  | .stuck => .stuck) := rfl
theorem M.bind_assoc {α β γ : Type} (x : M α) (f : α → M β) (g : β → M γ) : (x >>= f >>= g : M γ) = x >>= fun a => f a >>= g := by
  funext h
  show (match (match x h with | .ok a h' => f a h' | .exc e h' => .exc e h' | .stuck => .stuck : Res β) with | .ok a h' => g a h' | .exc e h' => .exc e h' | .stuck => .stuck) = _
  rw [bind_def]
  cases x h <;> rfl
instance : LawfulMonad M := LawfulMonad.mk' M
  (id_map := fun x => by
    funext h
    show (match x h with | .ok a h' => Res.ok (id a) h' | .exc e h' => .exc e h' | .stuck => .stuck) = x h
    cases x h <;> rfl)
  (pure_bind := fun _ _ => rfl)
  (bind_assoc := fun x f g => M.bind_assoc x f g)
/-! ### the slots -/
abbrev Env := List (Option D)
def EnvRep (K : Fg) (F : Hp) (m : List Addr) (env : Env) (σ : St) : Prop := env.length = σ.length ∧ ∀ (i : Nat) d, env[i]? = some (some d) → ∃ v, σ[i]? = some (some v) ∧ Rep K F m d v
/-- less is known -/
def EnvLe (a b : Env) : Prop := a.length = b.length ∧ ∀ (i : Nat) d, a[i]? = some (some d) → b[i]? = some (some d)
section
variable {K : Fg} {F F' : Hp} {m m' : List Addr} {env env' : Env} {σ : St}
theorem EnvRep.ext (e : Ext F m F' m') (h : EnvRep K F m env σ) : EnvRep K F' m' env σ := ⟨h.1, fun i d q => by
  obtain ⟨v, h1, h2⟩ := h.2 i d q
  exact ⟨v, h1, Rep.ext e _ _ h2⟩⟩
theorem EnvRep.le (h : EnvRep K F m env σ) (l : EnvLe env' env) : EnvRep K F m env' σ := ⟨l.1.trans h.1, fun i d q => h.2 i d (l.2 i d q)⟩
theorem EnvRep.set {i : Nat} {d : D} {v : V} (h : EnvRep K F m env σ) (r : Rep K F m d v) : EnvRep K F m (env.set i (some d)) (σ.set i (some v)) := by
  refine ⟨by simpa using h.1, fun j x q => ?_⟩
  by_cases hj : i = j
  · subst hj
    by_cases hl : i < env.length
    · rw [List.getElem?_set_self hl] at q
      cases q
      exact ⟨v, by rw [List.getElem?_set_self (by rw [← h.1]; exact hl)], r⟩
    · rw [List.getElem?_eq_none (by simpa using hl)] at q
      cases q
  · rw [List.getElem?_set_ne hj] at q
    obtain ⟨u, h1, h2⟩ := h.2 j x q
    exact ⟨u, by rw [List.getElem?_set_ne hj]; exact h1, h2⟩
theorem EnvLe.refl (e : Env) : EnvLe e e := ⟨rfl, fun _ _ h => h⟩
theorem EnvLe.nil : EnvLe [] [] := EnvLe.refl []
theorem EnvLe.keep {x : Option D} {a b : Env} (h : EnvLe a b) : EnvLe (x :: a) (x :: b) := ⟨by simp [h.1], fun i d q => by
  cases i with
  | zero => exact q
  | succ i => exact h.2 i d (by simpa using q)⟩
theorem EnvLe.drop {x : Option D} {a b : Env} (h : EnvLe a b) : EnvLe (none :: a) (x :: b) := ⟨by simp [h.1], fun i d q => by
  cases i with
  | zero => simp at q
  | succ i => exact h.2 i d (by simpa using q)⟩
theorem EnvLe.trans {a b c : Env} (h : EnvLe a b) (k : EnvLe b c) : EnvLe a c := ⟨h.1.trans k.1, fun i d q => k.2 i d (h.2 i d q)⟩
end
/-! ### what is wanted of a state: a reading made of a plain computation -/
/-- behind a computation's result -/
def TK {α β : Type} (K : Fg) (mg : Str → Option Value) (fr : Fm) (W : WX) (R : Hp → List Addr → α → β → Prop) (σ : St) (F : Hp) (m : List Addr) (r : Res α) (Q : β → Hp → Prop) : Prop :=
  match r with
  | .ok d ah => ∀ F' m' v H', Ext F m F' m' → Sim K mg fr F' m' ah H' → R F' m' d v → Q v H'
  | .exc x ah => ∀ F' m' C H', Ext F m F' m' → Sim K mg fr F' m' ah H' → mg x = some (.ref C) → W (.ref C) none σ H'
  | .stuck => False
/-- the reading -/
def TC {α β : Type} (K : Fg) (mg : Str → Option Value) (W : WX) (R : Hp → List Addr → α → β → Prop) (env : Env) (mc : M α) : St → Hp → (β → Hp → Prop) → Prop := fun σ H Q =>
  ∃ fr F m ah, Sim K mg fr F m ah H ∧ EnvRep K F m env σ ∧ TK K mg fr W R σ F m (mc ah) Q
abbrev RB : Hp → List Addr → Bool → Bool → Prop := fun _ _ a b => a = b
section
variable {K : Fg} {mg : Str → Option Value} {fr : Fm} {W : WX} {env : Env} {σ : St} {F F' H : Hp} {m m' : List Addr} {ah : AH} {α β γ δ : Type} {R : Hp → List Addr → α → β → Prop} {S : Hp → List Addr → γ → δ → Prop}
theorem TK.ext {r : Res α} {Q : β → Hp → Prop} (e : Ext F m F' m') (h : TK K mg fr W R σ F m r Q) : TK K mg fr W R σ F' m' r Q := by
  cases r with
  | ok d a => exact fun F2 m2 v H' e2 s r => h F2 m2 v H' (e.trans e2) s r
  | exc x a => exact fun F2 m2 C H' e2 s r => h F2 m2 C H' (e.trans e2) s r
  | stuck => exact h
/-- the first part runs, the rest is wanted behind it -/
theorem TK.step {ma : M α} {k : α → M γ} {Q : δ → Hp → Prop} (s : Sim K mg fr F m ah H) (er : EnvRep K F m env σ) (h : TK K mg fr W S σ F m ((ma >>= k) ah) Q) {P : β → Hp → Prop}
    (hP : ∀ F1 m1 ah1 d v H1, Ext F m F1 m1 → Sim K mg fr F1 m1 ah1 H1 → EnvRep K F1 m1 env σ → R F1 m1 d v → TK K mg fr W S σ F1 m1 (k d ah1) Q → P v H1) : TC K mg W R env ma σ H P := by
  refine ⟨fr, F, m, ah, s, er, ?_⟩
  rw [bind_def] at h
  cases hr : ma ah with
  | ok d a =>
    rw [hr] at h
    exact fun F' m' v H' e s' r => hP F' m' a d v H' e s' (er.ext e) r (TK.ext e h)
  | exc x a =>
    rw [hr] at h
    exact h
  | stuck =>
    rw [hr] at h
    exact h
end
/-! ### the judgements -/
section
variable (X : Cx) (W : WX) (env : Env)
abbrev DE (e : Expr) (mc : M D) : Prop := PE X e (TC X.K X.mg W (Rep X.K) env mc)
abbrev DT (e : Expr) (mc : M Bool) : Prop := PT X e (TC X.K X.mg W RB env mc)
abbrev DA (es : List Expr) (mc : M (List D)) : Prop := PA X es (TC X.K X.mg W (RepL X.K) env mc)
end
theorem PE.from {X : Cx} {e : Expr} {t t' : TE} (h : PE X e t) (i : ∀ σ H Q, t' σ H Q → t σ H Q) : PE X e t' := ⟨fun pins s σ H Q I q => h.run pins s σ H Q I (i σ H Q q)⟩
theorem PT.from {X : Cx} {e : Expr} {t t' : TT} (h : PT X e t) (i : ∀ σ H Q, t' σ H Q → t σ H Q) : PT X e t' := ⟨fun pins s σ H Q I q => h.run pins s σ H Q I (i σ H Q q)⟩
theorem PA.from {X : Cx} {e : List Expr} {t t' : TA} (h : PA X e t) (i : ∀ σ H Q, t' σ H Q → t σ H Q) : PA X e t' := ⟨fun pos pins s σ H Q I q => h.run pos pins s σ H Q I (i σ H Q q)⟩
theorem PSs.from {X : Cx} {e : List Stmt} {t t' : TS} (h : PSs X e t) (i : ∀ D σ H, t' D σ H → t D σ H) : PSs X e t' := ⟨fun pins s σ H D I q => h.run pins s σ H D I (i D σ H q)⟩
section
variable {X : Cx} {fr : Fm} {W : WX} {env : Env} {pos : Pos}
/-! ### names and constants -/
theorem de_int {i : Int} {j} : DE X W env (.Constant (.int i) j pos) (pure (.int i)) := PE.from pe_int fun σ H Q ⟨fr, F, m, ah, s, er, k⟩ => k F m _ H Ext.refl s (by unfold Rep; rfl)
theorem de_bl {b : Bool} {j} : DE X W env (.Constant (.bool b) j pos) (pure (.bl b)) := PE.from pe_bl fun σ H Q ⟨fr, F, m, ah, s, er, k⟩ => k F m _ H Ext.refl s (by unfold Rep; rfl)
theorem de_non {j} : DE X W env (.Constant .none j pos) (pure .non) := PE.from pe_non fun σ H Q ⟨fr, F, m, ah, s, er, k⟩ => k F m _ H Ext.refl s (by unfold Rep; rfl)
theorem de_str {x : Str} {j} : DE X W env (.Constant (.str x) j pos) (pure (.str x)) := PE.from pe_str fun σ H Q ⟨fr, F, m, ah, s, er, k⟩ => k F m _ H Ext.refl s (by unfold Rep; rfl)
/-- the name in slot i -/
theorem de_var (i : Nat) {x : Str} {d : D} (he : env[i]? = some (some d) := by rfl) (hN : X.N[i]? = some x := by rfl) (hv : Vis X.env.scope x := by first | exact Or.inl rfl | exact Or.inr (Or.inl rfl) | exact Or.inr (Or.inr rfl)) (hd : (x == ("__debug__" : Str)) = false := by decide)
    (hcd : (x == ("__classdict__" : Str)) = false := by decide) : DE X W env (.Name x pos) (pure d) := PE.from (pv i hN hv hd hcd) fun σ H Q ⟨fr, F, m, ah, s, er, k⟩ => by
  obtain ⟨v, h1, h2⟩ := er.2 i d he
  exact ⟨v, h1, k F m _ H Ext.refl s h2⟩
/-! ### two-place operations -/
/-- a rule of values, read of data -/
def OpD (X : Cx) (r : R2) (op : D → D → M D) : Prop := ∀ (fr : Fm) (W : WX) (σ : St) (F : Hp) (m : List Addr) (ah : AH) (H : Hp) (d e : D) (x y : V) (Q : VK), Sim X.K X.mg fr F m ah H → Rep X.K F m d x → Rep X.K F m e y →
  TK X.K X.mg fr W (Rep X.K) σ F m (op d e ah) Q → r x y H Q
theorem tOp_from {r : R2} {op : D → D → M D} {ma mb : M D} (hr : OpD X r op) : ∀ σ H Q, TC X.K X.mg W (Rep X.K) env (do let x ← ma; let y ← mb; op x y) σ H Q →
    tOp r (TC X.K X.mg W (Rep X.K) env ma) (TC X.K X.mg W (Rep X.K) env mb) σ H Q := fun σ H Q ⟨fr, F, m, ah, s, er, k⟩ =>
  TK.step s er k fun F1 m1 ah1 d v H1 e1 s1 er1 r1 k1 => TK.step s1 er1 k1 fun F2 m2 ah2 d2 v2 H2 e2 s2 er2 r2 k2 =>
    hr fr W σ F2 m2 ah2 H2 d d2 v v2 Q s2 (Rep.ext e2 _ _ r1) r2 k2
theorem de_op {a b : Expr} {ma mb : M D} {op : Operator} {r : R2} {f : D → D → M D} (ho : OpR X (binaryOp op) r) (hr : OpD X r f) (ha : DE X W env a ma) (hb : DE X W env b mb) : DE X W env (.BinOp a op b pos) (do let x ← ma; let y ← mb; f x y) :=
  PE.from (pe_op ho ha hb) (tOp_from hr)
/-! ints -/
def int2 (f : Int → Int → D) : D → D → M D := fun x y => match x, y with
  | .int i, .int j => pure (f i j)
  | _, _ => stuck
theorem TK.stuck_of {α β : Type} {K : Fg} {mg : Str → Option Value} {R : Hp → List Addr → α → β → Prop} {σ : St} {F : Hp} {m : List Addr} {Q : β → Hp → Prop} (h : TK K mg fr W R σ F m (Res.stuck : Res α) Q) : False := h
theorem int2_ok {g : Int → Int → V} {f : Int → Int → D} (h : ∀ i j K F m, Rep K F m (f i j) (g i j)) : OpD X (rI0 g) (int2 f) := by
  intro fr W σ F m ah H d e x y Q s rx ry k
  cases d <;> try exact (TK.stuck_of k).elim
  cases e <;> try exact (TK.stuck_of k).elim
  rename_i i j
  unfold Rep at rx ry
  exact ⟨i, j, rx, ry, k F m _ H Ext.refl s (h i j _ _ _)⟩
end
end Lw
/-! SimB: statements. -/
namespace Lw
open PySem L2
/-- a block's end: on with the names' values t, a result, out of the loop, to the loop's next turn -/
inductive Out (τ β : Type) where
  | nx (t : τ) | ret (d : D) | bk (b : β) | ct (b : β)
def ores {τ' τ β : Type} (k : τ' → M (Out τ β)) : Res (Out τ' β) → Res (Out τ β)
  | .ok (.nx t) h' => k t h'
  | .ok (.ret d) h' => .ok (.ret d) h'
  | .ok (.bk b) h' => .ok (.bk b) h'
  | .ok (.ct b) h' => .ok (.ct b) h'
  | .exc e h' => .exc e h'
  | .stuck => .stuck
def obind {τ' τ β : Type} (x : M (Out τ' β)) (k : τ' → M (Out τ β)) : M (Out τ β) := fun h => ores k (x h)
section
end
/-- behind a loop's turn -/
def lres {τ β : Type} (k : τ → M (Out τ β)) : Res (Out τ τ) → Res (Out τ β)
  | .ok (.nx t) h' => k t h'
  | .ok (.ct t) h' => k t h'
  | .ok (.bk t) h' => .ok (.nx t) h'
  | .ok (.ret d) h' => .ok (.ret d) h'
  | .exc e h' => .exc e h'
  | .stuck => .stuck
def lbind {τ β : Type} (x : M (Out τ τ)) (k : τ → M (Out τ β)) : M (Out τ β) := fun h => lres k (x h)
/-- over items -/
def forM {τ β : Type} : List D → τ → (D → τ → M (Out τ τ)) → M (Out τ β)
  | [], t, _ => pure (.nx t)
  | x :: r, t, f => lbind (f x t) fun t' => forM r t' f
/-- a def's value -/
def dres {τ β : Type} : Res (Out τ β) → Res D
  | .ok (.nx _) h' => .ok .non h'
  | .ok (.ret d) h' => .ok d h'
  | .ok _ _ => .stuck
  | .exc e h' => .exc e h'
  | .stuck => .stuck
def defM {τ β : Type} (x : M (Out τ β)) : M D := fun h => dres (x h)
/-- behind a block's result -/
def TO {τ β : Type} (K : Fg) (mg : Str → Option Value) (fr : Fm) (W : WX) (ex : Env) (mk : τ → Env) (lp : β → Env) (F : Hp) (m : List Addr) (r : Res (Out τ β)) (Dn : Ends) : Prop :=
  match r with
  | .ok (.nx t) ah => ∀ F' m' σ' H', Ext F m F' m' → Sim K mg fr F' m' ah H' → EnvRep K F' m' (mk t) σ' → Dn.nx σ' H'
  | .ok (.ret d) ah => ∀ F' m' v H', Ext F m F' m' → Sim K mg fr F' m' ah H' → Rep K F' m' d v → Dn.rt v H'
  | .ok (.bk b) ah => ∀ F' m' σ' H', Ext F m F' m' → Sim K mg fr F' m' ah H' → EnvRep K F' m' (lp b) σ' → Dn.bk σ' H'
  | .ok (.ct b) ah => ∀ F' m' σ' H', Ext F m F' m' → Sim K mg fr F' m' ah H' → EnvRep K F' m' (lp b) σ' → Dn.ct σ' H'
  | .exc x ah => ∀ F' m' C σ' H', Ext F m F' m' → Sim K mg fr F' m' ah H' → EnvRep K F' m' ex σ' → mg x = some (.ref C) → W (.ref C) none σ' H'
  | .stuck => False
def TB {τ β : Type} (K : Fg) (mg : Str → Option Value) (W : WX) (ex env : Env) (mk : τ → Env) (lp : β → Env) (mc : M (Out τ β)) : TS := fun Dn σ H =>
  ∃ fr F m ah, Sim K mg fr F m ah H ∧ EnvRep K F m env σ ∧ TO K mg fr W ex mk lp F m (mc ah) Dn
abbrev DS {τ β : Type} (X : Cx) (W : WX) (ex env : Env) (mk : τ → Env) (lp : β → Env) (sts : List Stmt) (mc : M (Out τ β)) : Prop := PSs X sts (TB X.K X.mg W ex env mk lp mc)
theorem PT.ex {X : Cx} {α : Type} {e : Expr} {t : α → TT} (h : ∀ a, PT X e (t a)) : PT X e (fun σ H Q => ∃ a, t a σ H Q) :=
  ⟨fun pins s σ H Q I ⟨a, q⟩ => (h a).run pins s σ H Q I q⟩
theorem PSs.ex {X : Cx} {α : Type} {sts : List Stmt} {t : α → TS} (h : ∀ a, PSs X sts (t a)) : PSs X sts (fun D σ H => ∃ a, t a D σ H) :=
  ⟨fun pins s σ H D I ⟨a, q⟩ => (h a).run pins s σ H D I q⟩
section
variable {K : Fg} {mg : Str → Option Value} {fr : Fm} {W : WX} {ex env : Env} {σ : St} {F F' H : Hp} {m m' : List Addr} {ah : AH} {α α' τ τ' β γ : Type} {R : Hp → List Addr → α → γ → Prop} {mk : τ → Env} {mk' : τ' → Env} {lp : β → Env} {Dn : Ends}
theorem TO.ext {r : Res (Out τ β)} (e : Ext F m F' m') (h : TO K mg fr W ex mk lp F m r Dn) : TO K mg fr W ex mk lp F' m' r Dn := by
  cases r with
  | ok o a =>
    cases o with
    | nx t => exact fun F2 m2 v H' e2 s r => h F2 m2 v H' (e.trans e2) s r
    | ret t => exact fun F2 m2 v H' e2 s r => h F2 m2 v H' (e.trans e2) s r
    | bk t => exact fun F2 m2 v H' e2 s r => h F2 m2 v H' (e.trans e2) s r
    | ct t => exact fun F2 m2 v H' e2 s r => h F2 m2 v H' (e.trans e2) s r
  | exc x a => exact fun F2 m2 C σ' H' e2 s r => h F2 m2 C σ' H' (e.trans e2) s r
  | stuck => exact h
theorem TO.step {ma : M α} {k : α → M (Out τ β)} (s : Sim K mg fr F m ah H) (er : EnvRep K F m env σ) (hx : EnvLe ex env) (h : TO K mg fr W ex mk lp F m ((ma >>= k) ah) Dn) {P : γ → Hp → Prop}
    (hP : ∀ F1 m1 ah1 d v H1, Ext F m F1 m1 → Sim K mg fr F1 m1 ah1 H1 → EnvRep K F1 m1 env σ → R F1 m1 d v → TO K mg fr W ex mk lp F1 m1 (k d ah1) Dn → P v H1) : TC K mg W R env ma σ H P := by
  refine ⟨fr, F, m, ah, s, er, ?_⟩
  rw [bind_def] at h
  cases hr : ma ah with
  | ok d a =>
    rw [hr] at h
    exact fun F' m' v H' e s' r => hP F' m' a d v H' e s' (er.ext e) r (TO.ext e h)
  | exc x a =>
    rw [hr] at h
    exact fun F' m' C H' e s' q => h F' m' C σ H' e s' ((er.le hx).ext e) q
  | stuck =>
    rw [hr] at h
    exact h
/-- a block, then another -/
theorem TO.obind {ma : M (Out τ' β)} {k : τ' → M (Out τ β)} (h : TO K mg fr W ex mk lp F m (obind ma k ah) Dn) :
    TO K mg fr W ex mk' lp F m (ma ah) { Dn with nx := fun σ' H' => ∃ t, TB K mg W ex (mk' t) mk lp (k t) Dn σ' H' } := by
  have h : TO K mg fr W ex mk lp F m (ores k (ma ah)) Dn := h
  cases hr : ma ah with
  | ok o a =>
    rw [hr] at h
    cases o with
    | nx t => exact fun F' m' σ' H' e s r => ⟨t, fr, F', m', a, s, r, TO.ext e h⟩
    | ret t => exact h
    | bk t => exact h
    | ct t => exact h
  | exc x a =>
    rw [hr] at h
    exact h
  | stuck =>
    rw [hr] at h
    exact h
end
section
variable {X : Cx} {fr : Fm} {W : WX} {ex env : Env} {pos : Pos} {τ τ' β : Type} {mk : τ → Env} {mk' : τ' → Env} {lp : β → Env} {rest : List Stmt}
theorem ds_nil {t : τ} (h : EnvLe (mk t) env) : DS X W ex env mk lp [] (pure (.nx t)) := PSs.from pss_nil fun Dn σ H ⟨fr, F, m, ah, s, er, k⟩ => k F m σ H Ext.refl s (er.le h)
theorem ds_ret {e : Expr} {me : M D} (he : DE X W env e me) (hx : EnvLe ex env) : DS X W ex env mk lp (.Return (some e) pos :: rest) (do let d ← me; pure (.ret d)) :=
  PSs.from (pss_cons (ps_ret he) pss_never) fun Dn σ H ⟨fr, F, m, ah, s, er, k⟩ => TO.step s er hx k fun F1 m1 ah1 d v H1 e1 s1 er1 r1 k1 => k1 F1 m1 v H1 Ext.refl s1 r1
theorem ds_retN : DS X W ex env mk lp (.Return none pos :: rest) (pure (.ret .non)) :=
  PSs.from (pss_cons ps_retN pss_never) fun Dn σ H ⟨fr, F, m, ah, s, er, k⟩ => k F m _ H Ext.refl s (by unfold Rep; rfl)
theorem ds_expr {e : Expr} {me : M D} {mc : M (Out τ β)} (he : DE X W env e me) (hx : EnvLe ex env) (hr : DS X W ex env mk lp rest mc) (hs : swapsWith e none pos.line X.env = pure false := by rfl) :
    DS X W ex env mk lp (.Expr e pos :: rest) (do let _ ← me; mc) :=
  PSs.from (pss_cons (ps_expr he hs) hr) fun Dn σ H ⟨fr, F, m, ah, s, er, k⟩ => TO.step s er hx k fun F1 m1 ah1 d v H1 e1 s1 er1 r1 k1 => ⟨fr, F1, m1, ah1, s1, er1, k1⟩
theorem ds_set (i : Nat) {x : Str} {pos' : Pos} {e : Expr} {me : M D} {k : D → M (Out τ β)} (hN : X.N.Nodup) (env' : D → Env) (he : DE X W env e me) (hx : EnvLe ex env) (hr : ∀ d, DS X W ex (env' d) mk lp rest (k d)) (hv : ∀ d, env.set i (some d) = env' d := by intro _; rfl)
    (hi : X.N[i]? = some x := by rfl) (hl : Loc X.env.scope x := by first | exact Or.inl rfl | exact Or.inr rfl) (hs : swapsWith e (some (.Name x pos')) pos.line X.env = pure false := by rfl) (hf : X.fn x = true ∨ X.env.scope.names.lookup x = some .local := by first | exact .inl rfl | exact .inr rfl) :
    DS X W ex env mk lp (.Assign [.Name x pos'] e pos :: rest) (me >>= k) :=
  PSs.from (pss_cons (ps_set hN hi hl he hs hf) (PSs.ex hr)) fun Dn σ H ⟨fr, F, m, ah, s, er, q⟩ => TO.step s er hx q fun F1 m1 ah1 d v H1 e1 s1 er1 r1 k1 => ⟨d, fr, F1, m1, ah1, s1, by rw [← hv d]; exact er1.set r1, k1⟩
theorem ds_if {c : Expr} {a b : List Stmt} {mc : M Bool} {ma mb : M (Out τ' β)} {k : τ' → M (Out τ β)} (hc : DT X W env c mc) (ha : DS X W ex env mk' lp a ma) (hb : DS X W ex env mk' lp b mb)
    (hx : EnvLe ex env) (hr : ∀ t, DS X W ex (mk' t) mk lp rest (k t)) : DS X W ex env mk lp (.If c a b pos :: rest) (do let t ← mc; obind (if t = true then ma else mb) k) :=
  PSs.from (pss_cons (ps_if hc ha hb) (PSs.ex hr)) fun Dn σ H ⟨fr, F, m, ah, s, er, q⟩ => TO.step s er hx q fun F1 m1 ah1 d v H1 e1 s1 er1 r1 k1 => by
    have r1 : d = v := r1
    subst r1
    cases d with
    | true => exact ⟨fr, F1, m1, ah1, s1, er1, TO.obind k1⟩
    | false => exact ⟨fr, F1, m1, ah1, s1, er1, TO.obind k1⟩
/-- a branch that does not fall through, and no other one -/
theorem ds_ifr {c : Expr} {a : List Stmt} {mc : M Bool} {ma : M (Out τ β)} {mr : M (Out τ β)} (mk0 : Empty → Env) {maE : M (Out Empty β)} (hc : DT X W env c mc) (ha : DS X W ex env mk0 lp a maE)
    (hx : EnvLe ex env) (hr : DS X W ex env mk lp rest mr) (hE : obind maE (fun e => e.elim) = ma) : DS X W ex env mk lp (.If c a [] pos :: rest) (do let t ← mc; if t = true then ma else mr) :=
  PSs.from (pss_cons (ps_if hc ha (ds_nil (X := X) (W := W) (ex := ex) (lp := lp) (mk := fun _ : Unit => env) (t := ()) (EnvLe.refl env))) hr) fun Dn σ H ⟨fr, F, m, ah, s, er, q⟩ => TO.step s er hx q fun F1 m1 ah1 d v H1 e1 s1 er1 r1 k1 => by
    have r1 : d = v := r1
    subst r1
    cases d with
    | true =>
      subst hE
      refine ⟨fr, F1, m1, ah1, s1, er1, ?_⟩
      have z := TO.obind (mk' := mk0) k1
      have z2 : TO X.K X.mg fr W ex mk0 lp F1 m1 (maE ah1) { Dn with nx := fun σ' H' => ∃ t : Empty, TB X.K X.mg W ex (mk0 t) mk lp t.elim Dn σ' H' } := z
      cases hr : maE ah1 with
      | ok o a =>
        rw [hr] at z2
        cases o with
        | nx t => exact t.elim
        | ret t => exact z2
        | bk t => exact z2
        | ct t => exact z2
      | exc x a =>
        rw [hr] at z2
        exact z2
      | stuck =>
        rw [hr] at z2
        exact z2
    | false => exact ⟨fr, F1, m1, ah1, s1, er1, fun F' m' σ' H' e' s' r' => ⟨fr, F', m', ah1, s', r', TO.ext e' k1⟩⟩
end
/-! ### targets -/
/-- what a target takes out of an item, and how the slots stand then -/
def gD {π : Type} (K : Fg) (mg : Str → Option Value) (sl : List Nat) (unp : D → Option π) (sets : π → Env → Env) : L2.TG := fun v σ H Q => ∃ fr F m ah env d p, Sim K mg fr F m ah H ∧ EnvRep K F m env σ ∧ Rep K F m d v ∧ unp d = some p ∧
    ∀ σ', EnvRep K F m (sets p env) σ' → (∀ vs : List Nat, (∀ i ∈ sl, i ∈ vs) → wipe σ' vs = wipe σ vs) → Q σ' H
abbrev DG {π : Type} (X : Cx) (tg : Expr) (sl : List Nat) (unp : D → Option π) (sets : π → Env → Env) : Prop := PG X tg (gD X.K X.mg sl unp sets)
theorem wipe_set {i : Nat} {x : Option V} : ∀ {σ : St} {vs : List Nat}, i ∈ vs → wipe (σ.set i x) vs = wipe σ vs
  | σ, [], h => by cases h
  | σ, v :: vs, h => by
    show (wipe (σ.set i x) vs).set v none = (wipe σ vs).set v none
    by_cases e : i ∈ vs
    · rw [wipe_set e]
    · have ev : i = v := by
        rcases List.mem_cons.mp h with z | z
        · exact z
        · exact absurd z e
      subst ev
      have comm : ∀ {σ : St} {vs : List Nat}, i ∉ vs → wipe (σ.set i x) vs = (wipe σ vs).set i x := by
        intro σ vs
        induction vs with
        | nil => intro _; rfl
        | cons w ws ih =>
          intro hn
          have h1 : i ≠ w := fun z => hn (by rw [z]; exact List.mem_cons_self)
          have h2 : i ∉ ws := fun z => hn (List.mem_cons_of_mem _ z)
          show (wipe (σ.set i x) ws).set w none = ((wipe σ ws).set w none).set i x
          rw [ih h2, List.set_comm _ _ h1]
      rw [comm e, List.set_set]
theorem PG.from {X : Cx} {e : Expr} {t t' : L2.TG} (h : PG X e t) (i : ∀ v σ H Q, t' v σ H Q → t v σ H Q) : PG X e t' := ⟨fun pins s σ H v u Q I r q => h.run pins s σ H v u Q I r (i v σ H Q q)⟩
section
variable {X : Cx} {fr : Fm} {pos : Pos}
theorem dg_name (i : Nat) {x : Str} (hN : X.N.Nodup) (hi : X.N[i]? = some x := by rfl) (hl : Loc X.env.scope x := by first | exact Or.inl rfl | exact Or.inr rfl) (hf : X.fn x = true ∨ X.env.scope.names.lookup x = some .local := by first | exact .inl rfl | exact .inr rfl) :
    DG X (.Name x pos) [i] (fun d => some d) (fun d env => env.set i (some d)) := PG.from (pg_name hN hi hl hf) fun v σ H Q ⟨fr, F, m, ah, env, d, p, s, er, r, e, q⟩ => by
  cases e
  exact q _ (er.set r) fun vs hv => wipe_set (hv i (by simp))
theorem PG.or {X : Cx} {e : Expr} {t t' : L2.TG} (h : PG X e t) (h' : PG X e t') : PG X e (fun v σ H Q => t v σ H Q ∨ t' v σ H Q) := ⟨fun pins s σ H v u Q I r q => by
  rcases q with q | q
  · exact h.run pins s σ H v u Q I r q
  · exact h'.run pins s σ H v u Q I r q⟩
end
def liftO {α : Type} : Option α → M α
  | some a => pure a
  | none => stuck
section
end
/-! ### what is walked -/
/-- the iterator J yields the items xs -/
structure Yl (K : Fg) (mg : Str → Option Value) (F : Hp) (m : List Addr) (xs : List D) (J : It) : Prop where
  go : ∀ (i : Nat) (fr : Fm) F1 m1 ah1 H1, Ext F m F1 m1 → Sim K mg fr F1 m1 ah1 H1 → i < xs.length → J.go i H1
  stop : ∀ (fr : Fm) F1 m1 ah1 H1, Ext F m F1 m1 → Sim K mg fr F1 m1 ah1 H1 → J.stop xs.length H1
  yld : ∀ (i : Nat) (fr : Fm) F1 m1 ah1 H1 x H2, Ext F m F1 m1 → Sim K mg fr F1 m1 ah1 H1 → i < xs.length → J.yld i H1 x H2 → ∃ F2 d, xs[i]? = some d ∧ Ext F1 m1 F2 m1 ∧ Sim K mg fr F2 m1 ah1 H2 ∧ Rep K F2 m1 d x
def TIM (K : Fg) (mg : Str → Option Value) (W : WX) (env : Env) (mi : M (List D)) : TI := fun σ H R =>
  ∃ fr F m ah, Sim K mg fr F m ah H ∧ EnvRep K F m env σ ∧ TK K mg fr W (Yl K mg) σ F m (mi ah) (fun J H' => R J H')
abbrev DI (X : Cx) (W : WX) (env : Env) (tg it : Expr) (mi : M (List D)) : Prop := PI X tg it (TIM X.K X.mg W env mi)
theorem PI.from {X : Cx} {tg e : Expr} {t t' : TI} (h : PI X tg e t) (i : ∀ σ H Q, t' σ H Q → t σ H Q) : PI X tg e t' := ⟨fun pins s σ H R I q => h.run pins s σ H R I (i σ H R q)⟩
section
variable {X : Cx} {fr : Fm} {W : WX} {ex env : Env} {pos : Pos} {τ β : Type} {mk : τ → Env} {lp : β → Env} {rest : List Stmt}
/-- for tg in it: body; rest -/
theorem ds_for {ℓ π : Type} {sl : List Nat} {tg it : Expr} {body : List Stmt} {mi : M (List D)} {unp : D → Option π} {sets : π → Env → Env} {mkL : ℓ → Env} {t0 : ℓ} {mb : π → ℓ → M (Out ℓ ℓ)} {k : ℓ → M (Out τ β)}
    (hp : PassesOwn (model X.prog X.w) X.A X.env X.xe) (hc : X.calm = true) (hi : DI X W env tg it mi) (hg : DG X tg sl unp sets) (h0 : EnvLe (mkL t0) env) (hx : EnvLe ex env)
    (hb : ∀ p t, DS X W ex (sets p (mkL t)) mkL mkL body (mb p t)) (hr : ∀ t, DS X W ex (mkL t) mk lp rest (k t)) (hs : ∀ x, foldedSetIterable it X.env x = pure x := by intro _; rfl) :
    DS X W ex env mk lp (.For tg it body [] pos :: rest) (do let xs ← mi; obind (forM xs t0 (fun x t => do let p ← liftO (unp x); mb p t)) k) := by
  refine PSs.from (pss_cons (ps_for hp hc hi hg (PSs.ex fun p => PSs.ex (hb p)) hs) (PSs.ex hr)) fun Dn σ H ⟨fr, F, m, ah, s, er, q⟩ => ?_
  refine ⟨fr, F, m, ah, s, er, ?_⟩
  rw [bind_def] at q
  cases hi' : mi ah with
  | stuck =>
    rw [hi'] at q
    exact q
  | exc x a =>
    rw [hi'] at q
    exact fun F' m' C H' e s' z => q F' m' C σ H' e s' ((er.le hx).ext e) z
  | ok xs a =>
    rw [hi'] at q
    intro F1 m1 J H1 e1 s1 y
    have q1 := TO.ext e1 q
    refine ⟨fun i n σ H => n = xs.length - i ∧ i ≤ xs.length ∧ ∃ F2 m2 ah2 t, Ext F1 m1 F2 m2 ∧ Sim X.K X.mg fr F2 m2 ah2 H ∧ EnvRep X.K F2 m2 (mkL t) σ ∧
      TO X.K X.mg fr W ex mk lp F2 m2 ((obind (forM (xs.drop i) t (fun x t => do let p ← liftO (unp x); mb p t)) k) ah2) Dn, ⟨_, rfl, Nat.zero_le _, F1, m1, a, t0, Ext.refl, s1, (er.le h0).ext e1, by rw [List.drop_zero]; exact q1⟩, ?_⟩
    rintro i n σ2 H2 ⟨rfl, hi2, F2, m2, ah2, t, e2, s2, er2, k2⟩
    by_cases hlt : i < xs.length
    · refine .inr ⟨y.go i fr F2 m2 ah2 H2 e2 s2 hlt, fun σ' H' => ∃ F3 m3 ah3 t, Ext F1 m1 F3 m3 ∧ Sim X.K X.mg fr F3 m3 ah3 H' ∧ EnvRep X.K F3 m3 (mkL t) σ' ∧
        TO X.K X.mg fr W ex mk lp F3 m3 ((obind (forM (xs.drop (i + 1)) t (fun x t => do let p ← liftO (unp x); mb p t)) k) ah3) Dn, fun σ' H' z => ⟨xs.length - (i + 1), by omega, rfl, hlt, z⟩, fun v H3 yy => ?_⟩
      obtain ⟨F3, d, hd, e3, s3, r3⟩ := y.yld i fr F2 m2 ah2 H2 v H3 e2 s2 hlt yy
      have er3 := er2.ext e3
      have k3 := TO.ext e3 k2
      have hdrop : xs.drop i = d :: xs.drop (i + 1) := by
        rw [List.drop_eq_getElem_cons hlt]
        rw [List.getElem?_eq_getElem hlt] at hd
        cases hd
        rfl
      rw [hdrop] at k3
      cases hu : unp d with
      | none =>
        have k4 : TO X.K X.mg fr W ex mk lp F3 m2 (ores k (lres (fun t' => forM (xs.drop (i + 1)) t' (fun x t => do let p ← liftO (unp x); mb p t)) ((liftO (unp d) >>= fun p => mb p t) ah2))) Dn := k3
        rw [hu] at k4
        exact False.elim k4
      | some p =>
        have k4 : TO X.K X.mg fr W ex mk lp F3 m2 (ores k (lres (fun t' => forM (xs.drop (i + 1)) t' (fun x t => do let p ← liftO (unp x); mb p t)) ((liftO (unp d) >>= fun p => mb p t) ah2))) Dn := k3
        rw [hu] at k4
        have k4 : TO X.K X.mg fr W ex mk lp F3 m2 (ores k (lres (fun t' => forM (xs.drop (i + 1)) t' (fun x t => do let p ← liftO (unp x); mb p t)) (mb p t ah2))) Dn := k4
        refine ⟨fr, F3, m2, ah2, mkL t, d, p, s3, er3, r3, hu, fun σ' er' _ => ⟨p, t, fr, F3, m2, ah2, s3, er', ?_⟩⟩
        cases hm : mb p t ah2 with
        | stuck =>
          rw [hm] at k4
          exact k4
        | exc x a =>
          rw [hm] at k4
          exact k4
        | ok o a =>
          rw [hm] at k4
          cases o with
          | nx t' => exact fun F4 m4 σ4 H4 e4 s4 r4 => ⟨F4, m4, a, t', (e2.trans e3).trans e4, s4, r4, TO.ext e4 k4⟩
          | ct t' => exact fun F4 m4 σ4 H4 e4 s4 r4 => ⟨F4, m4, a, t', (e2.trans e3).trans e4, s4, r4, TO.ext e4 k4⟩
          | bk t' => exact fun F4 m4 σ4 H4 e4 s4 r4 => ⟨t', fr, F4, m4, a, s4, r4, TO.ext e4 k4⟩
          | ret d => exact k4
    · have ei : i = xs.length := by omega
      subst ei
      refine .inl ⟨y.stop fr F2 m2 ah2 H2 e2 s2, t, fr, F2, m2, ah2, s2, er2, ?_⟩
      rw [List.drop_length] at k2
      exact k2
end
end Lw
/-! SimC: operations on plain data, with their rules. -/
namespace Lw
open PySem L2
def tupOf : D → Option (List D)
  | .tup xs => some xs
  | _ => none
def lstOf (h : AH) : D → Option (List D)
  | .lst xs => some xs
  | .ref n => match h[n]? with
    | some (.lst xs) => some xs
    | _ => none
  | _ => none
def seqOf (h : AH) (d : D) : Option (List D) := match d with
  | .tup xs => some xs
  | d => lstOf h d
section
variable {K : Fg} {mg : Str → Option Value} {fr : Fm} {W : WX} {σ : St} {F F' H H' : Hp} {m m' : List Addr} {ah : AH}
theorem tup_of {d : D} {v : V} {xs : List D} (r : Rep K F m d v) (h : tupOf d = some xs) : ∃ a vs, v = .ref a ∧ SqT K F a vs ∧ RepL K F m xs vs := by
  cases d <;> try (cases h; done)
  cases h
  unfold Rep at r
  exact r
theorem lst_of {d : D} {v : V} {xs : List D} (S : Sim K mg fr F m ah H) (r : Rep K F m d v) (h : lstOf ah d = some xs) : ∃ a vs, v = .ref a ∧ SqL K H a vs ∧ RepL K F m xs vs := by
  cases d <;> try (cases h; done)
  · rename_i n
    unfold Rep at r
    obtain ⟨a, h1, h2⟩ := r
    unfold lstOf at h
    cases hc : ah[n]? with
    | none =>
      simp only [hc] at h
      cases h
    | some c =>
      cases c <;> simp only [hc] at h <;> try (cases h; done)
      cases h
      obtain ⟨a', q, ok⟩ := S.cells n _ hc
      rw [h1] at q
      cases q
      obtain ⟨_, vs, h3, h4⟩ := ok
      exact ⟨a, vs, h2, SqL.of h3, h4⟩
  · cases h
    unfold Rep at r
    obtain ⟨a, vs, h1, h2, h3⟩ := r
    exact ⟨a, vs, h1, SqL.up S.sub h2, h3⟩
/-- the result is a value as it stands -/
theorem TK.val {d : D} {v : V} {Q : VK} (k : TK K mg fr W (Rep K) σ F m (.ok d ah) Q) (S : Sim K mg fr F m ah H) (r : Rep K F m d v) : Q v H := k F m v H Ext.refl S r
theorem TK.newT {ds : List D} {vs : List V} {p : Addr} {Q : VK} (k : TK K mg fr W (Rep K) σ F m (.ok (.tup ds) ah) Q) (S : Sim K mg fr F m ah H) (r : RepL K F m ds vs) (hp : H p = none) : Q (.ref p) (upd H p (.tup vs)) := by
  obtain ⟨S', e⟩ := S.frozen (o := .tup vs) hp
  refine k _ _ _ _ e S' ?_
  unfold Rep
  exact ⟨p, vs, rfl, .inl (.inl upd_same), RepL.ext e _ _ r⟩
theorem TK.newL {ds : List D} {vs : List V} {p : Addr} {Q : VK} (k : TK K mg fr W (Rep K) σ F m (.ok (.lst ds) ah) Q) (S : Sim K mg fr F m ah H) (r : RepL K F m ds vs) (hp : H p = none) : Q (.ref p) (upd H p (.lst vs)) := by
  obtain ⟨S', e⟩ := S.frozen (o := .lst vs) hp
  refine k _ _ _ _ e S' ?_
  unfold Rep
  exact ⟨p, vs, rfl, .inl (.inl upd_same), RepL.ext e _ _ r⟩
theorem Rep.int {i : Int} : Rep K F m (.int i) (.int i) := by
  unfold Rep
  rfl
theorem Rep.bl {i : Bool} : Rep K F m (.bl i) (.bl i) := by
  unfold Rep
  rfl
theorem Rep.str {i : Str} : Rep K F m (.str i) (.str i) := by
  unfold Rep
  rfl
theorem Rep.non : Rep K F m .non .non := by
  unfold Rep
  rfl
theorem Rep.tup {ds : List D} {vs : List V} {a : Addr} (h : SqT K F a vs) (r : RepL K F m ds vs) : Rep K F m (.tup ds) (.ref a) := by
  unfold Rep
  exact ⟨a, vs, rfl, h, r⟩
theorem RepL.drop : ∀ {ds : List D} {vs : List V} (n : Nat), RepL K F m ds vs → RepL K F m (ds.drop n) (vs.drop n)
  | _, _, 0, h => h
  | [], vs, n + 1, h => by
    unfold RepL at h
    rw [h]
    exact RepL.nil
  | d :: ds, vs, n + 1, h => by
    unfold RepL at h
    obtain ⟨v, r, h1, h2, h3⟩ := h
    rw [h1]
    exact RepL.drop n h3
theorem RepL.take : ∀ {ds : List D} {vs : List V} (n : Nat), RepL K F m ds vs → RepL K F m (ds.take n) (vs.take n)
  | _, _, 0, h => by
    rw [List.take_zero, List.take_zero]
    exact RepL.nil
  | [], vs, n + 1, h => by
    unfold RepL at h
    rw [h]
    exact RepL.nil
  | d :: ds, vs, n + 1, h => by
    unfold RepL at h
    obtain ⟨v, r, h1, h2, h3⟩ := h
    rw [h1]
    exact RepL.cons h2 (RepL.take n h3)
end
/-! ### computations part by part -/
section
variable {X : Cx} {fr : Fm} {W : WX} {env : Env} {pos : Pos}
/-- one-place: a rule of a value, read of data -/
def UnD (X : Cx) (r : V → Hp → VK → Prop) (op : D → M D) : Prop := ∀ (fr : Fm) (W : WX) (σ : St) (F : Hp) (m : List Addr) (ah : AH) (H : Hp) (d : D) (x : V) (Q : VK), Sim X.K X.mg fr F m ah H → Rep X.K F m d x →
  TK X.K X.mg fr W (Rep X.K) σ F m (op d ah) Q → r x H Q
theorem de_un {a : Expr} {ma : M D} {op : UnaryOp} {r : V → Hp → VK → Prop} {f : D → M D} (ho : UnR X (unaryOp op) r) (hr : UnD X r f) (ha : DE X W env a ma) : DE X W env (.UnaryOp op a pos) (do let x ← ma; f x) :=
  PE.from (pe_un ho ha) fun σ H Q ⟨fr, F, m, ah, s, er, k⟩ => TK.step s er k fun F1 m1 ah1 d v H1 e1 s1 er1 r1 k1 => hr fr W σ F1 m1 ah1 H1 d v Q s1 r1 k1
/-! arguments -/
theorem da_nil : DA X W env [] (pure []) := PA.from pa_nil fun σ H Q ⟨fr, F, m, ah, s, er, k⟩ => k F m _ H Ext.refl s RepL.nil
theorem da_cons {e : Expr} {es : List Expr} {me : M D} {ms : M (List D)} (he : DE X W env e me) (hs : DA X W env es ms) (hst : starEach (e :: es) X.env = (false, eval e X.env) :: starEach es X.env := by rfl) :
    DA X W env (e :: es) (do let x ← me; let xs ← ms; pure (x :: xs)) :=
  PA.from (pa_cons he hs hst) fun σ H Q ⟨fr, F, m, ah, s, er, k⟩ => TK.step s er k fun F1 m1 ah1 d v H1 e1 s1 er1 r1 k1 => TK.step s1 er1 k1 fun F2 m2 ah2 d2 v2 H2 e2 s2 er2 r2 k2 =>
    k2 F2 m2 _ H2 Ext.refl s2 (RepL.cons (Rep.ext e2 _ _ r1) r2)
theorem da_one {e : Expr} {me : M D} (he : DE X W env e me) (hst : starEach [e] X.env = (false, eval e X.env) :: starEach [] X.env := by rfl) : DA X W env [e] (do let x ← me; pure [x]) :=
  PA.from (pa_cons he pa_nil hst) fun σ H Q ⟨fr, F, m, ah, s, er, k⟩ => TK.step s er k fun F1 m1 ah1 d v H1 e1 s1 er1 r1 k1 => k1 F1 m1 _ H1 Ext.refl s1 (RepL.cons r1 RepL.nil)
theorem da_two {a b : Expr} {ma mb : M D} (ha : DE X W env a ma) (hb : DE X W env b mb) (hst : starEach [a, b] X.env = (false, eval a X.env) :: starEach [b] X.env := by rfl) (hst2 : starEach [b] X.env = (false, eval b X.env) :: starEach [] X.env := by rfl) :
    DA X W env [a, b] (do let x ← ma; let y ← mb; pure [x, y]) :=
  PA.from (pa_cons ha (pa_cons hb pa_nil hst2) hst) fun σ H Q ⟨fr, F, m, ah, s, er, k⟩ => TK.step s er k fun F1 m1 ah1 d v H1 e1 s1 er1 r1 k1 => TK.step s1 er1 k1 fun F2 m2 ah2 d2 v2 H2 e2 s2 er2 r2 k2 =>
    k2 F2 m2 _ H2 Ext.refl s2 (RepL.cons (Rep.ext e2 _ _ r1) (RepL.cons r2 RepL.nil))
/-! displays -/
def lenOk (n : Nat) : Bool := decide (n ≤ sizeLine)
def tupM (xs : List D) : M D := if lenOk xs.length = true then pure (.tup xs) else stuck
def lstM (xs : List D) : M D := if lenOk xs.length = true then pure (.lst xs) else stuck
theorem de_tup {es : List Expr} {ms : M (List D)} {x1} (h : DA X W env es ms) : DE X W env (.Tuple es x1 pos) (do let xs ← ms; tupM xs) :=
  PE.from (pe_tup h) fun σ H Q ⟨fr, F, m, ah, s, er, k⟩ => TK.step s er k fun F1 m1 ah1 d v H1 e1 s1 er1 r1 k1 => by
    unfold tupM at k1
    by_cases hl : lenOk d.length = true
    · rw [if_pos hl] at k1
      exact ⟨by rw [RepL.length r1]; exact of_decide_eq_true hl, fun p hp => TK.newT k1 s1 r1 hp⟩
    · rw [if_neg hl] at k1
      exact False.elim k1
theorem de_lst {es : List Expr} {ms : M (List D)} (h : DA X W env es ms) : DE X W env (.List es pos) (do let xs ← ms; lstM xs) :=
  PE.from (pe_lst h) fun σ H Q ⟨fr, F, m, ah, s, er, k⟩ => TK.step s er k fun F1 m1 ah1 d v H1 e1 s1 er1 r1 k1 => by
    unfold lstM at k1
    by_cases hl : lenOk d.length = true
    · rw [if_pos hl] at k1
      exact ⟨by rw [RepL.length r1]; exact of_decide_eq_true hl, fun p hp => TK.newL k1 s1 r1 hp⟩
    · rw [if_neg hl] at k1
      exact False.elim k1
/-! ### a new cell of the plain heap -/
theorem getElem?_snoc_cases {α : Type} {l : List α} {x y : α} {i : Nat} (h : (l ++ [x])[i]? = some y) : l[i]? = some y ∨ (i = l.length ∧ x = y) := by
  by_cases hi : i < l.length
  · rw [List.getElem?_append_left hi] at h
    exact .inl h
  · rw [List.getElem?_append_right (by omega)] at h
    have z : i - l.length = 0 := by
      cases q : i - l.length with
      | zero => rfl
      | succ n =>
        rw [q] at h
        simp at h
    rw [z] at h
    simp at h
    exact .inr ⟨by omega, h⟩
theorem Sim.laid {K : Fg} {mg : Str → Option Value} {F H : Hp} {m : List Addr} {ah : AH} {p : Addr} {o : HO} {c : Cell} (S : Sim K mg fr F m ah H) (hp : H p = none) (ok : CellOk K mg F m (upd H p o) p c) :
    Sim K mg fr F (m ++ [p]) (ah ++ [c]) (upd H p o) ∧ Ext F m F (m ++ [p]) := by
  have nm : ∀ a, a ∈ m → a ≠ p := fun a ha z => by
    obtain ⟨u, hu⟩ := S.there a ha
    rw [z, hp] at hu
    cases hu
  have e : Ext F m F (m ++ [p]) := ⟨fun _ _ h => h, fun i a h => by
    rw [List.getElem?_append_left (List.getElem?_eq_some_iff.mp h).1]
    exact h⟩
  refine ⟨⟨fun a u h => ?_, by simp [S.len], ?_, fun i x h => ?_, fun a u h n => ?_, fun a ha n => ?_, fun i a h => e.pre i a (S.pre i a h), fun a ha => ?_, S.old⟩, e⟩
  · have q := S.sub a u h
    rw [upd_ne (ne_of_none q hp)]
    exact q
  · rw [List.nodup_append]
    exact ⟨S.nod, by simp, fun a ha b hb => by
      rw [List.mem_singleton.mp hb]
      exact nm a ha⟩
  · rcases getElem?_snoc_cases h with h | ⟨hi, hx⟩
    · obtain ⟨a, q, okx⟩ := S.cells i x h
      have ne := nm a (List.mem_of_getElem? q)
      exact ⟨a, e.pre i a q, okx.ext e (fun z => okx.free z) fun _ => upd_ne ne⟩
    · refine ⟨p, ?_, ?_⟩
      · rw [hi, ← S.len, List.getElem?_append_right (Nat.le_refl _)]
        simp
      · rw [← hx]
        exact ok.ext e (fun z => ok.free z) fun _ => rfl
  · have q := S.frame a u h n
    rw [upd_ne (ne_of_none q hp)]
    exact q
  · rcases List.mem_append.mp ha with ha | ha
    · exact S.young a ha n
    · rw [List.mem_singleton.mp ha]
      exact S.fresh0 hp
  · rcases List.mem_append.mp ha with ha | ha
    · rw [upd_ne (nm a ha)]
      exact S.there a ha
    · rw [List.mem_singleton.mp ha, upd_same]
      exact ⟨_, rfl⟩
def newM (c : Cell) : M D := fun h => .ok (.ref h.length) (h ++ [c])
/-- a list that will be written -/
def lstH (xs : List D) : M D := if lenOk xs.length = true then newM (.lst xs) else stuck
theorem Sim.freeF {K : Fg} {mg : Str → Option Value} {F H : Hp} {m : List Addr} {ah : AH} {p : Addr} (S : Sim K mg fr F m ah H) (hp : H p = none) : F p = none := by
  cases q : F p with
  | none => rfl
  | some u =>
    rw [S.sub _ _ q] at hp
    cases hp
theorem TK.newH {σ : St} {F H : Hp} {m : List Addr} {ah : AH} {ds : List D} {vs : List V} {p : Addr} {Q : VK} (k : TK X.K X.mg fr W (Rep X.K) σ F m (newM (.lst ds) ah) Q) (S : Sim X.K X.mg fr F m ah H) (r : RepL X.K F m ds vs) (hp : H p = none) : Q (.ref p) (upd H p (.lst vs)) := by
  obtain ⟨S', e⟩ := S.laid (o := .lst vs) (c := .lst ds) hp ⟨S.freeF hp, vs, upd_same, r⟩
  refine k _ _ _ _ e S' ?_
  unfold Rep
  refine ⟨p, ?_, rfl⟩
  rw [← S.len, List.getElem?_append_right (Nat.le_refl _)]
  simp
theorem de_lstH {es : List Expr} {ms : M (List D)} (h : DA X W env es ms) : DE X W env (.List es pos) (do let xs ← ms; lstH xs) :=
  PE.from (pe_lst h) fun σ H Q ⟨fr, F, m, ah, s, er, k⟩ => TK.step s er k fun F1 m1 ah1 d v H1 e1 s1 er1 r1 k1 => by
    unfold lstH at k1
    by_cases hl : lenOk d.length = true
    · rw [if_pos hl] at k1
      exact ⟨by rw [RepL.length r1]; exact of_decide_eq_true hl, fun p hp => TK.newH k1 s1 r1 hp⟩
    · rw [if_neg hl] at k1
      exact False.elim k1
/-! ### + -/
/-- list + list -/
def rCatLs (K : Fg) : R2 := fun x y H Q => ∃ l b xs zs, x = .ref l ∧ y = .ref b ∧ SqL K H l xs ∧ SqL K H b zs ∧ xs.length + zs.length ≤ sizeLine ∧ ∀ p, H p = none → Q (.ref p) (upd H p (.lst (xs ++ zs)))
theorem op_catLs : OpR X (binaryOp .Add) (rCatLs X.K) := by
  intro pins s σ H x y v u Q I rx ry h
  obtain ⟨l, b, xs, zs, rfl, rfl, hH, hB, hz, q⟩ := h
  cases rx
  cases ry
  obtain ⟨its, r, hl, _⟩ := I.list hH
  obtain ⟨its2, r2, hl2, _⟩ := I.list hB
  have e1 := r.length
  have e2 := r2.length
  obtain ⟨m, F⟩ := I.fr
  obtain ⟨⟨cls, dd, data, sl⟩, ho, hc, n, hd⟩ := hl.isList
  obtain ⟨⟨cls2, dd2, data2, sl2⟩, ho2, hc2, n2, hd2⟩ := hl2.isList
  simp only at hc hd hc2 hd2
  subst hc hd hc2 hd2
  have e : its.toArray ++ its2.toArray = (its ++ its2).toArray := by simp
  refine PySem.concat_meets ⟨_, ho, rfl⟩ ⟨_, ho2, rfl⟩ noFill_list_add seq_list_add PySem.F.slot_list_add PySem.F.entry_list_add (PySem.F.args_list_add_2 _ _) (PyProof.Rows.list_addW l b its.toArray its2.toArray n n2 dd dd2 sl sl2 (by simp only [List.size_toArray]; omega)) ⟨ho, ho2, ?_⟩
  rw [e]
  exact ⟨.ref _, _, I.lnew (t' := s.toks) (r.append r2) (by rw [List.length_append]; omega), rfl, q _ I.fresh⟩
def rAddStr : R2 := fun x y H Q => ∃ i j, x = .str i ∧ y = .str j ∧ i.length + j.length ≤ sizeLine ∧ Q (.str (i ++ j)) H
def rAddAll (K : Fg) : R2 := fun x y H Q => rI0 (fun i j => .int (i + j)) x y H Q ∨ rAddStr x y H Q ∨ rCatA K x y H Q ∨ rCatLs K x y H Q
theorem op_addAll : OpR X (binaryOp .Add) (rAddAll X.K) := op_add.or (op_add_str.or (op_catA.or op_catLs))
def addM (x y : D) : M D := fun h => match x, y with
  | .int i, .int j => .ok (.int (i + j)) h
  | .str a, .str b => if lenOk (a.length + b.length) = true then .ok (.str (a ++ b)) h else .stuck
  | .tup a, .tup b => if lenOk (a.length + b.length) = true then .ok (.tup (a ++ b)) h else .stuck
  | x, y => match lstOf h x, lstOf h y with
    | some a, some b => if lenOk (a.length + b.length) = true then .ok (.lst (a ++ b)) h else .stuck
    | _, _ => .stuck
theorem add_ok : OpD X (rAddAll X.K) addM := by
  intro fr W σ F m ah H d e x y Q s rx ry k
  have ls : ∀ (a b : List D), lstOf ah d = some a → lstOf ah e = some b → TK X.K X.mg fr W (Rep X.K) σ F m (if lenOk (a.length + b.length) = true then .ok (.lst (a ++ b)) ah else .stuck) Q → rAddAll X.K x y H Q := by
    intro a b h1 h2 k
    by_cases hl : lenOk (a.length + b.length) = true
    · rw [if_pos hl] at k
      obtain ⟨p1, vs1, e1, q1, r1⟩ := lst_of s rx h1
      obtain ⟨p2, vs2, e2, q2, r2⟩ := lst_of s ry h2
      exact .inr (.inr (.inr ⟨p1, p2, vs1, vs2, e1, e2, q1, q2, by rw [RepL.length r1, RepL.length r2]; exact of_decide_eq_true hl, fun p hp => TK.newL k s (RepL.append r1 r2) hp⟩))
    · rw [if_neg hl] at k
      exact k.elim
  unfold addM at k
  split at k
  · unfold Rep at rx ry
    exact .inl ⟨_, _, rx, ry, k.val s Rep.int⟩
  · rename_i a b
    unfold Rep at rx ry
    by_cases hl : lenOk (a.length + b.length) = true
    · rw [if_pos hl] at k
      exact .inr (.inl ⟨_, _, rx, ry, of_decide_eq_true hl, k.val s Rep.str⟩)
    · rw [if_neg hl] at k
      exact k.elim
  · rename_i a b
    by_cases hl : lenOk (a.length + b.length) = true
    · rw [if_pos hl] at k
      unfold Rep at rx ry
      obtain ⟨p1, vs1, e1, q1, r1⟩ := rx
      obtain ⟨p2, vs2, e2, q2, r2⟩ := ry
      refine .inr (.inr (.inl ⟨p1, p2, vs1, vs2, e1, e2, SqT.up s.sub q1, SqT.up s.sub q2, by rw [RepL.length r1, RepL.length r2]; exact of_decide_eq_true hl, fun z => ?_, fun _ z => ?_, fun _ _ p hp => TK.newT k s (RepL.append r1 r2) hp⟩))
      · have la : a = [] := List.length_eq_zero_iff.mp (by rw [← RepL.length r1, z]; rfl)
        subst la
        exact k.val s (Rep.tup q2 r2)
      · have lb : b = [] := List.length_eq_zero_iff.mp (by rw [← RepL.length r2, z]; rfl)
        subst lb
        rw [List.append_nil] at k
        exact k.val s (Rep.tup q1 r1)
    · rw [if_neg hl] at k
      exact k.elim
  · cases h1 : lstOf ah d with
    | none =>
      rw [h1] at k
      exact k.elim
    | some a =>
      cases h2 : lstOf ah e with
      | none =>
        rw [h1, h2] at k
        exact k.elim
      | some b =>
        rw [h1, h2] at k
        exact ls a b h1 h2 k
theorem de_add {a b : Expr} {ma mb : M D} (ha : DE X W env a ma) (hb : DE X W env b mb) : DE X W env (.BinOp a .Add b pos) (do let x ← ma; let y ← mb; addM x y) := de_op op_addAll add_ok ha hb
/-! ### ints -/
def subM : D → D → M D := int2 fun i j => .int (i - j)
theorem de_sub {a b : Expr} {ma mb : M D} (ha : DE X W env a ma) (hb : DE X W env b mb) : DE X W env (.BinOp a .Sub b pos) (do let x ← ma; let y ← mb; subM x y) := de_op op_sub (int2_ok fun _ _ _ _ _ => Rep.int) ha hb
/-- ints, under a condition that is decided -/
def int2c (c : Int → Int → Bool) (f : Int → Int → D) : D → D → M D := fun x y => match x, y with
  | .int i, .int j => if c i j = true then pure (f i j) else stuck
  | _, _ => stuck
theorem int2c_ok {C : Int → Int → Prop} {c : Int → Int → Bool} {g : Int → Int → V} {f : Int → Int → D} (hc : ∀ i j, c i j = true → C i j) (h : ∀ i j K F m, Rep K F m (f i j) (g i j)) : OpD X (rI C g) (int2c c f) := by
  intro fr W σ F m ah H d e x y Q s rx ry k
  cases d <;> try exact (TK.stuck_of k).elim
  cases e <;> try exact (TK.stuck_of k).elim
  rename_i i j
  unfold Rep at rx ry
  by_cases z : c i j = true
  · have k : TK X.K X.mg fr W (Rep X.K) σ F m ((if c i j = true then pure (f i j) else stuck : M D) ah) Q := k
    rw [if_pos z] at k
    exact ⟨i, j, rx, ry, hc i j z, k F m _ H Ext.refl s (h i j _ _ _)⟩
  · have k : TK X.K X.mg fr W (Rep X.K) σ F m ((if c i j = true then pure (f i j) else stuck : M D) ah) Q := k
    rw [if_neg z] at k
    exact k.elim
/-- ints below 2 ^ 400000 together -/
def cMul (i j : Int) : Bool := decide (i.natAbs.log2 + j.natAbs.log2 < 1000000)
def mulM : D → D → M D := int2c cMul fun i j => .int (i * j)
theorem de_mul {a b : Expr} {ma mb : M D} (ha : DE X W env a ma) (hb : DE X W env b mb) : DE X W env (.BinOp a .Mult b pos) (do let x ← ma; let y ← mb; mulM x y) :=
  de_op op_mulW (int2c_ok (fun i j h => by unfold cMul at h; exact (of_decide_eq_true h : i.natAbs.log2 + j.natAbs.log2 < 1000000)) fun _ _ _ _ _ => Rep.int) ha hb
def cDiv (_ j : Int) : Bool := decide (0 < j ∧ j.natAbs.log2 < 9000)
def fdivM : D → D → M D := int2c cDiv fun i j => .int (i / j)
theorem de_fdiv {a b : Expr} {ma mb : M D} (ha : DE X W env a ma) (hb : DE X W env b mb) : DE X W env (.BinOp a .FloorDiv b pos) (do let x ← ma; let y ← mb; fdivM x y) :=
  de_op op_fdivW (int2c_ok (fun i j h => by unfold cDiv at h; exact (of_decide_eq_true h : 0 < j ∧ j.natAbs.log2 < 9000)) fun _ _ _ _ _ => Rep.int) ha hb
def cMod (_ j : Int) : Bool := decide (0 < j)
def modM : D → D → M D := int2c cMod fun i j => .int (i % j)
theorem de_mod {a b : Expr} {ma mb : M D} (ha : DE X W env a ma) (hb : DE X W env b mb) : DE X W env (.BinOp a .Mod b pos) (do let x ← ma; let y ← mb; modM x y) :=
  de_op op_mod (int2c_ok (fun i j h => of_decide_eq_true h) fun _ _ _ _ _ => Rep.int) ha hb
def cPow (i j : Int) : Bool := decide (0 ≤ j ∧ j ≤ 1000000 ∧ i.natAbs < 2 ^ 64)
def powM : D → D → M D := int2c cPow fun i j => .int (i ^ j.toNat)
theorem de_pow {a b : Expr} {ma mb : M D} (ha : DE X W env a ma) (hb : DE X W env b mb) : DE X W env (.BinOp a .Pow b pos) (do let x ← ma; let y ← mb; powM x y) :=
  de_op op_pow (int2c_ok (fun i j h => by unfold cPow at h; exact (of_decide_eq_true h : 0 ≤ j ∧ j ≤ 1000000 ∧ i.natAbs < 2 ^ 64)) fun _ _ _ _ _ => Rep.int) ha hb
def negM : D → M D
  | .int i => pure (.int (-i))
  | _ => stuck
theorem de_neg {a : Expr} {ma : M D} (ha : DE X W env a ma) : DE X W env (.UnaryOp .USub a pos) (do let x ← ma; negM x) := de_un un_neg (fun fr W σ F m ah H d x Q s r k => by
  cases d <;> try exact (TK.stuck_of k).elim
  unfold Rep at r
  exact ⟨_, r, k F m _ H Ext.refl s Rep.int⟩) ha
/-! comparisons of ints -/
def ltM : D → D → M D := int2 fun i j => .bl (decide (i < j))
def leM : D → D → M D := int2 fun i j => .bl (decide (i ≤ j))
def gtM : D → D → M D := int2 fun i j => .bl (decide (j < i))
def geM : D → D → M D := int2 fun i j => .bl (decide (j ≤ i))
/-! a op b op c, ints -/
/-! ### == over data -/
mutual
def toP : D → PyData
  | .non => .none
  | .bl b => .bool b
  | .int i => .int i
  | .str x => .str x
  | .tup xs => .tuple (toPs xs)
  | .lst xs => .list (toPs xs)
  | _ => .none
def toPs : List D → List PyData
  | [] => []
  | d :: ds => toP d :: toPs ds
/-- flat data, at most so deep -/
def flatD : Nat → D → Bool
  | _, .non => true
  | _, .bl _ => true
  | _, .int _ => true
  | _, .str _ => true
  | n, .tup xs => flatDs n xs
  | n, .lst xs => flatDs n xs
  | _, _ => false
def flatDs : Nat → List D → Bool
  | _, [] => true
  | n, d :: ds => flatD n d && flatDs n ds
end
mutual
theorem dp_of {K : Fg} {F H : Hp} {m : List Addr} (sub : ∀ a o, F a = some o → H a = some o) : ∀ (d : D) (v : V), Rep K F m d v → flatD 0 d = true → Dp K H v (toP d)
  | .non, v, r, _ => by
    unfold Rep at r
    rw [r]
    exact .non
  | .bl b, v, r, _ => by
    unfold Rep at r
    rw [r]
    exact .bl b
  | .int b, v, r, _ => by
    unfold Rep at r
    rw [r]
    exact .int b
  | .str b, v, r, _ => by
    unfold Rep at r
    rw [r]
    exact .str b
  | .ref _, v, _, f => by
    unfold flatD at f
    cases f
  | .exn _ _, v, _, f => by
    unfold flatD at f
    cases f
  | .emp, v, _, f => by
    unfold flatD at f
    cases f
  | .tup xs, v, r, f => by
    unfold Rep at r
    obtain ⟨a, vs, h1, h2, h3⟩ := r
    unfold flatD at f
    rw [h1]
    exact .tup (SqT.up sub h2) (dps_of sub xs vs h3 f)
  | .lst xs, v, r, f => by
    unfold Rep at r
    obtain ⟨a, vs, h1, h2, h3⟩ := r
    unfold flatD at f
    rw [h1]
    exact .lst (SqL.up sub h2) (dps_of sub xs vs h3 f)
theorem dps_of {K : Fg} {F H : Hp} {m : List Addr} (sub : ∀ a o, F a = some o → H a = some o) : ∀ (ds : List D) (vs : List V), RepL K F m ds vs → flatDs 0 ds = true → DpAll K H vs (toPs ds)
  | [], vs, r, _ => by
    unfold RepL at r
    rw [r]
    exact .nil
  | d :: ds, vs, r, f => by
    unfold RepL at r
    obtain ⟨v, u, h1, h2, h3⟩ := r
    unfold flatDs at f
    rw [Bool.and_eq_true] at f
    rw [h1]
    exact .cons (dp_of sub d v h2 f.1) (dps_of sub ds u h3 f.2)
end
/-- a list of the heap, looked at as data -/
def lookD (h : AH) : D → D
  | .ref n => match h[n]? with
    | some (.lst xs) => .lst xs
    | _ => .ref n
  | d => d
def okD (d : D) : Bool := flatD 0 d && SeqAt.shaped (toP d)
/-- two texts; two lists of unlike lengths -/
def eqP (h : AH) (x y : D) : Option Bool := match x, y with
  | .str a, .str b => some (decide (a = b))
  | x, y => match lstOf h x, lstOf h y with
    | some xs, some ys => if xs.length = ys.length then none else some false
    | _, _ => none
def eqM (x y : D) : M D := fun h => match eqP h x y with
  | some b => .ok (.bl b) h
  | none => if (okD (lookD h x) && okD (lookD h y)) = true then .ok (.bl (PyData.eqv (toP (lookD h x)) (toP (lookD h y)))) h else .stuck
def neM (x y : D) : M D := fun h => match eqP h x y with
  | some b => .ok (.bl (!b)) h
  | none => if (okD (lookD h x) && okD (lookD h y)) = true then .ok (.bl (!PyData.eqv (toP (lookD h x)) (toP (lookD h y)))) h else .stuck
theorem dp_look {K : Fg} {mg : Str → Option Value} {F H : Hp} {m : List Addr} {ah : AH} {d : D} {v : V} (S : Sim K mg fr F m ah H) (r : Rep K F m d v) (f : flatD 0 (lookD ah d) = true) : Dp K H v (toP (lookD ah d)) := by
  cases d <;> try exact dp_of S.sub _ v r f
  rename_i n
  unfold lookD at f ⊢
  cases hc : ah[n]? with
  | none =>
    simp only [hc] at f
    unfold flatD at f
    cases f
  | some c =>
    cases c <;> simp only [hc] at f ⊢ <;> try (unfold flatD at f; cases f; done)
    rename_i xs
    obtain ⟨a, vs, h1, h2, h3⟩ := lst_of (xs := xs) S r (by unfold lstOf; simp only [hc])
    unfold flatD at f
    rw [h1]
    exact .lst h2 (dps_of S.sub xs vs h3 f)
/-- lists of unlike lengths -/
def rLen (K : Fg) (k : Bool) : R2 := fun x y H Q => ∃ a b xs ys, x = .ref a ∧ y = .ref b ∧ SqL K H a xs ∧ SqL K H b ys ∧ xs.length ≠ ys.length ∧ Q (.bl k) H
theorem op_neLen (hu : X.A.units + 64 < cLine) : OpR X (compareOp .NotEq) (rLen X.K true) := by
  intro pins s σ H x y v u Q I rx ry h
  obtain ⟨a, b, xs, ys, rfl, rfl, ha, hb, hl, q⟩ := h
  cases rx
  cases ry
  obtain ⟨its, r, p, _⟩ := I.list ha
  obtain ⟨its2, r2, p2, _⟩ := I.list hb
  have e1 := r.length
  have e2 := r2.length
  exact PySem.SeqAt.RcNeAt.lists_lengths p.isList p2.isList (by simp only [List.size_toArray, bne_iff_ne]; omega) (by omega) X.prog X.w X.xe _ ⟨.bl true, H, I, rfl, q⟩
def rEqX (K : Fg) : R2 := fun x y H Q => (rEq x y H Q ∨ rLen K false x y H Q) ∨ rEqD K x y H Q
def rNeX (K : Fg) : R2 := fun x y H Q => (rNe x y H Q ∨ rLen K true x y H Q) ∨ rNeD K x y H Q
theorem op_neX (hu : X.A.units + 64 < cLine) : OpR X (compareOp .NotEq) (rNeX X.K) := (op_ne.or (op_neLen hu)).or (op_neD hu)
theorem eqP_of {K : Fg} {mg : Str → Option Value} {F H : Hp} {m : List Addr} {ah : AH} {d e : D} {x y : V} {b : Bool} (s : Sim K mg fr F m ah H) (rx : Rep K F m d x) (ry : Rep K F m e y) (h : eqP ah d e = some b) :
    (∃ p q, x = .str p ∧ y = .str q ∧ b = decide (p = q)) ∨ (b = false ∧ ∃ p q xs ys, x = .ref p ∧ y = .ref q ∧ SqL K H p xs ∧ SqL K H q ys ∧ xs.length ≠ ys.length) := by
  unfold eqP at h
  split at h
  · unfold Rep at rx ry
    cases h
    exact .inl ⟨_, _, rx, ry, rfl⟩
  · split at h
    · rename_i xs ys h1 h2
      by_cases hl : xs.length = ys.length
      · rw [if_pos hl] at h
        cases h
      · rw [if_neg hl] at h
        cases h
        obtain ⟨p, vs, e1, e2, e3⟩ := lst_of s rx h1
        obtain ⟨q, us, g1, g2, g3⟩ := lst_of s ry h2
        exact .inr ⟨rfl, p, q, vs, us, e1, g1, e2, g2, by rw [RepL.length e3, RepL.length g3]; exact hl⟩
    · cases h
theorem eq_ok : OpD X (rEqX X.K) eqM := by
  intro fr W σ F m ah H d e x y Q s rx ry k
  unfold eqM at k
  cases hp : eqP ah d e with
  | some b =>
    simp only [hp] at k
    rcases eqP_of s rx ry hp with ⟨p, q, rfl, rfl, rfl⟩ | ⟨rfl, p, q, xs, ys, rfl, rfl, h1, h2, h3⟩
    · refine .inl (.inl ⟨rfl, ?_⟩)
      have e : decide ((V.str p) = .str q) = decide (p = q) := by
        by_cases z : p = q
        · rw [decide_eq_true z, decide_eq_true (by rw [z])]
        · rw [decide_eq_false z, decide_eq_false (fun y => z (V.str.inj y))]
      rw [e]
      exact k.val s Rep.bl
    · exact .inl (.inr ⟨p, q, xs, ys, rfl, rfl, h1, h2, h3, k.val s Rep.bl⟩)
  | none =>
    simp only [hp] at k
    by_cases h : (okD (lookD ah d) && okD (lookD ah e)) = true
    · rw [if_pos h] at k
      rw [Bool.and_eq_true] at h
      unfold okD at h
      rw [Bool.and_eq_true, Bool.and_eq_true] at h
      exact .inr ⟨_, _, dp_look s rx h.1.1, dp_look s ry h.2.1, h.1.2, h.2.2, k.val s Rep.bl⟩
    · rw [if_neg h] at k
      exact k.elim
theorem ne_ok : OpD X (rNeX X.K) neM := by
  intro fr W σ F m ah H d e x y Q s rx ry k
  unfold neM at k
  cases hp : eqP ah d e with
  | some b =>
    simp only [hp] at k
    rcases eqP_of s rx ry hp with ⟨p, q, rfl, rfl, rfl⟩ | ⟨rfl, p, q, xs, ys, rfl, rfl, h1, h2, h3⟩
    · refine .inl (.inl ⟨rfl, ?_⟩)
      have e : decide ((V.str p) = .str q) = decide (p = q) := by
        by_cases z : p = q
        · rw [decide_eq_true z, decide_eq_true (by rw [z])]
        · rw [decide_eq_false z, decide_eq_false (fun y => z (V.str.inj y))]
      rw [e]
      exact k.val s Rep.bl
    · exact .inl (.inr ⟨p, q, xs, ys, rfl, rfl, h1, h2, h3, k.val s Rep.bl⟩)
  | none =>
    simp only [hp] at k
    by_cases h : (okD (lookD ah d) && okD (lookD ah e)) = true
    · rw [if_pos h] at k
      rw [Bool.and_eq_true] at h
      unfold okD at h
      rw [Bool.and_eq_true, Bool.and_eq_true] at h
      exact .inr ⟨_, _, dp_look s rx h.1.1, dp_look s ry h.2.1, h.1.2, h.2.2, k.val s Rep.bl⟩
    · rw [if_neg h] at k
      exact k.elim
end
end Lw
/-! SimD: tests, is, and/or/not, subscripts, slices, built-in calls. -/
namespace Lw
open PySem L2
section
variable {X : Cx} {W : WX} {env : Env} {pos : Pos}
/-! ### tests -/
def asB : D → M Bool
  | .bl b => pure b
  | _ => stuck
theorem dt_of {e : Expr} {t : TE} {mc : M D} (hp : PT X e (tTest t)) (i : ∀ σ H Q, TC X.K X.mg W (Rep X.K) env mc σ H Q → t σ H Q) : DT X W env e (do let x ← mc; asB x) :=
  PT.from hp fun σ H Q ⟨fr, F, m, ah, s, er, k⟩ => i σ H _ (TK.step s er k fun F1 m1 ah1 d v H1 e1 s1 er1 r1 k1 => by
    cases d <;> try exact (TK.stuck_of k1).elim
    unfold Rep at r1
    exact ⟨_, r1, k1 F1 m1 _ H1 Ext.refl s1 rfl⟩)
theorem dt_cmp {a b : Expr} {ma mb : M D} {op : CmpOp} {r : R2} {f : D → D → M D} (ho : OpR X (compareOp op) r) (hr : OpD X r f) (ha : DE X W env a ma) (hb : DE X W env b mb) (hm : behindInMarks op b = false) :
    DT X W env (.Compare a [op] [b] pos) (do let v ← (do let x ← ma; let y ← mb; f x y); asB v) := dt_of (pt_cmpR ho ha hb hm) (tOp_from hr)
/-- an expression by its truth -/
def truM (d : D) : M Bool := fun h => match d with
  | .non => .ok false h
  | .bl b => .ok b h
  | .int i => .ok (i != 0) h
  | .str x => if lenOk x.length = true then .ok ((x.length : Int) != 0) h else .stuck
  | .tup xs => .ok (!xs.isEmpty) h
  | d => match lstOf h d with
    | some xs => .ok (!xs.isEmpty) h
    | none => .stuck
theorem RepL.isEmpty {K : Fg} {F : Hp} {m : List Addr} {ds : List D} {vs : List V} (r : RepL K F m ds vs) : vs.isEmpty = ds.isEmpty := by
  cases ds with
  | nil =>
    unfold RepL at r
    rw [r]
    rfl
  | cons d ds =>
    unfold RepL at r
    obtain ⟨v, u, h1, _, _⟩ := r
    rw [h1]
    rfl
theorem tru_of {K : Fg} {mg : Str → Option Value} {fr : Fm} {W : WX} {σ : St} {F H : Hp} {m : List Addr} {ah : AH} {d : D} {v : V} {Q : Bool → Hp → Prop} (S : Sim K mg fr F m ah H) (r : Rep K F m d v) (k : TK K mg fr W RB σ F m (truM d ah) Q) : ∃ b, TruV K v H b ∧ Q b H := by
  have ls : ∀ xs, lstOf ah d = some xs → TK K mg fr W RB σ F m (.ok (!xs.isEmpty) ah) Q → ∃ b, TruV K v H b ∧ Q b H := fun xs h k => by
    obtain ⟨a, vs, h1, h2, h3⟩ := lst_of S r h
    subst h1
    exact ⟨!xs.isEmpty, .inl ⟨vs, h2, by rw [RepL.isEmpty h3]⟩, k F m _ H Ext.refl S rfl⟩
  unfold truM at k
  split at k
  · unfold Rep at r
    subst r
    exact ⟨false, rfl, k F m _ H Ext.refl S rfl⟩
  · unfold Rep at r
    subst r
    exact ⟨_, rfl, k F m _ H Ext.refl S rfl⟩
  · unfold Rep at r
    subst r
    exact ⟨_, rfl, k F m _ H Ext.refl S rfl⟩
  · rename_i x
    unfold Rep at r
    subst r
    by_cases hl : lenOk x.length = true
    · rw [if_pos hl] at k
      exact ⟨_, ⟨of_decide_eq_true hl, rfl⟩, k F m _ H Ext.refl S rfl⟩
    · rw [if_neg hl] at k
      exact k.elim
  · rename_i xs
    unfold Rep at r
    obtain ⟨a, vs, h1, h2, h3⟩ := r
    subst h1
    exact ⟨!xs.isEmpty, .inr (.inl ⟨vs, SqT.up S.sub h2, by rw [RepL.isEmpty h3]⟩), k F m _ H Ext.refl S rfl⟩
  · cases h : lstOf ah d with
    | none =>
      rw [h] at k
      exact k.elim
    | some xs =>
      rw [h] at k
      exact ls xs h k
theorem dt_tru {e : Expr} {me : M D} (ha : DE X W env e me) (he : ∀ whole, isTrue e X.env whole = (do let v ← whole; standAt e.pos; holding [v] (truthy v)) := by intro _; rfl) : DT X W env e (do let x ← me; truM x) :=
  PT.from (pt_truth ha he) fun σ H Q ⟨fr, F, m, ah, s, er, k⟩ => TK.step s er k fun F1 m1 ah1 d v H1 e1 s1 er1 r1 k1 => tru_of s1 r1 k1
theorem dt_not {a : Expr} {ma : M Bool} (ha : DT X W env a ma) : DT X W env (.UnaryOp .Not a pos) (do let t ← ma; pure (!t)) :=
  PT.from (pt_not ha) fun σ H Q ⟨fr, F, m, ah, s, er, k⟩ => TK.step s er k fun F1 m1 ah1 d v H1 e1 s1 er1 r1 k1 => by
    have r1 : d = v := r1
    subst r1
    exact k1 F1 m1 _ H1 Ext.refl s1 rfl
abbrev DW (X : Cx) (W : WX) (env : Env) (e : Expr) (mc : M Bool) : Prop := PW X e (TC X.K X.mg W RB env mc)
theorem PW.from {X : Cx} {e : Expr} {t t' : TT} (h : PW X e t) (i : ∀ σ H Q, t' σ H Q → t σ H Q) : PW X e t' := ⟨fun w pins s σ H Q I q => h.run w pins s σ H Q I (i σ H Q q)⟩
theorem dw_or1 {a : Expr} {ma : M Bool} (ha : DT X W env a ma) : DW X W env (.BoolOp .Or [a] pos) ma := pw_or1 ha
theorem dw_or {a b : Expr} {rest : List Expr} {ma mb : M Bool} (ha : DT X W env a ma) (hb : DW X W env (.BoolOp .Or (b :: rest) pos) mb) : DW X W env (.BoolOp .Or (a :: b :: rest) pos) (do let t ← ma; if t = true then pure true else mb) :=
  PW.from (pw_or ha hb) fun σ H Q ⟨fr, F, m, ah, s, er, k⟩ => TK.step s er k fun F1 m1 ah1 d v H1 e1 s1 er1 r1 k1 => by
    have r1 : d = v := r1
    subst r1
    cases d with
    | true => exact iteT (k1 F1 m1 _ H1 Ext.refl s1 rfl)
    | false => exact iteF ⟨fr, F1, m1, ah1, s1, er1, k1⟩
theorem dt_w {e : Expr} {mc : M Bool} (h : DW X W env e mc) : DT X W env e mc := h.pt
/-! as values -/
theorem de_one {op : BoolOp} {a : Expr} {ma : M D} (h : DE X W env a ma) : DE X W env (.BoolOp op [a] pos) ma := pe_one h
def andV (x : D) (mb : M D) : M D := match x with
  | .bl true => mb
  | .bl false => pure (.bl false)
  | _ => stuck
def orV (x : D) (mb : M D) : M D := match x with
  | .bl true => pure (.bl true)
  | .bl false => mb
  | _ => stuck
theorem de_and {a b : Expr} {rest : List Expr} {ma mb : M D} (ha : DE X W env a ma) (hb : DE X W env (.BoolOp .And (b :: rest) pos) mb) : DE X W env (.BoolOp .And (a :: b :: rest) pos) (do let x ← ma; andV x mb) :=
  PE.from (pe_and ha hb) fun σ H Q ⟨fr, F, m, ah, s, er, k⟩ => TK.step s er k fun F1 m1 ah1 d v H1 e1 s1 er1 r1 k1 => by
    cases d <;> try exact (TK.stuck_of k1).elim
    rename_i c
    unfold Rep at r1
    refine ⟨c, r1, ?_⟩
    cases c with
    | true => exact iteT ⟨fr, F1, m1, ah1, s1, er1, k1⟩
    | false => exact iteF (k1 F1 m1 _ H1 Ext.refl s1 Rep.bl)
def notV : D → M D
  | .bl b => pure (.bl (!b))
  | _ => stuck
theorem de_not {a : Expr} {ma : M D} (ha : DE X W env a ma) : DE X W env (.UnaryOp .Not a pos) (do let x ← ma; notV x) :=
  PE.from (pe_not ha) fun σ H Q ⟨fr, F, m, ah, s, er, k⟩ => TK.step s er k fun F1 m1 ah1 d v H1 e1 s1 er1 r1 k1 => by
    cases d <;> try exact (TK.stuck_of k1).elim
    unfold Rep at r1
    exact ⟨_, r1, k1 F1 m1 _ H1 Ext.refl s1 Rep.bl⟩
/-! ### is -/
theorem is_bl_gen {M : Model} {A : Around} {E : Value → Shared → Prop} {s : Shared} {Q : Value → Shared → Prop} {v : Value} {b : Bool} (hv : ∀ n, v ≠ .builtin n) (h : Q (.bool (v == .bool b)) s) : wpAny M A (compareOp .Is v (.bool b)) Q E s := by
  cases v <;> first | exact wpAny_pure h | exact absurd rfl (hv _)
theorem isnot_bl_gen {M : Model} {A : Around} {E : Value → Shared → Prop} {s : Shared} {Q : Value → Shared → Prop} {v : Value} {b : Bool} (hv : ∀ n, v ≠ .builtin n) (h : Q (.bool (!(v == .bool b))) s) : wpAny M A (compareOp .IsNot v (.bool b)) Q E s := by
  cases v <;> first | exact wpAny_pure h | exact absurd rfl (hv _)
theorem RelV.nob {x : V} {v : Value} (r : RelV x v) : ∀ n, v ≠ .builtin n := fun n e => by
  subst e
  cases x <;> first | (cases r; done) | (obtain ⟨t, z⟩ := r; cases z)
theorem RelV.bl_iff {x : V} {v : Value} {b : Bool} (r : RelV x v) : (v == Value.bool b) = decide (x = .bl b) := by
  cases x with
  | non => cases r; rfl
  | bl c => cases r; cases c <;> cases b <;> rfl
  | int _ => obtain ⟨t, rfl⟩ := r; rfl
  | str _ => obtain ⟨t, rfl⟩ := r; rfl
  | byt _ => obtain ⟨t, rfl⟩ := r; rfl
  | flt _ => obtain ⟨t, rfl⟩ := r; rfl
  | ref _ => cases r; rfl
  | ty _ => cases r; rfl
/-- is, the right side None, True or False -/
def rIs (neg : Bool) : R2 := fun x y H Q => (y = .non ∧ Q (.bl (xor neg (decide (x = .non)))) H) ∨ ∃ b, y = .bl b ∧ Q (.bl (xor neg (decide (x = .bl b)))) H
theorem op_isC : OpR X (compareOp .Is) (rIs false) := by
  intro pins s σ H x y v u Q I rx ry h
  rcases h with ⟨rfl, q⟩ | ⟨b, rfl, q⟩
  · exact op_isN pins s σ H x _ v u Q I rx ry ⟨rfl, by simpa using q⟩
  · cases ry
    exact is_bl_gen (RelV.nob rx) (fin_bl I q (by rw [RelV.bl_iff rx]; simp))
theorem op_isnotC : OpR X (compareOp .IsNot) (rIs true) := by
  intro pins s σ H x y v u Q I rx ry h
  rcases h with ⟨rfl, q⟩ | ⟨b, rfl, q⟩
  · exact op_notN pins s σ H x _ v u Q I rx ry ⟨rfl, by simpa using q⟩
  · cases ry
    exact isnot_bl_gen (RelV.nob rx) (fin_bl I q (by rw [RelV.bl_iff rx]; simp))
/-- the same None, True, False -/
def isC : D → D → Bool
  | .non, .non => true
  | .bl a, .bl b => a == b
  | _, _ => false
def isM (neg : Bool) (x y : D) : M D := match y with
  | .non => pure (.bl (xor neg (isC x .non)))
  | .bl b => pure (.bl (xor neg (isC x (.bl b))))
  | _ => stuck
theorem Rep.non_iff {K : Fg} {F : Hp} {m : List Addr} {d : D} {v : V} (r : Rep K F m d v) : decide (v = .non) = isC d .non := by
  cases d <;> unfold Rep at r
  · rw [r]; rfl
  · rw [r]; rfl
  · rw [r]; rfl
  · rw [r]; rfl
  · obtain ⟨a, _, h⟩ := r; rw [h]; rfl
  · rw [r]; rfl
  · obtain ⟨a, _, h⟩ := r; rw [h]; rfl
  · obtain ⟨a, _, h, _⟩ := r; rw [h]; rfl
  · obtain ⟨a, _, h, _⟩ := r; rw [h]; rfl
theorem Rep.bl_iff {K : Fg} {F : Hp} {m : List Addr} {d : D} {v : V} {b : Bool} (r : Rep K F m d v) : decide (v = .bl b) = isC d (.bl b) := by
  cases d <;> unfold Rep at r
  · rw [r]; rfl
  · rename_i c
    rw [r]
    cases c <;> cases b <;> rfl
  · rw [r]; rfl
  · rw [r]; rfl
  · obtain ⟨a, _, h⟩ := r; rw [h]; rfl
  · rw [r]; rfl
  · obtain ⟨a, _, h⟩ := r; rw [h]; rfl
  · obtain ⟨a, _, h, _⟩ := r; rw [h]; rfl
  · obtain ⟨a, _, h, _⟩ := r; rw [h]; rfl
theorem isM_ok {neg : Bool} : OpD X (rIs neg) (isM neg) := by
  intro fr W σ F m ah H d e x y Q s rx ry k
  cases e <;> try exact (TK.stuck_of k).elim
  · unfold Rep at ry
    exact .inl ⟨ry, by rw [Rep.non_iff rx]; exact TK.val k s Rep.bl⟩
  · unfold Rep at ry
    exact .inr ⟨_, ry, by rw [Rep.bl_iff rx]; exact TK.val k s Rep.bl⟩
/-! ### subscripts -/
def ixM (x y : D) : M D := fun h => match x, y with
  | .tup xs, .int i => (match atI xs i with
    | some d => .ok d h
    | none => .stuck)
  | .str z, .int i => if lenOk z.length = true then (match atI z.cps.toList i with
    | some c => .ok (.str ⟨#[c]⟩) h
    | none => .stuck) else .stuck
  | x, .int i => (match lstOf h x with
    | some xs => (match atI xs i with
      | some d => .ok d h
      | none => .stuck)
    | none => .stuck)
  | _, _ => .stuck
theorem RepL.atI {K : Fg} {F : Hp} {m : List Addr} {ds : List D} {vs : List V} {i : Int} {d : D} (r : RepL K F m ds vs) (h : atI ds i = some d) : ∃ v, L2.atI vs i = some v ∧ Rep K F m d v := by
  unfold L2.atI at h ⊢
  rw [RepL.length r]
  cases hj : ixN ds.length i with
  | none =>
    rw [hj] at h
    cases h
  | some j =>
    rw [hj] at h
    exact RepL.get r h
theorem ixM_ok : OpD X (rIx X.K) ixM := by
  intro fr W σ F m ah H d e x y Q s rx ry k
  unfold ixM at k
  split at k
  · rename_i xs i
    unfold Rep at ry
    obtain ⟨a, vs, h1, h2, h3⟩ := tup_of (xs := xs) rx rfl
    cases hj : atI xs i with
    | none =>
      rw [hj] at k
      exact k.elim
    | some d =>
      rw [hj] at k
      obtain ⟨v, q1, q2⟩ := RepL.atI h3 hj
      exact .inr (.inl ⟨a, vs, i, v, h1, ry, SqT.up s.sub h2, q1, k.val s q2⟩)
  · rename_i z i
    unfold Rep at rx ry
    by_cases hl : lenOk z.length = true
    · rw [if_pos hl] at k
      cases hj : atI z.cps.toList i with
      | none =>
        rw [hj] at k
        exact k.elim
      | some c =>
        rw [hj] at k
        exact .inr (.inr ⟨z, i, c, rx, ry, of_decide_eq_true hl, hj, k.val s Rep.str⟩)
    · rw [if_neg hl] at k
      exact k.elim
  · rename_i x' i _ _
    unfold Rep at ry
    cases hx : lstOf ah d with
    | none =>
      rw [hx] at k
      exact k.elim
    | some xs =>
      rw [hx] at k
      obtain ⟨a, vs, h1, h2, h3⟩ := lst_of s rx hx
      cases hj : atI xs i with
      | none =>
        simp only [hj] at k
        exact k.elim
      | some d =>
        simp only [hj] at k
        obtain ⟨v, q1, q2⟩ := RepL.atI h3 hj
        exact .inl ⟨a, vs, i, v, h1, ry, h2, q1, k.val s q2⟩
  · exact k.elim
theorem de_ix {a b : Expr} {ma mb : M D} (ha : DE X W env a ma) (hb : DE X W env b mb) (hs : PlainIx b := by exact fun _ _ => rfl) : DE X W env (.Subscript a b pos) (do let x ← ma; let y ← mb; ixM x y) := PE.from (pe_ix ix_seq ha hb hs) (tOp_from ixM_ok)
/-! ### slices -/
abbrev DO (X : Cx) (W : WX) (env : Env) (e : Option Expr) (mc : M (Option Int)) : Prop := PO X e (fun σ H Q => TC X.K X.mg W (fun _ _ a b => a = b) env mc σ H Q)
theorem do_none : DO X W env none (pure none) := ⟨fun pins s σ H Q I ⟨fr, F, m, ah, S, er, k⟩ => po_none.run pins s σ H Q I (k F m _ H Ext.refl S rfl)⟩
def asI : D → M (Option Int)
  | .int i => pure (some i)
  | _ => stuck
theorem do_some {e : Expr} {me : M D} (he : DE X W env e me) : DO X W env (some e) (do let x ← me; asI x) :=
  ⟨fun pins s σ H Q I ⟨fr, F, m, ah, S, er, k⟩ => (po_some he).run pins s σ H Q I (TK.step S er k fun F1 m1 ah1 d v H1 e1 s1 er1 r1 k1 => by
    cases d <;> try exact (TK.stuck_of k1).elim
    unfold Rep at r1
    exact ⟨_, r1, k1 F1 m1 _ H1 Ext.refl s1 rfl⟩)⟩
def cutD {α : Type} (xs : List α) (lo hi : Option Int) : List α := (xs.drop (HT.sIx xs.length 0 lo)).take (HT.sIx xs.length xs.length hi - HT.sIx xs.length 0 lo)
def sliceM (x : D) (lo hi : Option Int) : M D := fun h => match x with
  | .tup xs => .ok (.tup (cutD xs lo hi)) h
  | .str z => if lenOk z.length = true then .ok (.str (cutS z lo hi)) h else .stuck
  | x => match lstOf h x with
    | some xs => .ok (.lst (cutD xs lo hi)) h
    | none => .stuck
theorem cutD_whole {α : Type} {xs : List α} {lo hi : Option Int} (h : HT.sIx xs.length 0 lo = 0 ∧ HT.sIx xs.length xs.length hi = xs.length) : cutD xs lo hi = xs := by
  unfold cutD
  rw [h.1, h.2]
  simp
theorem RepL.cut {K : Fg} {F : Hp} {m : List Addr} {ds : List D} {vs : List V} {lo hi : Option Int} (r : RepL K F m ds vs) : RepL K F m (cutD ds lo hi) (cutV vs lo hi) := by
  unfold cutD cutV
  rw [RepL.length r]
  exact RepL.take _ (RepL.drop _ r)
def rSlAll (K : Fg) : V → Option Int → Option Int → Hp → VK → Prop := fun x lo hi H Q => rSlA K x lo hi H Q ∨ rSlL K x lo hi H Q ∨ rSlS x lo hi H Q
theorem slice_ok {fr : Fm} {W : WX} {σ : St} {F H : Hp} {m : List Addr} {ah : AH} {d : D} {v : V} {lo hi : Option Int} {Q : VK} (S : Sim X.K X.mg fr F m ah H) (r : Rep X.K F m d v) (k : TK X.K X.mg fr W (Rep X.K) σ F m (sliceM d lo hi ah) Q) : rSlAll X.K v lo hi H Q := by
  unfold sliceM at k
  split at k
  · rename_i xs
    obtain ⟨a, vs, h1, h2, h3⟩ := tup_of (xs := xs) r rfl
    refine .inl ⟨a, vs, h1, SqT.up S.sub h2, fun z => ?_, fun _ p hp => TK.newT k S (RepL.cut h3) hp⟩
    rw [RepL.length h3] at z
    rw [cutD_whole z] at k
    exact k.val S (Rep.tup h2 h3)
  · rename_i z
    unfold Rep at r
    by_cases hl : lenOk z.length = true
    · rw [if_pos hl] at k
      exact .inr (.inr ⟨z, r, of_decide_eq_true hl, k.val S Rep.str⟩)
    · rw [if_neg hl] at k
      exact k.elim
  · cases hx : lstOf ah d with
    | none =>
      rw [hx] at k
      exact k.elim
    | some xs =>
      rw [hx] at k
      obtain ⟨a, vs, h1, h2, h3⟩ := lst_of S r hx
      exact .inr (.inl ⟨a, vs, h1, h2, fun p hp => TK.newL k S (RepL.cut h3) hp⟩)
theorem sl_all : SlR X (rSlAll X.K) := sl_tupA.or (sl_list.or sl_str)
theorem de_slice {a : Expr} {lo hi : Option Expr} {ma : M D} {ml mh : M (Option Int)} {p2 : Pos} (ha : DE X W env a ma) (hl : DO X W env lo ml) (hh : DO X W env hi mh) :
    DE X W env (.Subscript a (.Slice lo hi none p2) pos) (do let x ← ma; let l ← ml; let u ← mh; sliceM x l u) :=
  PE.from (pe_slice sl_all ha hl hh) fun σ H Q ⟨fr, F, m, ah, s, er, k⟩ => TK.step s er k fun F1 m1 ah1 d v H1 e1 s1 er1 r1 k1 => TK.step s1 er1 k1 fun F2 m2 ah2 d2 v2 H2 e2 s2 er2 r2 k2 => TK.step s2 er2 k2 fun F3 m3 ah3 d3 v3 H3 e3 s3 er3 r3 k3 => by
    have r2 : d2 = v2 := r2
    have r3 : d3 = v3 := r3
    subst r2 r3
    exact slice_ok s3 (Rep.ext (e2.trans e3) _ _ r1) k3
/-! ### calls of built-in things -/
/-- a rule of a call, read of data -/
def ClD (X : Cx) (r : List V → Hp → VK → Prop) (f : List D → M D) : Prop := ∀ (fr : Fm) (W : WX) (σ : St) (F : Hp) (m : List Addr) (ah : AH) (H : Hp) (ds : List D) (vs : List V) (Q : VK), Sim X.K X.mg fr F m ah H → RepL X.K F m ds vs →
  TK X.K X.mg fr W (Rep X.K) σ F m (f ds ah) Q → r vs H Q
theorem tCB_from {r : List V → Hp → VK → Prop} {f : List D → M D} {ms : M (List D)} (hr : ClD X r f) : ∀ σ H Q, TC X.K X.mg W (Rep X.K) env (do let xs ← ms; f xs) σ H Q → tCB r (TC X.K X.mg W (RepL X.K) env ms) σ H Q :=
  fun σ H Q ⟨fr, F, m, ah, s, er, k⟩ => TK.step s er k fun F1 m1 ah1 d v H1 e1 s1 er1 r1 k1 => hr fr W σ F1 m1 ah1 H1 d v Q s1 r1 k1
theorem de_callB {x : Str} {id : String} {e : Expr} {es : List Expr} {r : List V → Hp → VK → Prop} {f : List D → M D} {ms : M (List D)} {p : Pos} (hc : CallR X (.builtin id) r) (hr : ClD X r f) (hm : X.mg x = none) (hv : bootBuiltins x = some (.builtin id)) (ha : DA X W env (e :: es) ms)
    (hg : Gl X x := by rfl) (hn : x ≠ "__name__" := by decide) (hdb : (x == ("__debug__" : Str)) = false := by decide) (he : starEach (e :: es) X.env = (false, eval e X.env) :: starEach es X.env := by rfl) (hpl : (backTo pos (starEach es X.env)).any (·.1) = false := by rfl) :
    DE X W env (.Call (.Name x p) (e :: es) [] pos) (do let xs ← ms; f xs) := PE.from (pe_callB hc hg hm hv ha hn hdb he hpl) (tCB_from hr)
theorem de_callT {x : Str} {T : String} {e : Expr} {es : List Expr} {r : List V → Hp → VK → Prop} {f : List D → M D} {ms : M (List D)} {p : Pos} (hc : CallR X (.type T) r) (hr : ClD X r f) (hm : X.mg x = none) (hv : bootBuiltins x = some (.type T)) (ha : DA X W env (e :: es) ms)
    (hg : Gl X x := by rfl) (hn : x ≠ "__name__" := by decide) (hdb : (x == ("__debug__" : Str)) = false := by decide) (he : starEach (e :: es) X.env = (false, eval e X.env) :: starEach es X.env := by rfl) (hpl : (backTo pos (starEach es X.env)).any (·.1) = false := by rfl) :
    DE X W env (.Call (.Name x p) (e :: es) [] pos) (do let xs ← ms; f xs) := PE.from (pe_callTy hc hg hm hv ha hn hdb he hpl) (tCB_from hr)
theorem RepL.one {K : Fg} {F : Hp} {m : List Addr} {d : D} {vs : List V} (r : RepL K F m [d] vs) : ∃ v, vs = [v] ∧ Rep K F m d v := by
  unfold RepL at r
  obtain ⟨v, u, h1, h2, h3⟩ := r
  unfold RepL at h3
  rw [h3] at h1
  exact ⟨v, h1, h2⟩
theorem RepL.two {K : Fg} {F : Hp} {m : List Addr} {d e : D} {vs : List V} (r : RepL K F m [d, e] vs) : ∃ v w, vs = [v, w] ∧ Rep K F m d v ∧ Rep K F m e w := by
  unfold RepL at r
  obtain ⟨v, u, h1, h2, h3⟩ := r
  obtain ⟨w, h4, h5⟩ := RepL.one h3
  rw [h4] at h1
  exact ⟨v, w, h1, h2, h5⟩
/-- one argument, two -/
def ap1 (f : D → M D) : List D → M D
  | [d] => f d
  | _ => stuck
def ap2 (f : D → D → M D) : List D → M D
  | [d, e] => f d e
  | _ => stuck
theorem ap1_ok {r : List V → Hp → VK → Prop} {f : D → M D} (h : ∀ (fr : Fm) (W : WX) (σ : St) (F : Hp) (m : List Addr) (ah : AH) (H : Hp) (d : D) (v : V) (Q : VK), Sim X.K X.mg fr F m ah H → Rep X.K F m d v →
    TK X.K X.mg fr W (Rep X.K) σ F m (f d ah) Q → r [v] H Q) : ClD X r (ap1 f) := fun fr W σ F m ah H ds vs Q s r k => by
  match ds, r, k with
  | [], _, k => exact k.elim
  | [d], r, k =>
    obtain ⟨v, rfl, r1⟩ := RepL.one r
    exact h fr W σ F m ah H d v Q s r1 k
  | _ :: _ :: _, _, k => exact k.elim
theorem ap2_ok {r : List V → Hp → VK → Prop} {f : D → D → M D} (h : ∀ (fr : Fm) (W : WX) (σ : St) (F : Hp) (m : List Addr) (ah : AH) (H : Hp) (d e : D) (v w : V) (Q : VK), Sim X.K X.mg fr F m ah H → Rep X.K F m d v → Rep X.K F m e w →
    TK X.K X.mg fr W (Rep X.K) σ F m (f d e ah) Q → r [v, w] H Q) : ClD X r (ap2 f) := fun fr W σ F m ah H ds vs Q s r k => by
  match ds, r, k with
  | [], _, k => exact k.elim
  | [_], _, k => exact k.elim
  | [d, e], r, k =>
    obtain ⟨v, w, rfl, r1, r2⟩ := RepL.two r
    exact h fr W σ F m ah H d e v w Q s r1 r2 k
  | _ :: _ :: _ :: _, _, k => exact k.elim
/-! len -/
def lenM (d : D) : M D := fun h => match d with
  | .str x => if lenOk x.length = true then .ok (.int x.length) h else .stuck
  | .tup xs => .ok (.int xs.length) h
  | d => match lstOf h d with
    | some xs => .ok (.int xs.length) h
    | none => .stuck
theorem len_ok : ClD X (fun xs H Q => ∃ x n, xs = [x] ∧ LenV X.K x H n ∧ Q (.int n) H) (ap1 lenM) := ap1_ok fun fr W σ F m ah H d v Q s r k => by
  unfold lenM at k
  split at k
  · rename_i x
    unfold Rep at r
    subst r
    by_cases hl : lenOk x.length = true
    · rw [if_pos hl] at k
      exact ⟨_, _, rfl, ⟨of_decide_eq_true hl, rfl⟩, k.val s Rep.int⟩
    · rw [if_neg hl] at k
      exact k.elim
  · rename_i xs
    obtain ⟨a, vs, h1, h2, h3⟩ := tup_of (xs := xs) r rfl
    subst h1
    exact ⟨_, _, rfl, .inr ⟨vs, SqT.up s.sub h2, rfl⟩, by rw [RepL.length h3]; exact k.val s Rep.int⟩
  · cases hx : lstOf ah d with
    | none =>
      rw [hx] at k
      exact k.elim
    | some xs =>
      rw [hx] at k
      obtain ⟨a, vs, h1, h2, h3⟩ := lst_of s r hx
      subst h1
      exact ⟨_, _, rfl, .inl ⟨vs, h2, rfl⟩, by rw [RepL.length h3]; exact k.val s Rep.int⟩
theorem de_len {e : Expr} {me : M D} {p : Pos} (hm : X.mg "len" = none) (ha : DE X W env e me) (hg : Gl X "len" := by rfl) (he : starEach [e] X.env = [(false, eval e X.env)] := by rfl) (hpl : (backTo pos (starEach [] X.env)).any (·.1) = false := by rfl) :
    DE X W env (.Call (.Name "len" p) [e] [] pos) (do let x ← me; lenM x) := by
  have h := de_callB (pos := pos) (p := p) call_len (len_ok (X := X)) hm PySem.boot_len (da_one ha he) hg (by decide) (by decide) he hpl
  rw [bind_assoc] at h
  exact h
/-! tuple(x), list(x) -/
def tupleM (d : D) : M D := fun h => match d with
  | .tup xs => .ok (.tup xs) h
  | d => match lstOf h d with
    | some xs => .ok (.tup xs) h
    | none => .stuck
/-- list(x), never written -/
def listM (d : D) : M D := fun h => match d with
  | .tup xs => .ok (.lst xs) h
  | d => match lstOf h d with
    | some xs => .ok (.lst xs) h
    | none => .stuck
/-! sum, any, all of lists -/
theorem de_t1 {x : Str} {id : String} {r : List V → Hp → VK → Prop} {f : D → M D} {e : Expr} {me : M D} {p : Pos} (hc : CallR X (.type id) r) (hr : ClD X r (ap1 f)) (hm : X.mg x = none) (hv : bootBuiltins x = some (.type id)) (ha : DE X W env e me) (hg : Gl X x := by rfl)
    (hn : x ≠ "__name__" := by decide) (hdb : (x == ("__debug__" : Str)) = false := by decide) (he : starEach [e] X.env = [(false, eval e X.env)] := by rfl) (hpl : (backTo pos (starEach [] X.env)).any (·.1) = false := by rfl) :
    DE X W env (.Call (.Name x p) [e] [] pos) (do let x ← me; f x) := by
  have h := de_callT (pos := pos) (p := p) hc hr hm hv (da_one ha he) hg hn hdb he hpl
  rw [bind_assoc] at h
  exact h
theorem de_b2 {x : Str} {id : String} {r : List V → Hp → VK → Prop} {f : D → D → M D} {a b : Expr} {ma mb : M D} {p : Pos} (hc : CallR X (.builtin id) r) (hr : ClD X r (ap2 f)) (hm : X.mg x = none) (hv : bootBuiltins x = some (.builtin id)) (ha : DE X W env a ma) (hb : DE X W env b mb) (hg : Gl X x := by rfl)
    (hn : x ≠ "__name__" := by decide) (hdb : (x == ("__debug__" : Str)) = false := by decide) (he : starEach [a, b] X.env = (false, eval a X.env) :: starEach [b] X.env := by rfl) (he2 : starEach [b] X.env = (false, eval b X.env) :: starEach [] X.env := by rfl) (hpl : (backTo pos (starEach [b] X.env)).any (·.1) = false := by rfl) :
    DE X W env (.Call (.Name x p) [a, b] [] pos) (do let x ← ma; let y ← mb; f x y) := by
  have h := de_callB (pos := pos) (p := p) hc hr hm hv (da_two ha hb he he2) hg hn hdb he hpl
  rw [bind_assoc] at h
  have e : (fun x => (do let y ← mb; pure [x, y]) >>= ap2 f) = fun x => (do let y ← mb; f x y) := by
    funext x
    rw [bind_assoc]
    rfl
  rw [e] at h
  exact h
def maxM : D → D → M D := int2 fun i j => .int (if j > i then j else i)
def minM : D → D → M D := int2 fun i j => .int (if j < i then j else i)
theorem max2_ok : ClD X (fun xs H Q => ∃ i j, xs = [.int i, .int j] ∧ Q (.int (if j > i then j else i)) H) (ap2 maxM) := ap2_ok fun fr W σ F m ah H d e v w Q s r r2 k => by
  cases d <;> try exact (TK.stuck_of k).elim
  cases e <;> try exact (TK.stuck_of k).elim
  unfold Rep at r r2
  subst r r2
  exact ⟨_, _, rfl, TK.val k s Rep.int⟩
end
end Lw
/-! SimE: what is walked, comprehensions, lists that are written, calls, defs. -/
namespace Lw
open PySem L2
/-! ### frames within frames -/
section
variable {K : Fg} {mg : Str → Option Value} {fr : Fm} {F F' H H' : Hp} {m m' : List Addr} {ah ah' : AH}
theorem Sim.re (S : Sim K mg fr F m ah H) : Sim K mg ⟨H, F, m⟩ F m ah H := ⟨S.sub, S.len, S.nod, S.cells, fun _ _ h _ => h, fun a h n => absurd h n, fun _ _ h => h, S.there, fun _ _ h => .inl h⟩
theorem Sim.back (S : Sim K mg fr F m ah H) (T : Sim K mg ⟨H, F, m⟩ F' m' ah' H') : Sim K mg fr F' m' ah' H' := by
  have ym : ∀ a, a ∈ m → a ∉ fr.m0 → fr.H0 a = none := S.young
  refine ⟨T.sub, T.len, T.nod, T.cells, fun a o h n => ?_, fun a h n => ?_, fun i a h => T.pre i a (S.pre i a h), T.there, fun a o h => ?_⟩
  · refine T.frame a o (S.frame a o h n) fun z => ?_
    rw [ym a z n] at h
    cases h
  · by_cases z : a ∈ m
    · exact ym a z n
    · exact S.fresh0 (T.young a h z)
  · rcases T.old a o h with z | z | z
    · exact S.old a o z
    · exact .inr (.inl (S.fresh0 z))
    · by_cases y : a ∈ fr.m0
      · exact .inr (.inr y)
      · exact .inr (.inl (ym a z y))
/-- an object that is nobody's is written -/
theorem Sim.other {p : Addr} {o : HO} (S : Sim K mg fr F m ah H) (hF : F p = none) (hm : p ∉ m) (h0 : fr.H0 p = none) : Sim K mg fr F m ah (upd H p o) := by
  have nf : ∀ {a : Addr} {u : HO}, F a = some u → a ≠ p := fun h z => by rw [z, hF] at h; cases h
  have nm : ∀ {a : Addr}, a ∈ m → a ≠ p := fun h z => hm (by rw [← z]; exact h)
  refine ⟨fun a u h => by rw [upd_ne (nf h)]; exact S.sub a u h, S.len, S.nod, fun i c h => ?_, fun a u h n => ?_, S.young, S.pre, fun a h => by rw [upd_ne (nm h)]; exact S.there a h, S.old⟩
  · obtain ⟨a, q, ok⟩ := S.cells i c h
    exact ⟨a, q, ok.ext Ext.refl (fun z => ok.free z) fun _ => upd_ne (nm (List.mem_of_getElem? q))⟩
  · have ne : a ≠ p := fun z => by rw [z, h0] at h; cases h
    rw [upd_ne ne]
    exact S.frame a u h n
/-- it is nobody's, and never written from now on -/
theorem Sim.seal {p : Addr} {o : HO} (S : Sim K mg fr F m ah H) (hF : F p = none) (hm : p ∉ m) (h0 : fr.H0 p = none) (hp : H p = some o) : Sim K mg fr (upd F p o) m ah H ∧ Ext F m (upd F p o) m := by
  have e : Ext F m (upd F p o) m := ⟨fun a u h => by rw [upd_ne (ne_of_none h hF)]; exact h, fun _ _ h => h⟩
  have nm : ∀ {a : Addr}, a ∈ m → a ≠ p := fun h z => hm (by rw [← z]; exact h)
  refine ⟨⟨fun a u h => ?_, S.len, S.nod, fun i c h => ?_, S.frame, S.young, S.pre, S.there, fun a u h => ?_⟩, e⟩
  · by_cases z : a = p
    · rw [z, upd_same] at h
      cases h
      rw [z]
      exact hp
    · rw [upd_ne z] at h
      exact S.sub a u h
  · obtain ⟨a, q, ok⟩ := S.cells i c h
    exact ⟨a, q, ok.ext e (fun z => by rw [upd_ne (nm (List.mem_of_getElem? q))]; exact ok.free z) fun _ => rfl⟩
  · by_cases z : a = p
    · exact .inr (.inl (by rw [z]; exact h0))
    · rw [upd_ne z] at h
      exact S.old a u h
/-- what stood and was nobody's stands, and is nobody's -/
theorem Sim.kept (T : Sim K mg ⟨H, F, m⟩ F' m' ah' H') {p : Addr} {o : HO} (hp : H p = some o) (hF : F p = none) (hm : p ∉ m) : H' p = some o ∧ F' p = none ∧ p ∉ m' := by
  refine ⟨T.frame p o hp hm, ?_, fun z => ?_⟩
  · cases q : F' p with
    | none => rfl
    | some u =>
      rcases T.old p u q with z | z | z
      · have z : F p = some u := z
        rw [hF] at z
        cases z
      · have z : H p = none := z
        rw [hp] at z
        cases z
      · exact absurd z hm
  · have y : H p = none := T.young p z hm
    rw [hp] at y
    cases y
end
/-! ### what is walked -/
section
variable {X : Cx} {W : WX} {env : Env} {pos : Pos} {tg : Expr}
def iSeq (K : Fg) (tl : TE) : TI := fun σ H R => tl σ H fun x H1 => ∃ a, x = .ref a ∧ ((∃ xs, SqL K H1 a xs ∧ R (Itl K a) H1) ∨ (∃ xs, SqT K H1 a xs ∧ R (Itt K a) H1))
theorem pi_seq {l : Expr} {tl : TE} (hl : PE X l tl) : PI X tg l (iSeq X.K tl) := by
  refine ⟨fun pins s σ H R I h => ?_⟩
  refine thn (hl.run pins s σ H _ I h) fun v s1 ⟨x, H1, I1, r1, q1⟩ => ?_
  obtain ⟨a, e, q⟩ := q1
  subst e
  cases r1
  rcases q with ⟨xs, hq, q⟩ | ⟨xs, hq, q⟩
  · obtain ⟨its, rv, p, hz⟩ := I1.list hq
    refine wpAny_pyIter_list p.isList ?_
    refine ⟨s1.heap.objs.size, [s1.heap.objs.size], _, _, H1, rfl, I1.kept (t' := s1.toks) fun b o e => Heap.get?_push_of_some _ e, turn_list a _, ⟨_, Heap.get?_push_size _ rfl, rfl, rfl⟩, fun b hb => ?_, q⟩
    have e : b = s1.heap.objs.size := by simpa using hb
    subst e
    exact I1.fpOk (Nat.le_refl _) (I1.hok.fresh (Nat.le_refl _))
  · obtain ⟨its, rv, p, hz⟩ := I1.tuple hq
    refine wpAny_pyIter_tuple (show s1.heap.IsTuple a its.toArray from p) ?_
    refine ⟨s1.heap.objs.size, [s1.heap.objs.size], _, _, H1, rfl, I1.kept (t' := s1.toks) fun b o e => Heap.get?_push_of_some _ e, turn_tuple a _, ⟨_, Heap.get?_push_size _ rfl, rfl, rfl⟩, fun b hb => ?_, q⟩
    have e : b = s1.heap.objs.size := by simpa using hb
    subst e
    exact I1.fpOk (Nat.le_refl _) (I1.hok.fresh (Nat.le_refl _))
def itemsM : D → M (List D)
  | .tup xs => pure xs
  | .lst xs => pure xs
  | _ => stuck
theorem RepL.none_of {K : Fg} {F : Hp} {m : List Addr} {ds : List D} {vs : List V} {i : Nat} (r : RepL K F m ds vs) (h : ds.length ≤ i) : vs.length ≤ i := by
  rw [RepL.length r]
  exact h
theorem yl_tup {K : Fg} {mg : Str → Option Value} {F : Hp} {m : List Addr} {a : Addr} {ds : List D} {vs : List V} (h : SqT K F a vs) (r : RepL K F m ds vs) : Yl K mg F m ds (Itt K a) where
  go := fun i fr F1 m1 ah1 H1 e s hi => by
    obtain ⟨d, hd⟩ : ∃ d, ds[i]? = some d := ⟨_, List.getElem?_eq_getElem hi⟩
    obtain ⟨v, hv, _⟩ := RepL.get r hd
    exact ⟨vs, v, SqT.up s.sub (SqT.up e.sub h), hv⟩
  stop := fun fr F1 m1 ah1 H1 e s => ⟨vs, SqT.up s.sub (SqT.up e.sub h), RepL.none_of r (Nat.le_refl _)⟩
  yld := fun i fr F1 m1 ah1 H1 x H2 e s hi y => by
    obtain ⟨e2, y⟩ := y
    subst e2
    obtain ⟨d, hd⟩ : ∃ d, ds[i]? = some d := ⟨_, List.getElem?_eq_getElem hi⟩
    obtain ⟨v, hv, rv⟩ := RepL.get r hd
    have q := y vs (SqT.up s.sub (SqT.up e.sub h))
    rw [hv] at q
    cases q
    exact ⟨F1, d, hd, Ext.refl, s, Rep.ext e _ _ rv⟩
theorem yl_lst {K : Fg} {mg : Str → Option Value} {F : Hp} {m : List Addr} {a : Addr} {ds : List D} {vs : List V} (h : SqL K F a vs) (r : RepL K F m ds vs) : Yl K mg F m ds (Itl K a) where
  go := fun i fr F1 m1 ah1 H1 e s hi => by
    obtain ⟨d, hd⟩ : ∃ d, ds[i]? = some d := ⟨_, List.getElem?_eq_getElem hi⟩
    obtain ⟨v, hv, _⟩ := RepL.get r hd
    exact ⟨vs, v, SqL.up s.sub (SqL.up e.sub h), hv⟩
  stop := fun fr F1 m1 ah1 H1 e s => ⟨vs, SqL.up s.sub (SqL.up e.sub h), RepL.none_of r (Nat.le_refl _)⟩
  yld := fun i fr F1 m1 ah1 H1 x H2 e s hi y => by
    obtain ⟨e2, y⟩ := y
    subst e2
    obtain ⟨d, hd⟩ : ∃ d, ds[i]? = some d := ⟨_, List.getElem?_eq_getElem hi⟩
    obtain ⟨v, hv, rv⟩ := RepL.get r hd
    have q := y vs (SqL.up s.sub (SqL.up e.sub h))
    rw [hv] at q
    cases q
    exact ⟨F1, d, hd, Ext.refl, s, Rep.ext e _ _ rv⟩
theorem di_seq {e : Expr} {me : M D} (he : DE X W env e me) : DI X W env tg e (do let x ← me; itemsM x) :=
  PI.from (pi_seq he) fun σ H Q ⟨fr, F, m, ah, s, er, k⟩ => TK.step s er k fun F1 m1 ah1 d v H1 e1 s1 er1 r1 k1 => by
    cases d <;> try exact (TK.stuck_of k1).elim
    · rename_i xs
      obtain ⟨a, vs, h1, h2, h3⟩ := tup_of (xs := xs) r1 rfl
      exact ⟨a, h1, .inr ⟨vs, SqT.up s1.sub h2, k1 F1 m1 _ H1 Ext.refl s1 (yl_tup h2 h3)⟩⟩
    · rename_i xs
      unfold Rep at r1
      obtain ⟨a, vs, h1, h2, h3⟩ := r1
      exact ⟨a, h1, .inl ⟨vs, SqL.up s1.sub h2, k1 F1 m1 _ H1 Ext.refl s1 (yl_lst h2 h3)⟩⟩
/-- ints in a row -/
def rangeD (lo : Int) (n : Nat) : List D := (List.range n).map fun k => D.int (lo + (k : Nat))
theorem yl_range {K : Fg} {mg : Str → Option Value} {F : Hp} {m : List Addr} (lo : Int) (n : Nat) : Yl K mg F m (rangeD lo n) (Itr lo n) where
  go := fun i fr F1 m1 ah1 H1 e s hi => by
    unfold rangeD at hi
    rw [List.length_map, List.length_range] at hi
    exact hi
  stop := fun fr F1 m1 ah1 H1 e s => by
    unfold rangeD
    rw [List.length_map, List.length_range]
    exact Nat.le_refl _
  yld := fun i fr F1 m1 ah1 H1 x H2 e s hi y => by
    obtain ⟨e2, y⟩ := y
    subst e2 y
    unfold rangeD at hi
    rw [List.length_map, List.length_range] at hi
    exact ⟨F1, .int (lo + (i : Nat)), by unfold rangeD; rw [List.getElem?_map, List.getElem?_range hi]; rfl, Ext.refl, s, Rep.int⟩
def rng1M : List D → M (List D)
  | [.int j] => if -(2 ^ 62) ≤ j ∧ j < 2 ^ 62 then pure (rangeD 0 j.toNat) else stuck
  | _ => stuck
theorem di_range1 {e : Expr} {me : M D} {p : Pos} (hm : X.mg "range" = none) (he : DE X W env e me) (hg : Gl X "range" := by rfl) (hs : starEach [e] X.env = [(false, eval e X.env)] := by rfl) :
    DI X W env tg (.Call (.Name "range" p) [e] [] pos) (do let x ← me; rng1M [x]) :=
  PI.from (pi_range1 (pos := pos) (p := p) hg hm (da_one he hs) hs) fun σ H Q ⟨fr, F, m, ah, s, er, k⟩ => by
    have k' : TK X.K X.mg fr W (Yl X.K X.mg) σ F m (((do let x ← me; pure [x]) >>= rng1M) ah) (fun J H' => Q J H') := by
      rw [bind_assoc]
      exact k
    refine TK.step (R := RepL X.K) s er k' fun F1 m1 ah1 d v H1 e1 s1 er1 r1 k1 => ?_
    unfold rng1M at k1
    split at k1
    · rename_i j
      by_cases h : -(2 ^ 62) ≤ j ∧ j < 2 ^ 62
      · rw [if_pos h] at k1
        obtain ⟨v, rfl, r⟩ := RepL.one r1
        unfold Rep at r
        exact ⟨j, by rw [r], h.1, h.2, k1 F1 m1 _ H1 Ext.refl s1 (yl_range 0 j.toNat)⟩
      · rw [if_neg h] at k1
        exact (TK.stuck_of k1).elim
    · exact (TK.stuck_of k1).elim
/-- two side by side -/
def zipD (xs ys : List D) : List D := List.zipWith (fun a b => D.tup [a, b]) xs ys
def zipM : List D → M (List D)
  | [.tup xs, .tup ys] => pure (zipD xs ys)
  | [.lst xs, .lst ys] => pure (zipD xs ys)
  | _ => stuck
end
/-! ### list comprehensions -/
def compM : List D → (D → M (List D)) → M (List D)
  | [], _ => pure []
  | x :: r, f => do let ys ← f x; let zs ← compM r f; pure (ys ++ zs)
/-- a computation that may not raise -/
def nores {α : Type} : Res α → Res α
  | .ok a h => .ok a h
  | _ => .stuck
def noexM {α : Type} (x : M α) : M α := fun h => nores (x h)
def lcM (xs : List D) (f : D → M (List D)) : M D := if lenOk xs.length = true then (do let ys ← noexM (compM xs f); pure (.lst ys)) else stuck
def W0 : WX := fun _ _ _ _ => False
def wipeE (env : Env) : List Nat → Env
  | [] => env
  | v :: vs => (wipeE env vs).set v none
theorem EnvRep.wipe {K : Fg} {F : Hp} {m : List Addr} {env : Env} {σ : St} (h : EnvRep K F m env σ) : ∀ vs : List Nat, EnvRep K F m (wipeE env vs) (wipe σ vs)
  | [] => h
  | v :: vs => by
    have ih := EnvRep.wipe h vs
    unfold wipeE L2.wipe
    refine ⟨by rw [List.length_set, List.length_set]; exact ih.1, fun j d q => ?_⟩
    by_cases hj : v = j
    · subst hj
      by_cases hl : v < (wipeE env vs).length
      · rw [List.getElem?_set_self hl] at q
        cases q
      · rw [List.getElem?_eq_none (by simpa using hl)] at q
        cases q
    · rw [List.getElem?_set_ne hj] at q
      obtain ⟨u, h1, h2⟩ := ih.2 j d q
      exact ⟨u, by rw [List.getElem?_set_ne hj]; exact h1, h2⟩
section
variable {X : Cx} {W : WX} {env : Env} {pos : Pos}
/-- a part of what may not raise, behind a frame of its own -/
theorem TK.inner {K : Fg} {mg : Str → Option Value} {fr : Fm} {W : WX} {σ : St} {F H : Hp} {m : List Addr} {ah : AH} {α β γ δ : Type} {R : Hp → List Addr → α → β → Prop} {S : Hp → List Addr → γ → δ → Prop} {envB : Env} {σB : St} {ma : M α} {k : α → M γ} {Q : δ → Hp → Prop} {P : β → Hp → Prop}
    (s : Sim K mg fr F m ah H) (er : EnvRep K F m envB σB) (h : TK K mg fr W S σ F m (nores ((ma >>= k) ah)) Q)
    (hP : ∀ F1 m1 ah1 d v H1, Ext F m F1 m1 → Sim K mg ⟨H, F, m⟩ F1 m1 ah1 H1 → EnvRep K F1 m1 envB σB → R F1 m1 d v → TK K mg fr W S σ F1 m1 (nores (k d ah1)) Q → P v H1) : TC K mg W0 R envB ma σB H P := by
  refine ⟨⟨H, F, m⟩, F, m, ah, s.re, er, ?_⟩
  rw [bind_def] at h
  cases hr : ma ah with
  | ok d a =>
    rw [hr] at h
    exact fun F' m' v H' e s' r => hP F' m' a d v H' e s' (er.ext e) r (TK.ext e h)
  | exc x a =>
    rw [hr] at h
    exact h.elim
  | stuck =>
    rw [hr] at h
    exact h.elim
abbrev lcD (xs : List D) {π : Type} (unp : D → Option π) (mt : π → M Bool) (me : π → M D) : M D := lcM xs (fun x => do let p ← liftO (unp x); let t ← mt p; if t = true then (do let y ← me p; pure [y]) else pure [])
theorem lc_from {own : List (Str × Nat)} {π : Type} {sl : List Nat} {mi : M (List D)} {unp : D → Option π} {sets : π → Env → Env} {mt : π → M Bool} {me : π → M D} (hsl : ∀ i ∈ sl, i ∈ own.map (·.2)) :
    ∀ σ H Q, TC X.K X.mg W (Rep X.K) env (do let xs ← mi; lcD xs unp mt me) σ H Q → tLc (TIM X.K X.mg W env mi) (gD X.K X.mg sl unp sets) (fun σ H Q => ∃ p, TC X.K X.mg W0 RB (sets p (wipeE env (own.map (·.2)))) (mt p) σ H Q)
      (fun σ H Q => ∃ p, TC X.K X.mg W0 (Rep X.K) (sets p (wipeE env (own.map (·.2)))) (me p) σ H Q) (own.map (·.2)) σ H Q := by
  intro σ H Q ⟨fr, F, m, ah, s, er, q⟩
  refine ⟨fr, F, m, ah, s, er, ?_⟩
  rw [bind_def] at q
  cases hi' : mi ah with
  | stuck =>
    rw [hi'] at q
    exact q
  | exc x a =>
    rw [hi'] at q
    exact q
  | ok xs a =>
    rw [hi'] at q
    intro F1 m1 J H1 e1 s1 y L hL
    have q1 : TK X.K X.mg fr W (Rep X.K) σ F1 m1 (lcM xs (fun x => do let p ← liftO (unp x); let t ← mt p; if t = true then (do let y ← me p; pure [y]) else pure []) a) Q := TK.ext e1 q
    have er1 := er.ext e1
    clear q e1 er s
    by_cases hl : lenOk xs.length = true
    case neg =>
      unfold lcM at q1
      rw [if_neg hl] at q1
      exact q1.elim
    have hlen : xs.length ≤ sizeLine := of_decide_eq_true hl
    have fL : F1 L = none := s1.freeF hL
    have mL : L ∉ m1 := fun z => by
      obtain ⟨u, hu⟩ := s1.there L z
      rw [hL] at hu
      cases hu
    have hL0 := s1.fresh0 hL
    generalize hf : (fun x : D => do let p ← liftO (unp x); let t ← mt p; if t = true then (do let y ← me p; pure [y]) else pure [] : D → M (List D)) = f at q1
    have q2 : TK X.K X.mg fr W (Rep X.K) σ F1 m1 (nores ((compM xs f >>= fun ys => pure (D.lst ([] ++ ys))) a)) Q := by
      have z : TK X.K X.mg fr W (Rep X.K) σ F1 m1 ((noexM (compM xs f) >>= fun ys => pure (D.lst ys)) a) Q := by
        have z := q1
        unfold lcM at z
        rw [if_pos hl] at z
        exact z
      rw [bind_def] at z ⊢
      unfold noexM at z
      cases hcm : compM xs f a with
      | ok ys b =>
        rw [hcm] at z
        exact z
      | exc _ _ =>
        rw [hcm] at z
        exact z
      | stuck =>
        rw [hcm] at z
        exact z
    refine ⟨fun i n H => n = xs.length - i ∧ i ≤ xs.length ∧ ∃ F2 m2 ah2 acc vs, Ext F1 m1 F2 m2 ∧ Sim X.K X.mg fr F2 m2 ah2 H ∧ H L = some (.lst vs) ∧ F2 L = none ∧ L ∉ m2 ∧ RepL X.K F2 m2 acc vs ∧ acc.length ≤ i ∧
      TK X.K X.mg fr W (Rep X.K) σ F2 m2 (nores ((compM (xs.drop i) f >>= fun ys => pure (D.lst (acc ++ ys))) ah2)) Q,
      ⟨_, rfl, Nat.zero_le _, F1, m1, a, [], [], Ext.refl, s1.other fL mL hL0, upd_same, fL, mL, RepL.nil, Nat.zero_le _, by rw [List.drop_zero]; exact q2⟩, ?_⟩
    rintro i n H2 ⟨rfl, hi2, F2, m2, ah2, acc, vs, e2, s2, hL2, fL2, mL2, ra, la, k2⟩
    by_cases hlt : i < xs.length
    · refine .inr ⟨y.go i fr F2 m2 ah2 H2 e2 s2 hlt, fun H => ∃ F2 m2 ah2 acc vs, Ext F1 m1 F2 m2 ∧ Sim X.K X.mg fr F2 m2 ah2 H ∧ H L = some (.lst vs) ∧ F2 L = none ∧ L ∉ m2 ∧ RepL X.K F2 m2 acc vs ∧ acc.length ≤ i + 1 ∧
        TK X.K X.mg fr W (Rep X.K) σ F2 m2 (nores ((compM (xs.drop (i + 1)) f >>= fun ys => pure (D.lst (acc ++ ys))) ah2)) Q, fun H' z => ⟨xs.length - (i + 1), by omega, rfl, hlt, z⟩, fun v H3 yy => ?_⟩
      obtain ⟨F3, d, hd, e3, s3', r3⟩ := y.yld i _ F2 m2 ah2 H2 v H3 e2 s2.re hlt yy
      obtain ⟨hL3, fL3, mL3⟩ := s3'.kept hL2 fL2 mL2
      have s3 := s2.back s3'
      have er3 := ((er1.ext e2).ext e3)
      have hdrop : xs.drop i = d :: xs.drop (i + 1) := by
        rw [List.drop_eq_getElem_cons hlt]
        rw [List.getElem?_eq_getElem hlt] at hd
        cases hd
        rfl
      have k3 : TK X.K X.mg fr W (Rep X.K) σ F3 m2 (nores (((liftO (unp d) >>= fun p => mt p >>= fun t => (if t = true then (me p >>= fun y => pure [y]) else pure [])) >>= fun ys => compM (xs.drop (i + 1)) f >>= fun zs => pure (D.lst (acc ++ (ys ++ zs)))) ah2)) Q := by
        have z := TK.ext e3 k2
        rw [hdrop] at z
        have z2 : (compM (d :: xs.drop (i + 1)) f >>= fun ys => pure (D.lst (acc ++ ys))) = (f d >>= fun ys => compM (xs.drop (i + 1)) f >>= fun zs => pure (D.lst (acc ++ (ys ++ zs)))) := by
          show ((f d >>= fun ys => compM (xs.drop (i + 1)) f >>= fun zs => pure (ys ++ zs)) >>= fun ys => pure (D.lst (acc ++ ys))) = _
          rw [bind_assoc]
          congr 1
          funext ys
          rw [bind_assoc]
          rfl
        rw [z2, ← hf] at z
        rw [← hf]
        exact z
      cases hu : unp d with
      | none =>
        rw [hu] at k3
        exact k3.elim
      | some p =>
        rw [hu] at k3
        have k4 : TK X.K X.mg fr W (Rep X.K) σ F3 m2 (nores ((mt p >>= fun t => ((if t = true then (me p >>= fun y => pure [y]) else pure []) >>= fun ys => compM (xs.drop (i + 1)) f >>= fun zs => pure (D.lst (acc ++ (ys ++ zs))))) ah2)) Q := by
          rw [← bind_assoc]
          exact k3
        refine ⟨fr, F3, m2, ah2, wipeE env (own.map (·.2)), d, p, s3, er3.wipe _, r3, hu, fun σ4 er4 hw => ⟨?_, p, ?_⟩⟩
        · have z := hw (own.map (·.2)) hsl
          rw [z]
          clear z hw er4 σ4
          have ww : ∀ (vs ws : List Nat) (σ : St), (∀ i ∈ vs, i ∈ ws) → wipe (wipe σ vs) ws = wipe σ ws := by
            intro vs
            induction vs with
            | nil => intro _ _ _; rfl
            | cons v vs ih =>
              intro ws σ h
              show wipe ((wipe σ vs).set v none) ws = _
              rw [wipe_set (h v List.mem_cons_self), ih ws σ fun i hi => h i (List.mem_cons_of_mem _ hi)]
          exact ww _ _ _ fun i hi => hi
        · refine TK.inner s3 er4 k4 fun F5 m5 ah5 t t' H5 e5 s5' er5 r5 k5 => ?_
          have r5 : t = t' := r5
          subst r5
          obtain ⟨hL5, fL5, mL5⟩ := s5'.kept hL3 fL3 mL3
          have s5 := s3.back s5'
          cases t with
          | false =>
            refine iteF ⟨F5, m5, ah5, acc, vs, (e2.trans e3).trans e5, s5, hL5, fL5, mL5, RepL.ext (e3.trans e5) _ _ ra, by omega, ?_⟩
            exact k5
          | true =>
            refine iteT ⟨p, ?_⟩
            have k6 : TK X.K X.mg fr W (Rep X.K) σ F5 m5 (nores ((me p >>= fun y => compM (xs.drop (i + 1)) f >>= fun zs => pure (D.lst (acc ++ ([y] ++ zs)))) ah5)) Q := by
              have z : ((me p >>= fun y => pure [y]) >>= fun ys => compM (xs.drop (i + 1)) f >>= fun zs => pure (D.lst (acc ++ (ys ++ zs)))) = (me p >>= fun y => compM (xs.drop (i + 1)) f >>= fun zs => pure (D.lst (acc ++ ([y] ++ zs)))) := by
                rw [bind_assoc]
                rfl
              rw [← z]
              exact k5
            refine TK.inner s5 er5 k6 fun F7 m7 ah7 y7 v7 H7 e7 s7' er7 r7 k7 => ?_
            obtain ⟨hL7, fL7, mL7⟩ := s7'.kept hL5 fL5 mL5
            have s7 := s5.back s7'
            refine ⟨vs, hL7, ?_, F7, m7, ah7, acc ++ [y7], vs ++ [v7], ((e2.trans e3).trans e5).trans e7, s7.other fL7 mL7 hL0, upd_same, fL7, mL7, RepL.append (RepL.ext ((e3.trans e5).trans e7) _ _ ra) (RepL.cons r7 RepL.nil), by rw [List.length_append, List.length_singleton]; omega, ?_⟩
            · rw [RepL.length ra]
              omega
            · have z : (fun zs => (pure (D.lst (acc ++ ([y7] ++ zs))) : M D)) = fun zs => pure (D.lst ((acc ++ [y7]) ++ zs)) := by
                funext zs
                rw [List.append_assoc]
              rw [z] at k7
              exact k7
    · have ei : i = xs.length := by omega
      subst ei
      refine .inl ⟨y.stop fr F2 m2 ah2 H2 e2 s2, ?_⟩
      rw [List.drop_length] at k2
      have k3 : TK X.K X.mg fr W (Rep X.K) σ F2 m2 (.ok (.lst acc) ah2) Q := by
        have z : (compM [] f >>= fun ys => (pure (D.lst (acc ++ ys)) : M D)) = pure (D.lst acc) := by
          show (pure (D.lst (acc ++ [])) : M D) = _
          rw [List.append_nil]
        rw [z] at k2
        exact k2
      obtain ⟨s3, e3⟩ := s2.seal fL2 mL2 hL0 hL2
      refine k3 _ _ _ _ e3 s3 ?_
      unfold Rep
      exact ⟨L, vs, rfl, .inl (.inl upd_same), RepL.ext e3 _ _ ra⟩
theorem ds_setLc (i : Nat) {y : Str} {py spos : Pos} {ex : Env} {τ β : Type} {mk : τ → Env} {lp : β → Env} {rest : List Stmt} {k : D → M (Out τ β)} {elt tg iter : Expr} {ifs : List Expr} {scope : Scope} {own : List (Str × Nat)} {π : Type} {sl : List Nat} {mi : M (List D)} {unp : D → Option π} {sets : π → Env → Env} {mt : π → M Bool} {me : π → M D}
    (hc : X.calm = true) (hN : X.N.Nodup) (hi : DI X W env tg iter mi) (ok : BlkOk X.N X.env.scope scope own) (hsl : ∀ i ∈ sl, i ∈ own.map (·.2))
    (hg : ∀ (s : Shared) (H : Hp) (C : Addr) (cl : List (Str × Addr)) (fp : List Addr), DG (X.blk s H scope (compEnvC scope cl C X.env) fp) tg sl unp sets)
    (ht : ∀ (s : Shared) (H : Hp) (C : Addr) (cl : List (Str × Addr)) (fp : List Addr) (p : π), PTs (X.blk s H scope (compEnvC scope cl C X.env) fp) ifs (TC X.K X.mg W0 RB (sets p (wipeE env (own.map (·.2)))) (mt p)))
    (he : ∀ (s : Shared) (H : Hp) (C : Addr) (cl : List (Str × Addr)) (fp : List Addr) (p : π), DE (X.blk s H scope (compEnvC scope cl C X.env) fp) W0 (sets p (wipeE env (own.map (·.2)))) elt (me p))
    (env' : D → Env) (hx : EnvLe ex env) (hr : ∀ d, DS X W ex (env' d) mk lp rest (k d)) (hs : ∀ x, foldedSetIterable iter X.env x = pure x := by intro _; rfl) (hv : ∀ d, env.set i (some d) = env' d := by intro _; rfl) (hy : X.N[i]? = some y := by rfl) (hyl : X.env.scope.names.lookup y = some .local := by rfl)
    (hsw : swapsWith (.ListComp elt [⟨tg, iter, ifs, 0⟩] scope pos) (some (.Name y py)) spos.line X.env = pure true := by exact sw_true rfl rfl rfl (by decide +kernel)) :
    DS X W ex env mk lp (.Assign [.Name y py] (.ListComp elt [⟨tg, iter, ifs, 0⟩] scope pos) spos :: rest) ((do let xs ← mi; lcM xs (fun x => do let p ← liftO (unp x); let t ← mt p; if t = true then (do let y ← me p; pure [y]) else pure [])) >>= k) :=
  PSs.from (pss_cons (ps_setLc (g := gD X.K X.mg sl unp sets) hc hN hy hyl hsw hi ok hg (fun s H C cl fp => (⟨fun pins s' σ H' Q I ⟨p, q⟩ => (ht s H C cl fp p).run pins s' σ H' Q I q⟩ : PTs _ ifs (fun σ H Q => ∃ p, TC X.K X.mg W0 RB (sets p (wipeE env (own.map (·.2)))) (mt p) σ H Q)))
    (fun s H C cl fp => (⟨fun pins s' σ H' Q I ⟨p, q⟩ => (he s H C cl fp p).run pins s' σ H' Q I q⟩ : PE _ elt (fun σ H Q => ∃ p, TC X.K X.mg W0 (Rep X.K) (sets p (wipeE env (own.map (·.2)))) (me p) σ H Q))) hs) (PSs.ex hr)) fun Dn σ H ⟨fr, F, m, ah, s, er, q⟩ => lc_from (sets := sets) hsl σ H (fun x H1 => gName i x σ H1 fun σ' H' => ∃ a, TB X.K X.mg W ex (env' a) mk lp (k a) Dn σ' H') (TO.step s er hx q fun F1 m1 ah1 d v H1 e1 s1 er1 r1 k1 => ⟨d, fr, F1, m1, ah1, s1, by rw [← hv d]; exact er1.set r1, k1⟩)
theorem dts_nil {X : Cx} {env : Env} : PTs X [] (TC X.K X.mg W0 RB env (pure true)) := ⟨fun pins s σ H Q I ⟨fr, F, m, ah, S, er, k⟩ => pts_nil.run pins s σ H Q I (k F m _ H Ext.refl S rfl)⟩
end
end Lw
/-! SimF: calls, defs, lists that are written. (printed by wip/genF.py) -/
namespace Lw
open PySem L2
/-! ### what a def promises -/
def spD (K : Fg) (mg : Str → Option Value) (n : Nat) (g : List D → M D) : Sp := fun vs H Q E => vs.length = n ∧ ∃ fr F m ah ds, Sim K mg fr F m ah H ∧ RepL K F m ds vs ∧ TK K mg fr (fun c d _ H => E c d H) (Rep K) [] F m (g ds ah) Q
theorem TK.wish {α β : Type} {K : Fg} {mg : Str → Option Value} {fr : Fm} {W : WX} {R : Hp → List Addr → α → β → Prop} {σ : St} {F : Hp} {m : List Addr} {r : Res α} {Q : β → Hp → Prop} (h : TK K mg fr W R σ F m r Q) :
    TK K mg fr (fun c d _ H => W c d σ H) R [] F m r Q := by
  cases r with
  | ok _ _ => exact h
  | exc _ _ => exact h
  | stuck => exact h
mutual
def noRef : D → Bool
  | .ref _ => false
  | .tup xs => noRefs xs
  | .lst xs => noRefs xs
  | _ => true
def noRefs : List D → Bool
  | [] => true
  | d :: ds => noRef d && noRefs ds
end
mutual
theorem Rep.noref {K : Fg} {F : Hp} {m m' : List Addr} : ∀ (d : D) (v : V), noRef d = true → Rep K F m d v → Rep K F m' d v
  | .non, v, _, r => by
    unfold Rep at r ⊢
    exact r
  | .bl _, v, _, r => by
    unfold Rep at r ⊢
    exact r
  | .int _, v, _, r => by
    unfold Rep at r ⊢
    exact r
  | .str _, v, _, r => by
    unfold Rep at r ⊢
    exact r
  | .ref _, v, h, r => by
    unfold noRef at h
    cases h
  | .exn _ _, v, _, r => by
    unfold Rep at r ⊢
    exact r
  | .emp, v, _, r => by
    unfold Rep at r ⊢
    exact r
  | .tup xs, v, h, r => by
    unfold noRef at h
    unfold Rep at r ⊢
    obtain ⟨a, vs, h1, h2, h3⟩ := r
    exact ⟨a, vs, h1, h2, RepL.noref xs vs h h3⟩
  | .lst xs, v, h, r => by
    unfold noRef at h
    unfold Rep at r ⊢
    obtain ⟨a, vs, h1, h2, h3⟩ := r
    exact ⟨a, vs, h1, h2, RepL.noref xs vs h h3⟩
theorem RepL.noref {K : Fg} {F : Hp} {m m' : List Addr} : ∀ (ds : List D) (vs : List V), noRefs ds = true → RepL K F m ds vs → RepL K F m' ds vs
  | [], vs, _, r => by
    unfold RepL at r ⊢
    exact r
  | d :: ds, vs, h, r => by
    unfold noRefs at h
    rw [Bool.and_eq_true] at h
    unfold RepL at r ⊢
    obtain ⟨v, u, h1, h2, h3⟩ := r
    exact ⟨v, u, h1, Rep.noref d v h.1 h2, RepL.noref ds u h.2 h3⟩
end
/-- a call of a def that looks at no list or object of the plain heap: it runs in a heap of its own -/
def pcallM (g : List D → M D) (ds : List D) : M D := fun h => if noRefs ds = true then (match g ds [] with
  | .ok d _ => if noRef d = true then .ok d h else .stuck
  | .exc x _ => .exc x h
  | .stuck => .stuck) else .stuck
section
variable {K : Fg} {mg : Str → Option Value} {fr : Fm} {F F' H H' : Hp} {m m' : List Addr} {ah ah' : AH}
theorem Sim.bare (S : Sim K mg fr F m ah H) : Sim K mg ⟨H, F, []⟩ F [] [] H := ⟨S.sub, rfl, List.nodup_nil, (fun i c h => by simp at h), (fun _ _ h _ => h), (fun a h => nomatch h), (fun i a h => by simp at h), (fun a h => nomatch h), fun _ _ h => .inl h⟩
theorem Sim.pured (S : Sim K mg fr F m ah H) (e : Ext F [] F' m') (T : Sim K mg ⟨H, F, []⟩ F' m' ah' H') : Sim K mg fr F' m ah H' ∧ Ext F m F' m := by
  have e' : Ext F m F' m := ⟨e.sub, fun _ _ h => h⟩
  have st : ∀ a o, H a = some o → H' a = some o := fun a o h => T.frame a o h (by intro z; cases z)
  refine ⟨⟨T.sub, S.len, S.nod, fun i c h => ?_, fun a o h n => st a o (S.frame a o h n), S.young, S.pre, fun a h => ?_, fun a o h => ?_⟩, e'⟩
  · obtain ⟨a, q, ok⟩ := S.cells i c h
    obtain ⟨u, hu⟩ := S.there a (List.mem_of_getElem? q)
    refine ⟨a, q, ok.ext e' (fun z => ?_) fun _ => by rw [st a u hu, hu]⟩
    cases p : F' a with
    | none => rfl
    | some o =>
      rcases T.old a o p with y | y | y
      · have y : F a = some o := y
        rw [ok.free z] at y
        cases y
      · have y : H a = none := y
        rw [hu] at y
        cases y
      · cases y
  · obtain ⟨u, hu⟩ := S.there a h
    exact ⟨u, st a u hu⟩
  · rcases T.old a o h with y | y | y
    · exact S.old a o y
    · exact .inr (.inl (S.fresh0 y))
    · cases y
end
section
variable {X : Cx} {W : WX} {env : Env} {pos : Pos} {k : Nat} {f : Addr} {fd : FuncData} {ps : List Str} {x : Str} {p : Pos} {e : Expr} {es : List Expr} {g : List D → M D} {ms : M (List D)}
/-- a call -/
theorem de_call (n : Nat) (G : FnOk X.prog X.w X.K X.mg X.base (L2N.CX X.prog X.w) k f fd ps (spD X.K X.mg n g)) (hr : Room k X.A) (hm : X.mg x = some (.ref f)) (hk : PySem.W.keepIn X.K (.ref f) = true) (hb : Binds X.K fd ps []) (tk : L2N.Takes X W) (ha : DA X W env (e :: es) ms)
    (hn : ∀ ah ds ah', ms ah = .ok ds ah' → ds.length = n) (hg : Gl X x := by rfl) (hdb : (x == ("__debug__" : Str)) = false := by decide) (he : starEach (e :: es) X.env = (false, eval e X.env) :: starEach es X.env := by rfl) (hpl : (backTo pos (starEach es X.env)).any (·.1) = false := by rfl) :
    DE X W env (.Call (.Name x p) (e :: es) [] pos) (do let xs ← ms; g xs) :=
  PE.from (pe_callS G hr hg hm hk hb (fun σ => L2N.passAt tk σ) ha hdb he hpl) fun σ H Q ⟨fr, F, m, ah, s, er, q⟩ => by
    refine ⟨fr, F, m, ah, s, er, ?_⟩
    rw [bind_def] at q
    cases hr : ms ah with
    | ok d a =>
      rw [hr] at q
      exact fun F1 m1 v H1 e1 s1 r1 => ⟨by rw [RepL.length r1]; exact hn _ _ _ hr, fr, F1, m1, a, d, s1, r1, TK.wish (TK.ext e1 q)⟩
    | exc x a =>
      rw [hr] at q
      exact q
    | stuck =>
      rw [hr] at q
      exact q
theorem de_pcall (n : Nat) (G : FnOk X.prog X.w X.K X.mg X.base (L2N.CX X.prog X.w) k f fd ps (spD X.K X.mg n g)) (hr : Room k X.A) (hm : X.mg x = some (.ref f)) (hk : PySem.W.keepIn X.K (.ref f) = true) (hb : Binds X.K fd ps []) (tk : L2N.Takes X W) (ha : DA X W env (e :: es) ms)
    (hn : ∀ ah ds ah', ms ah = .ok ds ah' → ds.length = n) (hg : Gl X x := by rfl) (hdb : (x == ("__debug__" : Str)) = false := by decide) (he : starEach (e :: es) X.env = (false, eval e X.env) :: starEach es X.env := by rfl) (hpl : (backTo pos (starEach es X.env)).any (·.1) = false := by rfl) :
    DE X W env (.Call (.Name x p) (e :: es) [] pos) (do let xs ← ms; pcallM g xs) :=
  PE.from (pe_callS G hr hg hm hk hb (fun σ => L2N.passAt tk σ) ha hdb he hpl) fun σ H Q ⟨fr, F, m, ah, s, er, q⟩ => by
    refine ⟨fr, F, m, ah, s, er, ?_⟩
    rw [bind_def] at q
    cases hr : ms ah with
    | ok ds a =>
      rw [hr] at q
      have q : TK X.K X.mg fr W (Rep X.K) σ F m (pcallM g ds a) Q := q
      intro F1 m1 v H1 e1 s1 r1
      unfold pcallM at q
      by_cases h : noRefs ds = true
      case neg =>
        rw [if_neg h] at q
        exact q.elim
      rw [if_pos h] at q
      refine ⟨by rw [RepL.length r1]; exact hn _ _ _ hr, ⟨H1, F1, []⟩, F1, [], [], ds, s1.bare, RepL.noref ds v h r1, ?_⟩
      cases hg' : g ds [] with
      | ok d b =>
        simp only [hg'] at q
        by_cases hd : noRef d = true
        · rw [if_pos hd] at q
          intro F2 m2 u H2 e2 s2 r2
          obtain ⟨s3, e3⟩ := s1.pured e2 s2
          exact q F2 m1 u H2 ⟨fun a o h => e3.sub a o (e1.sub a o h), fun i a h => e1.pre i a h⟩ s3 (Rep.noref d u hd r2)
        · rw [if_neg hd] at q
          exact q.elim
      | exc y b =>
        simp only [hg'] at q
        intro F2 m2 C H2 e2 s2 hC
        obtain ⟨s3, e3⟩ := s1.pured e2 s2
        exact q F2 m1 C H2 ⟨fun a o h => e3.sub a o (e1.sub a o h), fun i a h => e1.pre i a h⟩ s3 hC
      | stuck =>
        simp only [hg'] at q
        exact q.elim
    | exc x a =>
      rw [hr] at q
      exact q
    | stuck =>
      rw [hr] at q
      exact q
theorem hu64 {A : Around} {k : Nat} (hr : Room k A) : A.units + 64 < cLine := by
  have := hr.un
  omega
end
theorem EnvLe.noth {n : Nat} {env : Env} (h : env.length = n) : EnvLe (List.replicate n none) env := ⟨by rw [List.length_replicate, h], fun i d q => by
  rw [List.getElem?_replicate] at q
  split at q <;> cases q⟩
theorem okXN {P : Program} {w : World} {K : Fg} {mg : Str → Option Value} {base : Heap} {x qual : Str} {st : Stmt} {f : Addr} {fd : FuncData} {N ps : List Str} {k : Nat} {sp : Sp} (F : Fun K x qual st f fd) (S : FnScope N ps (defScope st)) (len : ∀ vs H Q E, sp vs H Q E → vs.length = ps.length)
    (hbody : ∀ (cdv : Value) (A : Around) (outer : List PySem.Env) (s : Shared) (H : Hp) (vs : List V) (Q : VK) (E : XK), Room k (A.deeper (PyProof.Rows.envOfC qual (defScope st) s.heap.objs.size f cdv)) → sp vs H Q E →
      ∃ t, PSs (cxOf (L2N.CX P w) P w K mg base N qual (defScope st) f cdv A outer s H E) (defBody st) t ∧ t { nx := fun _ H' => Q .non H', rt := Q } (L2.start N vs) H) : FnOk P w K mg base (L2N.CX P w) (k + 1) f fd ps sp := by
  obtain ⟨oc, od, kV, doc, pm, an, cdv, ct, osl, rfl, lk, hcd⟩ := F.ex
  exact fn_of lk hcd S len fun A outer s H vs Q E hr hsp => hbody cdv A outer s H vs Q E hr hsp
/-- a def -/
theorem fn_sim {P : Program} {w : World} {K : Fg} {mg : Str → Option Value} {base : Heap} {x qual : Str} {st : Stmt} {f : Addr} {fd : FuncData} {N ps : List Str} {k n : Nat} {τ : Type} {mk : τ → Env} {lp : Empty → Env} {mc : List D → M (Out τ Empty)} {g : List D → M D}
    (F : Fun K x qual st f fd) (S : FnScope N ps (defScope st)) (hn : ps.length = n) (hg : ∀ ds, ds.length = n → g ds = defM (mc ds))
    (h : ∀ (cdv : Value) (A : Around) (outer : List PySem.Env) (s : Shared) (H : Hp) (E : XK), Room k (A.deeper (PyProof.Rows.envOfC qual (defScope st) s.heap.objs.size f cdv)) → ∀ ds : List D, ds.length = n →
      DS (cxOf (L2N.CX P w) P w K mg base N qual (defScope st) f cdv A outer s H E) (fun c d _ H => E c d H) (List.replicate N.length none) (ds.map some ++ List.replicate (N.length - n) none) mk lp (defBody st) (mc ds)) :
    FnOk P w K mg base (L2N.CX P w) (k + 1) f fd ps (spD K mg n g) := by
  refine okXN F S (fun vs H Q E h => h.1.trans hn.symm) fun cdv A outer s H vs Q E hr hsp => ?_
  obtain ⟨hl, fr, F', m, ah, ds, S', r, q⟩ := hsp
  have hd : ds.length = n := by rw [← RepL.length r]; exact hl
  refine ⟨_, h cdv A outer s H E hr ds hd, fr, F', m, ah, S', ?_, ?_⟩
  · have hp : ps.length ≤ N.length := by
      have z := congrArg List.length S.pre
      rw [List.length_take] at z
      omega
    refine ⟨by unfold L2.start; simp [hl, hd], fun i d hi => ?_⟩
    by_cases hlt : i < ds.length
    · rw [List.getElem?_append_left (by simpa using hlt), List.getElem?_map] at hi
      cases hdi : ds[i]? with
      | none =>
        rw [hdi] at hi
        cases hi
      | some d' =>
        rw [hdi] at hi
        cases hi
        obtain ⟨v, hv, rv⟩ := RepL.get r hdi
        refine ⟨v, ?_, rv⟩
        unfold L2.start
        rw [List.getElem?_append_left (by simp; have := RepL.length r; omega), List.getElem?_map, hv]
        rfl
    · rw [List.getElem?_append_right (by simp; omega), List.getElem?_replicate] at hi
      split at hi <;> cases hi
  · rw [hg ds hd] at q
    have q : TK K mg fr (fun c d _ H => E c d H) (Rep K) [] F' m (dres (mc ds ah)) Q := q
    cases hm : mc ds ah with
    | ok o a =>
      rw [hm] at q
      cases o with
      | nx t => exact fun F2 m2 σ2 H2 e2 s2 r2 => q F2 m2 .non H2 e2 s2 Rep.non
      | ret d => exact fun F2 m2 v H2 e2 s2 r2 => q F2 m2 v H2 e2 s2 r2
      | bk b => exact b.elim
      | ct b => exact b.elim
    | exc y a =>
      rw [hm] at q
      exact fun F2 m2 C σ2 H2 e2 s2 r2 hC => q F2 m2 C H2 e2 s2 hC
    | stuck =>
      rw [hm] at q
      exact q
def app1 (f : D → M D) : List D → M D
  | [d1] => f d1
  | _ => stuck
def app2 (f : D → D → M D) : List D → M D
  | [d1, d2] => f d1 d2
  | _ => stuck
def app3 (f : D → D → D → M D) : List D → M D
  | [d1, d2, d3] => f d1 d2 d3
  | _ => stuck
def app4 (f : D → D → D → D → M D) : List D → M D
  | [d1, d2, d3, d4] => f d1 d2 d3 d4
  | _ => stuck
def app5 (f : D → D → D → D → D → M D) : List D → M D
  | [d1, d2, d3, d4, d5] => f d1 d2 d3 d4 d5
  | _ => stuck
section
variable {X : Cx} {W : WX} {env : Env} {pos : Pos} {k : Nat} {f : Addr} {fd : FuncData} {ps : List Str} {x : Str} {p : Pos}
theorem da1 {ex1 : Expr} {mm1 : M D} (hh1 : DE X W env ex1 mm1) (ss1 : starEach [ex1] X.env = (false, eval ex1 X.env) :: starEach [] X.env := by rfl) :
    DA X W env [ex1] (do let x1 ← mm1; pure [x1]) := by
  refine PA.from (pa_cons hh1 pa_nil ss1) fun σ H Q ⟨fr, F, m, ah, s, er, q⟩ => ?_
  refine TK.step s er q fun F1 m1' ah1 d1 v1 H1 x1 y1 z1 r1 q1 => ?_
  exact q1 F1 m1' _ H1 Ext.refl y1 (RepL.cons r1 RepL.nil)
theorem len1 {mm1 : M D} (ah : AH) (ds : List D) (ah' : AH) (h : (do let x1 ← mm1; pure [x1] : M (List D)) ah = .ok ds ah') : ds.length = 1 := by
  rw [bind_def] at h
  cases h1 : mm1 ah with
  | exc _ _ => rw [h1] at h; cases h
  | stuck => rw [h1] at h; cases h
  | ok d1 a1 =>
  rw [h1] at h; dsimp only at h
  cases h
  rfl
theorem assoc1 {mm1 : M D} {g : List D → M D} : ((do let x1 ← mm1; pure [x1] : M (List D)) >>= g) = (do let x1 ← mm1; g [x1]) := by
  simp only [bind_assoc, pure_bind]
theorem de_call1 {ex1 : Expr} {mm1 : M D} {g : D → M D} (G : FnOk X.prog X.w X.K X.mg X.base (L2N.CX X.prog X.w) k f fd ps (spD X.K X.mg 1 (app1 g))) (hr : Room k X.A) (hm : X.mg x = some (.ref f)) (hk : PySem.W.keepIn X.K (.ref f) = true) (hb : Binds X.K fd ps []) (tk : L2N.Takes X W) (hh1 : DE X W env ex1 mm1)
    (hg : Gl X x := by rfl) (hdb : (x == ("__debug__" : Str)) = false := by decide) (ss1 : starEach [ex1] X.env = (false, eval ex1 X.env) :: starEach [] X.env := by rfl) (hpl : (backTo pos (starEach [] X.env)).any (·.1) = false := by rfl) :
    DE X W env (.Call (.Name x p) [ex1] [] pos) (do let x1 ← mm1; g x1) := by
  have h := de_call (pos := pos) (p := p) 1 G hr hm hk hb tk (da1 hh1 ss1) len1 hg hdb ss1 hpl
  rw [assoc1] at h
  exact h
theorem da2 {ex1 ex2 : Expr} {mm1 mm2 : M D} (hh1 : DE X W env ex1 mm1) (hh2 : DE X W env ex2 mm2) (ss1 : starEach [ex1, ex2] X.env = (false, eval ex1 X.env) :: starEach [ex2] X.env := by rfl) (ss2 : starEach [ex2] X.env = (false, eval ex2 X.env) :: starEach [] X.env := by rfl) :
    DA X W env [ex1, ex2] (do let x1 ← mm1; let x2 ← mm2; pure [x1, x2]) := by
  refine PA.from (pa_cons hh1 (pa_cons hh2 pa_nil ss2) ss1) fun σ H Q ⟨fr, F, m, ah, s, er, q⟩ => ?_
  refine TK.step s er q fun F1 m1' ah1 d1 v1 H1 x1 y1 z1 r1 q1 => ?_
  refine TK.step y1 z1 q1 fun F2 m2' ah2 d2 v2 H2 x2 y2 z2 r2 q2 => ?_
  exact q2 F2 m2' _ H2 Ext.refl y2 (RepL.cons (Rep.ext x2 _ _ r1) (RepL.cons r2 RepL.nil))
theorem len2 {mm1 mm2 : M D} (ah : AH) (ds : List D) (ah' : AH) (h : (do let x1 ← mm1; let x2 ← mm2; pure [x1, x2] : M (List D)) ah = .ok ds ah') : ds.length = 2 := by
  rw [bind_def] at h
  cases h1 : mm1 ah with
  | exc _ _ => rw [h1] at h; cases h
  | stuck => rw [h1] at h; cases h
  | ok d1 a1 =>
  rw [h1] at h; dsimp only at h
  rw [bind_def] at h
  cases h2 : mm2 a1 with
  | exc _ _ => rw [h2] at h; cases h
  | stuck => rw [h2] at h; cases h
  | ok d2 a2 =>
  rw [h2] at h; dsimp only at h
  cases h
  rfl
theorem assoc2 {mm1 mm2 : M D} {g : List D → M D} : ((do let x1 ← mm1; let x2 ← mm2; pure [x1, x2] : M (List D)) >>= g) = (do let x1 ← mm1; let x2 ← mm2; g [x1, x2]) := by
  simp only [bind_assoc, pure_bind]
theorem de_call2 {ex1 ex2 : Expr} {mm1 mm2 : M D} {g : D → D → M D} (G : FnOk X.prog X.w X.K X.mg X.base (L2N.CX X.prog X.w) k f fd ps (spD X.K X.mg 2 (app2 g))) (hr : Room k X.A) (hm : X.mg x = some (.ref f)) (hk : PySem.W.keepIn X.K (.ref f) = true) (hb : Binds X.K fd ps []) (tk : L2N.Takes X W) (hh1 : DE X W env ex1 mm1) (hh2 : DE X W env ex2 mm2)
    (hg : Gl X x := by rfl) (hdb : (x == ("__debug__" : Str)) = false := by decide) (ss1 : starEach [ex1, ex2] X.env = (false, eval ex1 X.env) :: starEach [ex2] X.env := by rfl) (ss2 : starEach [ex2] X.env = (false, eval ex2 X.env) :: starEach [] X.env := by rfl) (hpl : (backTo pos (starEach [ex2] X.env)).any (·.1) = false := by rfl) :
    DE X W env (.Call (.Name x p) [ex1, ex2] [] pos) (do let x1 ← mm1; let x2 ← mm2; g x1 x2) := by
  have h := de_call (pos := pos) (p := p) 2 G hr hm hk hb tk (da2 hh1 hh2 ss1 ss2) len2 hg hdb ss1 hpl
  rw [assoc2] at h
  exact h
theorem de_pcall2 {ex1 ex2 : Expr} {mm1 mm2 : M D} {g : D → D → M D} (G : FnOk X.prog X.w X.K X.mg X.base (L2N.CX X.prog X.w) k f fd ps (spD X.K X.mg 2 (app2 g))) (hr : Room k X.A) (hm : X.mg x = some (.ref f)) (hk : PySem.W.keepIn X.K (.ref f) = true) (hb : Binds X.K fd ps []) (tk : L2N.Takes X W) (hh1 : DE X W env ex1 mm1) (hh2 : DE X W env ex2 mm2)
    (hg : Gl X x := by rfl) (hdb : (x == ("__debug__" : Str)) = false := by decide) (ss1 : starEach [ex1, ex2] X.env = (false, eval ex1 X.env) :: starEach [ex2] X.env := by rfl) (ss2 : starEach [ex2] X.env = (false, eval ex2 X.env) :: starEach [] X.env := by rfl) (hpl : (backTo pos (starEach [ex2] X.env)).any (·.1) = false := by rfl) :
    DE X W env (.Call (.Name x p) [ex1, ex2] [] pos) (do let x1 ← mm1; let x2 ← mm2; pcallM (app2 g) [x1, x2]) := by
  have h := de_pcall (pos := pos) (p := p) 2 G hr hm hk hb tk (da2 hh1 hh2 ss1 ss2) len2 hg hdb ss1 hpl
  rw [assoc2] at h
  exact h
theorem da4 {ex1 ex2 ex3 ex4 : Expr} {mm1 mm2 mm3 mm4 : M D} (hh1 : DE X W env ex1 mm1) (hh2 : DE X W env ex2 mm2) (hh3 : DE X W env ex3 mm3) (hh4 : DE X W env ex4 mm4) (ss1 : starEach [ex1, ex2, ex3, ex4] X.env = (false, eval ex1 X.env) :: starEach [ex2, ex3, ex4] X.env := by rfl) (ss2 : starEach [ex2, ex3, ex4] X.env = (false, eval ex2 X.env) :: starEach [ex3, ex4] X.env := by rfl) (ss3 : starEach [ex3, ex4] X.env = (false, eval ex3 X.env) :: starEach [ex4] X.env := by rfl) (ss4 : starEach [ex4] X.env = (false, eval ex4 X.env) :: starEach [] X.env := by rfl) :
    DA X W env [ex1, ex2, ex3, ex4] (do let x1 ← mm1; let x2 ← mm2; let x3 ← mm3; let x4 ← mm4; pure [x1, x2, x3, x4]) := by
  refine PA.from (pa_cons hh1 (pa_cons hh2 (pa_cons hh3 (pa_cons hh4 pa_nil ss4) ss3) ss2) ss1) fun σ H Q ⟨fr, F, m, ah, s, er, q⟩ => ?_
  refine TK.step s er q fun F1 m1' ah1 d1 v1 H1 x1 y1 z1 r1 q1 => ?_
  refine TK.step y1 z1 q1 fun F2 m2' ah2 d2 v2 H2 x2 y2 z2 r2 q2 => ?_
  refine TK.step y2 z2 q2 fun F3 m3' ah3 d3 v3 H3 x3 y3 z3 r3 q3 => ?_
  refine TK.step y3 z3 q3 fun F4 m4' ah4 d4 v4 H4 x4 y4 z4 r4 q4 => ?_
  exact q4 F4 m4' _ H4 Ext.refl y4 (RepL.cons (Rep.ext ((x2.trans x3).trans x4) _ _ r1) (RepL.cons (Rep.ext (x3.trans x4) _ _ r2) (RepL.cons (Rep.ext x4 _ _ r3) (RepL.cons r4 RepL.nil))))
theorem len4 {mm1 mm2 mm3 mm4 : M D} (ah : AH) (ds : List D) (ah' : AH) (h : (do let x1 ← mm1; let x2 ← mm2; let x3 ← mm3; let x4 ← mm4; pure [x1, x2, x3, x4] : M (List D)) ah = .ok ds ah') : ds.length = 4 := by
  rw [bind_def] at h
  cases h1 : mm1 ah with
  | exc _ _ => rw [h1] at h; cases h
  | stuck => rw [h1] at h; cases h
  | ok d1 a1 =>
  rw [h1] at h; dsimp only at h
  rw [bind_def] at h
  cases h2 : mm2 a1 with
  | exc _ _ => rw [h2] at h; cases h
  | stuck => rw [h2] at h; cases h
  | ok d2 a2 =>
  rw [h2] at h; dsimp only at h
  rw [bind_def] at h
  cases h3 : mm3 a2 with
  | exc _ _ => rw [h3] at h; cases h
  | stuck => rw [h3] at h; cases h
  | ok d3 a3 =>
  rw [h3] at h; dsimp only at h
  rw [bind_def] at h
  cases h4 : mm4 a3 with
  | exc _ _ => rw [h4] at h; cases h
  | stuck => rw [h4] at h; cases h
  | ok d4 a4 =>
  rw [h4] at h; dsimp only at h
  cases h
  rfl
theorem assoc4 {mm1 mm2 mm3 mm4 : M D} {g : List D → M D} : ((do let x1 ← mm1; let x2 ← mm2; let x3 ← mm3; let x4 ← mm4; pure [x1, x2, x3, x4] : M (List D)) >>= g) = (do let x1 ← mm1; let x2 ← mm2; let x3 ← mm3; let x4 ← mm4; g [x1, x2, x3, x4]) := by
  simp only [bind_assoc, pure_bind]
theorem de_call4 {ex1 ex2 ex3 ex4 : Expr} {mm1 mm2 mm3 mm4 : M D} {g : D → D → D → D → M D} (G : FnOk X.prog X.w X.K X.mg X.base (L2N.CX X.prog X.w) k f fd ps (spD X.K X.mg 4 (app4 g))) (hr : Room k X.A) (hm : X.mg x = some (.ref f)) (hk : PySem.W.keepIn X.K (.ref f) = true) (hb : Binds X.K fd ps []) (tk : L2N.Takes X W) (hh1 : DE X W env ex1 mm1) (hh2 : DE X W env ex2 mm2) (hh3 : DE X W env ex3 mm3) (hh4 : DE X W env ex4 mm4)
    (hg : Gl X x := by rfl) (hdb : (x == ("__debug__" : Str)) = false := by decide) (ss1 : starEach [ex1, ex2, ex3, ex4] X.env = (false, eval ex1 X.env) :: starEach [ex2, ex3, ex4] X.env := by rfl) (ss2 : starEach [ex2, ex3, ex4] X.env = (false, eval ex2 X.env) :: starEach [ex3, ex4] X.env := by rfl) (ss3 : starEach [ex3, ex4] X.env = (false, eval ex3 X.env) :: starEach [ex4] X.env := by rfl) (ss4 : starEach [ex4] X.env = (false, eval ex4 X.env) :: starEach [] X.env := by rfl) (hpl : (backTo pos (starEach [ex2, ex3, ex4] X.env)).any (·.1) = false := by rfl) :
    DE X W env (.Call (.Name x p) [ex1, ex2, ex3, ex4] [] pos) (do let x1 ← mm1; let x2 ← mm2; let x3 ← mm3; let x4 ← mm4; g x1 x2 x3 x4) := by
  have h := de_call (pos := pos) (p := p) 4 G hr hm hk hb tk (da4 hh1 hh2 hh3 hh4 ss1 ss2 ss3 ss4) len4 hg hdb ss1 hpl
  rw [assoc4] at h
  exact h
end
theorem fn1 {P : Program} {w : World} {K : Fg} {mg : Str → Option Value} {base : Heap} {x qual : Str} {st : Stmt} {f : Addr} {fd : FuncData} {N ps : List Str} {k : Nat} {τ : Type} {mk : τ → Env} {lp : Empty → Env} {mc : D → M (Out τ Empty)}
    (F : Fun K x qual st f fd) (S : FnScope N ps (defScope st)) (hn : ps.length = 1)
    (h : ∀ (cdv : Value) (A : Around) (outer : List PySem.Env) (s : Shared) (H : Hp) (E : XK), Room k (A.deeper (PyProof.Rows.envOfC qual (defScope st) s.heap.objs.size f cdv)) → ∀ d1 : D,
      DS (cxOf (L2N.CX P w) P w K mg base N qual (defScope st) f cdv A outer s H E) (fun c d _ H => E c d H) (List.replicate N.length none) ([some d1] ++ List.replicate (N.length - 1) none) mk lp (defBody st) (mc d1)) :
    FnOk P w K mg base (L2N.CX P w) (k + 1) f fd ps (spD K mg 1 (app1 fun d1 => defM (mc d1))) :=
  fn_sim (mc := fun ds => match ds with | [d1] => mc d1 | _ => stuck) F S hn (fun ds hl => match ds, hl with | [_], _ => rfl) fun cdv A outer s H E hr ds hl => match ds, hl with | [d1], _ => h cdv A outer s H E hr d1
theorem fn2 {P : Program} {w : World} {K : Fg} {mg : Str → Option Value} {base : Heap} {x qual : Str} {st : Stmt} {f : Addr} {fd : FuncData} {N ps : List Str} {k : Nat} {τ : Type} {mk : τ → Env} {lp : Empty → Env} {mc : D → D → M (Out τ Empty)}
    (F : Fun K x qual st f fd) (S : FnScope N ps (defScope st)) (hn : ps.length = 2)
    (h : ∀ (cdv : Value) (A : Around) (outer : List PySem.Env) (s : Shared) (H : Hp) (E : XK), Room k (A.deeper (PyProof.Rows.envOfC qual (defScope st) s.heap.objs.size f cdv)) → ∀ d1 d2 : D,
      DS (cxOf (L2N.CX P w) P w K mg base N qual (defScope st) f cdv A outer s H E) (fun c d _ H => E c d H) (List.replicate N.length none) ([some d1, some d2] ++ List.replicate (N.length - 2) none) mk lp (defBody st) (mc d1 d2)) :
    FnOk P w K mg base (L2N.CX P w) (k + 1) f fd ps (spD K mg 2 (app2 fun d1 d2 => defM (mc d1 d2))) :=
  fn_sim (mc := fun ds => match ds with | [d1, d2] => mc d1 d2 | _ => stuck) F S hn (fun ds hl => match ds, hl with | [_, _], _ => rfl) fun cdv A outer s H E hr ds hl => match ds, hl with | [d1, d2], _ => h cdv A outer s H E hr d1 d2
end Lw
/-! SimG: lists that are written, freezing them, raise, sorted. -/
namespace Lw
open PySem L2
/-! ### a cell is written -/
section
variable {K : Fg} {mg : Str → Option Value} {fr : Fm} {F H : Hp} {m : List Addr} {ah : AH}
theorem Sim.write {i : Nat} {a : Addr} {c c' : Cell} {o : HO} (S : Sim K mg fr F m ah H) (hi : ah[i]? = some c) (ha : m[i]? = some a) (hc : trk c = true) (ok : CellOk K mg F m (upd H a o) a c') : Sim K mg fr F m (ah.set i c') (upd H a o) := by
  have am : a ∈ m := List.mem_of_getElem? ha
  have fa : F a = none := by
    obtain ⟨a', q, ok'⟩ := S.cells i c hi
    rw [ha] at q
    cases q
    exact ok'.free hc
  refine ⟨fun b u h => ?_, by rw [List.length_set]; exact S.len, S.nod, fun j x h => ?_, fun b u h n => ?_, S.young, S.pre, fun b h => ?_, S.old⟩
  · have ne : b ≠ a := fun z => by rw [z, fa] at h; cases h
    rw [upd_ne ne]
    exact S.sub b u h
  · by_cases hj : i = j
    · subst hj
      rw [List.getElem?_set_self (List.getElem?_eq_some_iff.mp hi).1] at h
      cases h
      exact ⟨a, ha, ok⟩
    · rw [List.getElem?_set_ne hj] at h
      obtain ⟨b, q, okb⟩ := S.cells j x h
      have ne : b ≠ a := fun z => hj (by
        rw [z] at q
        obtain ⟨h1, e1⟩ := List.getElem?_eq_some_iff.mp ha
        obtain ⟨h2, e2⟩ := List.getElem?_eq_some_iff.mp q
        exact (List.getElem_inj S.nod).mp (e1.trans e2.symm))
      exact ⟨b, q, okb.ext Ext.refl (fun z => okb.free z) fun _ => upd_ne ne⟩
  · have ne : b ≠ a := fun z => by
      rw [z] at h n
      rw [S.young a am n] at h
      cases h
    rw [upd_ne ne]
    exact S.frame b u h n
  · by_cases z : b = a
    · rw [z, upd_same]
      exact ⟨_, rfl⟩
    · rw [upd_ne z]
      exact S.there b h
/-- a list of the heap is never written from now on -/
theorem Sim.freeze {i : Nat} {a : Addr} {xs : List D} (S : Sim K mg fr F m ah H) (hi : ah[i]? = some (.lst xs)) (ha : m[i]? = some a) : ∃ vs, Sim K mg fr (upd F a (.lst vs)) m (ah.set i .dead) H ∧ Ext F m (upd F a (.lst vs)) m ∧ RepL K F m xs vs := by
  have am : a ∈ m := List.mem_of_getElem? ha
  obtain ⟨a', q, ok⟩ := S.cells i _ hi
  rw [ha] at q
  cases q
  obtain ⟨fa, vs, hv, rv⟩ := ok
  have e : Ext F m (upd F a (.lst vs)) m := ⟨fun b u h => by rw [upd_ne (ne_of_none h fa)]; exact h, fun _ _ h => h⟩
  refine ⟨vs, ⟨fun b u h => ?_, by rw [List.length_set]; exact S.len, S.nod, fun j x h => ?_, S.frame, S.young, S.pre, S.there, fun b u h => ?_⟩, e, rv⟩
  · by_cases z : b = a
    · rw [z, upd_same] at h
      cases h
      rw [z]
      exact hv
    · rw [upd_ne z] at h
      exact S.sub b u h
  · by_cases hj : i = j
    · subst hj
      rw [List.getElem?_set_self (List.getElem?_eq_some_iff.mp hi).1] at h
      cases h
      exact ⟨a, ha, vs, upd_same⟩
    · rw [List.getElem?_set_ne hj] at h
      obtain ⟨b, q, okb⟩ := S.cells j x h
      have ne : b ≠ a := fun z => hj (by
        rw [z] at q
        obtain ⟨h1, e1⟩ := List.getElem?_eq_some_iff.mp ha
        obtain ⟨h2, e2⟩ := List.getElem?_eq_some_iff.mp q
        exact (List.getElem_inj S.nod).mp (e1.trans e2.symm))
      exact ⟨b, q, okb.ext e (fun z => by rw [upd_ne ne]; exact okb.free z) fun _ => rfl⟩
  · by_cases z : b = a
    · rw [z]
      by_cases y : a ∈ fr.m0
      · exact .inr (.inr y)
      · exact .inr (.inl (S.young a am y))
    · rw [upd_ne z] at h
      exact S.old b u h
end
/-- a list of the heap, from now on a value -/
def freezeM (d : D) : M D := fun h => match d with
  | .ref n => (match h[n]? with
    | some (.lst xs) => .ok (.lst xs) (h.set n .dead)
    | _ => .stuck)
  | _ => .stuck
section
variable {X : Cx} {W : WX} {ex env : Env} {pos : Pos} {τ β : Type} {mk : τ → Env} {lp : β → Env} {rest : List Stmt}
theorem ds_freeze (i : Nat) {d : D} {k : D → M (Out τ β)} (env' : D → Env) (hr : ∀ d, DS X W ex (env' d) mk lp rest (k d)) (he : env[i]? = some (some d) := by rfl) (hvv : ∀ d, env.set i (some d) = env' d := by intro _; rfl) : DS X W ex env mk lp rest (freezeM d >>= k) :=
  PSs.from (PSs.ex hr) fun Dn σ H ⟨fr, F, m, ah, s, er, q⟩ => by
    rw [bind_def] at q
    unfold freezeM at q
    obtain ⟨n, hd⟩ : ∃ n, d = .ref n := by
      cases d <;> first | exact ⟨_, rfl⟩ | exact q.elim
    subst hd
    obtain ⟨xs, hc⟩ : ∃ xs, ah[n]? = some (.lst xs) := by
      cases hc : ah[n]? with
      | none =>
        simp only [hc] at q
        exact q.elim
      | some c =>
        cases c <;> simp only [hc] at q <;> first | exact ⟨_, rfl⟩ | exact q.elim
    · simp only [hc] at q
      obtain ⟨v, hv, rv⟩ := er.2 i _ he
      unfold Rep at rv
      obtain ⟨a, ha, hva⟩ := rv
      obtain ⟨vs, s2, e2, r2⟩ := s.freeze hc ha
      refine ⟨.lst xs, fr, _, m, _, s2, ⟨by rw [← hvv, List.length_set]; exact er.1, fun j x hj => ?_⟩, TO.ext e2 q⟩
      rw [← hvv] at hj
      by_cases hij : i = j
      · subst hij
        rw [List.getElem?_set_self (List.getElem?_eq_some_iff.mp he).1] at hj
        cases hj
        refine ⟨v, hv, ?_⟩
        unfold Rep
        exact ⟨a, vs, hva, .inl (.inl upd_same), RepL.ext e2 _ _ r2⟩
      · rw [List.getElem?_set_ne hij] at hj
        obtain ⟨u, hu, ru⟩ := er.2 j x hj
        exact ⟨u, hu, Rep.ext e2 _ _ ru⟩
/-! ### methods of lists -/
def onLst (x : D) (f : List D → Option (D × List D)) : M D := fun h => match x with
  | .ref n => (match h[n]? with
    | some (.lst xs) => (match f xs with
      | some (d, ys) => .ok d (h.set n (.lst ys))
      | none => .stuck)
    | _ => .stuck)
  | _ => .stuck
def appendM (x y : D) : M D := onLst x fun xs => if lenOk (xs.length + 1) = true then some (.non, xs ++ [y]) else none
theorem onLst_of {fr : Fm} {σ : St} {F H : Hp} {m : List Addr} {ah : AH} {d : D} {v : V} {f : List D → Option (D × List D)} {Q : VK} (S : Sim X.K X.mg fr F m ah H) (r : Rep X.K F m d v) (k : TK X.K X.mg fr W (Rep X.K) σ F m (onLst d f ah) Q) :
    ∃ a xs vs z ys, v = .ref a ∧ H a = some (.lst vs) ∧ RepL X.K F m xs vs ∧ f xs = some (z, ys) ∧ ∀ us, RepL X.K F m ys us → ∀ u, Rep X.K F m z u → Q u (upd H a (.lst us)) := by
  unfold onLst at k
  cases d <;> try exact k.elim
  rename_i n
  cases hc : ah[n]? with
  | none =>
    simp only [hc] at k
    exact k.elim
  | some c =>
    cases c <;> simp only [hc] at k <;> try exact k.elim
    rename_i xs
    unfold Rep at r
    obtain ⟨a, ha, hva⟩ := r
    obtain ⟨a', q, ok⟩ := S.cells n _ hc
    rw [ha] at q
    cases q
    obtain ⟨fa, vs, hv, rv⟩ := ok
    cases hf : f xs with
    | none =>
      rw [hf] at k
      exact k.elim
    | some p =>
      obtain ⟨z, ys⟩ := p
      rw [hf] at k
      refine ⟨a, xs, vs, z, ys, hva, hv, rv, hf, fun us ru u rz => ?_⟩
      exact k F m u _ Ext.refl (S.write hc ha rfl ⟨fa, us, upd_same, ru⟩) rz
/-- it is a list -/
def lchk (x : D) : M Unit := fun h => match lstOf h x with
  | some _ => .ok () h
  | none => .stuck
theorem lchk_of {fr : Fm} {σ : St} {F H : Hp} {m : List Addr} {ah : AH} {α β : Type} {R : Hp → List Addr → α → β → Prop} {d : D} {v : V} {k : Unit → M α} {Q : β → Hp → Prop} (S : Sim X.K X.mg fr F m ah H) (r : Rep X.K F m d v) (q : TK X.K X.mg fr W R σ F m ((lchk d >>= k) ah) Q) :
    tyV X.K "list" v H ∧ TK X.K X.mg fr W R σ F m (k () ah) Q := by
  rw [bind_def] at q
  unfold lchk at q
  cases hx : lstOf ah d with
  | none =>
    simp only [hx] at q
    exact q.elim
  | some xs =>
    simp only [hx] at q
    obtain ⟨a, vs, h1, h2, h3⟩ := lst_of S r hx
    subst h1
    exact ⟨.inl ⟨rfl, vs, h2⟩, q⟩
/-- x.m(e), a method of lists -/
theorem de_lm1 {o e : Expr} {mo me : M D} {apos : Pos} {name : Str} {id : String} {r : V → List V → Hp → VK → Prop} {f : D → D → M D} (slot : Slot "list" name id) (hty : typeOf (.builtin id) = pure (.type "method_descriptor")) (hm : MtR X id r)
    (hr : ∀ (fr : Fm) (W : WX) (σ : St) (F : Hp) (m : List Addr) (ah : AH) (H : Hp) (d e : D) (v w : V) (Q : VK), Sim X.K X.mg fr F m ah H → Rep X.K F m d v → Rep X.K F m e w → TK X.K X.mg fr W (Rep X.K) σ F m (f d e ah) Q → r v [w] H Q)
    (ho : DE X W env o mo) (he : DE X W env e me) (hbase : attributeBase o name X.env (eval o X.env) = eval o X.env := by rfl)
    (hfew : ((backTo pos (starEach [e] X.env)).all (fun x => !x.1) && (backToKw pos (keywordEach [] X.env)).all (fun x => x.1.isSome)
      && decide ([e].length + ([] : List Keyword).length + (if ([] : List Keyword).isEmpty then 0 else 1) < 30)) = true := by rfl)
    (hline : (apos.endLine == pos.line) = true := by rfl) (hs : starEach [e] X.env = (false, eval e X.env) :: starEach [] X.env := by rfl) (hplain : (backTo pos (starEach [] X.env)).any (·.1) = false := by rfl) :
    DE X W env (.Call (.Attribute o name apos) [e] [] pos) (do let x ← mo; lchk x; let y ← me; f x y) :=
  PE.from (pe_bm PySem.F.plainAttrs_list slot hty hm ho (da_one he hs) hbase hfew hline hs hplain) fun σ H Q ⟨fr, F, m, ah, s, er, q⟩ => TK.step s er q fun F1 m1 ah1 d v H1 e1 s1 er1 r1 k1 => by
    obtain ⟨h1, k2⟩ := lchk_of s1 r1 k1
    refine ⟨h1, ?_⟩
    have k3 : TK X.K X.mg fr W (Rep X.K) σ F1 m1 (((do let y ← me; pure [y]) >>= fun ys => ap1 (f d) ys) ah1) Q := by
      rw [bind_assoc]
      exact k2
    refine TK.step (R := RepL X.K) s1 er1 k3 fun F2 m2 ah2 d2 v2 H2 e2 s2 er2 r2 k4 => ?_
    match d2, r2, k4 with
    | [], _, k4 => exact k4.elim
    | [d3], r2, k4 =>
      obtain ⟨w, rfl, r3⟩ := RepL.one r2
      exact hr fr W σ F2 m2 ah2 H2 d d3 v w Q s2 (Rep.ext e2 _ _ r1) r3 k4
    | _ :: _ :: _, _, k4 => exact k4.elim
theorem de_append {o e : Expr} {mo me : M D} {apos : Pos} (ho : DE X W env o mo) (he : DE X W env e me) (hbase : attributeBase o "append" X.env (eval o X.env) = eval o X.env := by rfl)
    (hfew : ((backTo pos (starEach [e] X.env)).all (fun x => !x.1) && (backToKw pos (keywordEach [] X.env)).all (fun x => x.1.isSome)
      && decide ([e].length + ([] : List Keyword).length + (if ([] : List Keyword).isEmpty then 0 else 1) < 30)) = true := by rfl)
    (hline : (apos.endLine == pos.line) = true := by rfl) (hs : starEach [e] X.env = (false, eval e X.env) :: starEach [] X.env := by rfl) (hplain : (backTo pos (starEach [] X.env)).any (·.1) = false := by rfl) :
    DE X W env (.Call (.Attribute o "append" apos) [e] [] pos) (do let x ← mo; lchk x; let y ← me; appendM x y) :=
  de_lm1 PySem.F.slot_list_append PySem.F.type_list_append mt_append (fun fr W σ F m ah H d e v w Q S r r2 k => by
    obtain ⟨a, xs, vs, z, ys, h1, h2, h3, h4, h5⟩ := onLst_of S r k
    by_cases hl : lenOk (xs.length + 1) = true
    · rw [if_pos hl] at h4
      cases h4
      refine ⟨a, vs, w, h1, rfl, h2, ?_, h5 _ (RepL.append h3 (RepL.cons r2 RepL.nil)) _ Rep.non⟩
      rw [RepL.length h3]
      exact of_decide_eq_true hl
    · rw [if_neg hl] at h4
      cases h4) ho he hbase hfew hline hs hplain
/-! ### raise -/
/-- a class of errors, of one's own, over ValueError, without __init__ -/
structure XcF (K : Fg) (mg : Str → Option Value) (x : Str) (C : Addr) : Prop where
  g : mg x = some (.ref C)
  q : PySem.W.excIn K C [.type "ValueError", .type "Exception", .type "BaseException", .type "object"] "ValueError.__new__" = true
  k : PySem.W.keepIn K (.ref C) = true
  b : PySem.W.subIn K (.ref C) (.type "BaseException") = some true
  t : PySem.W.typeIn K (.ref C) = some (.type "type")
theorem ds_raise {x msg : Str} {C : Addr} {j : Nat} {p p2 p3 : Pos} (T : XcF X.K X.mg x C) (hc : X.calm = true) (tk : L2N.Takes X W) (hx : EnvLe ex env) (hg : Gl X x := by rfl) (hdb : (x == ("__debug__" : Str)) = false := by decide) :
    DS X W ex env mk lp (.Raise (some (.Call (.Name x p) [.Constant (.str msg) j p2] [] p3)) none pos :: rest) (throwM x) :=
  PSs.from (pss_cons (L2N.ps_raise hc tk (L2N.pmk_own PySem.F.excBase_ValueError T.q T.g T.k (raises_own T.b T.t) hg hdb)) pss_never) fun Dn σ H ⟨fr, F, m, ah, s, er, q⟩ => q F m C σ H Ext.refl s (er.le hx) T.g
/-! ### sorted -/
end
section
open PySem PySem.W PyProof.Rows
end
section
variable {X : Cx} {W : WX} {env : Env} {pos : Pos}
theorem de_max2 {a b : Expr} {ma mb : M D} {p : Pos} (hc : X.calm = true) (hm : X.mg "max" = none) (ha : DE X W env a ma) (hb : DE X W env b mb) (hg : Gl X "max" := by rfl)
    (he : starEach [a, b] X.env = (false, eval a X.env) :: starEach [b] X.env := by rfl) (he2 : starEach [b] X.env = (false, eval b X.env) :: starEach [] X.env := by rfl) (hpl : (backTo pos (starEach [b] X.env)).any (·.1) = false := by rfl) :
    DE X W env (.Call (.Name "max" p) [a, b] [] pos) (do let x ← ma; let y ← mb; maxM x y) := de_b2 (call_max2 hc) max2_ok hm (by decide +kernel) ha hb hg (by decide) (by decide) he he2 hpl
end
end Lw
/-! SimH: items stored, chains as tests, what stands of a def, the law's end. -/
namespace Lw
open PySem L2
section
variable {X : Cx} {W : WX} {ex env : Env} {pos : Pos} {τ β : Type} {mk : τ → Env} {lp : β → Env} {rest : List Stmt}
/-! ### o[i] = v -/
def setIxM (o i v : D) : M Unit := fun h => match o, i with
  | .ref n, .int k => (match h[n]? with
    | some (.lst xs) => (match ixN xs.length k with
      | some j => .ok () (h.set n (.lst (xs.set j v)))
      | none => .stuck)
    | _ => .stuck)
  | _, _ => .stuck
theorem RepL.set {K : Fg} {F : Hp} {m : List Addr} {d : D} {v : V} : ∀ {ds : List D} {vs : List V} (j : Nat), RepL K F m ds vs → Rep K F m d v → RepL K F m (ds.set j d) (vs.set j v)
  | [], vs, _, r, _ => by
    unfold RepL at r
    rw [r]
    exact RepL.nil
  | x :: ds, vs, 0, r, h => by
    unfold RepL at r
    obtain ⟨u, w, h1, h2, h3⟩ := r
    rw [h1]
    exact RepL.cons h h3
  | x :: ds, vs, j + 1, r, h => by
    unfold RepL at r
    obtain ⟨u, w, h1, h2, h3⟩ := r
    rw [h1]
    exact RepL.cons h2 (RepL.set j h3 h)
theorem ds_setix {o i e : Expr} {mo mi me : M D} {mc : M (Out τ β)} {tpos : Pos} (he : DE X W env e me) (ho : DE X W env o mo) (hi : DE X W env i mi) (hx : EnvLe ex env) (hr : DS X W ex env mk lp rest mc)
    (hs : swapsWithSole [.Subscript o i tpos] e pos.line X.env = pure false := by rfl) (hw : swappedStores [.Subscript o i tpos] e X.env = pure none := by rfl) (h1 : (assignEach [.Subscript o i tpos] X.env).map (·.2) = [assign (.Subscript o i tpos) X.env] := by rfl)
    (ha : ∀ v, assign (.Subscript o i tpos) X.env v = (do
      let ov ← holding [v] (eval o X.env)
      let iv ← holding [v, ov] (eval i X.env)
      standAt tpos
      holding [v, ov, iv] (setItem ov iv v)
      release [v, ov, iv] []) := by intro _; rfl) :
    DS X W ex env mk lp (.Assign [.Subscript o i tpos] e pos :: rest) (do let v ← me; let x ← mo; let y ← mi; let _ ← setIxM x y v; mc) :=
  PSs.from (pss_cons (ps_asg he (pg_sub ho hi set_list ha) hs hw h1) hr) fun Dn σ H ⟨fr, F, m, ah, s, er, q⟩ =>
    TO.step s er hx q fun F1 m1 ah1 d1 v1 H1 e1 s1 er1 r1 k1 => TO.step s1 er1 hx k1 fun F2 m2 ah2 d2 v2 H2 e2 s2 er2 r2 k2 => TO.step s2 er2 hx k2 fun F3 m3 ah3 d3 v3 H3 e3 s3 er3 r3 k3 => by
      rw [bind_def] at k3
      unfold setIxM at k3
      obtain ⟨n, k, hd2, hd3⟩ : ∃ n k, d2 = .ref n ∧ d3 = .int k := by
        cases d2 <;> cases d3 <;> first | exact ⟨_, _, rfl, rfl⟩ | exact k3.elim
      subst hd2 hd3
      obtain ⟨xs, hc⟩ : ∃ xs, ah3[n]? = some (.lst xs) := by
        cases hc : ah3[n]? with
        | none =>
          simp only [hc] at k3
          exact k3.elim
        | some c =>
          cases c <;> simp only [hc] at k3 <;> first | exact ⟨_, rfl⟩ | exact k3.elim
      simp only [hc] at k3
      cases hj : ixN xs.length k with
      | none =>
        rw [hj] at k3
        exact k3.elim
      | some j =>
        rw [hj] at k3
        have r2 := Rep.ext e3 _ _ r2
        have r1 := Rep.ext (e2.trans e3) _ _ r1
        unfold Rep at r2 r3
        obtain ⟨a, ha, hva⟩ := r2
        obtain ⟨a', q', ok⟩ := s3.cells n _ hc
        rw [ha] at q'
        cases q'
        obtain ⟨fa, vs, hv, rv⟩ := ok
        refine ⟨a, vs, k, j, hva, r3, hv, by rw [RepL.length rv]; exact hj, fr, F3, m3, _, s3.write (c' := .lst (xs.set j d1)) hc ha rfl ⟨fa, _, upd_same, RepL.set j rv r1⟩, er3, k3⟩
/-! ### a op b op c as a test -/
theorem gt_ok : OpD X (rI0 fun i j => .bl (decide (j < i))) gtM := int2_ok fun _ _ _ _ _ => Rep.bl
end
/-! ### what stands of a def; a def that keeps its promise -/
structure Dfn (K : Fg) (mg : Str → Option Value) (x qual : Str) (st : Stmt) (ps : List Str) : Prop where
  ex : ∃ (f : Addr) (fd : FuncData), Fun K x qual st f fd ∧ mg x = some (.ref f) ∧ PySem.W.keepIn K (.ref f) = true ∧ Binds K fd ps []
structure Cal (P : Program) (w : World) (K : Fg) (mg : Str → Option Value) (base : Heap) (x : Str) (k n : Nat) (g : List D → M D) : Prop where
  ex : ∃ (f : Addr) (fd : FuncData) (ps : List Str), FnOk P w K mg base (L2N.CX P w) k f fd ps (spD K mg n g) ∧ mg x = some (.ref f) ∧ PySem.W.keepIn K (.ref f) = true ∧ Binds K fd ps []
theorem Dfn.cal {P : Program} {w : World} {K : Fg} {mg : Str → Option Value} {base : Heap} {x qual : Str} {st : Stmt} {ps : List Str} {k n : Nat} {g : List D → M D} (D : Dfn K mg x qual st ps)
    (h : ∀ (f : Addr) (fd : FuncData), Fun K x qual st f fd → FnOk P w K mg base (L2N.CX P w) k f fd ps (spD K mg n g)) : Cal P w K mg base x k n g := by
  obtain ⟨f, fd, F, hm, hk, hb⟩ := D.ex
  exact ⟨f, fd, ps, h f fd F, hm, hk, hb⟩
section
variable {X : Cx} {W : WX} {env : Env} {pos : Pos} {k : Nat} {x : Str} {p : Pos}
theorem de_c1 {ex1 : Expr} {mm1 : M D} {g : D → M D} (C : Cal X.prog X.w X.K X.mg X.base x k 1 (app1 g)) (hr : Room k X.A) (tk : L2N.Takes X W) (hh1 : DE X W env ex1 mm1)
    (hg : Gl X x := by rfl) (hdb : (x == ("__debug__" : Str)) = false := by decide) (ss1 : starEach [ex1] X.env = (false, eval ex1 X.env) :: starEach [] X.env := by rfl) (hpl : (backTo pos (starEach [] X.env)).any (·.1) = false := by rfl) :
    DE X W env (.Call (.Name x p) [ex1] [] pos) (do let x1 ← mm1; g x1) := by
  obtain ⟨f, fd, ps, G, hm, hk, hb⟩ := C.ex
  exact de_call1 G hr hm hk hb tk hh1 hg hdb ss1 hpl
theorem de_c2 {ex1 ex2 : Expr} {mm1 mm2 : M D} {g : D → D → M D} (C : Cal X.prog X.w X.K X.mg X.base x k 2 (app2 g)) (hr : Room k X.A) (tk : L2N.Takes X W) (hh1 : DE X W env ex1 mm1) (hh2 : DE X W env ex2 mm2)
    (hg : Gl X x := by rfl) (hdb : (x == ("__debug__" : Str)) = false := by decide) (ss1 : starEach [ex1, ex2] X.env = (false, eval ex1 X.env) :: starEach [ex2] X.env := by rfl) (ss2 : starEach [ex2] X.env = (false, eval ex2 X.env) :: starEach [] X.env := by rfl) (hpl : (backTo pos (starEach [ex2] X.env)).any (·.1) = false := by rfl) :
    DE X W env (.Call (.Name x p) [ex1, ex2] [] pos) (do let x1 ← mm1; let x2 ← mm2; g x1 x2) := by
  obtain ⟨f, fd, ps, G, hm, hk, hb⟩ := C.ex
  exact de_call2 G hr hm hk hb tk hh1 hh2 hg hdb ss1 ss2 hpl
theorem de_p2 {ex1 ex2 : Expr} {mm1 mm2 : M D} {g : D → D → M D} (C : Cal X.prog X.w X.K X.mg X.base x k 2 (app2 g)) (hr : Room k X.A) (tk : L2N.Takes X W) (hh1 : DE X W env ex1 mm1) (hh2 : DE X W env ex2 mm2)
    (hg : Gl X x := by rfl) (hdb : (x == ("__debug__" : Str)) = false := by decide) (ss1 : starEach [ex1, ex2] X.env = (false, eval ex1 X.env) :: starEach [ex2] X.env := by rfl) (ss2 : starEach [ex2] X.env = (false, eval ex2 X.env) :: starEach [] X.env := by rfl) (hpl : (backTo pos (starEach [ex2] X.env)).any (·.1) = false := by rfl) :
    DE X W env (.Call (.Name x p) [ex1, ex2] [] pos) (do let x1 ← mm1; let x2 ← mm2; pcallM (app2 g) [x1, x2]) := by
  obtain ⟨f, fd, ps, G, hm, hk, hb⟩ := C.ex
  exact de_pcall2 G hr hm hk hb tk hh1 hh2 hg hdb ss1 ss2 hpl
theorem de_c4 {ex1 ex2 ex3 ex4 : Expr} {mm1 mm2 mm3 mm4 : M D} {g : D → D → D → D → M D} (C : Cal X.prog X.w X.K X.mg X.base x k 4 (app4 g)) (hr : Room k X.A) (tk : L2N.Takes X W) (hh1 : DE X W env ex1 mm1) (hh2 : DE X W env ex2 mm2) (hh3 : DE X W env ex3 mm3) (hh4 : DE X W env ex4 mm4)
    (hg : Gl X x := by rfl) (hdb : (x == ("__debug__" : Str)) = false := by decide) (ss1 : starEach [ex1, ex2, ex3, ex4] X.env = (false, eval ex1 X.env) :: starEach [ex2, ex3, ex4] X.env := by rfl) (ss2 : starEach [ex2, ex3, ex4] X.env = (false, eval ex2 X.env) :: starEach [ex3, ex4] X.env := by rfl) (ss3 : starEach [ex3, ex4] X.env = (false, eval ex3 X.env) :: starEach [ex4] X.env := by rfl) (ss4 : starEach [ex4] X.env = (false, eval ex4 X.env) :: starEach [] X.env := by rfl) (hpl : (backTo pos (starEach [ex2, ex3, ex4] X.env)).any (·.1) = false := by rfl) :
    DE X W env (.Call (.Name x p) [ex1, ex2, ex3, ex4] [] pos) (do let x1 ← mm1; let x2 ← mm2; let x3 ← mm3; let x4 ← mm4; g x1 x2 x3 x4) := by
  obtain ⟨f, fd, ps, G, hm, hk, hb⟩ := C.ex
  exact de_call4 G hr hm hk hb tk hh1 hh2 hh3 hh4 hg hdb ss1 ss2 ss3 ss4 hpl
end
/-! ### the law's end -/
end Lw
/-! SimI: a def's facts, the law's end. -/
namespace Lw
open PySem L2
theorem dfn_mk {K : Fg} {h : Heap} {mg : Str → Option Value} {x qual : Str} {st : Stmt} {ps : List Str} {f : Addr} {od an : Option Addr} {sl : Array (Option Value)} {oc kV dc pm cd ct : Value}
    (b : ∀ (kV doc pm : Value) (an : Option Addr) (cdv ct : Value) (us : List Value), us.length = ps.length → bindArgs (PySem.W.fnOf x qual (defArgs st) (defBody st) (defScope st) .none kV doc pm an cdv ct) ⟨us, []⟩ = pure (ps.zip us))
    (X : K.In h) (G : h.Ns mainGlobals mg) (a : PySem.W.nsIn K mainGlobals x = some (some (.ref f)))
    (l : K.lookup f = some ⟨oc, od, .func (PySem.W.fnOf x qual (defArgs st) (defBody st) (defScope st) .none kV dc pm an cd ct), sl⟩)
    (c : PySem.W.codeIn K cd qual = true) (k : PySem.W.keepIn K (.ref f) = true) : Dfn K mg x qual st ps :=
  ⟨⟨f, _, fun_mk l c k, PySem.W.mg_of X G a, k, (fun_mk l c k).binds b⟩⟩
end Lw
/-! SimJ: plain computations are run: rows to reckon with. -/
namespace Lw
open PySem L2
section
end
/-! ### ints, truths -/
section
variable {h : AH} {i j : Int}
theorem int2c_run {c : Int → Int → Bool} {f : Int → Int → D} (q : c i j = true) : int2c c f (.int i) (.int j) h = .ok (f i j) h := by
  show (if c i j = true then pure (f i j) else stuck : M D) h = _
  rw [if_pos q]
  rfl
theorem mulM_int (c : i.natAbs.log2 + j.natAbs.log2 < 1000000) : mulM (.int i) (.int j) h = .ok (.int (i * j)) h := int2c_run (decide_eq_true c)
theorem fdivM_int (c : 0 < j) (c2 : j.natAbs.log2 < 9000) : fdivM (.int i) (.int j) h = .ok (.int (i / j)) h := int2c_run (decide_eq_true ⟨c, c2⟩)
theorem modM_int (c : 0 < j) : modM (.int i) (.int j) h = .ok (.int (i % j)) h := int2c_run (decide_eq_true c)
theorem powM_int (c : 0 ≤ j ∧ j ≤ 1000000 ∧ i.natAbs < 2 ^ 64) : powM (.int i) (.int j) h = .ok (.int (i ^ j.toNat)) h := int2c_run (decide_eq_true c)
theorem maxM_int : maxM (.int i) (.int j) h = .ok (.int (max i j)) h := by
  show Res.ok (D.int (if j > i then j else i)) h = _
  congr 2
  by_cases q : j > i
  · rw [if_pos q]
    omega
  · rw [if_neg q]
    omega
theorem minM_int : minM (.int i) (.int j) h = .ok (.int (min i j)) h := by
  show Res.ok (D.int (if j < i then j else i)) h = _
  congr 2
  by_cases q : j < i
  · rw [if_pos q]
    omega
  · rw [if_neg q]
    omega
end
/-! ### lists, tuples -/
section
variable {h : AH} {xs ys : List D} {n : Nat} {i : Int} {d e : D}
theorem tupM_run (l : xs.length ≤ 1000000) : tupM xs h = .ok (.tup xs) h := by
  unfold tupM lenOk
  rw [if_pos (decide_eq_true (Nat.le_trans l (by decide)))]
  rfl
theorem lstM_run (l : xs.length ≤ 1000000) : lstM xs h = .ok (.lst xs) h := by
  unfold lstM lenOk
  rw [if_pos (decide_eq_true (Nat.le_trans l (by decide)))]
  rfl
theorem lstH_run (l : xs.length ≤ 1000000) : lstH xs h = .ok (.ref h.length) (h ++ [.lst xs]) := by
  unfold lstH lenOk
  rw [if_pos (decide_eq_true (Nat.le_trans l (by decide)))]
  rfl
theorem ixM_lst (e : atI xs i = some d) : ixM (.lst xs) (.int i) h = .ok d h := by
  unfold ixM lstOf
  simp only [e]
theorem ixM_ref (q : h[n]? = some (.lst xs)) (e : atI xs i = some d) : ixM (.ref n) (.int i) h = .ok d h := by
  unfold ixM lstOf
  simp only [q, e]
theorem atI_nat {α : Type} {xs : List α} {i : Nat} {x : α} (e : xs[i]? = some x) : atI xs (i : Int) = some x := by
  have hl := (List.getElem?_eq_some_iff.mp e).1
  unfold atI ixN
  rw [if_pos (by omega), if_pos (by omega)]
  show xs[(i : Int).toNat]? = _
  rw [Int.toNat_natCast]
  exact e
theorem atI_pos {α : Type} {xs : List α} {i : Int} {x : α} (h0 : 0 ≤ i) (e : xs[i.toNat]? = some x) : atI xs i = some x := by
  obtain ⟨n, rfl⟩ := Int.eq_ofNat_of_zero_le h0
  exact atI_nat (by simpa using e)
theorem atI_last {α : Type} {xs : List α} {x : α} : atI (xs ++ [x]) (-1) = some x := by
  unfold atI ixN
  rw [if_neg (by omega), if_pos (by rw [List.length_append, List.length_singleton]; omega)]
  show (xs ++ [x])[((-1 : Int) + ((xs ++ [x]).length : Nat)).toNat]? = _
  rw [List.length_append, List.length_singleton, show ((-1 : Int) + ((xs.length + 1 : Nat) : Int)).toNat = xs.length by omega]
  simp
theorem lchk_ref (e : h[n]? = some (.lst xs)) : lchk (.ref n) h = .ok () h := by
  unfold lchk lstOf
  simp only [e]
theorem appendM_ref (e : h[n]? = some (.lst xs)) (l : xs.length < 1000000) : appendM (.ref n) d h = .ok .non (h.set n (.lst (xs ++ [d]))) := by
  unfold appendM onLst lenOk
  simp only [e]
  rw [if_pos (decide_eq_true (Nat.le_trans (show xs.length + 1 ≤ 1000000 by omega) (by decide)))]
theorem setIxM_pos {v : D} {xs : List D} {i : Int} (q : h[n]? = some (.lst xs)) (h0 : 0 ≤ i) (h1 : i < xs.length) : setIxM (.ref n) (.int i) v h = .ok () (h.set n (.lst (xs.set i.toNat v))) := by
  unfold setIxM
  simp only [q]
  have z : ixN xs.length i = some i.toNat := by
    unfold ixN
    rw [if_pos h0, if_pos h1]
  rw [z]
theorem freezeM_ref (e : h[n]? = some (.lst xs)) : freezeM (.ref n) h = .ok (.lst xs) (h.set n .dead) := by
  unfold freezeM
  simp only [e]
theorem rng1M_run {j : Int} (a : -(2 ^ 62) ≤ j) (b : j < 2 ^ 62) : rng1M [.int j] h = .ok (rangeD 0 j.toNat) h := by
  show (if -(2 ^ 62) ≤ j ∧ j < 2 ^ 62 then pure (rangeD 0 j.toNat) else stuck : M (List D)) h = _
  rw [if_pos ⟨a, b⟩]
  rfl
theorem addM_lst (l : xs.length + ys.length ≤ 1000000) : addM (.lst xs) (.lst ys) h = .ok (.lst (xs ++ ys)) h := by
  unfold addM lenOk lstOf
  simp only []
  rw [if_pos (decide_eq_true (Nat.le_trans l (by decide)))]
theorem addM_str {x y : Str} (l : x.length + y.length ≤ 1000000) : addM (.str x) (.str y) h = .ok (.str (x ++ y)) h := by
  unfold addM lenOk
  simp only []
  rw [if_pos (decide_eq_true (Nat.le_trans l (by decide)))]
/-! comprehensions -/
/-! calls -/
theorem noRefs_map {α : Type} {u : α → D} {zs : List α} (q : ∀ x, noRef (u x) = true) : noRefs (zs.map u) = true := by
  induction zs with
  | nil => rfl
  | cons a r ih =>
    show (noRef (u a) && noRefs (r.map u)) = true
    rw [q a, ih]
    rfl
theorem noRef_lst : noRef (.lst xs) = noRefs xs := by rw [noRef]
theorem noRef_int : noRef (.int i) = true := by simp [noRef]
theorem noRefs_nil : noRefs [] = true := (rfl)
theorem noRefs_cons : noRefs (d :: xs) = (noRef d && noRefs xs) := (rfl)
end
/-! ### == of data without truths -/
mutual
def nb : Nat → D → Bool
  | _, .non => true
  | _, .int _ => true
  | _, .str x => PyData.strOk x
  | n + 1, .tup xs => nbs n xs
  | n + 1, .lst xs => nbs n xs
  | _, _ => false
def nbs : Nat → List D → Bool
  | _, [] => true
  | n, d :: ds => nb n d && nbs n ds
end
mutual
theorem flat_nb : ∀ (n : Nat) (d : D), nb n d = true → flatD 0 d = true ∧ PyData.canLay0 (toP d) = true ∧ (toP d).depth ≤ n
  | n, .non, _ => ⟨rfl, rfl, Nat.zero_le _⟩
  | n, .int _, _ => ⟨rfl, rfl, Nat.zero_le _⟩
  | n, .str x, h => ⟨rfl, (by cases n <;> exact h), Nat.zero_le _⟩
  | 0, .tup xs, h => by
    unfold nb at h
    cases h
  | 0, .lst xs, h => by
    unfold nb at h
    cases h
  | n + 1, .tup xs, h => by
    unfold nb at h
    obtain ⟨a, b, c⟩ := flats_nb n xs h
    refine ⟨?_, ?_, ?_⟩
    · unfold flatD
      exact a
    · unfold toP PyData.canLay0
      exact b
    · unfold toP PyData.depth
      omega
  | n + 1, .lst xs, h => by
    unfold nb at h
    obtain ⟨a, b, c⟩ := flats_nb n xs h
    refine ⟨?_, ?_, ?_⟩
    · unfold flatD
      exact a
    · unfold toP PyData.canLay0
      exact b
    · unfold toP PyData.depth
      omega
  | n, .bl _, h => by
    cases n <;> (unfold nb at h; cases h)
  | n, .ref _, h => by
    cases n <;> (unfold nb at h; cases h)
  | n, .exn _ _, h => by
    cases n <;> (unfold nb at h; cases h)
  | n, .emp, h => by
    cases n <;> (unfold nb at h; cases h)
theorem flats_nb : ∀ (n : Nat) (ds : List D), nbs n ds = true → flatDs 0 ds = true ∧ PyData.canLayAll0 (toPs ds) = true ∧ PyData.depthAll (toPs ds) ≤ n
  | n, [], _ => ⟨rfl, rfl, Nat.zero_le _⟩
  | n, d :: ds, h => by
    unfold nbs at h
    rw [Bool.and_eq_true] at h
    obtain ⟨a, b, c⟩ := flat_nb n d h.1
    obtain ⟨a2, b2, c2⟩ := flats_nb n ds h.2
    refine ⟨?_, ?_, ?_⟩
    · unfold flatDs
      rw [a, a2]
      rfl
    · unfold toPs PyData.canLayAll0
      rw [b, b2]
      rfl
    · unfold toPs PyData.depthAll
      omega
end
theorem okD_nb {n : Nat} {d : D} (h : nb n d = true) (hn : n ≤ 64) : okD d = true := by
  obtain ⟨a, b, c⟩ := flat_nb n d h
  unfold okD SeqAt.shaped
  rw [a, b, decide_eq_true (by omega)]
  rfl
mutual
theorem eqv_nb : ∀ (n m : Nat) (a b : D), nb n a = true → nb m b = true → (PyData.eqv (toP a) (toP b) = true ↔ a = b)
  | n, m, a, b, h, k => by
    cases a with
    | non => cases b <;> simp [toP, PyData.eqv] <;> (cases m <;> (unfold nb at k; cases k))
    | int i => cases b <;> simp [toP, PyData.eqv] <;> (cases m <;> (unfold nb at k; cases k))
    | str i => cases b <;> simp [toP, PyData.eqv] <;> (cases m <;> (unfold nb at k; cases k))
    | bl _ => cases n <;> (unfold nb at h; cases h)
    | ref _ => cases n <;> (unfold nb at h; cases h)
    | exn _ _ => cases n <;> (unfold nb at h; cases h)
    | emp => cases n <;> (unfold nb at h; cases h)
    | tup xs =>
      cases b with
      | tup ys =>
        cases n with
        | zero => unfold nb at h; cases h
        | succ n =>
          cases m with
          | zero => unfold nb at k; cases k
          | succ m =>
            unfold nb at h k
            have z := eqvs_nb n m xs ys h k
            unfold toP PyData.eqv
            rw [z]
            exact ⟨fun e => by rw [e], fun e => by cases e; rfl⟩
      | non => simp [toP, PyData.eqv]
      | int _ => simp [toP, PyData.eqv]
      | str _ => simp [toP, PyData.eqv]
      | lst _ => simp [toP, PyData.eqv]
      | bl _ => cases m <;> (unfold nb at k; cases k)
      | ref _ => cases m <;> (unfold nb at k; cases k)
      | exn _ _ => cases m <;> (unfold nb at k; cases k)
      | emp => cases m <;> (unfold nb at k; cases k)
    | lst xs =>
      cases b with
      | lst ys =>
        cases n with
        | zero => unfold nb at h; cases h
        | succ n =>
          cases m with
          | zero => unfold nb at k; cases k
          | succ m =>
            unfold nb at h k
            have z := eqvs_nb n m xs ys h k
            unfold toP PyData.eqv
            rw [z]
            exact ⟨fun e => by rw [e], fun e => by cases e; rfl⟩
      | non => simp [toP, PyData.eqv]
      | int _ => simp [toP, PyData.eqv]
      | str _ => simp [toP, PyData.eqv]
      | tup _ => simp [toP, PyData.eqv]
      | bl _ => cases m <;> (unfold nb at k; cases k)
      | ref _ => cases m <;> (unfold nb at k; cases k)
      | exn _ _ => cases m <;> (unfold nb at k; cases k)
      | emp => cases m <;> (unfold nb at k; cases k)
theorem eqvs_nb : ∀ (n m : Nat) (a b : List D), nbs n a = true → nbs m b = true → (PyData.eqvAll (toPs a) (toPs b) = true ↔ a = b)
  | n, m, [], [], _, _ => by simp [toPs, PyData.eqvAll]
  | n, m, [], y :: ys, _, _ => by simp [toPs, PyData.eqvAll]
  | n, m, x :: xs, [], _, _ => by simp [toPs, PyData.eqvAll]
  | n, m, x :: xs, y :: ys, h, k => by
    unfold nbs at h k
    rw [Bool.and_eq_true] at h k
    have e1 := eqv_nb n m x y h.1 k.1
    have e2 := eqvs_nb n m xs ys h.2 k.2
    unfold toPs PyData.eqvAll
    rw [Bool.and_eq_true, e1, e2]
    exact ⟨fun ⟨a, b⟩ => by rw [a, b], fun e => by cases e; exact ⟨rfl, rfl⟩⟩
end
theorem lstOf_look {h : AH} {a : D} {xs : List D} (e : lstOf h a = some xs) : lookD h a = .lst xs := by
  cases a <;> try (cases e; done)
  · rename_i n
    unfold lstOf at e
    unfold lookD
    cases hc : h[n]? with
    | none =>
      simp only [hc] at e
      cases e
    | some c =>
      cases c <;> simp only [hc] at e ⊢ <;> try (cases e; done)
      cases e
      rfl
  · cases e
    rfl
theorem eqP_t {h : AH} {a b : D} {k : Bool} (e : lookD h a = lookD h b) (p : eqP h a b = some k) : k = true := by
  unfold eqP at p
  split at p
  · cases p
    exact decide_eq_true (D.str.inj e)
  · split at p
    · rename_i xs ys h1 h2
      rw [lstOf_look h1, lstOf_look h2] at e
      rw [if_pos (by rw [D.lst.inj e])] at p
      cases p
    · cases p
theorem eqP_f {h : AH} {a b : D} {k : Bool} (e : lookD h a ≠ lookD h b) (p : eqP h a b = some k) : k = false := by
  unfold eqP at p
  split at p
  · cases p
    exact decide_eq_false fun z => e (by rw [z])
  · split at p
    · rename_i xs ys h1 h2
      split at p
      · cases p
      · cases p
        rfl
    · cases p
theorem eqM_eq {a b : D} {h : AH} (ha : nb 60 (lookD h a) = true) (hb : nb 60 (lookD h b) = true) (e : lookD h a = lookD h b) : eqM a b h = .ok (.bl true) h := by
  unfold eqM
  cases hp : eqP h a b with
  | some k => simp only [eqP_t e hp]
  | none =>
    simp only
    rw [okD_nb ha (by decide), okD_nb hb (by decide), (eqv_nb 60 60 _ _ ha hb).mpr e]
    rfl
theorem eqM_ne {a b : D} {h : AH} (ha : nb 60 (lookD h a) = true) (hb : nb 60 (lookD h b) = true) (e : lookD h a ≠ lookD h b) : eqM a b h = .ok (.bl false) h := by
  unfold eqM
  have z : PyData.eqv (toP (lookD h a)) (toP (lookD h b)) = false := by
    cases q : PyData.eqv (toP (lookD h a)) (toP (lookD h b)) with
    | false => rfl
    | true => exact absurd ((eqv_nb 60 60 _ _ ha hb).mp q) e
  cases hp : eqP h a b with
  | some k => simp only [eqP_f e hp]
  | none =>
    simp only
    rw [okD_nb ha (by decide), okD_nb hb (by decide), z]
    rfl
theorem neM_eq {a b : D} {h : AH} (ha : nb 60 (lookD h a) = true) (hb : nb 60 (lookD h b) = true) (e : lookD h a = lookD h b) : neM a b h = .ok (.bl false) h := by
  unfold neM
  cases hp : eqP h a b with
  | some k => simp only [eqP_t e hp, Bool.not_true]
  | none =>
    simp only
    rw [okD_nb ha (by decide), okD_nb hb (by decide), (eqv_nb 60 60 _ _ ha hb).mpr e]
    rfl
theorem neM_ne {a b : D} {h : AH} (ha : nb 60 (lookD h a) = true) (hb : nb 60 (lookD h b) = true) (e : lookD h a ≠ lookD h b) : neM a b h = .ok (.bl true) h := by
  unfold neM
  have z : PyData.eqv (toP (lookD h a)) (toP (lookD h b)) = false := by
    cases q : PyData.eqv (toP (lookD h a)) (toP (lookD h b)) with
    | false => rfl
    | true => exact absurd ((eqv_nb 60 60 _ _ ha hb).mp q) e
  cases hp : eqP h a b with
  | some k => simp only [eqP_f e hp, Bool.not_false]
  | none =>
    simp only
    rw [okD_nb ha (by decide), okD_nb hb (by decide), z]
    rfl
theorem eqM_int {i j : Int} {h : AH} : eqM (.int i) (.int j) h = .ok (.bl (decide (i = j))) h := by
  by_cases e : i = j
  · rw [eqM_eq (by rfl) (by rfl) (by rw [e]), decide_eq_true e]
  · rw [eqM_ne (by rfl) (by rfl) (fun z => e (by cases z; rfl)), decide_eq_false e]
theorem neM_int {i j : Int} {h : AH} : neM (.int i) (.int j) h = .ok (.bl (decide (i ≠ j))) h := by
  by_cases e : i = j
  · rw [neM_eq (by rfl) (by rfl) (by rw [e]), decide_eq_false (by simpa using e)]
  · rw [neM_ne (by rfl) (by rfl) (fun z => e (by cases z; rfl)), decide_eq_true e]
end Lw
/-! SimK: isinstance, int, str, in, list(range), {}. -/
namespace Lw
open PySem L2
/-! ### isinstance of plain data -/
section
variable {X : Cx} {fr : Fm} {W : WX} {σ : St} {F H : Hp} {m : List Addr} {ah : AH} {env : Env} {pos : Pos}
/-! ### int(x), str(x) -/
theorem callR_or {X : Cx} {f : Value} {r r' : List V → Hp → VK → Prop} (h : CallR X f r) (h' : CallR X f r') : CallR X f (fun xs H Q => r xs H Q ∨ r' xs H Q) := by
  intro pins s σ H xs us Q I rr q
  rcases q with q | q
  · exact h pins s σ H xs us Q I rr q
  · exact h' pins s σ H xs us Q I rr q
def intM (d : D) : M D := fun h => match d with
  | .int i => .ok (.int i) h
  | .bl b => .ok (.int (if b = true then 1 else 0)) h
  | .str z => (match PySem.intText? z with
    | some n => if z.length ≤ 640 then .ok (.int n) h else .stuck
    | none => .stuck)
  | _ => .stuck
theorem int1_ok : ClD X (fun xs H Q => ((∃ i, xs = [.int i] ∧ Q (.int i) H) ∨ ∃ k, xs = [.bl k] ∧ Q (.int (if k then 1 else 0)) H) ∨ ∃ a n, xs = [.str a] ∧ PySem.intText? a = some n ∧ a.length ≤ 640 ∧ Q (.int n) H) (ap1 intM) := ap1_ok fun fr W σ F m ah H d v Q s r k => by
  unfold intM at k
  cases d <;> try exact k.elim
  · unfold Rep at r
    subst r
    exact .inl (.inr ⟨_, rfl, TK.val k s Rep.int⟩)
  · unfold Rep at r
    subst r
    exact .inl (.inl ⟨_, rfl, TK.val k s Rep.int⟩)
  · rename_i z
    unfold Rep at r
    subst r
    cases hz : PySem.intText? z with
    | none =>
      simp only [hz] at k
      exact k.elim
    | some n =>
      simp only [hz] at k
      by_cases c : z.length ≤ 640
      · rw [if_pos c] at k
        exact .inr ⟨z, n, rfl, hz, c, TK.val k s Rep.int⟩
      · rw [if_neg c] at k
        exact k.elim
theorem de_intf {e : Expr} {me : M D} {p : Pos} (hm : X.mg "int" = none) (ha : DE X W env e me) (hg : Gl X "int" := by rfl) (he : starEach [e] X.env = [(false, eval e X.env)] := by rfl) (hpl : (backTo pos (starEach [] X.env)).any (·.1) = false := by rfl) :
    DE X W env (.Call (.Name "int" p) [e] [] pos) (do let x ← me; intM x) := de_t1 (callR_or call_int1 call_int_str) int1_ok hm (by decide +kernel) ha hg (by decide) (by decide) he hpl
def strM (d : D) : M D := fun h => match d with
  | .int i => if i.natAbs.log2 < 1920 then .ok (.str (toString i)) h else .stuck
  | .str z => .ok (.str z) h
  | _ => .stuck
/-! ### in -/
/-! ### list(range(a, b)), tuple(range(a, b)) -/
def lrgM (mk : List D → D) (x y : D) : M D := fun h => match x, y with
  | .int i, .int j => if (-(2 ^ 62) ≤ i ∧ i < 2 ^ 62) ∧ (-(2 ^ 62) ≤ j ∧ j < 2 ^ 62) ∧ (j - i).toNat ≤ 2 ^ 24 then .ok (mk (rangeD i (j - i).toNat)) h else .stuck
  | _, _ => .stuck
theorem repl_rg {K : Fg} {F : Hp} {m : List Addr} (i : Int) : ∀ n : Nat, RepL K F m (rangeD i n) ((List.range n).map fun k => V.int (i + (k : Nat)))
  | 0 => RepL.nil
  | n + 1 => by
    unfold rangeD
    rw [List.range_succ, List.map_append, List.map_append]
    exact RepL.append (repl_rg i n) (RepL.cons Rep.int RepL.nil)
/-! ### {} -/
end
end Lw
/-! SimL: errors that are caught. -/
namespace Lw
open PySem L2
/-- what the name T of a class stands for -/
def TVal (mg : Str → Option Value) (T : Str) (cv : Value) : Prop := mg T = some cv ∨ (mg T = none ∧ bootBuiltins T = some cv ∧ T ≠ ("__name__" : Str))
theorem TVal.fn {mg : Str → Option Value} {T : Str} {a b : Value} (h : TVal mg T a) (k : TVal mg T b) : a = b := by
  rcases h with h | ⟨h, h2, _⟩ <;> rcases k with k | ⟨k, k2, _⟩
  · exact Option.some.inj (h.symm.trans k)
  · rw [h] at k
    cases k
  · rw [h] at k
    cases k
  · exact Option.some.inj (h2.symm.trans k2)
/-- isE z T: is the class z one of T's; what stands for it -/
structure ExF (K : Fg) (mg : Str → Option Value) (isE : Str → Str → Option Bool) : Prop where
  ok : ∀ z T b, isE z T = some b → ∀ C, mg z = some (.ref C) → ExcC K C ∧ ∃ v cv, RelV v cv ∧ (∀ u, RelV v u → u = cv) ∧ TVal mg T cv ∧ PySem.W.kitOne K (.ref C) cv = some b ∧ PySem.W.exmOne K (.ref C) cv = some b
/-- the body, or what is done where it ends by such an error -/
def tryM {τ β : Type} (c : Str → Option Bool) (mb : M (Out τ β)) (hM : Str → M (Out τ β)) : M (Out τ β) := fun ah => match mb ah with
  | .exc x a => (match c x with
    | some true => noexM (hM x) a
    | some false => .exc x a
    | none => .stuck)
  | r => r
section
variable {X : Cx} {W : WX} {ex exB env : Env} {pos pos' np : Pos} {τ τ' β : Type} {mk : τ → Env} {mk' : τ' → Env} {lp : β → Env} {rest body suite : List Stmt} {b₀ : Stmt} {x : Str} {c : Value}
/-- behind the body of a try -/
theorem try_from {cf : Str → Option Bool} {mb : M (Out τ' β)} {hM : Str → M (Out τ' β)} {k : τ' → M (Out τ β)} {Wb : WX} {Dn Dh : Ends} {K : Fg} {mg : Str → Option Value} {fr : Fm} {F : Hp} {m : List Addr} {ah : AH}
    (hx : EnvLe ex exB)
    (hDn : Dh = { Dn with nx := fun σ' H' => ∃ t, TB K mg W ex (mk' t) mk lp (k t) Dn σ' H' })
    (hW : ∀ z C b, cf z = some b → mg z = some (.ref C) → ∀ σ' H', (b = true → TB K mg W0 ex exB mk' lp (hM z) Dh σ' H') → (b = false → W (.ref C) none σ' H') → Wb (.ref C) none σ' H')
    (h : TO K mg fr W ex mk lp F m ((obind (tryM cf mb hM) k) ah) Dn) : TO K mg fr Wb exB mk' lp F m (mb ah) Dh := by
  have h : TO K mg fr W ex mk lp F m (ores k (tryM cf mb hM ah)) Dn := h
  unfold tryM at h
  cases hm : mb ah with
  | ok o a =>
    simp only [hm] at h
    subst hDn
    cases o with
    | nx t => exact fun F' m' σ' H' e s r => ⟨t, fr, F', m', a, s, r, TO.ext e h⟩
    | ret t => exact h
    | bk t => exact h
    | ct t => exact h
  | stuck =>
    simp only [hm] at h
    exact h
  | exc z a =>
    simp only [hm] at h
    intro F' m' C σ' H' e s r hz
    cases hc : cf z with
    | none =>
      simp only [hc] at h
      exact h.elim
    | some b =>
      cases b with
      | false =>
        simp only [hc] at h
        exact hW z C false hc hz σ' H' (fun q => by cases q) fun _ => h F' m' C σ' H' e s (r.le hx) hz
      | true =>
        simp only [hc] at h
        refine hW z C true hc hz σ' H' (fun _ => ⟨fr, F', m', a, s, r, ?_⟩) fun q => by cases q
        have h := TO.ext e h
        unfold noexM at h
        subst hDn
        cases hh : hM z a with
        | ok o a2 =>
          rw [hh] at h
          cases o with
          | nx t => exact fun F2 m2 σ2 H2 e2 s2 r2 => ⟨t, fr, F2, m2, a2, s2, r2, TO.ext e2 h⟩
          | ret t => exact h
          | bk t => exact h
          | ct t => exact h
        | exc _ _ =>
          rw [hh] at h
          exact h.elim
        | stuck =>
          rw [hh] at h
          exact h.elim
theorem EnvRep.unset {K : Fg} {F : Hp} {m : List Addr} {env : Env} {σ : St} {i : Nat} (h : EnvRep K F m env σ) (hn : ∀ d, env[i]? ≠ some (some d)) : EnvRep K F m env (σ.set i none) := ⟨by rw [List.length_set]; exact h.1, fun j d q => by
  by_cases e : i = j
  · subst e
    exact absurd q (hn d)
  · rw [List.getElem?_set_ne e]
    exact h.2 j d q⟩
theorem TO.unset {K : Fg} {mg : Str → Option Value} {fr : Fm} {F : Hp} {m : List Addr} {r : Res (Out τ' β)} {Dn : Ends} {i : Nat} {Wb : WX} (h1 : ∀ t d, (mk' t)[i]? ≠ some (some d)) (h2 : ∀ t d, (lp t)[i]? ≠ some (some d)) (h : TO K mg fr Wb ex mk' lp F m r Dn) :
    TO K mg fr Wb ex mk' lp F m r { nx := fun σ' H' => Dn.nx (σ'.set i none) H', rt := Dn.rt, bk := fun σ' H' => Dn.bk (σ'.set i none) H', ct := fun σ' H' => Dn.ct (σ'.set i none) H' } := by
  cases r with
  | stuck => exact h
  | exc z a => exact h
  | ok o a =>
    cases o with
    | nx t => exact fun F' m' σ' H' e s r => h F' m' _ H' e s (r.unset (h1 t))
    | ret d => exact h
    | bk t => exact fun F' m' σ' H' e s r => h F' m' _ H' e s (r.unset (h2 t))
    | ct t => exact fun F' m' σ' H' e s r => h F' m' _ H' e s (r.unset (h2 t))
/-- try: body; except x as n: suite -/
theorem ds_tryas (i : Nat) {n : Str} {cf : Str → Option Bool} {mb : M (Out τ' β)} {hM : Str → M (Out τ' β)} {k : τ' → M (Out τ β)} (hN : X.N.Nodup) (hs : X.stack = X.env :: X.outer) (hf : X.env.frame = some X.env.locals) (hc : Names X x c) (tk : L2N.Takes X W)
    (hcf : ∀ z C b, cf z = some b → X.mg z = some (.ref C) → PySem.W.exmOne X.K (.ref C) c = some b) (hx : EnvLe ex exB) (envS : Str → Addr → Env)
    (hb : ∀ (Wb : WX) (pn : List (Addr × Obj)) (xe : Value → Shared → Prop), L2N.Takes (X.tr pn xe) Wb → PassesOwn (model X.prog X.w) X.A X.env xe → DS (X.tr pn xe) Wb exB env mk' lp body mb)
    (hsu : ∀ (a C : Addr) (oe : Obj) (pn : List (Addr × Obj)) (z : Str), L2N.Zn (.ref C) none oe → (∃ vs, oe.data = .fields vs) → X.mg z = some (.ref C) → DS (X.suite a ((a, oe) :: pn)) W0 ex (envS z a) mk' lp (b₀ :: suite) (hM z))
    (hr : ∀ t, DS X W ex (mk' t) mk lp rest (k t)) (hv : ∀ z a, exB.set i (some (.exn z a)) = envS z a := by intro _ _; rfl)
    (h1 : ∀ t d, (mk' t)[i]? ≠ some (some d) := by intro _ _ q; cases q) (h2 : ∀ t d, (lp t)[i]? ≠ some (some d) := by first | (intro t; exact t.elim) | (intro _ _ q; cases q))
    (hi : X.N[i]? = some n := by rfl) (hln : X.env.kindOf n = some .local := by rfl) :
    DS X W ex env mk lp (.Try body [.ExceptHandler (some (.Name x np)) (some n) (b₀ :: suite) pos'] [] [] pos :: rest) (obind (tryM cf mb hM) k) := by
  refine PSs.from (pss_cons (L2N.ps_try_as (c := c) (i := i) (Wout := W) (tb := fun Wb => TB X.K X.mg Wb exB env mk' lp mb) (ts := fun a cls d Dn σ H => ∃ z C, cls = .ref C ∧ d = none ∧ X.mg z = some (.ref C) ∧ TB X.K X.mg W0 ex (envS z a) mk' lp (hM z) Dn σ H) hs hf hN hi hln hc tk hb
    (fun a oe cls d pn hz hv => ⟨fun pins s σ H D I ⟨z, C, e1, e2, e3, q⟩ => by
      subst e1 e2
      exact (hsu a C oe pn z hz hv e3).run pins s σ H D I q⟩)) (PSs.ex hr)) fun Dn σ H ⟨fr, F, m, ah, s, er, q⟩ => ?_
  refine ⟨fr, F, m, ah, s, er, try_from (W := W) hx rfl ?_ q⟩
  intro z C b g1 g2 σ' H' g3 g4
  refine ⟨b, hcf z C b g1 g2, fun hb a ha => ⟨z, C, rfl, rfl, g2, ?_⟩, g4⟩
  obtain ⟨fr2, F2, m2, ah2, s2, er2, q2⟩ := g3 hb
  refine ⟨fr2, F2, m2, ah2, s2, ?_, TO.unset h1 h2 q2⟩
  rw [← hv z a]
  exact er2.set (by unfold Rep; rfl)
/-- isinstance(e, T) in the suite that holds e -/
def isEZ (isE : Str → Str → Option Bool) (T z : Str) : M D := match isE z T with
  | some b => pure (.bl b)
  | none => stuck
theorem de_isE {isE : Str → Str → Option Bool} {T : Str} {a C : Addr} {oe : Obj} {pn : List (Addr × Obj)} {z : Str} (i : Nat) {n : Str} {p p2 p3 : Pos} (Ex : ExF X.K X.mg isE) (hz : L2N.Zn (.ref C) none oe) (hvs : ∃ vs, oe.data = .fields vs) (hg : X.mg z = some (.ref C)) (hm : X.mg "isinstance" = none)
    (he : env[i]? = some (some (.exn z a)) := by rfl) (hN : X.N[i]? = some n := by rfl) (hv : Vis X.env.scope n := by first | exact Or.inl rfl | exact Or.inr (Or.inl rfl) | exact Or.inr (Or.inr rfl)) (hgi : Gl X "isinstance" := by rfl) (hgT : Gl X T := by rfl)
    (hs : starEach [.Name n p3, .Name T p2] X.env = (false, eval (.Name n p3) X.env) :: starEach [.Name T p2] X.env := by rfl) (hs2 : starEach [.Name T p2] X.env = (false, eval (.Name T p2) X.env) :: starEach [] X.env := by rfl)
    (hpl : (backTo pos (starEach [.Name T p2] X.env)).any (·.1) = false := by rfl) (hdb : (T == ("__debug__" : Str)) = false := by decide) (hd : (n == ("__debug__" : Str)) = false := by decide) (hcd : (n == ("__classdict__" : Str)) = false := by decide) :
    DE (X.suite a ((a, oe) :: pn)) W env (.Call (.Name "isinstance" p) [.Name n p3, .Name T p2] [] pos) (isEZ isE T z) := by
  cases hb : isE z T with
  | none =>
    refine ⟨fun pins s σ H Q I ⟨fr, F, m, ah, S, er, k⟩ => ?_⟩
    have e : isEZ isE T z = stuck := by
      show (match isE z T with | some b => pure (.bl b) | none => stuck : M D) = _
      rw [hb]
    rw [e] at k
    exact k.elim
  | some b =>
    obtain ⟨E, v, cv, r1, r2, tv, k1, k2⟩ := Ex.ok z T b hb C hg
    have pe : PE (X.suite a ((a, oe) :: pn)) (.Name T p2) (tC v) := by
      rcases tv with t | ⟨t1, t2, t3⟩
      · exact pe_glob hgT t r1 hdb
      · exact pe_bltn hgT t1 t2 r1 t3 hdb
    refine PE.from (pe_callB (call_isE E hz.zc hvs) hgi hm (by decide +kernel) (pa_cons (pv i hN hv hd hcd) (pa_cons pe pa_nil hs2) hs) (by decide) (by decide) hs hpl) fun σ H Q ⟨fr, F, m, ah, S, er, k⟩ => ?_
    obtain ⟨u, h1, h2⟩ := er.2 i _ he
    unfold Rep at h2
    subst h2
    have e : isEZ isE T z = pure (.bl b) := by
      show (match isE z T with | some b => pure (.bl b) | none => stuck : M D) = _
      rw [hb]
    rw [e] at k
    exact ⟨_, h1, v, cv, b, rfl, r2, k1, k F m _ H Ext.refl S Rep.bl⟩
end
/-! ### what stands of the classes of errors -/
structure ClF (K : Fg) (mg : Str → Option Value) (z : Str) (C : Addr) : Prop where
  x : XcF K mg z C
  e : ExcC K C
theorem cl_mk {K : Fg} {h : Heap} {mg : Str → Option Value} {z : Str} {C : Addr} (X : K.In h) (G : h.Ns mainGlobals mg) (hn : PySem.W.specialIn K (.builtin "object.__class__") "__get__" = some (some (.builtin "getset_descriptor.__get__"))) (ht : PySem.W.takesIn K (.builtin "object.__class__") = some true)
    (a : PySem.W.nsIn K mainGlobals z = some (some (.ref C))) (q : PySem.W.excIn K C [.type "ValueError", .type "Exception", .type "BaseException", .type "object"] "ValueError.__new__" = true) (k : PySem.W.keepIn K (.ref C) = true) (t : PySem.W.typeIn K (.ref C) = some (.type "type"))
    (b : PySem.W.subIn K (.ref C) (.type "BaseException") = some true) (f1 : PySem.W.findIn K (.ref C) "__getattribute__" = some (some (.builtin "BaseException.__getattribute__"))) (f2 : PySem.W.findIn K (.ref C) "__getattr__" = some none)
    (f3 : PySem.W.findIn K (.ref C) "__class__" = some (some (.builtin "object.__class__"))) (d : PySem.W.hasDictIn K C = true) (m : PySem.W.mroIn K C (.type "object") = some true) : ClF K mg z C :=
  ⟨⟨PySem.W.mg_of X G a, q, k, b, t⟩, f1, f2, b, d, f3, hn, ht, m⟩
/-- T stands to C as b -/
def CellE (K : Fg) (mg : Str → Option Value) (C : Addr) (T : Str) (b : Bool) : Prop := ∃ v cv, RelV v cv ∧ (∀ u, RelV v u → u = cv) ∧ TVal mg T cv ∧ PySem.W.kitOne K (.ref C) cv = some b ∧ PySem.W.exmOne K (.ref C) cv = some b
theorem kit_of_exm {K : Fg} {t c : Value} {b : Bool} (h : PySem.W.exmOne K t c = some b) (hs : (t == c) = true → b = true) : PySem.W.kitOne K t c = some b := by
  unfold PySem.W.kitOne
  by_cases e : (t == c) = true
  · rw [if_pos e, hs e]
  · rw [if_neg e]
    unfold PySem.W.exmOne at h
    by_cases g : (PySem.W.subIn K c (.type "BaseException") == some true) = true
    · rw [if_pos g] at h
      exact h
    · rw [if_neg g] at h
      cases h
theorem cell_ref {K : Fg} {mg : Str → Option Value} {C D : Addr} {T : Str} {b : Bool} (c : ClF K mg T D) (s : PySem.W.subIn K (.ref C) (.ref D) = some b) (hs : b = true ∨ C ≠ D) : CellE K mg C T b := by
  have e := PySem.W.exm_ref c.x.b c.e.hd c.x.t s
  refine ⟨.ref D, .ref D, rfl, fun u r => r, .inl c.x.g, kit_of_exm e fun q => ?_, e⟩
  rcases hs with hs | hs
  · exact hs
  · exact absurd (Value.ref.inj (beq_iff_eq.mp q)) hs
theorem cell_ty {K : Fg} {mg : Str → Option Value} {C : Addr} {T : Str} {T' : String} {b : Bool} (hm : mg T = none) (hv : bootBuiltins T = some (.type T')) (hn : T ≠ ("__name__" : Str)) (h1 : PySem.W.subIn K (.type T') (.type "BaseException") = some true) (h2 : PySem.W.kitMeta T' = true)
    (s : PySem.W.subIn K (.ref C) (.type T') = some b) : CellE K mg C T b := by
  have e : PySem.W.exmOne K (.ref C) (.type T') = some b := by
    unfold PySem.W.exmOne
    rw [if_pos (show (PySem.W.subIn K (.type T') (.type "BaseException") == some true) = true by rw [h1] <;> rfl)]
    show (if PySem.W.kitMeta T' = true then PySem.W.subIn K (.ref C) (.type T') else none) = _
    rw [if_pos h2]
    exact s
  exact ⟨.ty T', .type T', rfl, fun u r => r, .inr ⟨hm, hv, hn⟩, kit_of_exm e (fun q => nomatch (show Value.ref C = Value.type T' from beq_iff_eq.mp q)), e⟩
/-- the table of the classes -/
abbrev Tab := List (Str × List (Str × Bool))
def isEt (tab : Tab) (z T : Str) : Option Bool := (tab.lookup z).bind fun r => r.lookup T
def RowE (K : Fg) (mg : Str → Option Value) (z : Str) (r : List (Str × Bool)) : Prop := ∃ C, ClF K mg z C ∧ ∀ p ∈ r, CellE K mg C p.1 p.2
theorem row_mk {K : Fg} {mg : Str → Option Value} {z : Str} {r : List (Str × Bool)} {C : Addr} (c : ClF K mg z C) (h : ∀ p ∈ r, CellE K mg C p.1 p.2) : RowE K mg z r := ⟨C, c, h⟩
theorem lookup_mem {α β : Type} [BEq α] [LawfulBEq α] {l : List (α × β)} {a : α} {b : β} (h : l.lookup a = some b) : (a, b) ∈ l := by
  induction l with
  | nil => cases h
  | cons p r ih =>
    obtain ⟨x, y⟩ := p
    rw [List.lookup_cons] at h
    by_cases e : (a == x) = true
    · rw [e] at h
      cases h
      rw [beq_iff_eq.mp e]
      exact List.mem_cons_self
    · rw [Bool.not_eq_true] at e
      rw [e] at h
      exact List.mem_cons_of_mem _ (ih h)
theorem exf_of {K : Fg} {mg : Str → Option Value} {tab : Tab} (h : ∀ p ∈ tab, RowE K mg p.1 p.2) : ExF K mg (isEt tab) := ⟨fun z T b e C hg => by
  unfold isEt at e
  cases hr : tab.lookup z with
  | none =>
    rw [hr] at e
    cases e
  | some r =>
    rw [hr] at e
    have e : r.lookup T = some b := e
    obtain ⟨C', c, hc⟩ := h _ (lookup_mem hr)
    have q := c.x.g
    rw [hg] at q
    cases q
    exact ⟨c.e, hc _ (lookup_mem e)⟩⟩
section
variable {X : Cx} {W : WX} {ex env : Env} {pos : Pos} {τ β : Type} {mk : τ → Env} {lp : β → Env} {rest : List Stmt}
theorem ds_raiseE {x msg : Str} {j : Nat} {p p2 p3 : Pos} (T : ∃ C, ClF X.K X.mg x C) (hc : X.calm = true) (tk : L2N.Takes X W) (hx : EnvLe ex env) (hg : Gl X x := by rfl) (hdb : (x == ("__debug__" : Str)) = false := by decide) :
    DS X W ex env mk lp (.Raise (some (.Call (.Name x p) [.Constant (.str msg) j p2] [] p3)) none pos :: rest) (throwM x) := by
  obtain ⟨C, T⟩ := T
  exact ds_raise T.x hc tk hx hg hdb
/-- the clause's own class -/
theorem names_of {x : Str} {C : Addr} (c : ClF X.K X.mg x C) (hg : Gl X x) (hdb : (x == ("__debug__" : Str)) = false) : Names X x (.ref C) := ⟨hg, hdb, .inl c.x.g⟩
theorem cf_of {K : Fg} {mg : Str → Option Value} {isE : Str → Str → Option Bool} {x : Str} {C : Addr} (Ex : ExF K mg isE) (c : ClF K mg x C) : ∀ z D b, isE z x = some b → mg z = some (.ref D) → PySem.W.exmOne K (.ref D) (.ref C) = some b := fun z D b h g => by
  obtain ⟨_, v, cv, _, _, tv, _, k⟩ := Ex.ok z x b h D g
  have e := tv.fn (.inl c.x.g)
  rw [← e]
  exact k
end
end Lw
/-! SimM: an empty dict is no tuple. -/
namespace PySem.SeqAt
open PySem PyProof.Rows
end PySem.SeqAt
namespace Lw
open PySem L2
section
end
end Lw
/-! SimN: objects: fields, methods, making. -/
namespace Lw
open PySem L2
/-! ### the classes' fields -/
abbrev CTab := List (Str × List Str)
def hasF (tab : CTab) (c f : Str) : Bool := match tab.lookup c with
  | some fs => fs.contains f
  | none => false
/-- what stands of a class of objects -/
structure InF (K : Fg) (mg : Str → Option Value) (c : Str) (C : Addr) : Prop where
  g : mg c = some (.ref C)
  cl : Cls K C
structure AtF (K : Fg) (mg : Str → Option Value) (tab : CTab) : Prop where
  ok : ∀ c f, hasF tab c f = true → ∃ C, InF K mg c C ∧ NoAttr K C f
def putD (f : Str) (v : D) : List (Str × D) → List (Str × D)
  | [] => [(f, v)]
  | (g, x) :: r => if g = f then (g, v) :: r else (g, x) :: putD f v r
section
variable {K : Fg} {F : Hp} {m : List Addr}
theorem RepK.put {f : Str} {d : D} {v : V} (h : Rep K F m d v) : ∀ {fs : List (Str × D)} {vs : List (Str × V)}, RepK K F m fs vs → RepK K F m (putD f d fs) (putF f v vs)
  | _, _, .nil => .cons ⟨rfl, h⟩ .nil
  | (g, x) :: r, (g', y) :: t, .cons ⟨e, q⟩ u => by
    have e : g = g' := e
    subst e
    show RepK K F m (if g = f then (g, d) :: r else (g, x) :: putD f d r) (if g = f then (g, v) :: t else (g, y) :: putF f v t)
    by_cases c : g = f
    · rw [if_pos c, if_pos c]
      exact .cons ⟨rfl, h⟩ u
    · rw [if_neg c, if_neg c]
      exact .cons ⟨rfl, q⟩ (RepK.put h u)
theorem RepK.lookup {f : Str} {d : D} : ∀ {fs : List (Str × D)} {vs : List (Str × V)}, RepK K F m fs vs → fs.lookup f = some d → ∃ v, vs.lookup f = some v ∧ Rep K F m d v
  | _, _, .nil, h => by cases h
  | (g, x) :: r, (g', y) :: t, .cons ⟨e, q⟩ u, h => by
    have e : g = g' := e
    subst e
    rw [List.lookup_cons] at h ⊢
    cases c : f == g with
    | true =>
      rw [c] at h
      cases h
      exact ⟨y, rfl, q⟩
    | false =>
      rw [c] at h
      exact RepK.lookup u h
theorem RepK.lookupN {f : Str} : ∀ {fs : List (Str × D)} {vs : List (Str × V)}, RepK K F m fs vs → fs.lookup f = none → vs.lookup f = none
  | _, _, .nil, h => rfl
  | (g, x) :: r, (g', y) :: t, .cons ⟨e, q⟩ u, h => by
    have e : g = g' := e
    subst e
    rw [List.lookup_cons] at h ⊢
    cases c : f == g with
    | true =>
      rw [c] at h
      cases h
    | false =>
      rw [c] at h
      exact RepK.lookupN u h
theorem RepK.length {κ : Type} : ∀ {fs : List (κ × D)} {vs : List (κ × V)}, RepK K F m fs vs → vs.length = fs.length
  | _, _, .nil => rfl
  | _ :: r, _ :: t, .cons _ u => by rw [List.length_cons, List.length_cons, RepK.length u]
end
/-- o.f -/
def fldM (tab : CTab) (f : Str) (d : D) : M D := fun h => match d with
  | .ref n => (match h[n]? with
    | some (.ins c fs) => if hasF tab c f = true then (match fs.lookup f with
      | some v => .ok v h
      | none => .stuck) else .stuck
    | _ => .stuck)
  | _ => .stuck
/-- o.f = v -/
def setFM (tab : CTab) (f : Str) (d v : D) : M Unit := fun h => match d with
  | .ref n => (match h[n]? with
    | some (.ins c fs) => if (hasF tab c f && decide (fs.length < 1000)) = true then .ok () (h.set n (.ins c (putD f v fs))) else .stuck
    | _ => .stuck)
  | _ => .stuck
section
variable {X : Cx} {W : WX} {ex env : Env} {pos apos : Pos} {τ β : Type} {mk : τ → Env} {lp : β → Env} {rest : List Stmt} {tab : CTab} {f : Str}
theorem ins_of {fr : Fm} {F H : Hp} {m : List Addr} {ah : AH} {n : Nat} {v : V} {c : Str} {fs : List (Str × D)} (S : Sim X.K X.mg fr F m ah H) (r : Rep X.K F m (.ref n) v) (h : ah[n]? = some (.ins c fs)) :
    ∃ a C dx vs, v = .ref a ∧ m[n]? = some a ∧ F a = none ∧ X.mg c = some (.ref C) ∧ H a = some (.ins C dx vs) ∧ RepK X.K F m fs vs := by
  unfold Rep at r
  obtain ⟨a, h1, rfl⟩ := r
  obtain ⟨a', q, ok⟩ := S.cells n _ h
  rw [h1] at q
  cases q
  obtain ⟨h2, C, dx, vs, h3, h4, h5⟩ := ok
  exact ⟨a, C, dx, vs, rfl, h1, h2, h3, h4, h5⟩
theorem de_fld {o : Expr} {mo : M D} (T : AtF X.K X.mg tab) (ho : DE X W env o mo) (hb : attributeBase o f X.env (eval o X.env) = eval o X.env := by rfl) : DE X W env (.Attribute o f pos) (do let x ← mo; fldM tab f x) :=
  PE.from (pe_fld ho hb) fun σ H Q ⟨fr, F, m, ah, s, er, q⟩ => TK.step s er q fun F1 m1 ah1 d v H1 e1 s1 er1 r1 k1 => by
    unfold fldM at k1
    cases d <;> try exact k1.elim
    rename_i n
    cases hc : ah1[n]? with
    | none =>
      simp only [hc] at k1
      exact k1.elim
    | some c =>
      cases c <;> simp only [hc] at k1 <;> try exact k1.elim
      rename_i c fs
      by_cases hf : hasF tab c f = true
      · rw [if_pos hf] at k1
        obtain ⟨C, T1, T2⟩ := T.ok c f hf
        obtain ⟨a, C', dx, vs, rfl, h1, h2, h3, h4, h5⟩ := ins_of s1 r1 hc
        have e : C = C' := Value.ref.inj (Option.some.inj (T1.g.symm.trans h3))
        subst e
        cases hl : fs.lookup f with
        | none =>
          simp only [hl] at k1
          exact k1.elim
        | some d =>
          simp only [hl] at k1
          obtain ⟨w, h6, h7⟩ := RepK.lookup h5 hl
          exact ⟨a, C, dx, vs, w, rfl, h4, T1.cl, T2, h6, TK.val k1 s1 h7⟩
      · rw [if_neg hf] at k1
        exact k1.elim
theorem ds_fld {o e : Expr} {mo me : M D} {mc : M (Out τ β)} (T : AtF X.K X.mg tab) (he : DE X W env e me) (ho : DE X W env o mo) (hx : EnvLe ex env) (hr : DS X W ex env mk lp rest mc)
    (hs : swapsWith e (some (.Attribute o f apos)) pos.line X.env = pure false := by rfl) :
    DS X W ex env mk lp (.Assign [.Attribute o f apos] e pos :: rest) (do let v ← me; let x ← mo; let _ ← setFM tab f x v; mc) :=
  PSs.from (pss_cons (ps_fld ho he hs) hr) fun Dn σ H ⟨fr, F, m, ah, s, er, q⟩ =>
    TO.step s er hx q fun F1 m1 ah1 d1 v1 H1 e1 s1 er1 r1 k1 => TO.step s1 er1 hx k1 fun F2 m2 ah2 d2 v2 H2 e2 s2 er2 r2 k2 => by
      rw [bind_def] at k2
      unfold setFM at k2
      cases d2 <;> try exact k2.elim
      rename_i n
      cases hc : ah2[n]? with
      | none =>
        simp only [hc] at k2
        exact k2.elim
      | some c =>
        cases c <;> simp only [hc] at k2 <;> try exact k2.elim
        rename_i c fs
        by_cases hf : (hasF tab c f && decide (fs.length < 1000)) = true
        · rw [if_pos hf] at k2
          rw [Bool.and_eq_true] at hf
          obtain ⟨C, T1, T2⟩ := T.ok c f hf.1
          obtain ⟨a, C', dx, vs, rfl, h1, h2, h3, h4, h5⟩ := ins_of s2 r2 hc
          have e : C = C' := Value.ref.inj (Option.some.inj (T1.g.symm.trans h3))
          subst e
          have r1 := Rep.ext e2 _ _ r1
          exact ⟨a, C, dx, vs, rfl, h4, T1.cl, T2, by rw [RepK.length h5]; exact of_decide_eq_true hf.2, fr, F2, m2, _, s2.write (c' := .ins c (putD f d1 fs)) hc h1 rfl ⟨h2, C, dx, _, h3, upd_same, RepK.put r1 h5⟩, er2, k2⟩
        · rw [if_neg hf] at k2
          exact k2.elim
end
/-! ### methods -/
def tMethS (C : Addr) (m : Str) (sp : Sp) (E : St → XK) (ta : TE) (t : TA) : TE := fun σ H Q => ta σ H fun x H1 => ∃ a dx fs, x = .ref a ∧ H1 a = some (.ins C dx fs) ∧ fs.lookup m = none ∧ t σ H1 fun vs H2 => sp (x :: vs) H2 Q (E σ)
section
variable {X : Cx} {CX : CXT} {k : Nat} {f C : Addr} {fd : FuncData} {ps : List Str} {sp : Sp} {E : St → XK} {x m : Str} {p pos apos : Pos} {e o : Expr} {es : List Expr} {ta : TE} {t : TA}
theorem pe_mthS {pl : Sem Bool} (he : PE X o ta) (c : Cls X.K C) (hm : Meth X.K C m f) (F : FnOk X.prog X.w X.K X.mg X.base CX k f fd ps sp) (hr : Room k X.A) (hb : Binds X.K fd ps []) (hx : ∀ σ, PassesAt CX X σ (E σ)) (ha : PA X (e :: es) t)
    (hst : starEach (e :: es) X.env = (false, eval e X.env) :: starEach es X.env := by rfl) (hpl : (backTo pos (starEach es X.env)).any (·.1) = false := by rfl)
    (ht : eval (.Call (.Attribute o m apos) (e :: es) [] pos) X.env = (do
      let ov ← eval o X.env
      standAt apos.atName
      let (f, first) ← holding [ov] (getMethod ov m pl)
      callWith pos f first (backTo pos (starEach (e :: es) X.env)) (backToKw pos (keywordEach [] X.env))) := by rfl) :
    PE X (.Call (.Attribute o m apos) (e :: es) [] pos) (tMethS C m sp E ta t) := by
  refine ⟨fun pins s σ H Q I h => ?_⟩
  refine PySem.W.methodCall_KW (pl := pl) (thn (he.run pins s σ H _ I h) fun u s1 ⟨x, H1, I1, rx, a, dx, fs, ex, ea, l, q⟩ => ?_) ht
  subst ex
  obtain rfl : u = Value.ref a := rx
  refine getmeth_ok I1 ea c hm l ?_
  refine PySem.W.callWith_K (first := [.ref a]) (h₀ := X.base) I.ok.mod.kin hm.kp (thn (ha.run pos pins s1 σ H1 _ I1 q) fun us s2 ⟨vs, H2, I2, r, q2⟩ => ⟨I2.kIn, ?_⟩) hst hpl
  exact run_fnSD (us := .ref a :: us) (vs := .ref a :: vs) (dvs := []) F hr hb .nil (hx σ) I2 (.cons rfl r) (by rw [List.append_nil]; exact q2)
theorem pe_mthS0 {pl : Sem Bool} (he : PE X o ta) (c : Cls X.K C) (hm : Meth X.K C m f) (F : FnOk X.prog X.w X.K X.mg X.base CX k f fd ps sp) (hr : Room k X.A) (hb : Binds X.K fd ps []) (hx : ∀ σ, PassesAt CX X σ (E σ))
    (ht : eval (.Call (.Attribute o m apos) [] [] pos) X.env = (do
      let ov ← eval o X.env
      standAt apos.atName
      let (f, first) ← holding [ov] (getMethod ov m pl)
      callWith pos f first (backTo pos (starEach [] X.env)) (backToKw pos (keywordEach [] X.env))) := by rfl) :
    PE X (.Call (.Attribute o m apos) [] [] pos) (tMethS C m sp E ta tNil) := by
  refine ⟨fun pins s σ H Q I h => ?_⟩
  refine PySem.W.methodCall_KW (pl := pl) (thn (he.run pins s σ H _ I h) fun u s1 ⟨x, H1, I1, rx, a, dx, fs, ex, ea, l, q⟩ => ?_) ht
  subst ex
  obtain rfl : u = Value.ref a := rx
  refine getmeth_ok I1 ea c hm l ?_
  exact PySem.W.callWith_K0 (first := [.ref a]) I1.kIn hm.kp (run_fnSD (us := [.ref a]) (vs := [.ref a]) (dvs := []) F hr hb .nil (hx σ) I1 (.cons rfl .nil) q)
def tMakeS (C : Addr) (sp : Sp) (E : St → XK) (t : TA) : TE := fun σ H Q => t σ H fun vs H1 => ∀ x dx, H1 x = none → H1 dx = none → dx ≠ x →
  sp (.ref x :: vs) (upd (upd H1 dx (.own x)) x (.ins C dx [])) (fun v H2 => v = .non ∧ Q (.ref x) H2) (E σ)
theorem run_mkS {pins : List (Addr × Obj)} {σ : St} {H : Hp} {s : Shared} {Q : VK} {us : List Value} {vs : List V} (M : Mk X.K C f) (F : FnOk X.prog X.w X.K X.mg X.base CX k f fd ps sp) (hr : Room (k + 1) X.A) (hb : Binds X.K fd ps [])
    (hx : PassesAt CX X σ (E σ)) (I : Inv X pins σ H s) (r : Vals vs us)
    (h : ∀ x dx, H x = none → H dx = none → dx ≠ x → sp (.ref x :: vs) (upd (upd H dx (.own x)) x (.ins C dx [])) (fun v H2 => v = .non ∧ Q (.ref x) H2) (E σ)) :
    wpAny (model X.prog X.w) X.A (call (.ref C) us) (EP X pins σ Q) X.xe s := by
  have hq := h (s.heap.objs.size + 1) s.heap.objs.size (I.hok.fresh (Nat.le_succ _)) (I.hok.fresh (Nat.le_refl _)) (Nat.ne_of_lt (Nat.lt_succ_self _))
  have I2 := Inv.made (C := C) I
  have r2 : Vals (V.ref (s.heap.objs.size + 1) :: vs) (Value.ref (s.heap.objs.size + 1) :: us) := .cons rfl r
  have hl : (Value.ref (s.heap.objs.size + 1) :: us ++ []).length = ps.length := by
    have e := r2.length
    rw [F.len _ _ _ _ hq] at e
    rw [List.append_nil]
    exact e.symm
  have hb' := hb _ (Value.ref (s.heap.objs.size + 1) :: us) I2.kIn hl
  rw [List.append_nil] at hb'
  refine wpAny_call (make_map (f := f) I.kIn M.makes M.init (beq_iff_eq.mp M.fn) (codeAny_mono (F.run _ X.stack _ _ ⟨Value.ref (s.heap.objs.size + 1) :: us, []⟩ (Value.ref (s.heap.objs.size + 1) :: us) _ _ (E σ) (hr.make C us [])
    (I2.env0.make C us []) hb' r2 hq) fun r s' hq' => ?_))
  cases r with
  | error e => exact hx pins _ _ e s' I2 hq'
  | ok fl =>
    cases fl with
    | ret u =>
      obtain ⟨v, H', I3, rv, ev, q3⟩ := I2.after hq'
      subst ev
      exact ⟨rv, ⟨V.ref (s.heap.objs.size + 1), H', I3, rfl, q3⟩⟩
    | next => exact False.elim hq'
    | brk => exact False.elim hq'
    | cont => exact False.elim hq'
theorem pe_mkS (M : Mk X.K C f) (F : FnOk X.prog X.w X.K X.mg X.base CX k f fd ps sp) (hr : Room (k + 1) X.A) (hg : Gl X x) (hm : X.mg x = some (.ref C)) (hb : Binds X.K fd ps []) (hx : ∀ σ, PassesAt CX X σ (E σ))
    (ha : PA X (e :: es) t) (hdb : (x == ("__debug__" : Str)) = false := by decide) (he : starEach (e :: es) X.env = (false, eval e X.env) :: starEach es X.env := by rfl) (hpl : (backTo pos (starEach es X.env)).any (·.1) = false := by rfl) :
    PE X (.Call (.Name x p) (e :: es) [] pos) (tMakeS C sp E t) := by
  refine ⟨fun pins s σ H Q I h => ?_⟩
  refine wpAny_Call_Name_kw (ld_glob I hg hm ?_ hdb)
  refine PySem.W.callWith_K (h₀ := X.base) I.ok.mod.kin M.kp (thn (ha.run pos pins s σ H _ I h) fun us s1 ⟨vs, H1, I1, r, q⟩ => ⟨I1.kIn, ?_⟩) he hpl
  exact run_mkS M F hr hb (hx σ) I1 r q
end
/-! ### methods and making, of plain data -/
structure MthF (P : Program) (w : World) (K : Fg) (mg : Str → Option Value) (base : Heap) (c m : Str) (k n : Nat) (g : List D → M D) : Prop where
  ex : ∃ (C f : Addr) (fd : FuncData) (ps : List Str), mg c = some (.ref C) ∧ Cls K C ∧ Meth K C m f ∧ FnOk P w K mg base (L2N.CX P w) k f fd ps (spD K mg n g) ∧ Binds K fd ps []
structure MkF (P : Program) (w : World) (K : Fg) (mg : Str → Option Value) (base : Heap) (c : Str) (k n : Nat) (g : List D → M D) : Prop where
  ex : ∃ (C f : Addr) (fd : FuncData) (ps : List Str), mg c = some (.ref C) ∧ Mk K C f ∧ FnOk P w K mg base (L2N.CX P w) k f fd ps (spD K mg n g) ∧ Binds K fd ps []
/-- an object of the class c, whose own dict has no m -/
def mchkM (c m : Str) (d : D) : M Unit := fun h => match d with
  | .ref n => (match h[n]? with
    | some (.ins c' fs) => if (decide (c' = c) && (fs.lookup m).isNone) = true then .ok () h else .stuck
    | _ => .stuck)
  | _ => .stuck
def makeM (c : Str) (g : List D → M D) (as : List D) : M D := do
  let r ← newM (.ins c [])
  let v ← g (r :: as)
  match v with
  | .non => pure r
  | _ => stuck
section
variable {X : Cx} {W : WX} {env : Env} {pos apos p : Pos} {k : Nat} {c m x : Str} {o e : Expr} {es : List Expr} {g : List D → M D} {mo : M D} {ms : M (List D)}
theorem mchk_of {fr : Fm} {σ : St} {F H : Hp} {m' : List Addr} {ah : AH} {d : D} {v : V} {α β : Type} {R : Hp → List Addr → α → β → Prop} {kk : Unit → M α} {Q : β → Hp → Prop} (S : Sim X.K X.mg fr F m' ah H) (r : Rep X.K F m' d v) (q : TK X.K X.mg fr W R σ F m' ((mchkM c m d >>= kk) ah) Q) :
    ∃ a C dx vs, v = .ref a ∧ X.mg c = some (.ref C) ∧ H a = some (.ins C dx vs) ∧ vs.lookup m = none ∧ TK X.K X.mg fr W R σ F m' (kk () ah) Q := by
  rw [bind_def] at q
  unfold mchkM at q
  cases d <;> try exact q.elim
  rename_i n
  cases hc : ah[n]? with
  | none =>
    simp only [hc] at q
    exact q.elim
  | some cl =>
    cases cl <;> simp only [hc] at q <;> try exact q.elim
    rename_i c' fs
    by_cases hf : (decide (c' = c) && (fs.lookup m).isNone) = true
    · simp only [if_pos hf] at q
      rw [Bool.and_eq_true] at hf
      have e : c' = c := of_decide_eq_true hf.1
      subst e
      obtain ⟨a, C, dx, vs, rfl, h1, h2, h3, h4, h5⟩ := ins_of S r hc
      exact ⟨a, C, dx, vs, rfl, h3, h4, RepK.lookupN h5 (Option.isNone_iff_eq_none.mp hf.2), q⟩
    · simp only [if_neg hf] at q
      exact q.elim
theorem de_mth {pl : Sem Bool} {n : Nat} (G : MthF X.prog X.w X.K X.mg X.base c m k n g) (hr : Room k X.A) (tk : L2N.Takes X W) (ho : DE X W env o mo) (ha : DA X W env (e :: es) ms) (hn : ∀ ah ds ah', ms ah = .ok ds ah' → ds.length + 1 = n)
    (hst : starEach (e :: es) X.env = (false, eval e X.env) :: starEach es X.env := by rfl) (hpl : (backTo pos (starEach es X.env)).any (·.1) = false := by rfl)
    (ht : eval (.Call (.Attribute o m apos) (e :: es) [] pos) X.env = (do
      let ov ← eval o X.env
      standAt apos.atName
      let (f, first) ← holding [ov] (getMethod ov m pl)
      callWith pos f first (backTo pos (starEach (e :: es) X.env)) (backToKw pos (keywordEach [] X.env))) := by rfl) :
    DE X W env (.Call (.Attribute o m apos) (e :: es) [] pos) (do let x ← mo; let _ ← mchkM c m x; let as ← ms; g (x :: as)) := by
  obtain ⟨C, f, fd, ps, hC, hcl, hm, hF, hB⟩ := G.ex
  refine PE.from (pe_mthS ho hcl hm hF hr hB (fun σ => L2N.passAt tk σ) ha hst hpl ht) fun σ H Q ⟨fr, F, m1, ah, s, er, q⟩ => TK.step s er q fun F1 m1 ah1 d v H1 e1 s1 er1 r1 k1 => ?_
  obtain ⟨a, C', dx, vs, rfl, g1, g2, g3, k2⟩ := mchk_of s1 r1 k1
  rw [hC] at g1
  cases g1
  refine ⟨a, dx, vs, rfl, g2, g3, fr, F1, m1, ah1, s1, er1, ?_⟩
  rw [bind_def] at k2
  cases hms : ms ah1 with
  | stuck =>
    rw [hms] at k2
    exact k2
  | exc z b =>
    rw [hms] at k2
    exact k2
  | ok ds b =>
    rw [hms] at k2
    intro F2 m2 us H2 e2 s2 r2
    refine ⟨by rw [List.length_cons, RepL.length r2]; exact hn _ _ _ hms, fr, F2, m2, b, d :: ds, s2, RepL.cons (Rep.ext e2 _ _ r1) r2, TK.wish (TK.ext e2 k2)⟩
theorem de_mth0 {pl : Sem Bool} (G : MthF X.prog X.w X.K X.mg X.base c m k 1 g) (hr : Room k X.A) (tk : L2N.Takes X W) (ho : DE X W env o mo)
    (ht : eval (.Call (.Attribute o m apos) [] [] pos) X.env = (do
      let ov ← eval o X.env
      standAt apos.atName
      let (f, first) ← holding [ov] (getMethod ov m pl)
      callWith pos f first (backTo pos (starEach [] X.env)) (backToKw pos (keywordEach [] X.env))) := by rfl) :
    DE X W env (.Call (.Attribute o m apos) [] [] pos) (do let x ← mo; let _ ← mchkM c m x; g [x]) := by
  obtain ⟨C, f, fd, ps, hC, hcl, hm, hF, hB⟩ := G.ex
  refine PE.from (pe_mthS0 ho hcl hm hF hr hB (fun σ => L2N.passAt tk σ) ht) fun σ H Q ⟨fr, F, m1, ah, s, er, q⟩ => TK.step s er q fun F1 m1 ah1 d v H1 e1 s1 er1 r1 k1 => ?_
  obtain ⟨a, C', dx, vs, rfl, g1, g2, g3, k2⟩ := mchk_of s1 r1 k1
  rw [hC] at g1
  cases g1
  exact ⟨a, dx, vs, rfl, g2, g3, rfl, fr, F1, m1, ah1, [d], s1, RepL.cons r1 RepL.nil, TK.wish k2⟩
theorem de_make {n : Nat} (G : MkF X.prog X.w X.K X.mg X.base x k n g) (hr : Room (k + 1) X.A) (tk : L2N.Takes X W) (ha : DA X W env (e :: es) ms) (hn : ∀ ah ds ah', ms ah = .ok ds ah' → ds.length + 1 = n) (hg : Gl X x := by rfl)
    (hdb : (x == ("__debug__" : Str)) = false := by decide) (he : starEach (e :: es) X.env = (false, eval e X.env) :: starEach es X.env := by rfl) (hpl : (backTo pos (starEach es X.env)).any (·.1) = false := by rfl) :
    DE X W env (.Call (.Name x p) (e :: es) [] pos) (do let as ← ms; makeM x g as) := by
  obtain ⟨C, f, fd, ps, hC, hM, hF, hB⟩ := G.ex
  refine PE.from (pe_mkS hM hF hr hg hC hB (fun σ => L2N.passAt tk σ) ha hdb he hpl) fun σ H Q ⟨fr, F, m1, ah, s, er, q⟩ => ⟨fr, F, m1, ah, s, er, ?_⟩
  rw [bind_def] at q
  cases hms : ms ah with
  | stuck =>
    rw [hms] at q
    exact q
  | exc z b =>
    rw [hms] at q
    exact q
  | ok ds b =>
    rw [hms] at q
    intro F2 m2 us H2 e2 s2 r2 xa dx nx ndx nex
    have q2 := TK.ext e2 q
    have s3 := s2.other (p := dx) (o := .own xa) (s2.freeF ndx) (fun z => by
      obtain ⟨u, hu⟩ := s2.there dx z
      rw [ndx] at hu
      cases hu) (s2.fresh0 ndx)
    have nx' : upd H2 dx (.own xa) xa = none := by rw [upd_ne nex.symm]; exact nx
    obtain ⟨s4, e4⟩ := s3.laid (p := xa) (o := .ins C dx []) (c := .ins x []) nx' ⟨s3.freeF nx', C, dx, [], hC, upd_same, .nil⟩
    have rr : Rep X.K F2 (m2 ++ [xa]) (.ref b.length) (.ref xa) := by
      unfold Rep
      refine ⟨xa, ?_, rfl⟩
      rw [← s2.len, List.getElem?_append_right (Nat.le_refl _)]
      simp
    refine ⟨by rw [List.length_cons, RepL.length r2]; exact hn _ _ _ hms, fr, F2, m2 ++ [xa], b ++ [.ins x []], .ref b.length :: ds, s4, RepL.cons rr (RepL.ext e4 _ _ r2), ?_⟩
    have q3 : TK X.K X.mg fr W (Rep X.K) σ F2 m2 ((g (.ref b.length :: ds) >>= fun v => match v with | .non => pure (.ref b.length) | _ => stuck) (b ++ [.ins x []])) Q := q2
    have q4 := TK.ext e4 q3
    rw [bind_def] at q4
    cases hgr : g (.ref b.length :: ds) (b ++ [.ins x []]) with
    | stuck =>
      rw [hgr] at q4
      exact q4.elim
    | exc z b2 =>
      rw [hgr] at q4
      exact q4
    | ok v b2 =>
      rw [hgr] at q4
      intro F5 m5 u H5 e5 s5 r5
      cases v <;> try exact (TK.stuck_of (TK.ext e5 q4)).elim
      unfold Rep at r5
      exact ⟨r5, q4 F5 m5 (.ref xa) H5 e5 s5 (Rep.ext e5 _ _ rr)⟩
end
/-! ### what stands of methods -/
structure DfnM (K : Fg) (mg : Str → Option Value) (c m qual : Str) (st : Stmt) (ps : List Str) : Prop where
  ex : ∃ (C f : Addr) (fd : FuncData), mg c = some (.ref C) ∧ Cls K C ∧ Meth K C m f ∧ Fun K m qual st f fd ∧ Binds K fd ps []
theorem DfnM.mth {P : Program} {w : World} {K : Fg} {mg : Str → Option Value} {base : Heap} {c m qual : Str} {st : Stmt} {ps : List Str} {k n : Nat} {g : List D → M D} (D : DfnM K mg c m qual st ps)
    (h : ∀ (f : Addr) (fd : FuncData), Fun K m qual st f fd → FnOk P w K mg base (L2N.CX P w) k f fd ps (spD K mg n g)) : MthF P w K mg base c m k n g := by
  obtain ⟨C, f, fd, h1, h2, h3, F, hb⟩ := D.ex
  exact ⟨C, f, fd, ps, h1, h2, h3, h f fd F, hb⟩
theorem dfnm_mk {K : Fg} {mg : Str → Option Value} {c m qual : Str} {st : Stmt} {ps : List Str} {C f : Addr} {od an : Option Addr} {sl : Array (Option Value)} {oc kV dc pm cd ct : Value}
    (b : ∀ (kV doc pm : Value) (an : Option Addr) (cdv ct : Value) (us : List Value), us.length = ps.length → bindArgs (PySem.W.fnOf m qual (defArgs st) (defBody st) (defScope st) .none kV doc pm an cdv ct) ⟨us, []⟩ = pure (ps.zip us))
    (i : InF K mg c C) (a : PySem.W.findIn K (.ref C) m = some (some (.ref f))) (fn : PySem.W.isFn K (.ref f) = true)
    (l : K.lookup f = some ⟨oc, od, .func (PySem.W.fnOf m qual (defArgs st) (defBody st) (defScope st) .none kV dc pm an cd ct), sl⟩)
    (cc : PySem.W.codeIn K cd qual = true) (k : PySem.W.keepIn K (.ref f) = true) : DfnM K mg c m qual st ps :=
  ⟨C, f, _, i.g, i.cl, ⟨a, fn, k⟩, fun_mk l cc k, (fun_mk l cc k).binds b⟩
/-- the table of the fields -/
def RowF (K : Fg) (mg : Str → Option Value) (c : Str) (fs : List Str) : Prop := ∃ C, InF K mg c C ∧ ∀ f ∈ fs, NoAttr K C f
theorem rf_mk {K : Fg} {mg : Str → Option Value} {c : Str} {C : Addr} {fs : List Str} (i : InF K mg c C) (h : ∀ f ∈ fs, NoAttr K C f) : RowF K mg c fs := ⟨C, i, h⟩
theorem nf_nil {K : Fg} {C : Addr} : ∀ f ∈ ([] : List Str), NoAttr K C f := fun _ h => nomatch h
theorem nf_cons {K : Fg} {C : Addr} {f : Str} {fs : List Str} (h : PySem.W.findIn K (.ref C) f = some none) (t : ∀ f ∈ fs, NoAttr K C f) : ∀ g ∈ (f :: fs), NoAttr K C g := fun g hg => by
  rcases List.mem_cons.mp hg with rfl | hg
  · exact h
  · exact t g hg
theorem tf_nil {K : Fg} {mg : Str → Option Value} : ∀ p ∈ ([] : CTab), RowF K mg p.1 p.2 := fun _ h => nomatch h
theorem tf_cons {K : Fg} {mg : Str → Option Value} {c : Str} {fs : List Str} {tab : CTab} (h : RowF K mg c fs) (t : ∀ p ∈ tab, RowF K mg p.1 p.2) : ∀ p ∈ ((c, fs) :: tab), RowF K mg p.1 p.2 := fun p hp => by
  rcases List.mem_cons.mp hp with rfl | hp
  · exact h
  · exact t p hp
theorem atf_of {K : Fg} {mg : Str → Option Value} {tab : CTab} (h : ∀ p ∈ tab, RowF K mg p.1 p.2) : AtF K mg tab := ⟨fun c f e => by
  unfold hasF at e
  cases hr : tab.lookup c with
  | none =>
    rw [hr] at e
    cases e
  | some fs =>
    rw [hr] at e
    obtain ⟨C, i, q⟩ := h _ (lookup_mem hr)
    exact ⟨C, i, q f (List.contains_iff_mem.mp e)⟩⟩
/-! how many arguments -/
theorem alen1 {ma : M D} : ∀ ah ds ah', (do let x ← ma; pure [x] : M (List D)) ah = .ok ds ah' → ds.length + 1 = 2 := fun ah ds ah' h => by
  rw [bind_def] at h
  cases hm : ma ah with
  | ok a b =>
    rw [hm] at h
    cases h
    rfl
  | exc _ _ =>
    rw [hm] at h
    cases h
  | stuck =>
    rw [hm] at h
    cases h
end Lw
/-! SimO: dicts. -/
namespace Lw
open PySem L2
def keyD : D → Option Key
  | .int i => some (.inl i)
  | .str x => some (.inr x)
  | _ => none
def valD (kvs : List (Key × D)) (k : Key) : Option D := (kvs.find? fun kv => decide (kv.1 = k)).map (·.2)
def putKD (kvs : List (Key × D)) (k : Key) (d : D) : List (Key × D) := if (kvs.any fun kv => decide (kv.1 = k)) = true then kvs.map (fun kv => if kv.1 = k then (kv.1, d) else kv) else kvs ++ [(k, d)]
def dropKD (kvs : List (Key × D)) (k : Key) : List (Key × D) := kvs.filter fun kv => decide (kv.1 ≠ k)
section
variable {K : Fg} {F : Hp} {m : List Addr}
theorem key_rep {d : D} {v : V} {k : Key} (r : Rep K F m d v) (h : keyD d = some k) : v = kV k := by
  cases d <;> try (cases h; done)
  · cases h
    unfold Rep at r
    exact r
  · cases h
    unfold Rep at r
    exact r
theorem RepK.val {k : Key} : ∀ {kvs : List (Key × D)} {vs : List (Key × V)}, RepK K F m kvs vs → (∀ d, valD kvs k = some d → ∃ v, valV vs k = some v ∧ Rep K F m d v) ∧ (valD kvs k = none → valV vs k = none)
  | _, _, .nil => ⟨(fun d h => nomatch h), fun _ => rfl⟩
  | (g, x) :: r, (g', y) :: t, .cons ⟨e, q⟩ u => by
    have e : g = g' := e
    subst e
    obtain ⟨i1, i2⟩ := RepK.val (k := k) u
    by_cases c : g = k
    · have a : valD ((g, x) :: r) k = some x := by simp [valD, List.find?_cons, c]
      rw [a, valV_pos (p := (g, y)) c]
      exact ⟨(fun d h => by cases h; exact ⟨y, rfl, q⟩), (fun h => nomatch h)⟩
    · have a : valD ((g, x) :: r) k = valD r k := by simp [valD, List.find?_cons, c]
      rw [a, valV_neg (p := (g, y)) c]
      exact ⟨i1, i2⟩
theorem RepK.any {k : Key} : ∀ {kvs : List (Key × D)} {vs : List (Key × V)}, RepK K F m kvs vs → (vs.any fun kv => decide (kv.1 = k)) = (kvs.any fun kv => decide (kv.1 = k))
  | _, _, .nil => rfl
  | (g, x) :: r, (g', y) :: t, .cons ⟨e, q⟩ u => by
    have e : g = g' := e
    subst e
    rw [List.any_cons, List.any_cons, RepK.any u]
theorem RepK.snoc {k : Key} {d : D} {v : V} (h : Rep K F m d v) : ∀ {kvs : List (Key × D)} {vs : List (Key × V)}, RepK K F m kvs vs → RepK K F m (kvs ++ [(k, d)]) (vs ++ [(k, v)])
  | _, _, .nil => .cons ⟨rfl, h⟩ .nil
  | _ :: _, _ :: _, .cons q u => .cons q (RepK.snoc h u)
theorem RepK.repl {k : Key} {d : D} {v : V} (h : Rep K F m d v) : ∀ {kvs : List (Key × D)} {vs : List (Key × V)}, RepK K F m kvs vs → RepK K F m (kvs.map fun kv => if kv.1 = k then (kv.1, d) else kv) (vs.map fun kv => if kv.1 = k then (kv.1, v) else kv)
  | _, _, .nil => .nil
  | (g, x) :: r, (g', y) :: t, .cons ⟨e, q⟩ u => by
    have e : g = g' := e
    subst e
    rw [List.map_cons, List.map_cons]
    refine .cons ?_ (RepK.repl h u)
    by_cases c : g = k
    · rw [if_pos c, if_pos c]
      exact ⟨rfl, h⟩
    · rw [if_neg c, if_neg c]
      exact ⟨rfl, q⟩
theorem RepK.putK {k : Key} {d : D} {v : V} (h : Rep K F m d v) {kvs : List (Key × D)} {vs : List (Key × V)} (r : RepK K F m kvs vs) : RepK K F m (putKD kvs k d) (L2.putK vs k v) := by
  unfold putKD L2.putK
  rw [r.any]
  by_cases c : (kvs.any fun kv => decide (kv.1 = k)) = true
  · rw [if_pos c, if_pos c]
    exact RepK.repl h r
  · rw [if_neg c, if_neg c]
    exact RepK.snoc h r
theorem RepK.drop {k : Key} : ∀ {kvs : List (Key × D)} {vs : List (Key × V)}, RepK K F m kvs vs → RepK K F m (dropKD kvs k) (dropK vs k)
  | _, _, .nil => .nil
  | (g, x) :: r, (g', y) :: t, .cons ⟨e, q⟩ u => by
    have e : g = g' := e
    subst e
    have ih := RepK.drop (k := k) u
    unfold dropKD dropK at ih ⊢
    by_cases c : g ≠ k
    · rw [List.filter_cons_of_pos (by simpa using c), List.filter_cons_of_pos (by simpa using c)]
      exact .cons ⟨rfl, q⟩ ih
    · rw [List.filter_cons_of_neg (by simpa using c), List.filter_cons_of_neg (by simpa using c)]
      exact ih
end
/-- the dict that d is -/
def dkOf (h : AH) : D → Option (List (Key × D))
  | .ref n => match h[n]? with
    | some (.dk kvs) => some kvs
    | some (.dkL kvs) => some kvs
    | _ => none
  | _ => none
/-- d[k] -/
def dgetM (d k : D) : M D := fun h => match dkOf h d, keyD k with
  | some kvs, some k => (match valD kvs k with
    | some v => .ok v h
    | none => .stuck)
  | _, _ => .stuck
/-- d[k] = v -/
def dputM (d k v : D) : M Unit := fun h => match d with
  | .ref n => (match h[n]?, keyD k with
    | some (.dk kvs), some k => if lenOk (kvs.length + 1) = true then .ok () (h.set n (.dk (putKD kvs k v))) else .stuck
    | _, _ => .stuck)
  | _ => .stuck
section
variable {X : Cx} {W : WX} {ex env : Env} {pos apos tpos : Pos} {τ β : Type} {mk : τ → Env} {lp : β → Env} {rest : List Stmt}
theorem dk_of {fr : Fm} {F H : Hp} {m : List Addr} {ah : AH} {d : D} {v : V} {kvs : List (Key × D)} (S : Sim X.K X.mg fr F m ah H) (r : Rep X.K F m d v) (h : dkOf ah d = some kvs) :
    ∃ a n vs, v = .ref a ∧ d = .ref n ∧ m[n]? = some a ∧ Rd H a (.dK vs) ∧ RepK X.K F m kvs vs := by
  cases d <;> try (cases h; done)
  rename_i n
  unfold dkOf at h
  cases hc : ah[n]? with
  | none =>
    simp only [hc] at h
    cases h
  | some c =>
    unfold Rep at r
    obtain ⟨a, h1, rfl⟩ := r
    obtain ⟨a', q, ok⟩ := S.cells n _ hc
    rw [h1] at q
    cases q
    cases c <;> simp only [hc] at h <;> try (cases h; done)
    · cases h
      obtain ⟨h2, vs, h3, h4⟩ := ok
      exact ⟨a, n, vs, rfl, rfl, h1, .inl h3, h4⟩
    · cases h
      obtain ⟨o, vs, h3, h4⟩ := ok
      exact ⟨a, n, vs, rfl, rfl, h1, .inr ⟨o, S.sub _ _ h3⟩, h4⟩
theorem dget_rd {H : Hp} {a : Addr} {kvs : List (Key × V)} {k : Key} (e : Rd H a (.dK kvs)) : DGet H a (kV k) (valV kvs k) := .inl ⟨kvs, k, e, rfl, rfl⟩
theorem de_dget {o i : Expr} {mo mi : M D} (hu : X.A.units + 64 < cLine) (ho : DE X W env o mo) (hi : DE X W env i mi) (hs : NoSl i := by intro _ _; rfl) : DE X W env (.Subscript o i pos) (do let x ← mo; let y ← mi; dgetM x y) :=
  PE.from (pe_dget (by omega) ho hi hs) fun σ H Q ⟨fr, F, m, ah, s, er, q⟩ => TK.step s er q fun F1 m1 ah1 d v H1 e1 s1 er1 r1 k1 => TK.step s1 er1 k1 fun F2 m2 ah2 d2 v2 H2 e2 s2 er2 r2 k2 => by
    have r1 := Rep.ext e2 _ _ r1
    unfold dgetM at k2
    cases hd : dkOf ah2 d with
    | none =>
      simp only [hd] at k2
      exact k2.elim
    | some kvs =>
      cases hk : keyD d2 with
      | none =>
        simp only [hd, hk] at k2
        exact k2.elim
      | some k =>
        cases hv : valD kvs k with
        | none =>
          simp only [hd, hk, hv] at k2
          exact k2.elim
        | some w =>
          simp only [hd, hk, hv] at k2
          obtain ⟨a, n, vs, rfl, rfl, h1, h4, h5⟩ := dk_of s2 r1 hd
          obtain ⟨u, h6, h7⟩ := (h5.val (k := k)).1 w hv
          exact ⟨a, u, rfl, by rw [key_rep r2 hk, ← h6]; exact dget_rd h4, TK.val k2 s2 h7⟩
theorem ds_dput {o i e : Expr} {mo mi me : M D} {mc : M (Out τ β)} (hu : X.A.units + 64 < cLine) (he : DE X W env e me) (ho : DE X W env o mo) (hi : DE X W env i mi) (hx : EnvLe ex env) (hr : DS X W ex env mk lp rest mc)
    (hs : swapsWith e (some (.Subscript o i tpos)) pos.line X.env = pure false := by rfl) :
    DS X W ex env mk lp (.Assign [.Subscript o i tpos] e pos :: rest) (do let v ← me; let x ← mo; let y ← mi; let _ ← dputM x y v; mc) :=
  PSs.from (pss_cons (ps_dput (by omega) ho hi he hs) hr) fun Dn σ H ⟨fr, F, m, ah, s, er, q⟩ =>
    TO.step s er hx q fun F1 m1 ah1 d1 v1 H1 e1 s1 er1 r1 k1 => TO.step s1 er1 hx k1 fun F2 m2 ah2 d2 v2 H2 e2 s2 er2 r2 k2 => TO.step s2 er2 hx k2 fun F3 m3 ah3 d3 v3 H3 e3 s3 er3 r3 k3 => by
      rw [bind_def] at k3
      have r2 := Rep.ext e3 _ _ r2
      have r1 := Rep.ext (e2.trans e3) _ _ r1
      unfold dputM at k3
      cases d2 <;> try exact k3.elim
      rename_i n _
      cases hc : ah3[n]? with
      | none =>
        simp only [hc] at k3
        exact k3.elim
      | some c =>
        cases c <;> simp only [hc] at k3 <;> try exact k3.elim
        rename_i kvs
        cases hk : keyD d3 with
        | none =>
          simp only [hk] at k3
          exact k3.elim
        | some k =>
          simp only [hk] at k3
          by_cases hl : lenOk (kvs.length + 1) = true
          · simp only [if_pos hl] at k3
            unfold Rep at r2
            obtain ⟨a, h2, rfl⟩ := r2
            obtain ⟨a', q', ok⟩ := s3.cells n _ hc
            rw [h2] at q'
            cases q'
            obtain ⟨h3, vs, h4, h5⟩ := ok
            have hl' : vs.length < sizeLine := by
              have := of_decide_eq_true hl
              rw [RepK.length (κ := Key) h5]
              omega
            exact ⟨a, _, rfl, by rw [key_rep r3 hk]; exact DPut.k h4 hl', fr, F3, m3, _, s3.write (c' := .dk (putKD kvs k d1)) hc h2 rfl ⟨h3, _, upd_same, h5.putK r1⟩, er3, k3⟩
          · simp only [if_neg hl] at k3
            exact k3.elim
end
end Lw
/-! SimP: extend, in a dict. -/
namespace PySem.AutoSeq1
end PySem.AutoSeq1
namespace Lw
open PySem L2
section
/-! k in d -/
end
end Lw
/-! SimQ: a dict that is walked stands locked. -/
namespace Lw
open PySem L2
section
end
section
end
/-! ### a statement that runs while a dict stands locked -/
section
end
/-! ### the keys, the values of a locked dict -/
theorem RepK.at {κ : Type} {K : Fg} {F : Hp} {m : List Addr} : ∀ {ks : List (κ × D)} {vs : List (κ × V)} (i : Nat) {k : κ} {v : V}, RepK K F m ks vs → vs[i]? = some (k, v) → ∃ d, ks[i]? = some (k, d) ∧ Rep K F m d v
  | _, _, _, _, _, .nil, e => by simp at e
  | (g, x) :: r, (g', y) :: t, 0, k, v, .cons ⟨e, q⟩ u, h => by
    have e : g = g' := e
    subst e
    simp at h
    obtain ⟨rfl, rfl⟩ := h
    exact ⟨x, rfl, q⟩
  | _ :: r, _ :: t, i + 1, k, v, .cons q u, h => by
    obtain ⟨d, h1, h2⟩ := RepK.at i u (by simpa using h)
    exact ⟨d, by simpa using h1, h2⟩
section
end
/-! ### expressions that run while a dict stands locked -/
section
end
section
end
end Lw
/-! SimR: enumerate of lists and tuples. -/
namespace PySem
open Sem (wp)
open AutoSeq1 (wpAny_loadPart')
section
end
end PySem
namespace Lw
open PySem PySem.Spec PyProof.Rows L2
theorem takes0N {X : Cx} : L2N.Takes X W0 := fun _ _ x => by
  obtain ⟨_, _, _, _, _, _, _, _, _, _, _, _, _, _, _, _, z⟩ := x
  exact z.elim
/-- each with its number -/
def enumD (lo : Int) (xs : List D) : List D := (List.range xs.length).zipWith (fun k x => D.tup [.int (lo + (k : Nat)), x]) xs
def enumM : D → M (List D)
  | .tup xs => pure (enumD 0 xs)
  | .lst xs => pure (enumD 0 xs)
  | _ => stuck
section
end
section
end
end Lw
/-! SimT: dict displays, pop; texts' methods; a list times a number. -/
namespace Lw
open PySem L2
section
variable {X : Cx} {W : WX} {ex env : Env} {pos apos : Pos}
/-! d.pop(k) -/
/-! ### texts' methods -/
def schk (x : D) : M Unit := fun h => match x with
  | .str _ => .ok () h
  | _ => .stuck
theorem de_sm1 {o e : Expr} {mo me : M D} {name : Str} {id : String} {r : V → List V → Hp → VK → Prop} {f : D → D → M D} (slot : Slot "str" name id) (hty : typeOf (.builtin id) = pure (.type "method_descriptor")) (hm : MtR X id r)
    (hr : ∀ (fr : Fm) (W : WX) (σ : St) (F : Hp) (m : List Addr) (ah : AH) (H : Hp) (d e : D) (v w : V) (Q : VK), Sim X.K X.mg fr F m ah H → Rep X.K F m d v → Rep X.K F m e w → TK X.K X.mg fr W (Rep X.K) σ F m (f d e ah) Q → r v [w] H Q)
    (ho : DE X W env o mo) (he : DE X W env e me) (hbase : attributeBase o name X.env (eval o X.env) = eval o X.env := by rfl)
    (hline : (apos.endLine == pos.line) = true := by rfl) (hs : starEach [e] X.env = [(false, eval e X.env)] := by rfl) :
    DE X W env (.Call (.Attribute o name apos) [e] [] pos) (do let x ← mo; let _ ← schk x; let y ← me; f x y) :=
  PE.from (pe_m1 slot hty hm ho he hs hbase hline) fun σ H Q ⟨fr, F, m, ah, s, er, q⟩ => TK.step s er q fun F1 m1 ah1 d v H1 e1 s1 er1 r1 k1 => by
    rw [bind_def] at k1
    unfold schk at k1
    cases d <;> try exact k1.elim
    rename_i x
    refine ⟨⟨x, by unfold Rep at r1; exact r1⟩, TK.step s1 er1 k1 fun F2 m2 ah2 d2 v2 H2 e2 s2 er2 r2 k2 => ?_⟩
    exact hr fr W σ F2 m2 ah2 H2 _ _ _ _ Q s2 (Rep.ext e2 _ _ r1) r2 k2
/-- texts in a row -/
def strsOf : List D → Option (List Str)
  | [] => some []
  | .str x :: r => (match strsOf r with
    | some ys => some (x :: ys)
    | none => none)
  | _ => none
theorem strs_rep {K : Fg} {F : Hp} {m : List Addr} : ∀ {ds : List D} {vs : List V} {ys : List Str}, RepL K F m ds vs → strsOf ds = some ys → vs = ys.map V.str
  | [], vs, ys, r, h => by
    cases h
    unfold RepL at r
    exact r
  | d :: ds, vs, ys, r, h => by
    unfold RepL at r
    obtain ⟨v, t, rfl, h1, h2⟩ := r
    cases d <;> try (cases h; done)
    rename_i x
    unfold strsOf at h
    cases hr : strsOf ds with
    | none =>
      rw [hr] at h
      cases h
    | some zs =>
      rw [hr] at h
      cases h
      unfold Rep at h1
      rw [h1, strs_rep h2 hr]
      rfl
def joinM (x y : D) : M D := fun h => match x, seqOf h y with
  | .str a, some ds => (match strsOf ds with
    | some ys => if (ys.map (·.length)).sum + ys.length * a.length ≤ 16777216 then .ok (.str (Txt.join a ys)) h else .stuck
    | none => .stuck)
  | _, _ => .stuck
theorem de_join {o e : Expr} {mo me : M D} (ho : DE X W env o mo) (he : DE X W env e me) (hbase : attributeBase o "join" X.env (eval o X.env) = eval o X.env := by rfl)
    (hline : (apos.endLine == pos.line) = true := by rfl) (hs : starEach [e] X.env = [(false, eval e X.env)] := by rfl) :
    DE X W env (.Call (.Attribute o "join" apos) [e] [] pos) (do let x ← mo; let _ ← schk x; let y ← me; joinM x y) :=
  de_sm1 PySem.F.slot_str_join PySem.F.type_str_join mt_join (fun fr W σ F m ah H d e v w Q S r1 r2 k => by
    unfold joinM at k
    cases d <;> try exact k.elim
    rename_i a
    unfold Rep at r1
    cases hy : seqOf ah e with
    | none =>
      simp only [hy] at k
      exact k.elim
    | some ds =>
      simp only [hy] at k
      cases hs : strsOf ds with
      | none =>
        simp only [hs] at k
        exact k.elim
      | some ys =>
        simp only [hs] at k
        by_cases hl : (ys.map (·.length)).sum + ys.length * a.length ≤ 16777216
        · rw [if_pos hl] at k
          have key : ∃ p, w = .ref p ∧ (SqL X.K H p (ys.map V.str) ∨ SqT X.K H p (ys.map V.str)) := by
            cases e <;> try (cases hy; done)
            · obtain ⟨p, us, g1, g2, g3⟩ := lst_of S r2 (show lstOf ah _ = some ds from hy)
              exact ⟨p, g1, .inl (by rw [← strs_rep g3 hs]; exact g2)⟩
            · cases hy
              obtain ⟨p, us, g1, g2, g3⟩ := tup_of r2 rfl
              exact ⟨p, g1, .inr (by rw [← strs_rep g3 hs]; exact SqT.up S.sub g2)⟩
            · obtain ⟨p, us, g1, g2, g3⟩ := lst_of S r2 (show lstOf ah _ = some ds from hy)
              exact ⟨p, g1, .inl (by rw [← strs_rep g3 hs]; exact g2)⟩
          obtain ⟨p, e1, e2⟩ := key
          exact ⟨a, p, ys, r1, by rw [e1], e2, hl, TK.val k S Rep.str⟩
        · rw [if_neg hl] at k
          exact k.elim) ho he hbase hline hs
/-! ### a list times a number -/
/-! ### {k: v, ..} -/
abbrev RepP (K : Fg) (F : Hp) (m : List Addr) : List (D × D) → List (V × V) → Prop := Paired fun p q => Rep K F m p.1 q.1 ∧ Rep K F m p.2 q.2
theorem RepP.ext {K : Fg} {F F' : Hp} {m m' : List Addr} {xs : List (D × D)} {ys : List (V × V)} (e : Ext F m F' m') (h : RepP K F m xs ys) : RepP K F' m' xs ys :=
  Paired.imp (fun _ _ r => ⟨Rep.ext e _ _ r.1, Rep.ext e _ _ r.2⟩) h
structure DPs (X : Cx) (W : WX) (env : Env) (pos : Pos) (keys : List (Option Expr)) (values : List Expr) (ms : M (List (D × D))) : Prop where
  ex : ∃ trs, PPs X pos keys values trs ∧ ∀ σ H Q, TC X.K X.mg W (RepP X.K) env ms σ H Q → tPairs trs σ H Q
theorem dps_nil : DPs X W env pos [] [] (pure []) := ⟨[], pps_nil, fun σ H Q ⟨fr, F, m, ah, s, er, k⟩ => k F m [] H Ext.refl s .nil⟩
theorem dps_cons {k v : Expr} {ks : List (Option Expr)} {vs : List Expr} {mk mv : M D} {ms : M (List (D × D))} (hk : DE X W env k mk) (hv : DE X W env v mv) (hr : DPs X W env pos ks vs ms) :
    DPs X W env pos (some k :: ks) (v :: vs) (do let x ← mk; let y ← mv; let ps ← ms; pure ((x, y) :: ps)) := by
  obtain ⟨trs, h1, h2⟩ := hr.ex
  refine ⟨_, pps_cons hk hv h1, fun σ H Q ⟨fr, F, m, ah, s, er, q⟩ => TK.step s er q fun F1 m1 ah1 d1 v1 H1 e1 s1 er1 r1 k1 => TK.step s1 er1 k1 fun F2 m2 ah2 d2 v2 H2 e2 s2 er2 r2 k2 => ?_⟩
  refine h2 _ _ _ (TK.step (R := RepP X.K) s2 er2 k2 fun F3 m3 ah3 d3 v3 H3 e3 s3 er3 r3 k3 => ?_)
  exact k3 F3 m3 _ H3 Ext.refl s3 (.cons ⟨Rep.ext (e2.trans e3) _ _ r1, Rep.ext e3 _ _ r2⟩ r3)
def keysPs : List (D × D) → Option (List (Key × D))
  | [] => some []
  | (k, d) :: r => match keyD k, keysPs r with
    | some k, some t => some ((k, d) :: t)
    | _, _ => none
def mergeKD (kvs more : List (Key × D)) : List (Key × D) := more.foldl (fun acc kv => putKD acc kv.1 kv.2) kvs
theorem keysPs_rep {K : Fg} {F : Hp} {m : List Addr} : ∀ {ps : List (D × D)} {vs : List (V × V)} {kvs : List (Key × D)}, RepP K F m ps vs → keysPs ps = some kvs → ∃ us, vs = us.map (fun kv => (kV kv.1, kv.2)) ∧ RepK K F m kvs us
  | _, _, _, .nil, h => by
    cases h
    exact ⟨[], rfl, .nil⟩
  | (k, d) :: r, (v, u) :: t, kvs, .cons ⟨q1, q2⟩ qt, h => by
    unfold keysPs at h
    cases hk : keyD k with
    | none =>
      rw [hk] at h
      cases h
    | some kk =>
      cases hr : keysPs r with
      | none =>
        rw [hk, hr] at h
        cases h
      | some zs =>
        rw [hk, hr] at h
        cases h
        obtain ⟨us, rfl, h2⟩ := keysPs_rep qt hr
        exact ⟨(kk, u) :: us, by rw [List.map_cons, ← key_rep q1 hk], .cons ⟨rfl, q2⟩ h2⟩
theorem RepK.merge {K : Fg} {F : Hp} {m : List Addr} : ∀ {more : List (Key × D)} {us : List (Key × V)} {kvs : List (Key × D)} {vs : List (Key × V)}, RepK K F m more us → RepK K F m kvs vs → RepK K F m (mergeKD kvs more) (mergeK vs us)
  | _, _, _, _, .nil, h => h
  | (k, d) :: r, (k', u) :: t, kvs, vs, .cons ⟨e, q⟩ qt, h => by
    have e : k = k' := e
    subst e
    show RepK K F m (mergeKD (putKD kvs k d) r) (mergeK (L2.putK vs k u) t)
    exact RepK.merge qt (RepK.putK q h)
def dispM (r : D) (ps : List (D × D)) : M D := fun h => match r with
  | .ref n => (match h[n]?, keysPs ps with
    | some (.dk []), some kvs => if kvs.length ≤ 15 then .ok r (h.set n (.dk (mergeKD [] kvs))) else .stuck
    | _, _ => .stuck)
  | _ => .stuck
theorem de_disp {keys : List (Option Expr)} {values : List Expr} {ms : M (List (D × D))} (h : DPs X W env pos keys values ms) (hall : keys.all (·.isSome) = true := by rfl) (hl : keys.length = values.length := by rfl) (h0 : keys ≠ [] := by exact List.cons_ne_nil _ _)
    (h15 : keys.length ≤ 15 := by decide) : DE X W env (.Dict keys values pos) (do let r ← newM (.dk []); let ps ← ms; dispM r ps) := by
  obtain ⟨trs, h1, h2⟩ := h.ex
  refine PE.from (pe_disp h1 hall hl h0 h15) fun σ H Q ⟨fr, F, m, ah, s, er, q⟩ p hp => ?_
  obtain ⟨s1, e1⟩ := s.laid (o := .dK []) (c := .dk []) hp ⟨s.freeF hp, [], upd_same, .nil⟩
  have q : TK X.K X.mg fr W (Rep X.K) σ F m ((ms >>= fun ps => dispM (.ref ah.length) ps) (ah ++ [.dk []])) Q := q
  have hp1 : (m ++ [p])[ah.length]? = some p := by
    rw [← s.len, List.getElem?_append_right (Nat.le_refl _)]
    simp
  refine h2 _ _ _ (TK.step (R := RepP X.K) s1 (er.ext e1) (TK.ext e1 q) fun F2 m2 ah2 ps vs H2 e2 s2 er2 r2 k2 => ?_)
  unfold dispM at k2
  have hp2 := e2.pre _ _ hp1
  cases hc : ah2[ah.length]? with
  | none =>
    simp only [hc] at k2
    exact k2.elim
  | some c =>
    cases c <;> simp only [hc] at k2 <;> try exact k2.elim
    rename_i kv0
    cases hk : keysPs ps with
    | none =>
      cases kv0 <;> simp only [hk] at k2 <;> exact k2.elim
    | some kvs =>
      cases kv0 with
      | cons _ _ => simp only [hk] at k2; exact k2.elim
      | nil =>
        simp only [hk] at k2
        by_cases hl : kvs.length ≤ 15
        · rw [if_pos hl] at k2
          obtain ⟨a', q', ok⟩ := s2.cells _ _ hc
          rw [hp2] at q'
          cases q'
          obtain ⟨h3, us, h4, h5⟩ := ok
          cases h5
          obtain ⟨ws, rfl, h6⟩ := keysPs_rep r2 hk
          refine ⟨h4, ws, rfl, by rw [RepK.length h6]; exact hl, ?_⟩
          refine k2 F2 m2 (.ref p) _ Ext.refl (s2.write (c' := .dk (mergeKD [] kvs)) hc hp2 rfl ⟨h3, _, upd_same, RepK.merge h6 .nil⟩) ?_
          unfold Rep
          exact ⟨p, hp2, rfl⟩
        · rw [if_neg hl] at k2
          exact k2.elim
end
end Lw
/-! SimU: zip of a list and a tuple. -/
namespace Lw
open PySem PySem.Spec PyProof.Rows L2
def zipLTM : List D → M (List D)
  | [.lst xs, .tup ys] => pure (zipD xs ys)
  | _ => stuck
section
end
end Lw
/-! SimV: texts sign by sign, global constants, dict(list), sorted(dict), tuples compared. -/
namespace Lw
open PySem L2
section
/-! ### a text sign by sign -/
/-! ### tests: k in d -/
/-! ### constants of the module -/
/-! ### tuples of numbers compared -/
/-! ### dict(a list of pairs) -/
end
end Lw
/-! SimW: insert, reverse. -/
namespace Lw
open PySem L2
section
/-! ### in a list, by data -/
end
section
end
end Lw
/-! SimX: comprehensions whose list is written. -/
namespace Lw
open PySem L2
section
variable {X : Cx} {W : WX} {env : Env} {pos : Pos}
/-- list(range(b)) -/
theorem de_listrg1 {b : Expr} {mb : M D} {p p2 pos2 : Pos} (hc : X.calm = true) (hm : X.mg "list" = none) (hm2 : X.mg "range" = none) (hb : DE X W env b mb) (hg : Gl X "list" := by rfl) (hg2 : Gl X "range" := by rfl)
    (na : starEach [b] X.env = (false, eval b X.env) :: starEach [] X.env := by rfl)
    (nr : starEach [.Call (.Name "range" p2) [b] [] pos2] X.env = (false, eval (.Call (.Name "range" p2) [b] [] pos2) X.env) :: starEach [] X.env := by rfl) :
    DE X W env (.Call (.Name "list" p) [.Call (.Name "range" p2) [b] [] pos2] [] pos) (do let y ← mb; lrgM .lst (.int 0) y) :=
  PE.from (pe_listRg hc hg hm (prg_1 hg2 hm2 hb na) nr) fun σ H Q ⟨fr, F, m, ah, s, er, k⟩ => TK.step s er k fun F1 m1 ah1 d v H1 e1 s1 er1 r1 k1 => by
    unfold lrgM at k1
    cases d <;> try exact k1.elim
    rename_i j
    unfold Rep at r1
    by_cases c : (-(2 ^ 62) ≤ (0 : Int) ∧ (0 : Int) < 2 ^ 62) ∧ (-(2 ^ 62) ≤ j ∧ j < 2 ^ 62) ∧ (j - 0).toNat ≤ 2 ^ 24
    · simp only [if_pos c] at k1
      refine ⟨j, r1, ⟨c.1.1, c.1.2, c.2.1.1, c.2.1.2, c.2.2⟩, fun q hq => TK.newL k1 s1 (repl_rg 0 _) hq⟩
    · simp only [if_neg c] at k1
      exact k1.elim
end
end Lw
/-! ### calls without arguments -/
namespace Lw
open PySem L2
section
end
end Lw
/-! SimFa: a def that makes a function of its own names and gives it back; the captured cells are tracked behind its end. -/
namespace Lw
open PySem PySem.Spec PyProof.Rows L2 LamX NdefX
/-- the addresses in φ are tracked as cells -/
def trkH (φ : Addr → Option V) (H : Hp) : Hp := fun a => match φ a with
  | some v => some (CellO a v)
  | none => H a
section
variable {φ : Addr → Option V} {H H1 : Hp} {a : Addr} {v : V}
theorem trkH_some (e : φ a = some v) : trkH φ H a = some (CellO a v) := by
  unfold trkH
  rw [e]
theorem trkH_none (e : φ a = none) : trkH φ H a = H a := by
  unfold trkH
  rw [e]
theorem hok_trk {P : Program} {w : World} {h : Heap} (x : HOk P w H h) (c : ∀ a v, φ a = some v → H a = none ∧ ∃ u, L2.RelV v u ∧ h.IsCell a (some u)) : HOk P w (trkH φ H) h := fun a o e => by
  cases q : φ a with
  | some v =>
    rw [trkH_some q] at e
    cases e
    obtain ⟨_, u, r, ob, e1, e2⟩ := c a v q
    exact ⟨⟨u, r, ob, e1, e2⟩, ⟨ob, e1⟩, fun h1 h2 ⟨u, r, ob, e1, e2⟩ st => ⟨u, r, ob, st _ e1, e2⟩⟩
  | none =>
    rw [trkH_none q] at e
    have keep : ∀ {b : Addr} {o : HO}, H b = some o → trkH φ H b = some o := fun {b o} e => by
      cases q : φ b with
      | some v => rw [(c b v q).1] at e; cases e
      | none => rw [trkH_none q]; exact e
    exact (x a o e).stay (fun _ _ _ q => q) (fun _ q => keep q) fun _ _ q => keep q
theorem un_trk {fs : List Addr} {h h' : Heap} (x : Un fs [] H H1 h h') (c : ∀ a v, φ a = some v → H1 a = none ∧ h.get? a = none) : Un fs [] H (trkH φ H1) h h' := by
  have keep : ∀ {b : Addr} {o : HO}, H1 b = some o → trkH φ H1 b = some o := fun {b o} e => by
    cases q : φ b with
    | some v => rw [(c b v q).1] at e; cases e
    | none => rw [trkH_none q]; exact e
  refine ⟨x.keep, x.slot, fun b o e n z => ?_, x.there, fun b xs e => keep (x.tups b xs e), fun b o u e => keep (x.frzs b o u e), fun b ps e => ?_⟩
  · cases q : φ b with
    | some v => rw [(c b v q).2] at e; cases e
    | none => rw [trkH_none q]; exact x.free b o e n z
  · obtain ⟨more, q⟩ := x.tbls b ps e
    exact ⟨more, keep q⟩
end
open Classical in
/-- what the captured cells hold: the call's own values -/
noncomputable def capV (cl : List (Str × Addr)) (ps : List Str) (vs : List V) : Addr → Option V := fun a => if h : ∃ (v : V) (y : Str) (j : Nat), cl.lookup y = some a ∧ ps[j]? = some y ∧ vs[j]? = some v then some h.choose else none
theorem capV_of {cl : List (Str × Addr)} {ps : List Str} {vs : List V} {a : Addr} {v : V} (e : capV cl ps vs a = some v) : ∃ (y : Str) (j : Nat), cl.lookup y = some a ∧ ps[j]? = some y ∧ vs[j]? = some v := by
  unfold capV at e
  split at e
  · rename_i h
    cases e
    exact h.choose_spec
  · cases e
theorem capV_at {cl : List (Str × Addr)} {ps : List Str} {vs : List V} (nd : ps.Nodup) (inj : ∀ x y c, cl.lookup x = some c → cl.lookup y = some c → x = y) {y : Str} {a : Addr} {j : Nat} {v : V} (e1 : cl.lookup y = some a) (e2 : ps[j]? = some y) (e3 : vs[j]? = some v) : capV cl ps vs a = some v := by
  have h : ∃ (v : V) (y : Str) (j : Nat), cl.lookup y = some a ∧ ps[j]? = some y ∧ vs[j]? = some v := ⟨v, y, j, e1, e2, e3⟩
  obtain ⟨y', j', f1, f2, f3⟩ := h.choose_spec
  have ey := inj _ _ _ f1 e1
  subst ey
  obtain ⟨l1, g1⟩ := List.getElem?_eq_some_iff.mp e2
  obtain ⟨l2, g2⟩ := List.getElem?_eq_some_iff.mp f2
  have ej : j' = j := (List.getElem_inj nd).mp (g2.trans g1.symm)
  subst ej
  unfold capV
  rw [dif_pos h]
  rw [f3] at e3
  exact e3
/-- how the tracked things lie behind a def within a def: its function is new; its code is found in the table P, or new -/
def MadeX (P : Addr) (pos : Pos) (qc : Str) (FN : Addr → Addr → HO) (H : Hp) (f c' : Addr) (H1 : Hp) : Prop := H f = none ∧ ∃ ps : Array Value, H P = some (.tbl ps) ∧
  ((codeAmong pos ps.toList = some (.ref c') ∧ H1 = upd H f (FN f c')) ∨
   (codeAmong pos ps.toList = none ∧ H c' = none ∧ c' ≠ f ∧ H1 = upd (upd (upd H P (.tbl (ps ++ #[rawInt pos.line, rawInt pos.col, .ref c']))) c' (CodeO c' qc)) f (FN f c')))
theorem ndef_makeX {X : Cx} {pins : List (Addr × Obj)} {σ : L2.St} {H : Hp} {s : Shared} {c P : Addr} {name qc : Str} {params : Arguments} {body : List Stmt} {scope : Scope} {pos : Pos} {E : Value → Shared → Prop} {Q : Value → Shared → Prop} (I : L2.Inv X pins σ H s) (TB : TabB X.base X.mg c P) (hcode : X.env.code = .ref c)
    (hn : qc = X.env.qual ++ name) (hT : TabS H P qc) (hfree : ∀ y ∈ scope.names, y.2 = .free → ∃ c, X.env.cells.lookup y.1 = some c)
    (h : ∀ (f c' : Addr) (H1 : Hp) (s' : Shared), L2.Inv X pins σ H1 s' → MadeX P pos qc (fun f c' => FnO f ⟨name, X.env.qual ++ name, params, body, scope, cloFrom X.env.cells scope.names [], c'⟩) H f c' H1 → Q (.ref f) s') :
    wpAny (model X.prog X.w) X.A (makeFunction name (X.env.qual ++ name) params (.stmts body) scope X.env [] [] [] pos pos.line) Q E s := by
  obtain ⟨ps, hP, ht, ha⟩ := hT
  have bP : s.heap.BuiltinsAt X.mg P := TB.bm.keeps I.bk
  have hP' : s.heap.get? P = some { cls := .none, data := .fields ps } := I.hok P _ hP
  cases hc : codeAmong pos ps.toList with
  | none =>
    refine PySem.W.makeFunction_K (mg := X.mg) (c := c) (P := P) (ps := ps) (closure_ok hfree) I.ok.glob (I.mod.glob.keeps I.bk) hcode (TB.code.keeps I.bk) hP' ht hc TB.gP bP fun c' ctv doc h' tk hx hge hlt hrec htb => ?_
    obtain ⟨c2, oc, vs, t, e2, hoc, hd, hv⟩ := hrec
    cases e2
    have nC : H c' = none := I.hok.fresh hge
    have I1 := inv_table (t' := tk) (more := #[rawInt pos.line, rawInt pos.col, .ref c']) (h' := h') I hP (fun b o hb e => hx b o hb e) htb hge ⟨oc, vs, t, hoc, hd, hv⟩
    have I2 := inv_fn (F := ⟨name, X.env.qual ++ name, params, body, scope, cloFrom X.env.cells scope.names [], c'⟩) (t' := tk) (doc := doc) (pm := (X.mg "__name__").getD .none) (ctv := ctv) I1 rfl
    refine h h'.objs.size c' _ _ I2 ⟨I.hok.fresh (Nat.le_trans hge (Nat.le_of_lt hlt)), ps, hP, .inr ⟨hc, nC, Nat.ne_of_lt hlt, by rw [hn]⟩⟩
  | some cv =>
    obtain ⟨c', e, hco⟩ := ha pos cv hc
    subst e
    refine PySem.W.makeFunction_hit (mg := X.mg) (c := c) (P := P) (ps := ps) (closure_ok hfree) I.ok.glob (I.mod.glob.keeps I.bk) hcode (TB.code.keeps I.bk) hP' ht hc bP fun ctv doc h' tk hx hsz => ?_
    have I1 : L2.Inv X pins σ H { s with heap := h', toks := tk } := I.kept hx
    have nF : H h'.objs.size = none := I1.hok.fresh (Nat.le_refl _)
    have I2 := inv_fn (F := ⟨name, X.env.qual ++ name, params, body, scope, cloFrom X.env.cells scope.names [], c'⟩) (t' := tk) (doc := doc) (pm := (X.mg "__name__").getD .none) (ctv := ctv) I1 rfl
    exact h h'.objs.size c' _ _ I2 ⟨nF, ps, hP, .inl ⟨hc, rfl⟩⟩
/-- the statement -/
theorem ps_ndefX {X : Cx} {st : Stmt} {c P : Addr} {name qc : Str} {pos : Pos} {i : Nat} (hst : st = .FunctionDef name (C8.fnArgs st) (C8.fnBody st) [] none [] (C8.fnScope st) none name pos) (TB : TabB X.base X.mg c P) (hcode : X.env.code = .ref c) (hn : qc = X.env.qual ++ name)
    (hfree : ∀ y ∈ (C8.fnScope st).names, y.2 = .free → X.env.scope.names.lookup y.1 = some .cell ∨ X.env.scope.names.lookup y.1 = some .free) (hd0 : (C8.fnArgs st).defaults = []) (hk0 : (C8.fnArgs st).kw_defaults = []) (ha : annTrees (C8.fnArgs st) none X.env = [])
    (hN : X.N.Nodup) (hi : X.N[i]? = some name) (hx : Loc X.env.scope name) (hf : X.fn name = true ∨ X.env.scope.names.lookup name = some .local) :
    PS X st (fun D σ H => TabS H P qc ∧ ∀ (f c' : Addr) (H1 : Hp), MadeX P pos qc (fun f c' => FnO f (NF.of st name (X.env.qual ++ name) (cloFrom X.env.cells (C8.fnScope st).names []) c')) H f c' H1 → D.nx (σ.set i (some (.ref f))) H1) := by
  have q : PS X (.FunctionDef name (C8.fnArgs st) (C8.fnBody st) [] none [] (C8.fnScope st) none name pos) (fun D σ H => TabS H P qc ∧ ∀ (f c' : Addr) (H1 : Hp), MadeX P pos qc (fun f c' => FnO f (NF.of st name (X.env.qual ++ name) (cloFrom X.env.cells (C8.fnScope st).names []) c')) H f c' H1 → D.nx (σ.set i (some (.ref f))) H1) := by
    refine ⟨fun pins s σ H D I h => ?_⟩
    obtain ⟨hT, h⟩ := h
    have hq : qualnameIn X.env name name = X.env.qual ++ name := by
      have hk : X.env.kindOf name = some .local ∨ X.env.kindOf name = some .cell := hx
      unfold qualnameIn
      rcases hk with k | k <;> rw [k] <;> first | rfl | exact if_neg (by decide)
    refine PySem.W.nestDef_K hd0 hk0 ha ?_
    rw [hq]
    have hfr : ∀ y ∈ (C8.fnScope st).names, y.2 = .free → ∃ c, X.env.cells.lookup y.1 = some c := fun y hy e => (hfree y hy e).elim (fun z => I.ok.has _ (.inl z)) fun z => I.ok.has _ (.inr z)
    refine ndef_makeX I TB hcode hn hT hfr fun f c' H1 s' I1 mx => ?_
    exact store_ok I1 hN hi hx (v := .ref f) rfl (fun s'' J => ⟨_, H1, J, h f c' H1 mx⟩) hf
  rw [← hst] at q
  exact q
/-- the promise of such a def -/
def spFac (Pt : Addr) (pos : Pos) (ps : List Str) (qc : Str) (fr : List Str) (mk : List (Str × Addr) → Addr → Addr → HO) : Sp := fun vs H Q _ => vs.length = ps.length ∧ TabS H Pt qc ∧
  ∀ (g c' : Addr) (cl : List (Str × Addr)) (H1 : Hp), MadeX Pt pos qc (mk cl) H g c' H1 →
    (∀ y b, cl.lookup y = some b → y ∈ fr ∧ H1 b = none ∧ ∃ (j : Nat) (v : V), ps[j]? = some y ∧ vs[j]? = some v ∧ capV cl ps vs b = some v) → (∀ y ∈ fr, ∃ b, cl.lookup y = some b) → (∀ x y c, cl.lookup x = some c → cl.lookup y = some c → x = y) →
    Q (.ref g) (trkH (capV cl ps vs) H1)
theorem fac_of {CX : CXT} {P : Program} {w : World} {K : PySem.W.Frag} {mg : Str → Option Value} {base : Heap} {k : Nat} {f cdc Pt : Addr} {name qual inm : Str} {params : Arguments} {st : Stmt} {scope : Scope} {dV kV doc pm ct oc : Value} {an od : Option Addr}
    {osl : Array (Option Value)} {N ps fr : List Str} {qc : Str} {pos p1 p2 : Pos} {i : Nat}
    (lk : K.lookup f = some ⟨oc, od, .func (PySem.W.fnOf name qual params [st, .Return (some (.Name inm p1)) p2] scope dV kV doc pm an (.ref cdc) ct), osl⟩) (hcd : PySem.W.codeIn K (.ref cdc) qual = true) (S : FnScope N ps scope)
    (hst : st = .FunctionDef inm (C8.fnArgs st) (C8.fnBody st) [] none [] (C8.fnScope st) none inm pos) (TB : TabB base mg cdc Pt) (hn : qc = (qual ++ ".<locals>.") ++ inm)
    (hfree : ∀ y ∈ (C8.fnScope st).names, y.2 = .free → scope.names.lookup y.1 = some .cell ∧ y.1 ∈ ps ∧ y.1 ∈ fr) (hfr : ∀ y ∈ fr, (y, NameKind.free) ∈ (C8.fnScope st).names) (hd0 : (C8.fnArgs st).defaults = []) (hk0 : (C8.fnArgs st).kw_defaults = []) (ha : ∀ env, annTrees (C8.fnArgs st) none env = [])
    (hi : N[i]? = some inm) (hx : scope.names.lookup inm = some .local) (hip : inm ∉ ps) (hdb : (inm == ("__debug__" : Str)) = false) (hcdd : (inm == ("__classdict__" : Str)) = false) :
    FnOk P w K mg base CX (k + 1) f (PySem.W.fnOf name qual params [st, .Return (some (.Name inm p1)) p2] scope dV kV doc pm an (.ref cdc) ct) ps (spFac Pt pos ps qc fr (fun cl f c' => FnO f (NF.of st inm qc cl c'))) := by
  refine ⟨fun vs H Q E h => h.1, fun A outer s H args us vs Q E hr e0 hb r hsp => ?_⟩
  obtain ⟨hl, hT, hq⟩ := hsp
  have KX : K.In s.heap := e0.mod.kin.keeps fun b o e => (e0.bs b o e).1
  have lim : s.heap.NoLimit := e0.mod.nolimit.keeps fun b o e => (e0.bs b o e).1
  have hkind : ∀ y ∈ ps.zip us, scope.names.lookup y.1 = some .local ∨ (scope.names.lookup y.1 = some .cell ∧ ((cellsFrom (s.heap.objs.size + 1) scope.names []).lookup y.1).isSome = true) := fun ⟨n, v⟩ hy => by
    rcases S.par n (List.of_mem_zip hy).1 with q | q
    · exact .inl q
    · exact .inr ⟨q, PySem.W.cellsFrom_some _ _ _ (.inl q)⟩
  refine codeAny_call_function hr.depth (KX _ _ lk) rfl S.co S.gen rfl (PySem.W.codeRec_of KX hcd) (hb _ _ _ _ ?_)
  refine wpAny_newFunctionEnv_cells S.kind hkind fun env he s1 x => ?_
  subst he
  refine ⟨lim.keeps x.toInCall.keep, codeAny_func ?_⟩
  have I : Inv (cxOf CX P w K mg base N qual scope f (.ref cdc) A outer s H E) [] (L2.start N vs) H s1 := inv_start S hr.hd e0 hl r x
  have hfree2 : ∀ y ∈ (C8.fnScope st).names, y.2 = .free → (cxOf CX P w K mg base N qual scope f (.ref cdc) A outer s H E).env.scope.names.lookup y.1 = some .cell ∨ (cxOf CX P w K mg base N qual scope f (.ref cdc) A outer s H E).env.scope.names.lookup y.1 = some .free := fun y hy e => .inl (hfree y hy e).1
  have q1 := ps_ndefX (X := cxOf CX P w K mg base N qual scope f (.ref cdc) A outer s H E) (qc := qc) (c := cdc) (P := Pt) (name := inm) (pos := pos) (i := i) hst TB rfl hn hfree2 hd0 hk0 (ha _) S.nd hi (.inl hx) (.inl rfl)
  generalize hX : cxOf CX P w K mg base N qual scope f (.ref cdc) A outer s H E = X at I q1 hfree2
  have hN : X.N = N := by rw [← hX]; rfl
  have hsc : X.env.scope = scope := by rw [← hX]; rfl
  have hf : ∀ y ∈ (C8.fnScope st).names, y.2 = .free → ∃ c, X.env.cells.lookup y.1 = some c := fun y hy e => I.ok.has _ (.inl (by
    show X.env.scope.names.lookup y.1 = some .cell
    rw [hsc]
    exact (hfree y hy e).1))
  have psN : ∀ {j : Nat} {y : Str}, ps[j]? = some y → N[j]? = some y := fun {j y} e => by
    have q := S.pre
    rw [← q, List.getElem?_take] at e
    split at e
    · exact e
    · cases e
  have ndp : ps.Nodup := by
    rw [← S.pre]
    exact S.nd.sublist (List.take_sublist _ _)
  have kcell : ∀ {y : Str} {b : Addr}, (cloFrom X.env.cells (C8.fnScope st).names []).lookup y = some b → scope.names.lookup y = some .cell ∧ y ∈ ps ∧ y ∈ fr ∧ X.env.cells.lookup y = some b := fun {y b} e => by
    have c := clo_cm hf e
    rcases cloFrom_mem (PySem.mem_of_lookup e) with hm | ⟨h1, _⟩
    · cases hm
    · obtain ⟨a, b, d⟩ := hfree _ h1 rfl
      exact ⟨a, b, d, c⟩
  have inj : ∀ x y c, (cloFrom X.env.cells (C8.fnScope st).names []).lookup x = some c → (cloFrom X.env.cells (C8.fnScope st).names []).lookup y = some c → x = y := fun x y c e1 e2 => I.ok.inj x y c (clo_cm hf e1) (clo_cm hf e2)
  have go : wpAny (model X.prog X.w) X.A (execs [st, .Return (some (.Name inm p1)) p2] X.env) (fun fl s' => ∃ (g c' : Addr) (H1 : Hp), fl = .ret (.ref g) ∧ Inv X [] ((L2.start N vs).set i (some (.ref g))) H1 s' ∧ MadeX Pt pos qc (fun f c' => FnO f (NF.of st inm (X.env.qual ++ inm) (cloFrom X.env.cells (C8.fnScope st).names []) c')) H g c' H1) X.xe s1 := by
    refine wpAny_execs_cons (thn (q1.run [] s1 (L2.start N vs) H { nx := fun σ' H1 => ∃ (g c' : Addr), σ' = (L2.start N vs).set i (some (.ref g)) ∧ MadeX Pt pos qc (fun f c' => FnO f (NF.of st inm (X.env.qual ++ inm) (cloFrom X.env.cells (C8.fnScope st).names []) c')) H g c' H1, rt := fun _ _ => False } I
      ⟨hT, fun g c' H1 mx => ⟨g, c', rfl, mx⟩⟩) fun fl s2 hs => ?_)
    cases fl with
    | ret u =>
      obtain ⟨_, _, _, _, _, q⟩ := hs
      exact q.elim
    | brk =>
      obtain ⟨_, _, _, q⟩ := hs
      exact q.elim
    | cont =>
      obtain ⟨_, _, _, q⟩ := hs
      exact q.elim
    | next =>
      obtain ⟨σ', H1, I1, g, c', rfl, mx⟩ := hs
      have li : i < (L2.start N vs).length := by
        have := I.len
        rw [this, hN]
        exact (List.getElem?_eq_some_iff.mp hi).1
      have at_ : ((L2.start N vs).set i (some (.ref g)))[i]? = some (some (.ref g)) := by rw [List.getElem?_set_self li]
      refine wpAny_execs_cons (wpAny_Return_some (thn ((pe_var (X := X) (pos := p1) (i := i) (x := inm) (by rw [hN]; exact hi) (by rw [hsc]; exact .inl hx) hdb hcdd).run [] s2 _ H1 (fun v H2 => v = .ref g ∧ H2 = H1) I1 ⟨.ref g, at_, rfl, rfl⟩) fun u s3 ⟨v, H2, I2, r2, q2⟩ => ?_))
      obtain ⟨rfl, rfl⟩ := q2
      cases r2
      exact ⟨g, c', H2, rfl, I2, mx⟩
  have go2 : wpAny (model P w) (A.deeper (envOfC qual scope s.heap.objs.size f (.ref cdc))) (execs [st, .Return (some (.Name inm p1)) p2] (envOfC qual scope s.heap.objs.size f (.ref cdc))) (fun fl s' => ∃ (g c' : Addr) (H1 : Hp), fl = .ret (.ref g) ∧ Inv X [] ((L2.start N vs).set i (some (.ref g))) H1 s' ∧ MadeX Pt pos qc (fun f c' => FnO f (NF.of st inm (X.env.qual ++ inm) (cloFrom X.env.cells (C8.fnScope st).names []) c')) H g c' H1) X.xe s1 := by
    rw [← hX] at go ⊢
    exact go
  refine wpAny_mono go2 (fun fl s' hs => ?_) fun e s' hs => ?_
  · obtain ⟨g, c', H1, rfl, J, mx⟩ := hs
    have facts : ∀ a v, capV (cloFrom X.env.cells (C8.fnScope st).names []) ps vs a = some v → H1 a = none ∧ s.heap.get? a = none ∧ ∃ u, L2.RelV v u ∧ s'.heap.IsCell a (some u) := fun a v e => by
      obtain ⟨y, j, f1, f2, f3⟩ := capV_of e
      obtain ⟨k1, k2, k3, k4⟩ := kcell f1
      have sz : s.heap.objs.size ≤ a := by
        have := J.ok.cab y a (by rw [← hX]; rfl) k4
        rw [← hX] at this
        exact this
      obtain ⟨m, _, loc⟩ := J.loc
      have jne : i ≠ j := fun z => by
        subst z
        have := psN f2
        rw [hi] at this
        cases this
        exact hip k2
      have σj : ((L2.start N vs).set i (some (.ref g)))[j]? = some (some v) := by
        rw [List.getElem?_set_ne jne]
        unfold L2.start
        rw [List.getElem?_append_left (by rw [List.length_map]; exact (List.getElem?_eq_some_iff.mp f3).1), List.getElem?_map, f3]
        rfl
      obtain ⟨u, r1, lk1⟩ := loc j y v (by rw [hN]; exact psN f2) σj (by rw [hsc]; exact .inr (.inl k1))
      refine ⟨J.freeC y a k4, Heap.get?_none_of_le sz, u, r1, ?_⟩
      rcases lk1 with ⟨z, _⟩ | ⟨_, c, z1, z2⟩
      · have z : X.env.scope.names.lookup y = some .local := z
        rw [hsc, k1] at z
        cases z
      · rw [k4] at z1
        cases z1
        exact z2
    have eq_ : X.env.qual = qual ++ ".<locals>." := by rw [← hX]; rfl
    have os : s'.os = s.os := by
      have := J.os
      rw [← hX] at this
      exact this
    have un : Un (frs outer) [] H H1 s.heap s'.heap := by
      have := J.base
      rw [← hX] at this
      exact this
    have hok : HOk P w H1 s'.heap := by
      have := J.hok
      rw [← hX] at this
      exact this
    refine ⟨.ref g, trkH (capV (cloFrom X.env.cells (C8.fnScope st).names []) ps vs) H1, os, J.bare, un_trk un (fun a v e => ⟨(facts a v e).1, (facts a v e).2.1⟩), hok_trk hok (fun a v e => ⟨(facts a v e).1, (facts a v e).2.2⟩), rfl, ?_⟩
    refine hq g c' _ H1 (by rw [hn, ← eq_]; rw [hn, ← eq_] at mx; exact mx) (fun y b e => ?_) (fun y hy => ?_) inj
    · obtain ⟨k1, k2, k3, k4⟩ := kcell e
      obtain ⟨j, hj, ej⟩ := List.mem_iff_getElem.mp k2
      have jv : j < vs.length := by rw [hl]; exact hj
      exact ⟨k3, J.freeC y b k4, j, vs[j], by rw [List.getElem?_eq_getElem hj, ej], List.getElem?_eq_getElem jv, capV_at ndp inj e (by rw [List.getElem?_eq_getElem hj, ej]) (List.getElem?_eq_getElem jv)⟩
    · have z := hfr y hy
      obtain ⟨c, hc⟩ := hf _ z rfl
      exact ⟨c, clo_has hf z hc⟩
  · rw [← hX] at hs
    exact hs
end Lw
/-! SimFb: a function with captured cells is called: they are untracked while its body runs. -/
namespace Lw
open PySem PySem.Spec PyProof.Rows L2 LamX NdefX
def dropH (φ : Addr → Option V) (H : Hp) : Hp := fun a => match φ a with
  | some _ => none
  | none => H a
section
variable {φ : Addr → Option V} {H H' : Hp} {a : Addr} {v : V}
theorem dropH_some (e : φ a = some v) : dropH φ H a = none := by
  unfold dropH
  rw [e]
theorem dropH_none (e : φ a = none) : dropH φ H a = H a := by
  unfold dropH
  rw [e]
theorem dropH_keep {b : Addr} {o : HO} (e : dropH φ H b = some o) : φ b = none ∧ H b = some o := by
  cases q : φ b with
  | some v => rw [dropH_some q] at e; cases e
  | none => rw [dropH_none q] at e; exact ⟨rfl, e⟩
/-- what is tracked as cells -/
def TrkC (φ : Addr → Option V) (H : Hp) : Prop := ∀ a v, φ a = some v → H a = some (CellO a v)
theorem TrkC.oth (c : TrkC φ H) {b : Addr} {o : HO} (e : H b = some o) (n : ∀ ψ, o ≠ .ext ψ) : dropH φ H b = some o := by
  cases q : φ b with
  | some v =>
    rw [c b v q] at e
    cases e
    exact absurd rfl (n _)
  | none => rw [dropH_none q]; exact e
theorem hok_drop {P : Program} {w : World} {h : Heap} (c : TrkC φ H) (x : HOk P w H h) : HOk P w (dropH φ H) h := fun a o e =>
  (x a o (dropH_keep e).2).stay (fun _ _ _ q => q) (fun _ q => c.oth q fun ψ z => by cases z) fun _ _ q => c.oth q fun ψ z => by cases z
theorem env0_drop {P : Program} {w : World} {K : PySem.W.Frag} {mg : Str → Option Value} {base : Heap} {A : Around} {outer : List PySem.Env} {s : Shared} (c : TrkC φ H) (e : Env0 P w K mg base A outer s H) : Env0 P w K mg base A outer s (dropH φ H) := by
  have no : ∀ {b : Addr}, H b = none → dropH φ H b = none := fun {b} z => by
    cases q : φ b with
    | some v => exact dropH_some q
    | none => rw [dropH_none q]; exact z
  exact ⟨e.frames, e.mod, fun b o z => ⟨(e.bs b o z).1, no (e.bs b o z).2⟩, e.bsz, e.funs, fun b hb => no (e.frf b hb), hok_drop c e.hok, e.bare⟩
theorem cell_of {P : Program} {w : World} {h : Heap} (c : TrkC φ H) (x : HOk P w H h) (e : φ a = some v) : ∃ u, L2.RelV v u ∧ h.IsCell a (some u) := (x a _ (c a v e)).1
/-- .. and tracked again -/
theorem ce_trk {P : Program} {w : World} {K : PySem.W.Frag} {mg : Str → Option Value} {base : Heap} {A : Around} {outer : List PySem.Env} {s s' : Shared} {Q : VK} {u : Value} (c : TrkC φ H) (e0 : Env0 P w K mg base A outer s H) (h : CE outer P w (dropH φ H) s (fun v H' => (∀ a v, φ a = some v → H' a = none) → Q v (trkH φ H')) u s') : CE outer P w H s Q u s' := by
  obtain ⟨v, H', os, ab, un, hok, rv, q⟩ := h
  have non : ∀ {b : Addr}, H b = none → φ b = none := fun {b} z => by
    cases q : φ b with
    | some v => rw [c b v q] at z; cases z
    | none => rfl
  have facts : ∀ a v, φ a = some v → H' a = none ∧ ∃ u, L2.RelV v u ∧ s'.heap.IsCell a (some u) := fun a v e => by
    obtain ⟨u, r, o, e1, e2⟩ := cell_of c e0.hok e
    have nf : a ∉ frs outer := fun z => by
      have := e0.frf a z
      rw [c a v e] at this
      cases this
    exact ⟨un.free a o e1 (dropH_some e) (by simp), u, r, o, un.keep a o e1 (dropH_some e) nf (by simp), e2⟩
  have keep : ∀ {b : Addr} {o : HO}, H' b = some o → trkH φ H' b = some o := fun {b o} e => by
    cases q : φ b with
    | some v => rw [(facts b v q).1] at e; cases e
    | none => rw [trkH_none q]; exact e
  refine ⟨v, trkH φ H', os, ab, ⟨fun b o e n => un.keep b o e (by rw [dropH_none (non n)]; exact n), fun b o e n => un.slot b o e (by rw [dropH_none (non n)]; exact n), fun b o e n z => ?_, un.there, fun b xs e => keep (un.tups b xs (c.oth e fun ψ z => by cases z)), fun b o u e => keep (un.frzs b o u (c.oth e fun ψ z => by cases z)), fun b ps e => ?_⟩, hok_trk hok facts, rv, q fun a v e => (facts a v e).1⟩
  · rw [trkH_none (non n)]
    exact un.free b o e (by rw [dropH_none (non n)]; exact n) z
  · obtain ⟨more, q⟩ := un.tbls b ps (c.oth e fun ψ z => by cases z)
    exact ⟨more, keep q⟩
end
structure GOk (P : Program) (w : World) (K : PySem.W.Frag) (mg : Str → Option Value) (base : Heap) (CX : CXT) (k : Nat) (S : FnS) (f : Addr) (cl : List (Str × Addr)) (c : Addr) (ps : List Str) (sp : List (Option V) → Sp) : Prop where
  len : ∀ ws vs H Q E, sp ws vs H Q E → vs.length = ps.length
  run : ∀ (A : Around) (outer : List PySem.Env) (s : Shared) (H : Hp) (us : List Value) (vs : List V) (ws : List (Option V)) (Q : VK) (E : XK), Room k A → Env0 P w K mg base A outer s H → H f = some (FO S f cl c) → H c = some (CodeO c S.qual) →
    CellsAt cl S.fr ws s.heap H → Vals vs us → sp ws vs H Q E → codeAny (model P w) A (.call (.ref f) ⟨us, []⟩) (CR CX outer P w H s Q E) s
theorem NOk.gok {P : Program} {w : World} {K : PySem.W.Frag} {mg : Str → Option Value} {base : Heap} {CX : CXT} {k : Nat} {st : Stmt} {name qual : Str} {fr : List Str} {f : Addr} {cl : List (Str × Addr)} {c : Addr} {ps : List Str} {sp : List (Option V) → Sp} (n : NOk P w K mg base CX k f (NF.of st name qual cl c) ps fr sp) :
    GOk P w K mg base CX k (defS st name qual fr) f cl c ps sp := ⟨n.len, fun A outer s H us vs ws Q E hr e0 hf hc C r q => n.run A outer s H us vs ws Q E hr e0 hf hc C r q⟩
/-- a made function called, its cells tracked -/
theorem run_cl {P : Program} {w : World} {K : PySem.W.Frag} {mg : Str → Option Value} {base : Heap} {k : Nat} {f c0 : Addr} {S : FnS} {cl : List (Str × Addr)} {ps : List Str} {sp : List (Option V) → Sp} (Fn : GOk P w K mg base (L2N.CX P w) k S f cl c0 ps sp) {A : Around} {outer : List PySem.Env} {s : Shared} {H : Hp} {us : List Value} {vs : List V} {ws : List (Option V)} {Q : VK} {φ : Addr → Option V}
    (hr : Room k A) (e0 : Env0 P w K mg base A outer s H) (hf : H f = some (FO S f cl c0)) (hc : H c0 = some (CodeO c0 S.qual)) (c : TrkC φ H) (nf : φ f = none) (nc : φ c0 = none) (all : ∀ y b, cl.lookup y = some b → ∃ v, φ b = some v) (inj : ∀ x y c, cl.lookup x = some c → cl.lookup y = some c → x = y)
    (lw : ws.length = S.fr.length) (has : ∀ (i : Nat) (y : Str), S.fr[i]? = some y → ∃ c, cl.lookup y = some c ∧ ∀ v, ws[i]? = some (some v) → φ c = some v) (r : Vals vs us) (hsp : sp ws vs (dropH φ H) (fun v H' => (∀ a v, φ a = some v → H' a = none) → Q v (trkH φ H')) (fun _ _ _ => False)) :
    codeAny (model P w) A (.call (.ref f) ⟨us, []⟩) (fun r s' => ∃ u, r = .ok (.ret u) ∧ CE outer P w H s Q u s') s := by
  have C : CellsAt cl S.fr ws s.heap (dropH φ H) := by
    refine ⟨lw, fun y b e => ?_, inj, fun i y e => ?_⟩
    · obtain ⟨v, hv⟩ := all y b e
      obtain ⟨u, _, q⟩ := cell_of c e0.hok hv
      exact ⟨dropH_some hv, _, q⟩
    · obtain ⟨b, e1, e2⟩ := has i y e
      exact ⟨b, e1, fun v hv => cell_of c e0.hok (e2 v hv)⟩
  refine codeAny_mono (Fn.run A outer s (dropH φ H) us vs ws _ _ hr (env0_drop c e0) (by rw [dropH_none nf]; exact hf) (by rw [dropH_none nc]; exact hc) C r hsp) fun rr s' hq => ?_
  cases rr with
  | error e =>
    obtain ⟨_, _, _, _, _, _, _, _, _, _, _, _, z⟩ := hq
    exact z.elim
  | ok fl =>
    cases fl with
    | ret u => exact ⟨u, rfl, ce_trk c e0 hq⟩
    | next => exact False.elim hq
    | brk => exact False.elim hq
    | cont => exact False.elim hq
end Lw
/-! SimFc: a def that makes a function, as a plain computation. -/
namespace Lw
open PySem PySem.Spec PyProof.Rows L2 LamX NdefX
section
variable {K : Fg} {mg : Str → Option Value} {fr : Fm} {F F' H H' : Hp} {m m' : List Addr} {ah : AH} {φ : Addr → Option V}
/-- captured cells are known from now on, and never written while they are tracked -/
theorem Sim.frozenC (S : Sim K mg fr F m ah H) (hp : ∀ a v, φ a = some v → H a = none) : Sim K mg fr (trkH φ F) m ah (trkH φ H) ∧ Ext F m (trkH φ F) m := by
  have Fp : ∀ {a v}, φ a = some v → F a = none := fun {a v} e => by
    cases q : F a with
    | none => rfl
    | some u =>
      have := S.sub _ _ q
      rw [hp a v e] at this
      cases this
  have e : Ext F m (trkH φ F) m := ⟨fun a u h => by
    cases q : φ a with
    | some v => rw [Fp q] at h; cases h
    | none => rw [trkH_none q]; exact h, fun _ _ h => h⟩
  have nm : ∀ a, a ∈ m → φ a = none := fun a ha => by
    cases q : φ a with
    | none => rfl
    | some v =>
      obtain ⟨u, hu⟩ := S.there a ha
      rw [hp a v q] at hu
      cases hu
  have nh : ∀ {a : Addr} {o : HO}, H a = some o → φ a = none := fun {a o} h => by
    cases q : φ a with
    | none => rfl
    | some v => rw [hp a v q] at h; cases h
  refine ⟨⟨fun a u h => ?_, S.len, S.nod, fun i c h => ?_, fun a u h n => ?_, S.young, S.pre, fun a ha => ?_, fun a u h => ?_⟩, e⟩
  · cases q : φ a with
    | some v =>
      rw [trkH_some q] at h ⊢
      exact h
    | none =>
      rw [trkH_none q] at h ⊢
      exact S.sub _ _ h
  · obtain ⟨a, q, ok⟩ := S.cells i c h
    have ne := nm a (List.mem_of_getElem? q)
    exact ⟨a, q, ok.ext e (fun z => by rw [trkH_none ne]; exact ok.free z) fun _ => by rw [trkH_none ne]⟩
  · have q := S.frame a u h n
    rw [trkH_none (nh q)]
    exact q
  · rw [trkH_none (nm a ha)]
    exact S.there a ha
  · cases q : φ a with
    | some v => exact .inr (.inl (S.fresh0 (hp a v q)))
    | none =>
      rw [trkH_none q] at h
      exact S.old a u h
/-- a thing that is never written gets a place in the plain heap -/
theorem Sim.adoptF {p : Addr} {o : HO} {c : Cell} (S : Sim K mg fr F m ah H) (hm : p ∉ m) (h0 : fr.H0 p = none) (hp : H p = some o) (ok : CellOk K mg F m H p c) (t : trk c = false) :
    Sim K mg fr F (m ++ [p]) (ah ++ [c]) H ∧ Ext F m F (m ++ [p]) := by
  have nm : ∀ a, a ∈ m → a ≠ p := fun a ha z => hm (by rw [← z]; exact ha)
  have e : Ext F m F (m ++ [p]) := ⟨fun _ _ h => h, fun i a h => by
    rw [List.getElem?_append_left (List.getElem?_eq_some_iff.mp h).1]
    exact h⟩
  refine ⟨⟨S.sub, by simp [S.len], ?_, fun i x h => ?_, fun a u h n => S.frame a u h n, fun a ha n => ?_, fun i a h => e.pre i a (S.pre i a h), fun a ha => ?_, S.old⟩, e⟩
  · rw [List.nodup_append]
    exact ⟨S.nod, by simp, fun a ha b hb => by
      rw [List.mem_singleton.mp hb]
      exact nm a ha⟩
  · rcases getElem?_snoc_cases h with h | ⟨hi, hx⟩
    · obtain ⟨a, q, okx⟩ := S.cells i x h
      exact ⟨a, e.pre i a q, okx.ext e (fun z => okx.free z) fun _ => rfl⟩
    · refine ⟨p, ?_, ?_⟩
      · rw [hi, ← S.len, List.getElem?_append_right (Nat.le_refl _)]
        simp
      · rw [← hx]
        exact ok.ext e (fun z => by rw [t] at z; cases z) fun _ => rfl
  · rcases List.mem_append.mp ha with ha | ha
    · exact S.young a ha n
    · rw [List.mem_singleton.mp ha]
      exact h0
  · rcases List.mem_append.mp ha with ha | ha
    · exact S.there a ha
    · rw [List.mem_singleton.mp ha]
      exact ⟨_, hp⟩
theorem upd_comm {a b : Addr} {o u : HO} (n : a ≠ b) : upd (upd H a o) b u = upd (upd H b u) a o := by
  funext x
  by_cases h1 : x = a
  · subst h1
    rw [upd_ne n, upd_same, upd_same]
  · by_cases h2 : x = b
    · subst h2
      rw [upd_same, upd_ne h1, upd_same]
    · rw [upd_ne h2, upd_ne h1, upd_ne h1, upd_ne h2]
/-- a function is made, its code found or new: the plain heap has it behind -/
theorem Sim.made {Pt g c' : Addr} {pos : Pos} {x qc : Str} {FN : Addr → Addr → HO} {H1 : Hp} {ti : Nat} (S : Sim K mg fr F m ah H) (ht : ah[ti]? = some (.tab x qc)) (hm : m[ti]? = some Pt) (mx : MadeX Pt pos qc FN H g c' H1) :
    ∃ F1, Sim K mg fr F1 m ah H1 ∧ Ext F m F1 m ∧ F1 g = some (FN g c') ∧ F1 c' = some (CodeO c' qc) ∧ fr.H0 g = none ∧ g ∉ m ∧ (∀ b, H1 b = none → H b = none) := by
  obtain ⟨ng, ps, hP, alt⟩ := mx
  obtain ⟨a, q, ok⟩ := S.cells ti _ ht
  rw [hm] at q
  cases q
  obtain ⟨fa, tb, ps', hP', tr, cd⟩ := ok
  rw [hP] at hP'
  cases hP'
  have gm : g ∉ m := fun z => by
    obtain ⟨u, hu⟩ := S.there g z
    rw [ng] at hu
    cases hu
  rcases alt with ⟨hc, rfl⟩ | ⟨hc, nc, cg, rfl⟩
  · obtain ⟨c, e1, e2⟩ := cd pos _ hc
    cases e1
    obtain ⟨S1, x1⟩ := S.frozen (o := FN g c') ng
    refine ⟨_, S1, x1, upd_same, x1.sub _ _ e2, S.fresh0 ng, gm, fun b e => ?_⟩
    by_cases z : b = g
    · rw [z]; exact ng
    · rw [upd_ne z] at e; exact e
  · have cP : c' ≠ Pt := fun z => by rw [z, hP] at nc; cases nc
    have gP : g ≠ Pt := fun z => by rw [z, hP] at ng; cases ng
    obtain ⟨S1, x1⟩ := S.frozen (o := CodeO c' qc) nc
    have eL : (ps ++ #[rawInt pos.line, rawInt pos.col, .ref c']).toList = ps.toList ++ [rawInt pos.line, rawInt pos.col, .ref c'] := by simp
    have ok2 : CellOk K mg (upd F c' (CodeO c' qc)) m (upd (upd H c' (CodeO c' qc)) Pt (.tbl (ps ++ #[rawInt pos.line, rawInt pos.col, .ref c']))) Pt (.tab x qc) := by
      refine ⟨by rw [upd_ne (Ne.symm cP)]; exact fa, tb, _, upd_same, by rw [eL]; exact PySem.TriplesOk_snoc _ _ _ _ tr, fun p cv h => ?_⟩
      rw [eL] at h
      rcases among_app _ tr h with z | z
      · obtain ⟨c, e1, e2⟩ := cd p cv z
        exact ⟨c, e1, x1.sub _ _ e2⟩
      · exact ⟨c', z, upd_same⟩
    have S2 := S1.write ht hm (c' := .tab x qc) rfl ok2
    have es : ah.set ti (.tab x qc) = ah := by
      refine List.ext_getElem? fun j => ?_
      by_cases z : ti = j
      · subst z
        rw [List.getElem?_set_self (List.getElem?_eq_some_iff.mp ht).1, ht]
      · rw [List.getElem?_set_ne z]
    rw [es] at S2
    have ng2 : upd (upd H c' (CodeO c' qc)) Pt (.tbl (ps ++ #[rawInt pos.line, rawInt pos.col, .ref c'])) g = none := by
      rw [upd_ne gP, upd_ne (Ne.symm cg)]
      exact ng
    obtain ⟨S3, x3⟩ := S2.frozen (o := FN g c') ng2
    have eH : upd (upd (upd H c' (CodeO c' qc)) Pt (.tbl (ps ++ #[rawInt pos.line, rawInt pos.col, .ref c']))) g (FN g c') = upd (upd (upd H Pt (.tbl (ps ++ #[rawInt pos.line, rawInt pos.col, .ref c']))) c' (CodeO c' qc)) g (FN g c') := by
      rw [upd_comm cP]
    rw [eH] at S3
    refine ⟨_, S3, x1.trans x3, upd_same, by rw [upd_ne cg, upd_same], S.fresh0 ng, gm, fun b e => ?_⟩
    by_cases z1 : b = g
    · rw [z1]; exact ng
    · rw [upd_ne z1] at e
      by_cases z2 : b = c'
      · rw [z2]; exact nc
      · rw [upd_ne z2] at e
        by_cases z3 : b = Pt
        · rw [z3, upd_same] at e; cases e
        · rw [upd_ne z3] at e; exact e
end
end Lw
/-! SimFd: such a def's promise. -/
namespace Lw
open PySem PySem.Spec PyProof.Rows L2 LamX NdefX
def pickD {α : Type} (ix : List Nat) (ds : List α) : List α := ix.filterMap fun j => ds[j]?
theorem pick_len {α : Type} : ∀ {ix : List Nat} {ds : List α}, (∀ j ∈ ix, j < ds.length) → (pickD ix ds).length = ix.length
  | [], _, _ => rfl
  | j :: r, ds, h => by
    have hj := h j List.mem_cons_self
    have ih := pick_len (ix := r) (ds := ds) fun x hx => h x (List.mem_cons_of_mem _ hx)
    unfold pickD at ih ⊢
    rw [List.filterMap_cons, List.getElem?_eq_getElem hj]
    simp only [List.length_cons, ih]
theorem pick_get {α : Type} : ∀ {ix : List Nat} {ds : List α} {i : Nat}, (∀ j ∈ ix, j < ds.length) → (pickD ix ds)[i]? = ix[i]?.bind fun j => ds[j]?
  | [], _, _, _ => rfl
  | j :: r, ds, 0, h => by
    have hj := h j List.mem_cons_self
    unfold pickD
    rw [List.filterMap_cons, List.getElem?_eq_getElem hj]
    simp [List.getElem?_eq_getElem hj]
  | j :: r, ds, i + 1, h => by
    have hj := h j List.mem_cons_self
    have ih := pick_get (ix := r) (ds := ds) (i := i) fun x hx => h x (List.mem_cons_of_mem _ hx)
    unfold pickD at ih ⊢
    rw [List.filterMap_cons, List.getElem?_eq_getElem hj]
    simpa using ih
/-- a function of the kind S is made of what it captures; the table at the place ti is the one of the def x -/
def mkfnM (ti : Nat) (x qc : Str) (S : FnS) (cs : List D) : M D := fun h => match h[ti]? with
  | some (.tab x' q') => if x' = x ∧ q' = qc then .ok (.ref h.length) (h ++ [.fn S cs]) else .stuck
  | _ => .stuck
theorem RepL.pickN {K : Fg} {F : Hp} {m : List Addr} {ix : List Nat} {ds : List D} {vs : List V} (r : RepL K F m ds vs) (h : ∀ j ∈ ix, j < ds.length) : RepL K F m (pickD ix ds) (pickD ix vs) := by
  have hv : ∀ j ∈ ix, j < vs.length := fun j hj => by rw [RepL.length r]; exact h j hj
  refine RepL.of_get (by rw [pick_len h, pick_len hv]) fun i d v e1 e2 => ?_
  rw [pick_get h] at e1
  rw [pick_get hv] at e2
  cases q : ix[i]? with
  | none => rw [q] at e1; cases e1
  | some j =>
    rw [q] at e1 e2
    obtain ⟨v', f1, f2⟩ := RepL.get r (show ds[j]? = some d from e1)
    have e2 : vs[j]? = some v := e2
    rw [f1] at e2
    cases e2
    exact f2
theorem spFac_imp {K : PySem.W.Frag} {mg : Str → Option Value} {n ti : Nat} {Pt : Addr} {x qc : Str} {S : FnS} {ps fr : List Str} {pos : Pos} {ix : List Nat} (ndp : ps.Nodup) (hq : S.qual = qc) (hs : S.fr = fr)
    (tf : ∀ a, TabOf K mg x a → a = Pt) (hl : ps.length = n) (hix : ix.map (fun j => ps[j]?) = fr.map some) {vs : List V} {H : Hp} {Q : VK} {E : XK} (h : spD K mg n (fun ds => mkfnM ti x qc S (pickD ix ds)) vs H Q E) :
    spFac Pt pos ps qc fr (fun cl f c' => FO S f cl c') vs H Q E := by
  obtain ⟨lv, fr0, F, m, ah, ds, Sm, r, q⟩ := h
  have ld : ds.length = n := by rw [← RepL.length r]; exact lv
  have q : TK K mg fr0 (fun c d _ H => E c d H) (Rep K) [] F m (mkfnM ti x qc S (pickD ix ds) ah) Q := q
  cases ht : ah[ti]? with
  | none =>
    unfold mkfnM at q
    rw [ht] at q
    exact q.elim
  | some c =>
    unfold mkfnM at q
    rw [ht] at q
    cases c with
    | tab x' q' =>
      by_cases hc : x' = x ∧ q' = qc
      · obtain ⟨rfl, rfl⟩ := hc
        simp only [and_self, if_true] at q
        obtain ⟨a, hm, ok⟩ := Sm.cells ti _ ht
        have ea : a = Pt := tf a ok.2.1
        subst ea
        have TS : TabS H a q' := by
          obtain ⟨_, _, ps', h1, h2, h3⟩ := ok
          refine ⟨ps', h1, h2, fun p cv hc => ?_⟩
          obtain ⟨c, e1, e2⟩ := h3 p cv hc
          exact ⟨c, e1, Sm.sub _ _ e2⟩
        refine ⟨lv.trans hl.symm, TS, fun g c' cl H1 mx hcl hfr2 inj => ?_⟩
        obtain ⟨F1, S1, x1, fg, fc, g0, gm, back⟩ := Sm.made ht hm mx
        have hφ : ∀ b v, capV cl ps vs b = some v → H1 b = none := fun b v e => by
          obtain ⟨y, j, f1, _, _⟩ := capV_of e
          exact (hcl y b f1).2.1
        obtain ⟨S2, x2⟩ := S1.frozenC hφ
        have non : ∀ {b : Addr} {o : HO}, F1 b = some o → capV cl ps vs b = none := fun {b o} e => by
          cases q : capV cl ps vs b with
          | none => rfl
          | some v =>
            have := S1.sub _ _ e
            rw [hφ b v q] at this
            cases this
        have hixl : ∀ j ∈ ix, j < ps.length := fun j hj => by
          obtain ⟨i2, hi2, e⟩ := List.mem_iff_getElem.mp hj
          have z := congrArg (fun l => l[i2]?) hix
          simp only [List.getElem?_map] at z
          rw [List.getElem?_eq_getElem hi2, e] at z
          cases e3 : ps[j]? with
          | some y => exact (List.getElem?_eq_some_iff.mp e3).1
          | none =>
            have z : some (ps[j]?) = (fr[i2]?).map some := z
            rw [e3] at z
            cases e4 : fr[i2]? with
            | none => rw [e4] at z; cases z
            | some y => rw [e4] at z; cases z
        have hixd : ∀ j ∈ ix, j < ds.length := fun j hj => by rw [ld, ← hl]; exact hixl j hj
        have hixv : ∀ j ∈ ix, j < vs.length := fun j hj => by rw [lv, ← hl]; exact hixl j hj
        have lf : ix.length = fr.length := by
          have z := congrArg List.length hix
          rw [List.length_map, List.length_map] at z
          exact z
        have okc : CellOk K mg (trkH (capV cl ps vs) F1) m (trkH (capV cl ps vs) H1) g (.fn S (pickD ix ds)) := by
          refine ⟨c', cl, pickD ix vs, capV cl ps vs, x2.sub _ _ fg, by rw [hq]; exact x2.sub _ _ fc, RepL.ext (x1.trans x2) _ _ (RepL.pickN r hixd), by rw [pick_len hixv, hs]; exact lf, non fg, non fc, fun y b e => ?_, inj, fun i2 y v e1 e2 => ?_, fun b v e => trkH_some e⟩
          · obtain ⟨_, _, _, v, _, _, e4⟩ := hcl y b e
            exact ⟨v, e4⟩
          · rw [hs] at e1
            obtain ⟨b, hb⟩ := hfr2 y (List.mem_of_getElem? e1)
            refine ⟨b, hb, ?_⟩
            rw [pick_get hixv] at e2
            have z := congrArg (fun l => l[i2]?) hix
            simp only [List.getElem?_map] at z
            have e1 : fr[i2]? = some y := e1
            rw [e1] at z
            cases e5 : ix[i2]? with
            | none => rw [e5] at z; cases z
            | some j =>
              rw [e5] at z e2
              have z : some (ps[j]?) = some (some y) := z
              exact capV_at ndp inj hb (Option.some.inj z) e2
        obtain ⟨S3, x3⟩ := S2.adoptF gm g0 (S2.sub _ _ (x2.sub _ _ fg)) okc rfl
        refine q _ _ (.ref g) _ ((x1.trans x2).trans x3) S3 ?_
        unfold Rep
        exact ⟨g, by rw [← Sm.len, List.getElem?_append_right (Nat.le_refl _)]; simp, rfl⟩
      · simp only [if_neg hc] at q
        exact q.elim
    | lst _ => exact q.elim
    | dk _ => exact q.elim
    | ins _ _ => exact q.elim
    | dead => exact q.elim
    | hid => exact q.elim
    | dkL _ => exact q.elim
    | fn _ _ => exact q.elim
theorem fac_sim {P : Program} {w : World} {K : PySem.W.Frag} {mg : Str → Option Value} {base : Heap} {k n ti : Nat} {f cdc Pt : Addr} {x name qual inm qc : Str} {params : Arguments} {st : Stmt} {scope : Scope} {dV kV doc pm ct oc : Value} {an od : Option Addr}
    {osl : Array (Option Value)} {N ps fr : List Str} {pos p1 p2 : Pos} {i : Nat} {ix : List Nat}
    (lk : K.lookup f = some ⟨oc, od, .func (PySem.W.fnOf name qual params [st, .Return (some (.Name inm p1)) p2] scope dV kV doc pm an (.ref cdc) ct), osl⟩) (hcd : PySem.W.codeIn K (.ref cdc) qual = true) (S : FnScope N ps scope)
    (hst : st = .FunctionDef inm (C8.fnArgs st) (C8.fnBody st) [] none [] (C8.fnScope st) none inm pos) (TB : TabB base mg cdc Pt) (hn : qc = (qual ++ ".<locals>.") ++ inm)
    (hfree : ∀ y ∈ (C8.fnScope st).names, y.2 = .free → scope.names.lookup y.1 = some .cell ∧ y.1 ∈ ps ∧ y.1 ∈ fr) (hfr : ∀ y ∈ fr, (y, NameKind.free) ∈ (C8.fnScope st).names) (hd0 : (C8.fnArgs st).defaults = []) (hk0 : (C8.fnArgs st).kw_defaults = []) (ha : ∀ env, annTrees (C8.fnArgs st) none env = [])
    (hi : N[i]? = some inm) (hx : scope.names.lookup inm = some .local) (hip : inm ∉ ps) (hdb : (inm == ("__debug__" : Str)) = false) (hcdd : (inm == ("__classdict__" : Str)) = false)
    (tf : ∀ a, TabOf K mg x a → a = Pt) (hl : ps.length = n) (hix : ix.map (fun j => ps[j]?) = fr.map some) :
    FnOk P w K mg base (L2N.CX P w) (k + 1) f (PySem.W.fnOf name qual params [st, .Return (some (.Name inm p1)) p2] scope dV kV doc pm an (.ref cdc) ct) ps (spD K mg n fun ds => mkfnM ti x qc (defS st inm qc fr) (pickD ix ds)) := by
  have ndp : ps.Nodup := by
    rw [← S.pre]
    exact S.nd.sublist (List.take_sublist _ _)
  exact (fac_of (CX := L2N.CX P w) (P := P) (w := w) (k := k) lk hcd S hst TB hn hfree hfr hd0 hk0 ha hi hx hip hdb hcdd).imp fun vs H Q E h => by
    have z := spFac_imp (S := defS st inm qc fr) (pos := pos) ndp rfl rfl tf hl hix h
    exact z
end Lw
/-! SimFe: what a field holds is called; the made functions are out of sight while one of them runs. -/
namespace Lw
open PySem PySem.Spec PyProof.Rows L2 LamX NdefX
def hidC : Cell → Cell
  | .fn _ _ => .hid
  | c => c
def hidA (h : AH) : AH := h.map hidC
/-- the made functions again -/
def undA : AH → AH → Option AH
  | [], k => some k
  | _ :: _, [] => none
  | .fn S cs :: h, c :: k => (match c with
    | .hid => (undA h k).map (Cell.fn S cs :: ·)
    | _ => none)
  | _ :: h, c :: k => (undA h k).map (c :: ·)
theorem undA_at : ∀ {h k r : AH}, undA h k = some r → r.length = k.length ∧ ∀ (i : Nat) (c : Cell), r[i]? = some c → (∃ S cs, h[i]? = some (.fn S cs) ∧ c = .fn S cs) ∨ k[i]? = some c
  | [], k, r, e => by
    have e : some k = some r := by simpa [undA] using e
    cases e
    exact ⟨rfl, fun i c h => .inr h⟩
  | x :: h, [], r, e => by simp [undA] at e
  | x :: h, c :: k, r, e => by
    have step : ∀ y, (undA h k).map (y :: ·) = some r → ((∃ S cs, x = .fn S cs ∧ y = .fn S cs) ∨ y = c) → r.length = (c :: k).length ∧ ∀ (i : Nat) (d : Cell), r[i]? = some d → (∃ S cs, (x :: h)[i]? = some (.fn S cs) ∧ d = .fn S cs) ∨ (c :: k)[i]? = some d := by
      intro y e2 ey
      cases q : undA h k with
      | none => rw [q] at e2; cases e2
      | some r' =>
        rw [q] at e2
        cases e2
        obtain ⟨l, a⟩ := undA_at q
        refine ⟨by simp [l], fun i d hd => ?_⟩
        cases i with
        | zero =>
          cases hd
          rcases ey with ⟨S, cs, e1, e2⟩ | e1
          · exact .inl ⟨S, cs, by rw [e1] <;> rfl, e2⟩
          · exact .inr (by rw [e1] <;> rfl)
        | succ i => exact a i d hd
    cases x with
    | fn S cs =>
      cases c with
      | hid =>
        unfold undA at e
        exact step _ e (.inl ⟨S, cs, rfl, rfl⟩)
      | _ => simp [undA] at e
    | _ =>
      unfold undA at e
      exact step _ e (.inr rfl)
theorem hidA_at {h : AH} {i : Nat} {c : Cell} (e : (hidA h)[i]? = some c) : ∃ x, h[i]? = some x ∧ c = hidC x := by
  unfold hidA at e
  rw [List.getElem?_map] at e
  cases q : h[i]? with
  | none => rw [q] at e; cases e
  | some x =>
    rw [q] at e
    exact ⟨x, rfl, (Option.some.inj e).symm⟩
section
variable {K : Fg} {mg : Str → Option Value} {fr : Fm} {F F' H H' : Hp} {m m' : List Addr} {ah : AH} {φ : Addr → Option V}
theorem dropH_of {b : Addr} {o : HO} (e : F b = some o) (n : φ b = none) : dropH φ F b = some o := by
  rw [dropH_none n]
  exact e
mutual
theorem Rep.dropV (c : TrkC φ F) : ∀ (d : D) (v : V), Rep K F m d v → Rep K (dropH φ F) m d v
  | .non, _, h => h
  | .bl _, _, h => h
  | .int _, _, h => h
  | .str _, _, h => h
  | .ref _, _, h => h
  | .exn _ _, _, h => h
  | .emp, v, h => by
    unfold Rep at h ⊢
    obtain ⟨b, q, h⟩ := h
    exact ⟨b, c.oth q fun ψ z => (by cases z), h⟩
  | .tup xs, v, h => by
    unfold Rep at h ⊢
    obtain ⟨b, us, h1, h2, h3⟩ := h
    refine ⟨b, us, h1, ?_, RepL.dropV c xs us h3⟩
    rcases h2 with (h2 | ⟨o2, h2⟩) | h2
    · exact .inl (.inl (c.oth h2 fun ψ z => by cases z))
    · exact .inl (.inr ⟨o2, c.oth h2 fun ψ z => by cases z⟩)
    · exact .inr h2
  | .lst xs, v, h => by
    unfold Rep at h ⊢
    obtain ⟨b, us, h1, h2, h3⟩ := h
    refine ⟨b, us, h1, ?_, RepL.dropV c xs us h3⟩
    rcases h2 with (h2 | ⟨o2, h2⟩) | h2
    · exact .inl (.inl (c.oth h2 fun ψ z => by cases z))
    · exact .inl (.inr ⟨o2, c.oth h2 fun ψ z => by cases z⟩)
    · exact .inr h2
theorem RepL.dropV (c : TrkC φ F) : ∀ (ds : List D) (us : List V), RepL K F m ds us → RepL K (dropH φ F) m ds us
  | [], _, h => h
  | d :: ds, us, h => by
    unfold RepL at h ⊢
    obtain ⟨v, r, h1, h2, h3⟩ := h
    exact ⟨v, r, h1, Rep.dropV c d v h2, RepL.dropV c ds r h3⟩
end
theorem RepK.dropV {κ : Type} (c : TrkC φ F) {ks : List (κ × D)} {us : List (κ × V)} (h : RepK K F m ks us) : RepK K (dropH φ F) m ks us := Paired.imp (fun _ _ r => ⟨r.1, Rep.dropV c _ _ r.2⟩) h
/-- no function and no code object is one of the cells -/
structure Apart (F : Hp) (φ : Addr → Option V) : Prop where
  fn : ∀ a S cl c, F a = some (FO S a cl c) → φ a = none
  code : ∀ a q, F a = some (CodeO a q) → φ a = none
theorem Sim.notin (S : Sim K mg fr F m ah H) (c : TrkC φ F) (ap : Apart F φ) {a : Addr} (ha : a ∈ m) : φ a = none := by
  obtain ⟨i, hi⟩ := List.mem_iff_getElem?.mp ha
  have li : i < ah.length := by
    rw [← S.len]
    exact (List.getElem?_eq_some_iff.mp hi).1
  obtain ⟨a', q, ok⟩ := S.cells i _ (List.getElem?_eq_getElem li)
  rw [hi] at q
  cases q
  generalize ah[i] = x at ok
  have nn : F a = none → φ a = none := fun z => by
    cases q : φ a with
    | none => rfl
    | some v => rw [c a v q] at z; cases z
  have nx : ∀ o, F a = some o → (∀ ψ, o ≠ .ext ψ) → φ a = none := fun o e n => by
    cases q : φ a with
    | none => rfl
    | some v =>
      rw [c a v q] at e
      cases e
      exact absurd rfl (n _)
  cases x with
  | lst _ => exact nn ok.1
  | dk _ => exact nn ok.1
  | ins _ _ => exact nn ok.1
  | tab _ _ => exact nn ok.1
  | dead =>
    obtain ⟨vs, e⟩ := ok
    exact nx _ e fun ψ z => by cases z
  | dkL _ =>
    obtain ⟨o, vs, e, _⟩ := ok
    exact nx _ e fun ψ z => by cases z
  | hid =>
    obtain ⟨S0, cl, c0, e⟩ := ok
    exact ap.fn _ _ _ _ e
  | fn S cs =>
    obtain ⟨c0, cl, vs, φ', e, _⟩ := ok
    exact ap.fn _ _ _ _ e
/-- the cells and the made functions out of sight -/
theorem Sim.openV (S : Sim K mg fr F m ah H) (c : TrkC φ F) (ap : Apart F φ) : Sim K mg ⟨dropH φ H, dropH φ F, m⟩ (dropH φ F) m (hidA ah) (dropH φ H) := by
  refine ⟨fun a o e => ?_, by rw [S.len]; unfold hidA; rw [List.length_map], S.nod, fun i x e => ?_, fun a o e _ => e, fun a h n => absurd h n, fun i a h => h, fun a h => ?_, fun a o e => .inl e⟩
  · obtain ⟨n, e⟩ := dropH_keep e
    exact dropH_of (S.sub _ _ e) n
  · obtain ⟨y, hy, rfl⟩ := hidA_at e
    obtain ⟨a, q, ok⟩ := S.cells i y hy
    have na : φ a = none := S.notin c ap (List.mem_of_getElem? q)
    refine ⟨a, q, ?_⟩
    cases y with
    | lst xs =>
      obtain ⟨f, vs, h1, h2⟩ := ok
      exact ⟨by rw [dropH_none na]; exact f, vs, dropH_of h1 na, RepL.dropV c _ _ h2⟩
    | dk kvs =>
      obtain ⟨f, vs, h1, h2⟩ := ok
      exact ⟨by rw [dropH_none na]; exact f, vs, dropH_of h1 na, RepK.dropV c h2⟩
    | ins z fs =>
      obtain ⟨f, C, dx, vs, h0, h1, h2⟩ := ok
      exact ⟨by rw [dropH_none na]; exact f, C, dx, vs, h0, dropH_of h1 na, RepK.dropV c h2⟩
    | dead =>
      obtain ⟨vs, e⟩ := ok
      exact ⟨vs, dropH_of e na⟩
    | dkL kvs =>
      obtain ⟨o, vs, e, r⟩ := ok
      exact ⟨o, vs, dropH_of e na, RepK.dropV c r⟩
    | hid =>
      obtain ⟨S0, cl, c0, e⟩ := ok
      exact ⟨S0, cl, c0, dropH_of e na⟩
    | fn S0 cs =>
      obtain ⟨c0, cl, vs, φ', e, _⟩ := ok
      exact ⟨_, _, _, dropH_of e na⟩
    | tab x qc =>
      obtain ⟨f, a0, ps, h1, h2, h3⟩ := ok
      exact ⟨by rw [dropH_none na]; exact f, a0, ps, dropH_of h1 na, h2, fun pos cv hc => by
        obtain ⟨c1, e1, e2⟩ := h3 pos cv hc
        exact ⟨c1, e1, dropH_of e2 (ap.code _ _ e2)⟩⟩
  · obtain ⟨o, e⟩ := S.there a h
    exact ⟨o, dropH_of e (S.notin c ap h)⟩
/-- .. and in sight again -/
theorem Sim.closeV {ah' r : AH} (S : Sim K mg fr F m ah H) (c : TrkC φ F) (ap : Apart F φ) (e : Ext (dropH φ F) m F' m') (T : Sim K mg ⟨dropH φ H, dropH φ F, m⟩ F' m' ah' H') (n : ∀ a v, φ a = some v → H' a = none) (u : undA ah ah' = some r) :
    Sim K mg fr (trkH φ F') m' r (trkH φ H') ∧ Ext F m (trkH φ F') m' ∧ Ext F' m' (trkH φ F') m' := by
  obtain ⟨lr, at_⟩ := undA_at u
  have nF : ∀ a v, φ a = some v → F' a = none := fun a v q => by
    cases z : F' a with
    | none => rfl
    | some o =>
      have := T.sub _ _ z
      rw [n a v q] at this
      cases this
  have e2 : Ext F' m' (trkH φ F') m' := ⟨fun a o h => by
    cases q : φ a with
    | some v => rw [nF a v q] at h; cases h
    | none => rw [trkH_none q]; exact h, fun _ _ h => h⟩
  have e3 : Ext F m (trkH φ F') m' := ⟨fun a o h => by
    cases q : φ a with
    | some v =>
      rw [c a v q] at h
      cases h
      exact trkH_some q
    | none => rw [trkH_none q]; exact e.sub _ _ (dropH_of h q), e.pre⟩
  have nm : ∀ a, a ∈ m' → φ a = none := fun a ha => by
    cases q : φ a with
    | none => rfl
    | some v =>
      obtain ⟨o, z⟩ := T.there a ha
      rw [n a v q] at z
      cases z
  refine ⟨⟨fun a o h => ?_, by rw [lr]; exact T.len, T.nod, fun i x h => ?_, fun a o h nin => ?_, fun a h nin => ?_, fun i a h => T.pre i a (S.pre i a h), fun a h => ?_, fun a o h => ?_⟩, e3, e2⟩
  · cases q : φ a with
    | some v =>
      rw [trkH_some q] at h ⊢
      exact h
    | none =>
      rw [trkH_none q] at h ⊢
      exact T.sub _ _ h
  · rcases at_ i x h with ⟨S0, cs, h1, rfl⟩ | h1
    · obtain ⟨a, q, ok⟩ := S.cells i _ h1
      exact ⟨a, e.pre i a q, ok.ext e3 (fun z => nomatch z) (fun z => nomatch z)⟩
    · obtain ⟨a, q, ok⟩ := T.cells i _ h1
      have na := nm a (List.mem_of_getElem? q)
      exact ⟨a, q, ok.ext e2 (fun z => by rw [trkH_none na]; exact ok.free z) fun _ => by rw [trkH_none na]⟩
  · have z := S.frame a o h nin
    cases q : φ a with
    | some v =>
      rw [S.sub _ _ (c a v q)] at z
      cases z
      exact trkH_some q
    | none =>
      rw [trkH_none q]
      refine T.frame a o (dropH_of z q) fun ha => ?_
      have := S.young a ha nin
      rw [h] at this
      cases this
  · by_cases hm : a ∈ m
    · exact S.young a hm nin
    · have z : dropH φ H a = none := T.young a h hm
      rw [dropH_none (nm a h)] at z
      exact S.fresh0 z
  · obtain ⟨o, z⟩ := T.there a h
    exact ⟨o, by rw [trkH_none (nm a h)]; exact z⟩
  · cases q : φ a with
    | some v =>
      rw [trkH_some q] at h
      cases h
      exact S.old _ _ (c a v q)
    | none =>
      rw [trkH_none q] at h
      rcases T.old a o h with z | z | z
      · exact S.old _ _ (dropH_keep z).2
      · have z : dropH φ H a = none := z
        rw [dropH_none q] at z
        exact .inr (.inl (S.fresh0 z))
      · by_cases hm : a ∈ fr.m0
        · exact .inr (.inr hm)
        · exact .inr (.inl (S.young a z hm))
end
/-- what a made function promises: cs what it captured -/
def spN (K : Fg) (mg : Str → Option Value) (na : Nat) (g : List D → List D → M D) : List (Option V) → Sp := fun ws vs H Q E => vs.length = na ∧ ∃ fr F m ah cs ds wv, ws = List.map some wv ∧ Sim K mg fr F m ah H ∧ RepL K F m cs wv ∧ RepL K F m ds vs ∧ TK K mg fr (fun c d _ H => E c d H) (Rep K) [] F m (g cs ds ah) Q
structure VF (P : Program) (w : World) (K : Fg) (mg : Str → Option Value) (base : Heap) (k : Nat) (S : FnS) (na : Nat) (g : List D → List D → M D) : Prop where
  ex : ∃ ps : List Str, ps.length = na ∧ ∀ (f : Addr) (cl : List (Str × Addr)) (c : Addr), GOk P w K mg base (L2N.CX P w) k S f cl c ps (spN K mg na g)
noncomputable def isS {α : Type} (S : FnS) (p : FnS × α) : Bool := @decide (p.1 = S) (Classical.propDecidable _)
theorem isS_t {α : Type} {S : FnS} {p : FnS × α} (h : isS S p = true) : p.1 = S := by
  unfold isS at h
  exact (@decide_eq_true_iff _ (Classical.propDecidable _)).mp h
theorem isS_same {α : Type} {S : FnS} {x : α} : isS S (S, x) = true := by
  unfold isS
  exact (@decide_eq_true_iff _ (Classical.propDecidable _)).mpr rfl
/-- f(..): f one of the made functions of the table T -/
noncomputable def callvM (T : List (FnS × Nat × (List D → List D → M D))) (f : D) (as : List D) : M D := fun h => match f with
  | .ref n => (match h[n]? with
    | some (.fn S cs) => (match T.find? (isS S) with
      | some p => if as.length = p.2.1 then (match p.2.2 cs as (hidA h) with
        | .ok r k => (match undA h k with
          | some k' => .ok r k'
          | none => .stuck)
        | _ => .stuck) else .stuck
      | none => .stuck)
    | _ => .stuck)
  | _ => .stuck
def fnchk (f : D) : M Unit := fun h => match f with
  | .ref n => (match h[n]? with
    | some (.fn _ _) => .ok () h
    | _ => .stuck)
  | _ => .stuck
/-! ### the call -/
section
variable {X : Cx} {pins : List (Addr × Obj)} {σ : L2.St} {H : Hp} {s : Shared} {a C dx : Addr} {fs : List (Str × V)} {v : V}
theorem getmeth_fld {A : Around} {E : Value → Shared → Prop} {m : Str} {pl : Sem Bool} {Q : Value × List Value → Shared → Prop} (I : Inv X pins σ H s) (e : H a = some (.ins C dx fs)) (c : Cls X.K C) (n : NoAttr X.K C m) (l : fs.lookup m = some v)
    (h : ∀ u s', Inv X pins σ H s' → L2.RelV v u → Q (u, []) s') : wpAny (model X.prog X.w) A (getMethod (.ref a) m pl) Q E s := by
  obtain ⟨mA, O, r, _, _, _⟩ := ins_get I.hok e
  obtain ⟨od, J, hl⟩ := O.look
  exact PySem.W.method_usual I.kIn J (PySem.W.plainGet_of (c.get m)).1 (PySem.W.plainGet_of (c.get m)).2 (r := none) n rfl (getattr_ok I e c n l h)
theorem apart_of {P : Program} {w : World} {h : Heap} {φ : Addr → Option V} (x : HOk P w H h) (c : TrkC φ H) : Apart H φ := by
  refine ⟨fun a S cl1 c1 e => ?_, fun a q e => ?_⟩
  · cases z : φ a with
    | none => rfl
    | some v =>
      obtain ⟨u, r, ob, e1, e2⟩ := cell_of c x z
      obtain ⟨oc, od, fd, sl, ho⟩ := S.isf _ _ _ _ (x a _ e).1
      rw [ho] at e1
      cases e1
      cases e2
  · cases z : φ a with
    | none => rfl
    | some v =>
      obtain ⟨u, r, ob, e1, e2⟩ := cell_of c x z
      obtain ⟨⟨oc, vs, t, h1, h2, _⟩, _⟩ := x a _ e
      rw [h1] at e1
      cases e1
      rw [h2] at e2
      cases e2
/-- what is wanted of the function at f when it is called with vs -/
def Kn (X : Cx) (k : Nat) (f : Addr) (vs : List V) (H : Hp) (Q : VK) : Prop := ∃ (S : FnS) (cl : List (Str × Addr)) (c : Addr) (ps : List Str) (sp : List (Option V) → Sp) (ws : List (Option V)) (φ : Addr → Option V), GOk X.prog X.w X.K X.mg X.base (L2N.CX X.prog X.w) k S f cl c ps sp ∧ H f = some (FO S f cl c) ∧ H c = some (CodeO c S.qual) ∧ TrkC φ H ∧
  (∀ y b, cl.lookup y = some b → ∃ v, φ b = some v) ∧ (∀ x y c, cl.lookup x = some c → cl.lookup y = some c → x = y) ∧ ws.length = S.fr.length ∧ (∀ (i : Nat) (y : Str), S.fr[i]? = some y → ∃ c, cl.lookup y = some c ∧ ∀ v, ws[i]? = some (some v) → φ c = some v) ∧
  (Apart H φ → sp ws vs (dropH φ H) (fun v H' => (∀ a v, φ a = some v → H' a = none) → Q v (trkH φ H')) (fun _ _ _ => False))
theorem run_kn {k : Nat} {f : Addr} {us : List Value} {vs : List V} {Q : VK} (hr : Room k X.A) (I : Inv X pins σ H s) (r : Vals vs us) (h : Kn X k f vs H Q) : wpAny (model X.prog X.w) X.A (call (.ref f) us) (EP X pins σ Q) X.xe s := by
  obtain ⟨S, cl, c0, ps, sp, ws, φ, Fn, hf, hc, c, all, inj, lw, has, hsp⟩ := h
  have ap := apart_of I.hok c
  refine wpAny_call (codeAny_mono (run_cl Fn hr I.env0 hf hc c (ap.fn _ _ _ _ hf) (ap.code _ _ hc) all inj lw has r (hsp ap)) fun rr s' hq => ?_)
  obtain ⟨u, rfl, hq⟩ := hq
  exact I.after hq
def tCV (X : Cx) (k : Nat) (m : Str) (ta : TE) (t : TA) : TE := fun σ H Q => ta σ H fun x H1 => ∃ a C dx fs f, x = .ref a ∧ H1 a = some (.ins C dx fs) ∧ Cls X.K C ∧ NoAttr X.K C m ∧ fs.lookup m = some (.ref f) ∧ (∃ (S : FnS) (cl : List (Str × Addr)) (c : Addr), H1 f = some (FO S f cl c)) ∧
  t σ H1 fun vs H2 => Kn X k f vs H2 Q
theorem pe_callv {k : Nat} {m : Str} {o e : Expr} {es : List Expr} {apos pos : Pos} {ta : TE} {t : TA} {pl : Sem Bool} (he : PE X o ta) (hr : Room k X.A) (ha : PA X (e :: es) t)
    (hst : starEach (e :: es) X.env = (false, eval e X.env) :: starEach es X.env := by rfl) (hpl : (backTo pos (starEach es X.env)).any (·.1) = false := by rfl)
    (ht : eval (.Call (.Attribute o m apos) (e :: es) [] pos) X.env = (do
      let ov ← eval o X.env
      standAt apos.atName
      let (f, first) ← holding [ov] (getMethod ov m pl)
      callWith pos f first (backTo pos (starEach (e :: es) X.env)) (backToKw pos (keywordEach [] X.env))) := by rfl) :
    PE X (.Call (.Attribute o m apos) (e :: es) [] pos) (tCV X k m ta t) := by
  refine ⟨fun pins s σ H Q I h => ?_⟩
  refine PySem.W.methodCall_KW (pl := pl) (thn (he.run pins s σ H _ I h) fun u s1 ⟨x, H1, I1, rx, a, C, dx, fs, f, ex, ea, c, n, l, ⟨S, cl, c0, hf⟩, q⟩ => ?_) ht
  subst ex
  obtain rfl : u = Value.ref a := rx
  refine getmeth_fld I1 ea c n l fun u s1' J1 ru => ?_
  obtain rfl : u = Value.ref f := ru
  refine PySem.W.callWith_F (first := []) (S.isf _ _ _ _ (J1.hok f _ hf).1) (thn (ha.run pos pins s1' σ H1 _ J1 q) fun us s2 ⟨vs, H2, I2, r, q2⟩ => ?_) hst hpl
  obtain ⟨S2, cl2, c2, ps, sp, ws, φ, Fn, hf2, z⟩ := q2
  exact ⟨S2.isf _ _ _ _ (I2.hok f _ hf2).1, run_kn hr I2 r ⟨S2, cl2, c2, ps, sp, ws, φ, Fn, hf2, z⟩⟩
end
section
variable {X : Cx} {W : WX} {env : Env} {tab : CTab} {k : Nat} {m : Str} {o e : Expr} {es : List Expr} {apos pos : Pos} {mo : M D} {ms : M (List D)} {T : List (FnS × Nat × (List D → List D → M D))}
theorem callv_of {fr : Fm} {F H : Hp} {m1 : List Addr} {ah : AH} {n : Nat} {f : Addr} {ds : List D} {vs : List V} {Q : VK} {σ : L2.St} (hT : ∀ p ∈ T, VF X.prog X.w X.K X.mg X.base k p.1 p.2.1 p.2.2) (S : Sim X.K X.mg fr F m1 ah H) (hm : m1[n]? = some f) (r : RepL X.K F m1 ds vs)
    (q : TK X.K X.mg fr W (Rep X.K) σ F m1 (callvM T (.ref n) ds ah) Q) : Kn X k f vs H Q := by
  unfold callvM at q
  dsimp only at q
  cases hc : ah[n]? with
  | none =>
    simp only [hc] at q
    exact q.elim
  | some cl =>
    cases cl <;> simp only [hc] at q <;> try exact q.elim
    rename_i S0 cs
    cases hp : T.find? (isS S0) with
    | none =>
      simp only [hp] at q
      exact q.elim
    | some p =>
      simp only [hp] at q
      have eS : p.1 = S0 := isS_t (List.find?_some hp)
      obtain ⟨ps, el, G⟩ := (hT p (List.mem_of_find?_eq_some hp)).ex
      by_cases ln : ds.length = p.2.1
      · rw [if_pos ln] at q
        cases hg : p.2.2 cs ds (hidA ah) with
        | stuck =>
          simp only [hg] at q
          exact q.elim
        | exc y b =>
          simp only [hg] at q
          exact q.elim
        | ok d kk =>
          simp only [hg] at q
          cases hu : undA ah kk with
          | none =>
            simp only [hu] at q
            exact q.elim
          | some k' =>
            simp only [hu] at q
            obtain ⟨a, hm', ok⟩ := S.cells n _ hc
            rw [hm] at hm'
            cases hm'
            obtain ⟨c, cl, wv, φ, h1, h2, h3, h4, h5, h6, h7, h8, h9, h10⟩ := ok
            have c1 : TrkC φ H := fun a v z => S.sub _ _ (h10 a v z)
            have c2 : TrkC φ F := h10
            refine ⟨S0, cl, c, ps, spN X.K X.mg p.2.1 p.2.2, wv.map some, φ, by rw [← eS]; exact G f cl c, S.sub _ _ h1, S.sub _ _ h2, c1, h7, h8, by rw [List.length_map]; exact h4, fun i y hy => ?_, fun ap => ?_⟩
            · have hi : i < wv.length := by rw [h4]; exact (List.getElem?_eq_some_iff.mp hy).1
              obtain ⟨b, hb, _⟩ := h9 i y wv[i] hy (List.getElem?_eq_getElem hi)
              refine ⟨b, hb, fun v hv => ?_⟩
              rw [List.getElem?_map] at hv
              cases e : wv[i]? with
              | none => rw [e] at hv; cases hv
              | some v' =>
                rw [e] at hv
                cases hv
                obtain ⟨b', hb', hφ⟩ := h9 i y _ hy e
                rw [hb] at hb'
                cases hb'
                exact hφ
            · have apF : Apart F φ := ⟨fun a S1 cl1 c1 e => ap.fn a S1 cl1 c1 (S.sub _ _ e), fun a q e => ap.code a q (S.sub _ _ e)⟩
              refine ⟨by rw [RepL.length r]; exact ln, _, dropH φ F, m1, hidA ah, cs, ds, wv, rfl, S.openV c2 apF, RepL.dropV c2 _ _ h3, RepL.dropV c2 _ _ r, ?_⟩
              rw [hg]
              intro F2 m2 v H2 e2 S2 r2 n2
              obtain ⟨S3, e3, e4⟩ := S.closeV c2 apF e2 S2 n2 hu
              exact q _ _ _ _ e3 S3 (Rep.ext e4 _ _ r2)
      · rw [if_neg ln] at q
        exact q.elim
theorem de_callv {pl : Sem Bool} (hT : ∀ p ∈ T, VF X.prog X.w X.K X.mg X.base k p.1 p.2.1 p.2.2) (AT : AtF X.K X.mg tab) (hr : Room k X.A) (ho : DE X W env o mo) (ha : DA X W env (e :: es) ms)
    (hst : starEach (e :: es) X.env = (false, eval e X.env) :: starEach es X.env := by rfl) (hpl : (backTo pos (starEach es X.env)).any (·.1) = false := by rfl)
    (ht : eval (.Call (.Attribute o m apos) (e :: es) [] pos) X.env = (do
      let ov ← eval o X.env
      standAt apos.atName
      let (f, first) ← holding [ov] (getMethod ov m pl)
      callWith pos f first (backTo pos (starEach (e :: es) X.env)) (backToKw pos (keywordEach [] X.env))) := by rfl) :
    DE X W env (.Call (.Attribute o m apos) (e :: es) [] pos) (do let x ← mo; let f ← fldM tab m x; let _ ← fnchk f; let as ← ms; callvM T f as) := by
  refine PE.from (pe_callv ho hr ha hst hpl ht) fun σ H Q ⟨fr, F, m0, ah, s, er, q⟩ => TK.step s er q fun F1 m1 ah1 d v H1 e1 s1 er1 r1 k1 => ?_
  rw [bind_def] at k1
  unfold fldM at k1
  cases d <;> try exact k1.elim
  rename_i n
  cases hc : ah1[n]? with
  | none =>
    simp only [hc] at k1
    exact k1.elim
  | some c =>
    cases c <;> simp only [hc] at k1 <;> try exact k1.elim
    rename_i c fs
    by_cases hf : hasF tab c m = true
    · rw [if_pos hf] at k1
      obtain ⟨C, T1, T2⟩ := AT.ok c m hf
      obtain ⟨a, C', dx, vs, rfl, h1, h2, h3, h4, h5⟩ := ins_of s1 r1 hc
      have ee : C = C' := Value.ref.inj (Option.some.inj (T1.g.symm.trans h3))
      subst ee
      cases hl : fs.lookup m with
      | none =>
        simp only [hl] at k1
        exact k1.elim
      | some d =>
        simp only [hl] at k1
        obtain ⟨w, h6, h7⟩ := RepK.lookup h5 hl
        rw [bind_def] at k1
        unfold fnchk at k1
        cases d <;> try exact k1.elim
        rename_i n2
        cases hc2 : ah1[n2]? with
        | none =>
          simp only [hc2] at k1
          exact k1.elim
        | some c2 =>
          cases c2 <;> simp only [hc2] at k1 <;> try exact k1.elim
          rename_i S0 cs
          unfold Rep at h7
          obtain ⟨f, hf1, rfl⟩ := h7
          obtain ⟨a', hm', ok⟩ := s1.cells n2 _ hc2
          rw [hf1] at hm'
          cases hm'
          obtain ⟨c0, cl, wv, φ, g1, _⟩ := ok
          refine ⟨a, C, dx, vs, f, rfl, h4, T1.cl, T2, h6, ⟨_, _, _, s1.sub _ _ g1⟩, fr, F1, m1, ah1, s1, er1, ?_⟩
          rw [bind_def] at k1
          cases hms : ms ah1 with
          | stuck =>
            rw [hms] at k1
            exact k1
          | exc z b =>
            rw [hms] at k1
            exact k1
          | ok ds b =>
            rw [hms] at k1
            intro F2 m2 us H2 e2 s2 r2
            exact callv_of hT s2 (e2.pre _ _ hf1) r2 (TK.ext e2 k1)
    · rw [if_neg hf] at k1
      exact k1.elim
end
/-! ### a made function by its body -/
theorem env_startN {K : Fg} {F : Hp} {m : List Addr} {N : List Str} {ds cs : List D} {vs wv : List V} (r : RepL K F m ds vs) (r1 : RepL K F m cs wv) : EnvRep K F m (ds.map some ++ (cs.map some ++ List.replicate (N.length - ds.length - cs.length) none)) (startF N vs (wv.map some)) := by
  have es : startF N vs (wv.map some) = (vs ++ wv).map some ++ List.replicate (N.length - vs.length - wv.length) none := by
    unfold startF
    rw [List.length_map, List.map_append, List.append_assoc]
  have ee : ds.map some ++ (cs.map some ++ List.replicate (N.length - ds.length - cs.length) none) = (ds ++ cs).map some ++ List.replicate (N.length - ds.length - cs.length) none := by
    rw [List.map_append, List.append_assoc]
  rw [es, ee]
  have hl := RepL.length r
  have hw := RepL.length r1
  have rr := RepL.append r r1
  refine ⟨by simp [hl, hw], fun i d hi => ?_⟩
  by_cases hlt : i < (ds ++ cs).length
  · rw [List.getElem?_append_left (by rw [List.length_map]; exact hlt), List.getElem?_map] at hi
    cases hdi : (ds ++ cs)[i]? with
    | none =>
      rw [hdi] at hi
      cases hi
    | some d' =>
      rw [hdi] at hi
      cases hi
      obtain ⟨v, hv, rv⟩ := RepL.get rr hdi
      refine ⟨v, ?_, rv⟩
      rw [List.getElem?_append_left (by rw [List.length_map, RepL.length rr]; exact hlt), List.getElem?_map, hv]
      rfl
  · rw [List.getElem?_append_right (by rw [List.length_map]; omega), List.getElem?_replicate] at hi
    split at hi <;> cases hi
theorem nfn_sim {P : Program} {w : World} {K : Fg} {mg : Str → Option Value} {base : Heap} {st : Stmt} {name qual : Str} {fr N ps : List Str} {k : Nat} {τ : Type} {mk : τ → Env} {lp : Empty → Env} {mc : List D → List D → M (Out τ Empty)} {g : List D → List D → M D}
    (Sc : NScope N ps fr (C8.fnScope st)) (hb : ∀ (cl : List (Str × Addr)) (c : Addr) (doc pm ctv : Value) (us : List Value), us.length = ps.length → bindArgs ((NF.of st name qual cl c).fd doc pm ctv) ⟨us, []⟩ = pure (ps.zip us))
    (hg : ∀ cs ds, cs.length = fr.length → ds.length = ps.length → g cs ds = defM (mc cs ds))
    (h : ∀ (f : Addr) (cl : List (Str × Addr)) (c : Addr) (A : Around) (outer : List PySem.Env) (s : Shared) (H : Hp) (E : XK), Room k (A.deeper (envF (NF.of st name qual cl c) f s.heap.objs.size)) → ∀ cs ds : List D, cs.length = fr.length → ds.length = ps.length →
      DS (ncx (L2N.CX P w) P w K mg base N (NF.of st name qual cl c) f A outer s H E) (fun c d _ H => E c d H) (List.replicate N.length none) (ds.map some ++ (cs.map some ++ List.replicate (N.length - ds.length - cs.length) none)) mk lp (C8.fnBody st) (mc cs ds)) :
    VF P w K mg base (k + 1) (defS st name qual fr) ps.length g := by
  refine ⟨ps, rfl, fun f cl c => NOk.gok (nok_of (N := N) Sc (hb cl c) (fun ws vs H Q E h => h.1) fun A outer s H vs ws Q E hr hf hc lw hsp => ?_)⟩
  obtain ⟨hl, fr, F', m, ah, cs, ds, wv, rfl, S', r1, r, q⟩ := hsp
  have hd : ds.length = ps.length := by rw [← RepL.length r]; exact hl
  have hw := lw
  rw [List.length_map] at hw
  have hcs := RepL.length r1
  rw [hw] at hcs
  refine ⟨_, h f cl c A outer s H E hr cs ds hcs.symm hd, fr, F', m, ah, S', env_startN r r1, ?_⟩
  rw [hg cs ds hcs.symm hd] at q
  have q : TK K mg fr (fun c d _ H => E c d H) (Rep K) [] F' m (dres (mc cs ds ah)) Q := q
  cases hm : mc cs ds ah with
  | ok o a =>
    rw [hm] at q
    cases o with
    | nx t => exact fun F2 m2 σ2 H2 e2 s2 r2 => q F2 m2 .non H2 e2 s2 Rep.non
    | ret d => exact fun F2 m2 v H2 e2 s2 r2 => q F2 m2 v H2 e2 s2 r2
    | bk b => exact b.elim
    | ct b => exact b.elim
  | exc y a =>
    rw [hm] at q
    exact fun F2 m2 C σ2 H2 e2 s2 r2 hC => q F2 m2 C H2 e2 s2 hC
  | stuck =>
    rw [hm] at q
    exact q
end Lw
/-! SimFf: lambdas: made, given back, called. -/
namespace Lw
open PySem PySem.Spec PyProof.Rows L2 LamX NdefX
/-! ### a lambda called -/
end Lw
/-! SimYw: a class made by its defaults; one of two methods by the object's class; what is not said. -/
namespace Lw
open PySem L2
/-! ### what is not said; two readings -/
section
end
/-! ### a def with defaults -/
theorem fn_simD {P : Program} {w : World} {K : Fg} {mg : Str → Option Value} {base : Heap} {x qual : Str} {st : Stmt} {f : Addr} {fd : FuncData} {dvs : List V} {N ps : List Str} {k n : Nat} {τ : Type} {mk : τ → Env} {lp : Empty → Env} {mc : List D → M (Out τ Empty)} {g : List D → M D}
    (F : FunD K x qual (defArgs st) (defBody st) (defScope st) dvs [] f fd) (S : FnScope N ps (defScope st)) (hn : ps.length = n) (hg : ∀ ds, ds.length = n → g ds = defM (mc ds))
    (h : ∀ (cdv : Value) (A : Around) (outer : List PySem.Env) (s : Shared) (H : Hp) (E : XK), Room k (A.deeper (PyProof.Rows.envOfC qual (defScope st) s.heap.objs.size f cdv)) → ∀ ds : List D, ds.length = n →
      DS (cxOf (L2N.CX P w) P w K mg base N qual (defScope st) f cdv A outer s H E) (fun c d _ H => E c d H) (List.replicate N.length none) (ds.map some ++ List.replicate (N.length - n) none) mk lp (defBody st) (mc ds)) :
    FnOk P w K mg base (L2N.CX P w) (k + 1) f fd ps (spD K mg n g) := by
  refine FunD.ok F S (fun vs H Q E h => h.1.trans hn.symm) fun cdv A outer s H vs Q E hr hsp => ?_
  obtain ⟨hl, fr, F', m, ah, ds, S', r, q⟩ := hsp
  have hd : ds.length = n := by rw [← RepL.length r]; exact hl
  refine ⟨_, h cdv A outer s H E hr ds hd, fr, F', m, ah, S', ?_, ?_⟩
  · have hp : ps.length ≤ N.length := by
      have z := congrArg List.length S.pre
      rw [List.length_take] at z
      omega
    refine ⟨by unfold L2.start; simp [hl, hd], fun i d hi => ?_⟩
    by_cases hlt : i < ds.length
    · rw [List.getElem?_append_left (by simpa using hlt), List.getElem?_map] at hi
      cases hdi : ds[i]? with
      | none =>
        rw [hdi] at hi
        cases hi
      | some d' =>
        rw [hdi] at hi
        cases hi
        obtain ⟨v, hv, rv⟩ := RepL.get r hdi
        refine ⟨v, ?_, rv⟩
        unfold L2.start
        rw [List.getElem?_append_left (by simp; have := RepL.length r; omega), List.getElem?_map, hv]
        rfl
    · rw [List.getElem?_append_right (by simp; omega), List.getElem?_replicate] at hi
      split at hi <;> cases hi
  · rw [hg ds hd] at q
    have q : TK K mg fr (fun c d _ H => E c d H) (Rep K) [] F' m (dres (mc ds ah)) Q := q
    cases hm : mc ds ah with
    | ok o a =>
      rw [hm] at q
      cases o with
      | nx t => exact fun F2 m2 σ2 H2 e2 s2 r2 => q F2 m2 .non H2 e2 s2 Rep.non
      | ret d => exact fun F2 m2 v H2 e2 s2 r2 => q F2 m2 v H2 e2 s2 r2
      | bk b => exact b.elim
      | ct b => exact b.elim
    | exc y a =>
      rw [hm] at q
      exact fun F2 m2 C σ2 H2 e2 s2 r2 hC => q F2 m2 C H2 e2 s2 hC
    | stuck =>
      rw [hm] at q
      exact q
theorem fn2D {P : Program} {w : World} {K : Fg} {mg : Str → Option Value} {base : Heap} {x qual : Str} {st : Stmt} {f : Addr} {fd : FuncData} {dvs : List V} {N ps : List Str} {k : Nat} {τ : Type} {mk : τ → Env} {lp : Empty → Env} {mc : D → D → M (Out τ Empty)}
    (F : FunD K x qual (defArgs st) (defBody st) (defScope st) dvs [] f fd) (S : FnScope N ps (defScope st)) (hn : ps.length = 2)
    (h : ∀ (cdv : Value) (A : Around) (outer : List PySem.Env) (s : Shared) (H : Hp) (E : XK), Room k (A.deeper (PyProof.Rows.envOfC qual (defScope st) s.heap.objs.size f cdv)) → ∀ d1 d2 : D,
      DS (cxOf (L2N.CX P w) P w K mg base N qual (defScope st) f cdv A outer s H E) (fun c d _ H => E c d H) (List.replicate N.length none) ([some d1, some d2] ++ List.replicate (N.length - 2) none) mk lp (defBody st) (mc d1 d2)) :
    FnOk P w K mg base (L2N.CX P w) (k + 1) f fd ps (spD K mg 2 (app2 fun d1 d2 => defM (mc d1 d2))) :=
  fn_simD (mc := fun ds => match ds with | [d1, d2] => mc d1 d2 | _ => stuck) F S hn (fun ds hl => match ds, hl with | [_, _], _ => rfl) fun cdv A outer s H E hr ds hl => match ds, hl with | [d1, d2], _ => h cdv A outer s H E hr d1 d2
/-! ### making by defaults -/
section
variable {X : Cx} {CX : CXT} {k : Nat} {f C : Addr} {fd : FuncData} {ps : List Str} {ds : List Value} {dvs : List V} {sp : Sp} {E : St → XK} {x : Str} {p pos : Pos}
theorem run_mkSD {pins : List (Addr × Obj)} {σ : St} {H : Hp} {s : Shared} {Q : VK} {us : List Value} {vs : List V} (M : Mk X.K C f) (F : FnOk X.prog X.w X.K X.mg X.base CX k f fd ps sp) (hr : Room (k + 1) X.A) (hb : Binds X.K fd ps ds) (hd : Vals dvs ds)
    (hx : PassesAt CX X σ (E σ)) (I : Inv X pins σ H s) (r : Vals vs us)
    (h : ∀ x dx, H x = none → H dx = none → dx ≠ x → sp (.ref x :: (vs ++ dvs)) (upd (upd H dx (.own x)) x (.ins C dx [])) (fun v H2 => v = .non ∧ Q (.ref x) H2) (E σ)) :
    wpAny (model X.prog X.w) X.A (call (.ref C) us) (EP X pins σ Q) X.xe s := by
  have hq := h (s.heap.objs.size + 1) s.heap.objs.size (I.hok.fresh (Nat.le_succ _)) (I.hok.fresh (Nat.le_refl _)) (Nat.ne_of_lt (Nat.lt_succ_self _))
  have I2 := Inv.made (C := C) I
  have r2 : Vals (V.ref (s.heap.objs.size + 1) :: (vs ++ dvs)) (Value.ref (s.heap.objs.size + 1) :: (us ++ ds)) := .cons rfl (r.append hd)
  have hl : (Value.ref (s.heap.objs.size + 1) :: us ++ ds).length = ps.length := by
    have e := r2.length
    rw [F.len _ _ _ _ hq] at e
    exact e.symm
  refine wpAny_call (make_map (f := f) I.kIn M.makes M.init (beq_iff_eq.mp M.fn) (codeAny_mono (F.run _ X.stack _ _ ⟨Value.ref (s.heap.objs.size + 1) :: us, []⟩ (Value.ref (s.heap.objs.size + 1) :: (us ++ ds)) _ _ (E σ) (hr.make C us [])
    (I2.env0.make C us []) (hb _ (Value.ref (s.heap.objs.size + 1) :: us) I2.kIn hl) r2 hq) fun r s' hq' => ?_))
  cases r with
  | error e => exact hx pins _ _ e s' I2 hq'
  | ok fl =>
    cases fl with
    | ret u =>
      obtain ⟨v, H', I3, rv, ev, q3⟩ := I2.after hq'
      subst ev
      exact ⟨rv, ⟨V.ref (s.heap.objs.size + 1), H', I3, rfl, q3⟩⟩
    | next => exact False.elim hq'
    | brk => exact False.elim hq'
    | cont => exact False.elim hq'
def tMakeSD (C : Addr) (sp : Sp) (dvs : List V) (E : St → XK) (t : TA) : TE := fun σ H Q => t σ H fun vs H1 => ∀ x dx, H1 x = none → H1 dx = none → dx ≠ x →
  sp (.ref x :: (vs ++ dvs)) (upd (upd H1 dx (.own x)) x (.ins C dx [])) (fun v H2 => v = .non ∧ Q (.ref x) H2) (E σ)
theorem pe_mkSD0 (M : Mk X.K C f) (F : FnOk X.prog X.w X.K X.mg X.base CX k f fd ps sp) (hr : Room (k + 1) X.A) (hg : Gl X x) (hm : X.mg x = some (.ref C)) (hb : Binds X.K fd ps ds) (hd : Vals dvs ds) (hx : ∀ σ, PassesAt CX X σ (E σ))
    (hdb : (x == ("__debug__" : Str)) = false := by decide) : PE X (.Call (.Name x p) [] [] pos) (tMakeSD C sp dvs E tNil) := by
  refine ⟨fun pins s σ H Q I h => ?_⟩
  refine wpAny_Call_Name_kw (ld_glob I hg hm ?_ hdb)
  exact PySem.W.callWith_K0 I.kIn M.kp (run_mkSD (us := []) M F hr hb hd (hx σ) I .nil h)
end
/-- a class made by its name and the defaults dd -/
structure MkD (P : Program) (w : World) (K : Fg) (mg : Str → Option Value) (base : Heap) (c : Str) (k n : Nat) (g : List D → M D) (dd : List D) : Prop where
  ex : ∃ (C f : Addr) (fd : FuncData) (ps : List Str) (ds : List Value) (dvs : List V), mg c = some (.ref C) ∧ Mk K C f ∧ FnOk P w K mg base (L2N.CX P w) k f fd ps (spD K mg n g) ∧ Binds K fd ps ds ∧ Vals dvs ds ∧ ∀ F m, RepL K F m dd dvs
structure DfnID (K : Fg) (mg : Str → Option Value) (c qual : Str) (st : Stmt) (ps : List Str) (dd : List D) : Prop where
  ex : ∃ (C f : Addr) (fd : FuncData) (dvs : List V) (ds : List Value), mg c = some (.ref C) ∧ Mk K C f ∧ FunD K "__init__" qual (defArgs st) (defBody st) (defScope st) dvs [] f fd ∧ Binds K fd ps ds ∧ Vals dvs ds ∧ ∀ F m, RepL K F m dd dvs
theorem DfnID.mkd {P : Program} {w : World} {K : Fg} {mg : Str → Option Value} {base : Heap} {c qual : Str} {st : Stmt} {ps : List Str} {k n : Nat} {g : List D → M D} {dd : List D} (D : DfnID K mg c qual st ps dd)
    (h : ∀ (f : Addr) (fd : FuncData) (dvs : List V), FunD K "__init__" qual (defArgs st) (defBody st) (defScope st) dvs [] f fd → FnOk P w K mg base (L2N.CX P w) k f fd ps (spD K mg n g)) : MkD P w K mg base c k n g dd := by
  obtain ⟨C, f, fd, dvs, ds, h1, h2, F, hb, hv, hd⟩ := D.ex
  exact ⟨C, f, fd, ps, ds, dvs, h1, h2, h f fd dvs F, hb, hv, hd⟩
section
variable {X : Cx} {W : WX} {env : Env} {pos p : Pos} {k n : Nat} {x : Str} {g : List D → M D} {dd : List D}
theorem de_makeD0 (G : MkD X.prog X.w X.K X.mg X.base x k n g dd) (hr : Room (k + 1) X.A) (tk : L2N.Takes X W) (hn : dd.length + 1 = n) (hg : Gl X x := by rfl) (hdb : (x == ("__debug__" : Str)) = false := by decide) :
    DE X W env (.Call (.Name x p) [] [] pos) (makeM x g dd) := by
  obtain ⟨C, f, fd, ps, ds, dvs, hC, hM, hF, hB, hv, hd⟩ := G.ex
  refine PE.from (pe_mkSD0 hM hF hr hg hC hB hv (fun σ => L2N.passAt tk σ) hdb) fun σ H Q ⟨fr, F2, m2, b, s2, er, q2⟩ => ?_
  intro xa dx nx ndx nex
  have s3 := s2.other (p := dx) (o := .own xa) (s2.freeF ndx) (fun z => by
    obtain ⟨u, hu⟩ := s2.there dx z
    rw [ndx] at hu
    cases hu) (s2.fresh0 ndx)
  have nx' : upd H dx (.own xa) xa = none := by rw [upd_ne nex.symm]; exact nx
  obtain ⟨s4, e4⟩ := s3.laid (p := xa) (o := .ins C dx []) (c := .ins x []) nx' ⟨s3.freeF nx', C, dx, [], hC, upd_same, .nil⟩
  have rr : Rep X.K F2 (m2 ++ [xa]) (.ref b.length) (.ref xa) := by
    unfold Rep
    refine ⟨xa, ?_, rfl⟩
    rw [← s2.len, List.getElem?_append_right (Nat.le_refl _)]
    simp
  refine ⟨?_, fr, F2, m2 ++ [xa], b ++ [.ins x []], .ref b.length :: dd, s4, RepL.cons rr (hd _ _), ?_⟩
  · have z := RepL.length (hd F2 m2)
    rw [List.nil_append, List.length_cons, z]
    exact hn
  · have q3 : TK X.K X.mg fr W (Rep X.K) σ F2 m2 ((g (.ref b.length :: dd) >>= fun v => match v with | .non => pure (.ref b.length) | _ => stuck) (b ++ [.ins x []])) Q := q2
    have q4 := TK.ext e4 q3
    rw [bind_def] at q4
    cases hgr : g (.ref b.length :: dd) (b ++ [.ins x []]) with
    | stuck =>
      rw [hgr] at q4
      exact q4.elim
    | exc z b2 =>
      rw [hgr] at q4
      exact q4
    | ok v b2 =>
      rw [hgr] at q4
      intro F5 m5 u H5 e5 s5 r5
      cases v <;> try exact (TK.stuck_of (TK.ext e5 q4)).elim
      unfold Rep at r5
      exact ⟨r5, q4 F5 m5 (.ref xa) H5 e5 s5 (Rep.ext e5 _ _ rr)⟩
end
end Lw
/-! SimY: lists walked within an except suite. -/
namespace HotX
open PySem PySem.Spec PyProof.Rows
section
end
end HotX
namespace L2H
open PySem PySem.Spec PyProof.Rows L2 HotX
end L2H
namespace Lw
open PySem PySem.Spec PyProof.Rows L2 L2H HotX
section
end
end Lw
/-! SimZ: isinstance by a tuple of classes in a suite; count and index of lists; an object == a number. -/
namespace L2
open PySem PySem.Spec PyProof.Rows
def rIsET (K : PySem.W.Frag) (D a : Addr) : List V → Hp → VK → Prop := fun xs H Q => ∃ (tp : Addr) (cs : List V) (us : List Value) (b : Bool), xs = [.ref a, .ref tp] ∧ H tp = some (.tup cs) ∧ (∀ ws, Vals cs ws → ws = us) ∧ PySem.W.kitAny K (.ref D) us = some b ∧ Q (.bl b) H
theorem call_isET {X : Cx} {a D : Addr} {oe : Obj} {pn : List (Addr × Obj)} (C : ExcC X.K D) (hz : Zc (.ref D) none oe) (hf : ∃ vs, oe.data = .fields vs) : CallR (X.suite a ((a, oe) :: pn)) (.builtin "isinstance") (rIsET X.K D a) := by
  intro pins s σ H xs us Q I r h
  obtain ⟨tp, cs, ws, b, rfl, hT, hcs, e, q⟩ := h
  obtain ⟨u1, u2, rfl, r1, r2⟩ := vals2 r
  cases (show u1 = Value.ref a from r1)
  cases (show u2 = Value.ref tp from r2)
  obtain ⟨_, its, rv, o, h1, h2, n, h3⟩ := (show ObjOk X.prog X.w H s.heap tp (.tup cs) from I.hok tp _ hT)
  have e3 := hcs _ rv
  subst e3
  obtain ⟨oc, od, dt, sl⟩ := o
  simp only at h2 h3
  subst h2 h3
  have g := (I.pin (a, oe) (List.mem_append.mpr (.inl List.mem_cons_self))).1
  have J : PySem.W.InstAt s.heap a oe D none := by
    obtain ⟨vs, hv⟩ := hf
    obtain ⟨oc, od, oda, osl⟩ := oe
    obtain ⟨z1, z2⟩ := hz
    dsimp only at z1 z2 hv
    subst z1 z2 hv
    exact ⟨g, rfl, rfl, trivial⟩
  exact PySem.W.kia_tup (PySem.W.handS_kitx_exc C.hg C.hk C.hs C.hd C.ha C.hn C.ht C.hm) I.kIn J h1 e (fun z => nomatch z) fun tk => ⟨.bl b, H, I.kept (t' := tk) fun _ _ z => z, rfl, q⟩
section
end
end L2
namespace HN2
open PySem PySem.Spec PyProof.Rows PySem.SeqAt HN
section
end
end HN2
namespace Lw
open PySem L2
/-! ### a name that may not stand yet -/
/-! ### isinstance(e, (A, B, ..)) -/
def orO (a b : Option Bool) : Option Bool := match a, b with
  | some x, some y => some (x || y)
  | _, _ => none
def isEO (r : Option Bool) : M D := match r with
  | some b => pure (.bl b)
  | none => stuck
/-- names of classes, one behind the other -/
def NmsOk (X : Cx) (C : Addr) (es : List Expr) (r : Option Bool) : Prop := ∀ b, r = some b → ∃ (cs : List V) (us : List Value), PA X es (fun _ H Q => Q cs H) ∧ (∀ ws, Vals cs ws → ws = us) ∧ PySem.W.kitAny X.K (.ref C) us = some b ∧ cs.length = es.length ∧ (es ≠ [] → ExcC X.K C)
section
variable {X : Cx} {W : WX} {env : Env} {pos : Pos} {C : Addr}
theorem nms_nil : NmsOk X C [] (some false) := fun b h => by
  cases h
  exact ⟨[], [], pa_nil, fun ws w => by cases w; rfl, rfl, rfl, fun z => absurd rfl z⟩
theorem nms_cons {isE : Str → Str → Option Bool} {z T : Str} {p : Pos} {es : List Expr} {r : Option Bool} (Ex : ExF X.K X.mg isE) (hg : X.mg z = some (.ref C)) (h : NmsOk X C es r) (hgT : Gl X T := by rfl) (hs : starEach (.Name T p :: es) X.env = (false, eval (.Name T p) X.env) :: starEach es X.env := by rfl)
    (hdb : (T == ("__debug__" : Str)) = false := by decide) : NmsOk X C (.Name T p :: es) (orO (isE z T) r) := fun b hb => by
  cases h1 : isE z T with
  | none =>
    rw [h1] at hb
    cases hb
  | some b1 =>
    cases h2 : r with
    | none =>
      rw [h1, h2] at hb
      cases hb
    | some b2 =>
      rw [h1, h2] at hb
      cases hb
      obtain ⟨cs, us, pa, hu, hk, hl, _⟩ := h b2 h2
      obtain ⟨E, v, cv, r1, r2, tv, k1, k2⟩ := Ex.ok z T b1 h1 C hg
      have pe : PE X (.Name T p) (tC v) := by
        rcases tv with t | ⟨t1, t2, t3⟩
        · exact pe_glob hgT t r1 hdb
        · exact pe_bltn hgT t1 t2 r1 t3 hdb
      refine ⟨v :: cs, cv :: us, PA.from (pa_cons pe pa hs) fun σ H Q q => q, fun ws w => ?_, ?_, by rw [List.length_cons, List.length_cons, hl], fun _ => E⟩
      · cases w with
        | cons w1 w2 => rw [r2 _ w1, hu _ w2]
      · unfold PySem.W.kitAny
        rw [k1]
        cases b1 with
        | true => rfl
        | false => exact hk
theorem de_isET {isE : Str → Str → Option Bool} {a : Addr} {oe : Obj} {pn : List (Addr × Obj)} {z : Str} {r : Option Bool} (i : Nat) {n : Str} {es : List Expr} {x1 : Nat} {p p2 p3 : Pos} (Ex : ExF X.K X.mg isE) (hz : L2N.Zn (.ref C) none oe) (hvs : ∃ vs, oe.data = .fields vs) (hg : X.mg z = some (.ref C)) (hm : X.mg "isinstance" = none)
    (hn : NmsOk (X.suite a ((a, oe) :: pn)) C es r) (hl : es.length ≤ 1000) (hes : es ≠ [])
    (he : env[i]? = some (some (.exn z a)) := by rfl) (hN : X.N[i]? = some n := by rfl) (hv : Vis X.env.scope n := by first | exact Or.inl rfl | exact Or.inr (Or.inl rfl) | exact Or.inr (Or.inr rfl)) (hgi : Gl X "isinstance" := by rfl)
    (hs : starEach [.Name n p3, .Tuple es x1 p2] X.env = (false, eval (.Name n p3) X.env) :: starEach [.Tuple es x1 p2] X.env := by rfl) (hs2 : starEach [.Tuple es x1 p2] X.env = (false, eval (.Tuple es x1 p2) X.env) :: starEach [] X.env := by rfl)
    (hpl : (backTo pos (starEach [.Tuple es x1 p2] X.env)).any (·.1) = false := by rfl) (hd : (n == ("__debug__" : Str)) = false := by decide) (hcd : (n == ("__classdict__" : Str)) = false := by decide) :
    DE (X.suite a ((a, oe) :: pn)) W env (.Call (.Name "isinstance" p) [.Name n p3, .Tuple es x1 p2] [] pos) (isEO r) := by
  cases hb : r with
  | none => exact ⟨fun pins s σ H Q I ⟨fr, F, m, ah, S, er, k⟩ => k.elim⟩
  | some b =>
    obtain ⟨cs, us, pa, hu, hk, hcl, hE⟩ := hn b hb
    refine PE.from (pe_callB (call_isET (hE hes) hz.zc hvs) hgi hm (by decide +kernel) (pa_cons (pv i hN hv hd hcd) (pa_cons (pe_tup pa) pa_nil hs2) hs) (by decide) (by decide) hs hpl) fun σ H Q ⟨fr, F, m, ah, S, er, k⟩ => ?_
    obtain ⟨u, h1, h2⟩ := er.2 i _ he
    unfold Rep at h2
    subst h2
    refine ⟨_, h1, by rw [hcl, sizeLine_eq]; omega, fun tp hp => ?_⟩
    obtain ⟨S', e⟩ := S.frozen (o := .tup cs) hp
    exact ⟨tp, cs, us, b, rfl, upd_same, hu, hk, k _ m _ _ e S' Rep.bl⟩
/-! ### count, index of lists of truths -/
/-! ### an object == a number -/
structure EqF (K : Fg) (mg : Str → Option Value) (c : Str) : Prop where
  ok : ∀ C, mg c = some (.ref C) → PySem.W.mroIn K C (.type "object") = some true ∧ PySem.W.findIn K (.ref C) "__eq__" = some (some (.builtin "object.__eq__"))
def eqOM (c : Str) (x y : D) : M D := fun h => match x, y with
  | .ref n, .int _ => (match h[n]? with
    | some (.ins c' _) => if c' = c then .ok (.bl false) h else .stuck
    | _ => .stuck)
  | .int i, .int j => .ok (.bl (decide (i = j))) h
  | _, _ => .stuck
def rEqOI (K : Fg) : R2 := fun x y H Q => ∃ a C dx fs i, x = .ref a ∧ y = .int i ∧ H a = some (.ins C dx fs) ∧ PySem.W.mroIn K C (.type "object") = some true ∧ PySem.W.findIn K (.ref C) "__eq__" = some (some (.builtin "object.__eq__")) ∧ Q (.bl false) H
theorem eqO_ok {c : Str} (hE : EqF X.K X.mg c) : OpD X (fun x y H Q => rEqOI X.K x y H Q ∨ rEqX X.K x y H Q) (eqOM c) := by
  intro fr W σ F m ah H d e x y Q s rx ry k
  unfold eqOM at k
  split at k
  · rename_i n i
    split at k
    · rename_i c' fs hc
      by_cases e : c' = c
      · rw [if_pos e] at k
        subst e
        obtain ⟨a, C, dx, vs, h1, h2, h3, h4, h5, h6⟩ := ins_of s rx hc
        obtain ⟨g1, g2⟩ := hE.ok C h4
        unfold Rep at ry
        exact .inl ⟨a, C, dx, vs, i, h1, ry, h5, g1, g2, k.val s Rep.bl⟩
      · rw [if_neg e] at k
        exact k.elim
    · exact k.elim
  · rename_i i j
    exact .inr (eq_ok fr W σ F m ah H (.int i) (.int j) x y Q s rx ry k)
  · exact k.elim
/-! ### x + y, a list that will be written -/
end
end Lw
/-! SimYp: a def that is called in a suite and told the error that the suite holds. -/
namespace L2H
open PySem PySem.Spec PyProof.Rows L2 HotX
section
end
end L2H
namespace Lw
open PySem L2 L2H
section
/-! ### such a def -/
end
end Lw
/-! SimYd: dicts of the module's own top (texts to numbers), read; upper. -/
namespace Lw
open PySem L2 PySem.Spec PyProof.Rows
section
end
section
end
end Lw
/-! SimYx: texts taken apart; slices by steps; range of three; tuples of the module's top; isinstance of two. -/
namespace Lw
open PySem L2 PySem.Spec PyProof.Rows
section
/-! x.split(y), x.strip(y), x.rfind(y) -/
/-! xs[lo::k] of a list -/
/-! range(a, b, c) -/
end
/-! a tuple of texts of the module's top -/
/-! isinstance(x, (S, T)) -/
section
end
end Lw
/-! SimHd: the law's head by one run of the top; facts read off the heap, by names. -/
namespace Lw
open PySem PySem.Spec PyProof.Rows L2 He
/-! ### the hook -/
section
variable {fa : List Fa} {fn : List FnD} {dn : List DefD} {ex : Fg → Bool} {K : Fg} {h : Heap} {mg : Str → Option Value}
theorem dfn_h {x qual : Str} {st : Stmt} {ps : List Str} (b : ∀ (kV doc pm : Value) (an : Option Addr) (cdv ct : Value) (us : List Value), us.length = ps.length → bindArgs (PySem.W.fnOf x qual (defArgs st) (defBody st) (defScope st) .none kV doc pm an cdv ct) ⟨us, []⟩ = pure (ps.zip us))
    (X : K.In h) (G : h.Ns mainGlobals mg) (c : SaysE fa fn K) (i j k : Nat) (h1 : fa[i]? = some (.glo x) := by rfl) (h2 : fa[j]? = some (.keep x) := by rfl) (h3 : fn[k]? = some ⟨(x, none), x, qual, defArgs st, defBody st, defScope st⟩ := by rfl) : Dfn K mg x qual st ps := by
  obtain ⟨oc, od, osl, kV, dc, pm, an, cd, ct, l, cc⟩ := c.def_ k h3
  exact dfn_mk b X G (He.eqO_ok (c.fact i h1)) l cc (c.fact j h2)
theorem inf_h {c : Str} (X : K.In h) (G : h.Ns mainGlobals mg) (s : SaysE fa fn K) (i j : Nat) (h1 : fa[i]? = some (.glo c) := by rfl) (h2 : fa[j]? = some (.cls c) := by rfl) : InF K mg c (ga K c) := ⟨glo_ok X G (s.fact i h1), cls_ok (s.fact j h2)⟩
theorem dfnm_h {c m qual : Str} {st : Stmt} {ps : List Str} (b : ∀ (kV doc pm : Value) (an : Option Addr) (cdv ct : Value) (us : List Value), us.length = ps.length → bindArgs (PySem.W.fnOf m qual (defArgs st) (defBody st) (defScope st) .none kV doc pm an cdv ct) ⟨us, []⟩ = pure (ps.zip us))
    (I : InF K mg c (ga K c)) (s : SaysE fa fn K) (i k : Nat) (h1 : fa[i]? = some (.meth c m) := by rfl) (h3 : fn[k]? = some ⟨(c, some m), m, qual, defArgs st, defBody st, defScope st⟩ := by rfl) : DfnM K mg c m qual st ps := by
  obtain ⟨oc, od, osl, kV, dc, pm, an, cd, ct, l, cc⟩ := s.def_ k h3
  have M := meth_ok (s.fact i h1)
  exact dfnm_mk b I M.at_ M.fn l cc M.kp
theorem dfnid_h {c qual : Str} {st : Stmt} {p1 p2 : Str}
    (b : ∀ (T : Addr) (kV doc pm : Value) (an : Option Addr) (cdv ct : Value) (us its : List Value), us.length = 1 → its.length = 1 →
      ∃ k, bindArgs (PySem.W.fnOf "__init__" qual (defArgs st) (defBody st) (defScope st) (.ref T) kV doc pm an cdv ct) ⟨us, []⟩ = seqItems? (.ref T) >>= k ∧ k (some its.toArray) = pure ([p1, p2].zip (us ++ its.drop 0)))
    (I : InF K mg c (ga K c)) (s : SaysE fa fn K) (s2 : SaysD [] dn K) (i k : Nat) (h1 : fa[i]? = some (.mkr c) := by rfl) (h3 : dn[k]? = some ⟨(c, some "__init__"), "__init__", qual, defArgs st, defBody st, defScope st, [.non], []⟩ := by rfl) : DfnID K mg c qual st [p1, p2] [.non] := by
  obtain ⟨fd, F⟩ := s2.def_ k h3
  have M := mkr_ok (s.fact i h1)
  obtain ⟨ds, v, B⟩ := F.binds1 (ps := [p1, p2]) 1 0 (by simp [DefD.dvs]) rfl b
  exact ⟨_, _, fd, [V.non], ds, I.g, M, F, B, v, fun F m => RepL.cons Rep.non RepL.nil⟩
/-! ### classes of errors -/
def clB (K : Fg) (z : Str) : Bool := eqO (PySem.W.findIn K (.ref (ga K z)) "__getattribute__") (some (some (.builtin "BaseException.__getattribute__"))) && (eqO (PySem.W.findIn K (.ref (ga K z)) "__getattr__") (some none) &&
  (eqO (PySem.W.findIn K (.ref (ga K z)) "__class__") (some (some (.builtin "object.__class__"))) && (PySem.W.hasDictIn K (ga K z) && decide (PySem.W.mroIn K (ga K z) (.type "object") = some true))))
def allB (K : Fg) : Bool := eqO (PySem.W.specialIn K (.builtin "object.__class__") "__get__") (some (some (.builtin "getset_descriptor.__get__"))) && decide (PySem.W.takesIn K (.builtin "object.__class__") = some true)
/-- all of the table's cells: cs the classes by their names, T the module's, b whether z is one of T's -/
def cellB (K : Fg) (z : Str) (p : Str × Bool) : Bool := if p.1 = ("ValueError" : Str) then decide (PySem.W.subIn K (.ref (ga K z)) (.type "ValueError") = some p.2) else decide (PySem.W.subIn K (.ref (ga K z)) (.ref (ga K p.1)) = some p.2) && (p.2 || decide (ga K z ≠ ga K p.1))
def tabB (K : Fg) (tab : Tab) : Bool := tab.all fun r => r.2.all fun p => cellB K r.1 p
theorem exf_h {tab : Tab} (e : tabB K tab = true) (row : ∀ r ∈ tab, ClF K mg r.1 (ga K r.1)) (col : ∀ r ∈ tab, ∀ p ∈ r.2, p.1 ≠ ("ValueError" : Str) → ClF K mg p.1 (ga K p.1)) (no : mg "ValueError" = none) : ExF K mg (isEt tab) := exf_of fun r hr => row_mk (row r hr) fun p hp => by
  have c := List.all_eq_true.mp (List.all_eq_true.mp e r hr) p hp
  unfold cellB at c
  by_cases v : p.1 = ("ValueError" : Str)
  · rw [if_pos v] at c
    rw [v]
    exact cell_ty (T' := "ValueError") no (by decide +kernel) (by decide) (by rfl) (by decide +kernel) (of_decide_eq_true c)
  · rw [if_neg v] at c
    obtain ⟨c1, c2⟩ := ba c
    refine cell_ref (col r hr p hp v) (of_decide_eq_true c1) ?_
    rcases Bool.or_eq_true_iff.mp c2 with z | z
    · exact .inl z
    · exact .inr (of_decide_eq_true z)
theorem factE (c : SaysE fa fn K) {f : Fa} (m : f ∈ fa) : f.ok K = true := by
  obtain ⟨i, hi, e⟩ := List.mem_iff_getElem.mp m
  exact c.fact i (f := f) (by rw [List.getElem?_eq_getElem hi, e])
theorem cla_h {cs : List Str} {fp : List Fa} (X : K.In h) (G : h.Ns mainGlobals mg) (e : fa = fp ++ (cs.map Fa.glo ++ cs.map Fa.exc)) (s : SaysE fa fn K) (a : allB K = true) (c : (cs.all fun z => clB K z) = true) : ∀ z ∈ cs, ClF K mg z (ga K z) := fun z hz => by
  obtain ⟨a1, a2⟩ := ba a
  obtain ⟨c1, c⟩ := ba (List.all_eq_true.mp c z hz)
  obtain ⟨c2, c⟩ := ba c
  obtain ⟨c3, c⟩ := ba c
  obtain ⟨c4, c5⟩ := ba c
  have m1 : Fa.glo z ∈ fa := by rw [e]; exact List.mem_append_right _ (List.mem_append_left _ (List.mem_map_of_mem hz))
  have m2 : Fa.exc z ∈ fa := by rw [e]; exact List.mem_append_right _ (List.mem_append_right _ (List.mem_map_of_mem hz))
  obtain ⟨e1, e2, e3, e4⟩ := exc_ok (factE s m2)
  exact cl_mk X G (He.eqO_ok a1) (of_decide_eq_true a2) (He.eqO_ok (factE s m1)) e1 e2 e4 e3 (He.eqO_ok c1) (He.eqO_ok c2) (He.eqO_ok c3) c4 (of_decide_eq_true c5)
theorem exf_c {cs : List Str} {tab : Tab} (e : tabB K tab = true) (cl : ∀ z ∈ cs, ClF K mg z (ga K z)) (r1 : (tab.all fun r => decide (r.1 ∈ cs)) = true) (r2 : (tab.all fun r => r.2.all fun p => decide (p.1 = ("ValueError" : Str)) || decide (p.1 ∈ cs)) = true) (no : mg "ValueError" = none) : ExF K mg (isEt tab) :=
  exf_h e (fun r hr => cl _ (of_decide_eq_true (List.all_eq_true.mp r1 r hr))) (fun r hr p hp ne => by
    rcases Bool.or_eq_true_iff.mp (List.all_eq_true.mp (List.all_eq_true.mp r2 r hr) p hp) with z | z
    · exact absurd (of_decide_eq_true z) ne
    · exact cl _ (of_decide_eq_true z)) no
end
/-! ### dicts and tuples of texts of the top -/
abbrev AlK : Type := Option (List (Option (Str × (Int × Int))))
def itOf (e : DictEntry) : Option (Str × (Int × Int)) := match e.key with
  | .str x _ => (match e.val with
    | .int i _ => some (x, (e.hash, i))
    | _ => none)
  | _ => none
def itsIn (P : Params) (kvs : List (Str × Int)) : List (Option (Str × (Int × Int))) := kvs.map fun p => some (p.1, (PyData.keyHash P p.1, p.2))
def dkW (K : Fg) (x : Str) : AlK := match PySem.W.nsIn K mainGlobals x with
  | some (some (.ref a)) => (match K.lookup a with
    | some ⟨.type c, none, .dict es _, sl⟩ => (match decide (c = "dict") && (sl.isEmpty && !(a == sysModules)) with
      | true => some (es.toList.map itOf)
      | false => none)
    | _ => none)
  | _ => none
/-! ### the hook, in parts: each part's run is a declaration of its own -/
abbrev AlP : Type := List Al × (AlD × (List Bool × List AlK))
def obsP (parts : List (List Fa × List FnD)) (dn : List DefD) (exs : List (Fg → Bool)) (dks : List (Str × List (Str × Int))) (K : Fg) : AlP := (parts.map fun p => obsE p.1 p.2 K, (obsD [] dn K, (exs.map fun e => e K, dks.map fun d => dkW K d.1)))
def valP (parts : List (List Fa × List FnD)) (dn : List DefD) (exs : List (Fg → Bool)) (dks : List (Str × List (Str × Int))) (w : World) : AlP := (parts.map fun p => valE p.2, (He.valD dn, (exs.map fun _ => true, dks.map fun d => some (itsIn w.params d.2))))
/-- a list of objects, told out one by one -/
def frK {α : Type} : Fg → (Fg → α) → α
  | [], k => k []
  | (a, o) :: r, k => HandSHeadRun.frNat a fun a => match o with
    | ⟨c, d, dt, sl⟩ => frK r fun r => k ((a, ⟨c, d, dt, sl⟩) :: r)
theorem frK_eq {α : Type} : ∀ (K : Fg) (k : Fg → α), frK K k = k K
  | [], _ => rfl
  | (a, o) :: r, k => by
    obtain ⟨c, d, dt, sl⟩ := o
    show HandSHeadRun.frNat a (fun a => frK r fun r => k ((a, ⟨c, d, dt, sl⟩) :: r)) = _
    rw [HandSHeadRun.frNat_eq, frK_eq r]
/-- the addresses that are looked at -/
def asN (n : Nat) : List Addr := mainGlobals :: List.range n
/-- the written part, off the tree -/
def KS (n : Nat) (s : PySem.W.SharedT) : Fg := frG (HandSHeadRun.getT s) (asN n)
theorem ks_map {β : Type} {x : Option PySem.W.SharedT} {n : Nat} {f : Fg → β} {v : β} (h : (x.map fun s => frK (KS n s) f) = some v) : (x.map fun s => f (KS n s)) = some v := by
  have e : (fun s => frK (KS n s) f) = fun s => f (KS n s) := funext fun s => frK_eq _ _
  rw [e] at h
  exact h
theorem saysP {parts : List (List Fa × List FnD)} {dn : List DefD} {exs : List (Fg → Bool)} {dks : List (Str × List (Str × Int))} {K : Fg} {w : World} (c : obsP parts dn exs dks K = valP parts dn exs dks w) :
    (∀ (i : Nat) (fa : List Fa) (fn : List FnD), parts[i]? = some (fa, fn) → SaysE fa fn K) ∧ SaysD [] dn K ∧ (∀ (i : Nat) (e : Fg → Bool), exs[i]? = some e → e K = true) ∧ ∀ (i : Nat) (x : Str) (kvs : List (Str × Int)), dks[i]? = some (x, kvs) → dkW K x = some (itsIn w.params kvs) := by
  have e1 : (parts.map fun p => obsE p.1 p.2 K) = parts.map fun p => valE p.2 := congrArg (fun z : AlP => z.1) c
  have e2 : obsD [] dn K = He.valD dn := congrArg (fun z : AlP => z.2.1) c
  have e3 : (exs.map fun e => e K) = exs.map fun _ => true := congrArg (fun z : AlP => z.2.2.1) c
  have e4 : (dks.map fun d => dkW K d.1) = dks.map fun d => some (itsIn w.params d.2) := congrArg (fun z : AlP => z.2.2.2) c
  refine ⟨fun i fa fn h => ?_, e2, fun i e h => ?_, fun i x kvs h => ?_⟩
  · have z : (parts.map fun p => obsE p.1 p.2 K)[i]? = (parts.map fun p => valE p.2)[i]? := by rw [e1]
    rw [List.getElem?_map, List.getElem?_map, h] at z
    exact Option.some.inj z
  · have z : (exs.map fun e => e K)[i]? = (exs.map fun _ => true)[i]? := by rw [e3]
    rw [List.getElem?_map, List.getElem?_map, h] at z
    exact Option.some.inj z
  · have z : (dks.map fun d => dkW K d.1)[i]? = (dks.map fun d => some (itsIn w.params d.2))[i]? := by rw [e4]
    rw [List.getElem?_map, List.getElem?_map, h] at z
    exact Option.some.inj z
theorem map_at {σ β : Type} {x : Option σ} {s : σ} (e : x = some s) {f : σ → β} {v : β} (h : x.map f = some v) : f s = v := by
  rw [e] at h
  exact Option.some.inj h
end Lw
/-! SimFg: a law's end with tables of code objects; made functions by their defs. -/
namespace Lw
open PySem PySem.Spec PyProof.Rows L2 LamX NdefX He
/-! ### the table of a def's code -/
theorem codeHd_one {K : Fg} {c a b : Addr} (h1 : PySem.W.codeHdIn K c a = true) (h2 : PySem.W.codeHdIn K c b = true) : a = b := by
  unfold PySem.W.codeHdIn at h1 h2
  split at h1
  · rename_i vs _ hk
    simp only [hk, Bool.and_eq_true] at h1 h2
    have e1 := h1.1.1.1.1.1
    have e2 := h2.1.1.1.1.1
    split at e1
    · rename_i P' h11
      simp only [h11] at e2
      rw [← beq_iff_eq.mp e1, ← beq_iff_eq.mp e2]
    · cases e1
  · cases h1
theorem TabOf.one {K : Fg} {mg : Str → Option Value} {x : Str} {a b : Addr} (h1 : TabOf K mg x a) (h2 : TabOf K mg x b) : a = b := by
  obtain ⟨f, c, oc, od, fd, osl, m1, l1, c1, t1⟩ := h1
  obtain ⟨f', c', oc', od', fd', osl', m2, l2, c2, t2⟩ := h2
  rw [m1] at m2
  cases m2
  rw [l1] at l2
  cases l2
  rw [c1] at c2
  cases c2
  exact codeHd_one t1 t2
/-- the def x, its code object and the code's table in the base -/
structure TbF (K : Fg) (mg : Str → Option Value) (base : Heap) (x : Str) : Prop where
  ex : ∃ (f c P : Addr) (oc : Value) (od : Option Addr) (fd : FuncData) (osl : Array (Option Value)), mg x = some (.ref f) ∧ K.lookup f = some ⟨oc, od, .func fd, osl⟩ ∧ fd.code = .ref c ∧ PySem.W.codeHdIn K c P = true ∧ TabB base mg c P
theorem spD_congr {K : Fg} {mg : Str → Option Value} {n : Nat} {g g' : List D → M D} (e : ∀ ds, ds.length = n → g ds = g' ds) {vs : List V} {H : Hp} {Q : VK} {E : XK} (h : spD K mg n g vs H Q E) : spD K mg n g' vs H Q E := by
  obtain ⟨lv, fr, F, m, ah, ds, S, r, q⟩ := h
  exact ⟨lv, fr, F, m, ah, ds, S, r, by rw [← e ds (by rw [← RepL.length r]; exact lv)]; exact q⟩
section
variable {P : Program} {w : World} {K : Fg} {mg : Str → Option Value} {base : Heap}
/-- a def that gives back a def of its own -/
theorem fac_cal {x qual inm qc : Str} {st ist : Stmt} {ps N fr : List Str} {k n ti i : Nat} {ix : List Nat} {pos p1 p2 : Pos} {g : List D → M D} (Dn : Dfn K mg x qual st ps) (B : TbF K mg base x)
    (hbody : defBody st = [ist, .Return (some (.Name inm p1)) p2]) (S : FnScope N ps (defScope st))
    (hst : ist = .FunctionDef inm (C8.fnArgs ist) (C8.fnBody ist) [] none [] (C8.fnScope ist) none inm pos) (hn : qc = (qual ++ ".<locals>.") ++ inm)
    (hfree : ∀ y ∈ (C8.fnScope ist).names, y.2 = .free → (defScope st).names.lookup y.1 = some .cell ∧ y.1 ∈ ps ∧ y.1 ∈ fr) (hfr : ∀ y ∈ fr, (y, NameKind.free) ∈ (C8.fnScope ist).names) (hd0 : (C8.fnArgs ist).defaults = []) (hk0 : (C8.fnArgs ist).kw_defaults = []) (ha : ∀ env, annTrees (C8.fnArgs ist) none env = [])
    (hi : N[i]? = some inm) (hx : (defScope st).names.lookup inm = some .local) (hip : inm ∉ ps) (hdb : (inm == ("__debug__" : Str)) = false) (hcdd : (inm == ("__classdict__" : Str)) = false) (hl : ps.length = n) (hix : ix.map (fun j => ps[j]?) = fr.map some)
    (hg : ∀ ds : List D, ds.length = n → g ds = mkfnM ti x qc (defS ist inm qc fr) (pickD ix ds)) : Cal P w K mg base x (k + 1) n g := by
  obtain ⟨f, fd, F, hm, hk, hb⟩ := Dn.ex
  obtain ⟨oc, od, kV, doc, pm, an, cdv, ct, osl, rfl, lk, hcd⟩ := F.ex
  obtain ⟨f', c, Pt, oc', od', fd', osl', m2, l2, c2, t2, TB⟩ := B.ex
  rw [hm] at m2
  cases m2
  rw [lk] at l2
  cases l2
  obtain rfl : cdv = .ref c := c2
  have tf : ∀ a, TabOf K mg x a → a = Pt := fun a h => h.one ⟨f, c, _, _, _, _, hm, lk, rfl, t2⟩
  rw [hbody] at lk hb
  exact ⟨f, _, ps, (fac_sim (ti := ti) lk hcd S hst TB hn hfree hfr hd0 hk0 ha hi hx hip hdb hcdd tf hl hix).imp fun vs H Q E h => spD_congr hg h, hm, hk, hb⟩
end
/-! ### the law's end with tables -/
abbrev TabA (K : Fg) (mg : Str → Option Value) : AH → List (Addr × Addr) → Prop := Paired fun c p => ∃ x qc, c = .tab x qc ∧ TabOf K mg x p.2
theorem law_spT {K : Fg} {mg : Str → Option Value} {f : D → M D} {H : Hp} {a : Addr} {ns : List Int} {cs : List (Addr × Addr)} {ah0 : AH} (T : TabA K mg ah0 cs) (nd : (cs.map (·.2)).Nodup) (hT : ∀ p ∈ cs, H p.2 = some (.tbl #[])) (hS : SqL K H a (ns.map V.int)) (h : ∃ ah, f (.lst (ns.map D.int)) ah0 = .ok (.bl true) ah) :
    spD K mg 1 (app1 f) [.ref a] H (fun v _ => v = .bl true) fun _ _ _ => False := by
  obtain ⟨ah, h⟩ := h
  have tabH : ∀ b, b ∈ cs.map (·.2) → H b = some (.tbl #[]) := fun b hb => by
    obtain ⟨p, hp, e⟩ := List.mem_map.mp hb
    rw [← e]
    exact hT p hp
  have len : ah0.length = cs.length := by
    clear hT nd tabH h
    induction T with
    | nil => rfl
    | cons _ _ ih => simp [ih]
  have cell : ∀ (i : Nat) c, ah0[i]? = some c → ∃ p, cs[i]? = some p ∧ ∃ x qc, c = .tab x qc ∧ TabOf K mg x p.2 := by
    clear hT nd tabH h len
    induction T with
    | nil => intro i c e; simp at e
    | cons r _ ih =>
      intro i c e
      cases i with
      | zero => cases e; exact ⟨_, rfl, r⟩
      | succ i => exact ih i c (by simpa using e)
  let F : Hp := fun b => if b ∈ cs.map (·.2) then none else H b
  have Fn : ∀ b, b ∈ cs.map (·.2) → F b = none := fun b hb => if_pos hb
  have Fo : ∀ b, b ∉ cs.map (·.2) → F b = H b := fun b hb => if_neg hb
  have sub : ∀ b o, F b = some o → H b = some o := fun b o e => by
    by_cases hb : b ∈ cs.map (·.2)
    · rw [Fn b hb] at e; cases e
    · rw [Fo b hb] at e; exact e
  have up : ∀ b o, H b = some o → (∀ ps, o ≠ .tbl ps) → F b = some o := fun b o e n => by
    by_cases hb : b ∈ cs.map (·.2)
    · rw [tabH b hb] at e
      cases e
      exact absurd rfl (n _)
    · rw [Fo b hb]; exact e
  have ri : ∀ ns : List Int, RepL K F (cs.map (·.2)) (ns.map D.int) (ns.map V.int) := by
    intro ns
    induction ns with
    | nil => exact RepL.nil
    | cons n r ih => exact RepL.cons Rep.int ih
  have S : Sim K mg ⟨H, F, cs.map (·.2)⟩ F (cs.map (·.2)) ah0 H := by
    refine ⟨sub, by rw [List.length_map, len], nd, fun i c e => ?_, fun b o e _ => e, fun b h n => absurd h n, fun i b e => e, fun b hb => ⟨_, tabH b hb⟩, fun b o e => .inl e⟩
    obtain ⟨p, hp, x, qc, rfl, t⟩ := cell i c e
    have hm : p.2 ∈ cs.map (·.2) := List.mem_map.mpr ⟨p, List.mem_of_getElem? hp, rfl⟩
    refine ⟨p.2, by rw [List.getElem?_map, hp]; rfl, Fn _ hm, t, #[], tabH _ hm, True.intro, fun pos cv hc => ?_⟩
    have z : codeAmong pos [] = some cv := hc
    simp [codeAmong] at z
  have hS' : SqL K F a (ns.map V.int) := by
    rcases hS with (z | ⟨o, z⟩) | z
    · exact .inl (.inl (up _ _ z fun ps e => by cases e))
    · exact .inl (.inr ⟨o, up _ _ z fun ps e => by cases e⟩)
    · exact .inr z
  refine ⟨rfl, _, F, cs.map (·.2), ah0, [.lst (ns.map D.int)], S, RepL.cons ?_ RepL.nil, ?_⟩
  · unfold Rep
    exact ⟨a, _, rfl, hS', ri ns⟩
  · show TK K mg _ _ (Rep K) [] F _ (f (.lst (ns.map D.int)) ah0) _
    rw [h]
    intro F' m' v H' e s r
    unfold Rep at r
    exact r
theorem walkT {l : PySem.W.OpenLaw} {q : Program} {loose : List Str} {XP : (Str → Option Value) → Heap → Prop} {YP : World → Heap → Prop} {d : DefRec} {g : D → M D} {k : Nat} {x : Str} {st : Stmt} {ah0 : AH}
    (hn : l.most = some 63) (hdf : d.params.defaults = []) (hr : Room k callerA) (hd : d.name = ("law" : Str))
    (b : ∀ (kV doc pm : Value) (an : Option Addr) (cdv ct : Value) (s : Shared) (u : Value), BindsTo s (PySem.W.fnOf ("law" : Str) ("law" : Str) (defArgs st) (defBody st) (defScope st) .none kV doc pm an cdv ct) ⟨[u], []⟩ [(x, u)])
    (F : ∀ (w : World) (mg : Str → Option Value) (h : Heap), YP w h → h.Ns mainGlobals mg → ∃ (K : Fg) (cs : List (Addr × Addr)), K.In h ∧ (∀ p ∈ cs, h.get? p.2 = some { cls := .none, data := .fields #[] }) ∧ (∀ p ∈ cs, K.lookup p.2 = none) ∧ (∀ p ∈ cs, PySem.W.CodeHd h p.1 p.2) ∧
      (cs.map (·.2)).Nodup ∧ TabA K mg ah0 cs ∧ Dfn K mg "law" "law" st [x] ∧
      ∀ (base : Heap) (f : Addr) (fd : FuncData), (∀ p ∈ cs, TabB base mg p.1 p.2) → Fun K "law" "law" st f fd → FnOk l.prog w K mg base (L2N.CX l.prog w) k f fd [x] (spD K mg 1 (app1 g)))
    (G : ∀ ns : List Int, ns.length ≤ 63 → (∀ z ∈ ns, Builtin.Int.intBits z ≤ 1048576) → ∃ ah, g (.lst (ns.map D.int)) ah0 = .ok (.bl true) ah) :
    PySem.W.WalkO q loose XP YP l.row.toRowW d [] (fun f vs => PySem.call f vs) := by
  refine Att.attach_callB hn hdf fun w s₀ s₁ mg mb fa o pm cd doc a vs ns G' Y ho hd' hcd hmg hobj hints hlen hbits hg => ?_
  obtain ⟨K, cs, KX, hT, nT, C, nd, TA, ⟨⟨f, fd, Fn, hm, hk, hb⟩⟩, hF⟩ := F w mg _ Y G'.T.g
  rw [hd, hm] at hmg
  cases hmg
  have hb2 : ∀ (s : Shared) (u : Value), BindsTo s fd ⟨[u], []⟩ [(x, u)] := by
    obtain ⟨oc, od, kV, doc, pm, an, cdv, ct, osl, rfl, lk, hcd⟩ := Fn.ex
    exact fun s u => b kV doc pm an cdv ct s u
  refine law_callTs (sp := spD K mg 1 (app1 g)) KX G'.T.g G'.T.b G'.T.builtins G'.T.nolimit hg hT nT C G'.T.bmain hobj hints (Nat.le_trans hlen (by decide)) hr (fun base _ _ TB => hF base _ fd TB Fn) hb2 (fun H hH hS => law_spT TA nd hH hS (G ns hlen hbits)) fun H e s' z => ?_
  obtain ⟨_, _, _, _, _, _, _, _, _, _, _, _, z⟩ := z
  exact z
/-! ### the tables found in the written part -/
def tbAt (K : Fg) (x : Str) : Option (Addr × Addr) := match K.lookup (ga K x) with
  | some ⟨_, _, .func fd, _⟩ => (match fd.code with
    | .ref c => (match K.lookup c with
      | some ⟨_, _, .fields vs, _⟩ => (match (vs[11]? : Option Value) with
        | some (.ref P) => some (c, P)
        | _ => none)
      | _ => none)
    | _ => none)
  | _ => none
def tbsK (K : Fg) (xs : List Str) : List (Addr × Addr) := xs.filterMap (tbAt K)
def dropK (K : Fg) (ts : List Addr) : Fg := K.filter fun p => !(ts.contains p.1)
def dropT (xs : List Str) (K : Fg) : Fg := dropK K ((tbsK K xs).map (·.2))
def emptB (K : Fg) (a : Addr) : Bool := match K.lookup a with
  | some ⟨.none, none, .fields v, s⟩ => v.isEmpty && s.isEmpty
  | _ => false
/-- the table of x -/
def tbB (K : Fg) (K' : Fg) (x : Str) : Bool := match tbAt K x with
  | some (c, P) => emptB K P && (PySem.W.codeHdIn K' c P && (decide (ga K' x = ga K x) && (match K'.lookup (ga K' x) with
    | some ⟨_, _, .func fd, _⟩ => decide (fd.code = .ref c)
    | _ => false)))
  | none => false
def tabsB (xs : List Str) (K : Fg) : Bool := decide ((tbsK K xs).map (·.2)).Nodup && xs.all fun x => tbB K (dropT xs K) x
theorem lookup_drop {ts : List Addr} : ∀ {K : Fg} {a : Addr} {o : Obj}, (dropK K ts).lookup a = some o → K.lookup a = some o ∧ a ∉ ts
  | [], a, o, e => by cases e
  | (b, u) :: r, a, o, e => by
    unfold dropK at e
    rw [List.filter_cons] at e
    by_cases hb : ts.contains b = true
    · rw [hb] at e
      simp only [Bool.not_true, if_neg Bool.false_ne_true] at e
      obtain ⟨h1, h2⟩ := lookup_drop (ts := ts) (K := r) e
      have ne : a ≠ b := fun z => by
        subst z
        exact h2 (List.contains_iff_mem.mp hb)
      refine ⟨?_, h2⟩
      rw [List.lookup_cons]
      have : (a == b) = false := by simpa using ne
      rw [this]
      exact h1
    · have hb' : ts.contains b = false := by simpa using hb
      rw [hb'] at e
      simp only [Bool.not_false, if_true] at e
      rw [List.lookup_cons] at e ⊢
      cases q : a == b with
      | true =>
        rw [q] at e
        have e2 : a = b := by simpa using q
        refine ⟨e, fun z => ?_⟩
        rw [e2] at z
        exact hb (List.contains_iff_mem.mpr z)
      | false =>
        rw [q] at e
        exact lookup_drop (K := r) e
theorem dropK_in {K : Fg} {ts : List Addr} {h : Heap} (X : K.In h) : (dropK K ts).In h := fun a o e => X a o (lookup_drop e).1
theorem dropK_no {K : Fg} {ts : List Addr} {a : Addr} (h : a ∈ ts) : (dropK K ts).lookup a = none := by
  cases q : (dropK K ts).lookup a with
  | none => rfl
  | some o => exact absurd h (lookup_drop q).2
section
variable {K : Fg} {h : Heap} {mg : Str → Option Value} {xs : List Str}
theorem emptB_at {a : Addr} (X : K.In h) (e : emptB K a = true) : h.get? a = some { cls := .none, data := .fields #[] } := by
  unfold emptB at e
  split at e
  · rename_i v s l
    obtain ⟨e1, e2⟩ := ba e
    rw [X _ _ l, Array.isEmpty_iff.mp e1, Array.isEmpty_iff.mp e2]
  · cases e
/-- what walkT asks of the tables -/
theorem tabs_ok {xq : List (Str × Str)} (hx : xs = xq.map (·.1)) (X : K.In h) (g : ∀ x ∈ xs, mg x = some (.ref (ga (dropT xs K) x))) (e : tabsB xs K = true) :
    (∀ p ∈ tbsK K xs, h.get? p.2 = some { cls := .none, data := .fields #[] }) ∧ (∀ p ∈ tbsK K xs, (dropT xs K).lookup p.2 = none) ∧ (∀ p ∈ tbsK K xs, PySem.W.CodeHd h p.1 p.2) ∧ ((tbsK K xs).map (·.2)).Nodup ∧
    TabA (dropT xs K) mg (xq.map fun p => .tab p.1 p.2) (tbsK K xs) ∧ ∀ base : Heap, (∀ p ∈ tbsK K xs, TabB base mg p.1 p.2) → ∀ x ∈ xs, TbF (dropT xs K) mg base x := by
  obtain ⟨nd, al⟩ := ba e
  have X' : (dropT xs K).In h := dropK_in X
  have each : ∀ x ∈ xs, ∃ c P, tbAt K x = some (c, P) ∧ emptB K P = true ∧ PySem.W.codeHdIn (dropT xs K) c P = true ∧ ∃ oc od fd osl, (dropT xs K).lookup (ga (dropT xs K) x) = some ⟨oc, od, .func fd, osl⟩ ∧ fd.code = .ref c := fun x hx => by
    have z := List.all_eq_true.mp al x hx
    unfold tbB at z
    split at z
    · rename_i c P q
      obtain ⟨z1, z2⟩ := ba z
      obtain ⟨z2, z3⟩ := ba z2
      obtain ⟨z3, z4⟩ := ba z3
      refine ⟨c, P, q, z1, z2, ?_⟩
      split at z4
      · rename_i oc od fd osl l
        exact ⟨oc, od, fd, osl, l, of_decide_eq_true z4⟩
      · cases z4
    · cases z
  have mem : ∀ p ∈ tbsK K xs, ∃ x ∈ xs, tbAt K x = some p := fun p hp => List.mem_filterMap.mp hp
  have tabOf : ∀ x ∈ xs, ∀ c P, tbAt K x = some (c, P) → TabOf (dropT xs K) mg x P := fun x hx c P q => by
    obtain ⟨c', P', q', _, h2, oc, od, fd, osl, l, hc⟩ := each x hx
    rw [q] at q'
    cases q'
    exact ⟨_, c, oc, od, fd, osl, g x hx, l, hc, h2⟩
  refine ⟨fun p hp => ?_, fun p hp => dropK_no (List.mem_map.mpr ⟨p, hp, rfl⟩), fun p hp => ?_, of_decide_eq_true nd, ?_, fun base TB x hx => ?_⟩
  · obtain ⟨x, hx, q⟩ := mem p hp
    obtain ⟨c, P, q', h1, _⟩ := each x hx
    rw [q] at q'
    cases q'
    exact emptB_at X h1
  · obtain ⟨x, hx, q⟩ := mem p hp
    obtain ⟨c, P, q', _, h2, _⟩ := each x hx
    rw [q] at q'
    cases q'
    exact PySem.W.codeHd_of_K X' h2
  · have gen : ∀ ys : List (Str × Str), (∀ p ∈ ys, p.1 ∈ xs) → TabA (dropT xs K) mg (ys.map fun p => .tab p.1 p.2) ((ys.map (·.1)).filterMap (tbAt K)) := by
      intro ys
      induction ys with
      | nil => intro _; exact .nil
      | cons x r ih =>
        intro hy
        obtain ⟨c, P, q, _⟩ := each x.1 (hy x List.mem_cons_self)
        rw [List.map_cons, List.map_cons, List.filterMap_cons, q]
        exact .cons ⟨x.1, x.2, rfl, tabOf x.1 (hy x List.mem_cons_self) c P q⟩ (ih fun y z => hy y (List.mem_cons_of_mem _ z))
    have z := gen xq fun p hp => by rw [hx]; exact List.mem_map.mpr ⟨p, hp, rfl⟩
    rw [← hx] at z
    exact z
  · obtain ⟨c, P, q, _, h2, oc, od, fd, osl, l, hc⟩ := each x hx
    exact ⟨_, c, P, oc, od, fd, osl, g x hx, l, hc, h2, TB (c, P) (List.mem_filterMap.mpr ⟨x, hx, q⟩)⟩
end
/-! ### the hook, tables left out of the written part -/
abbrev AlT : Type := AlP × Bool
def obsT (xs : List Str) (parts : List (List Fa × List FnD)) (dn : List DefD) (exs : List (Fg → Bool)) (dks : List (Str × List (Str × Int))) (K : Fg) : AlT := (obsP parts dn exs dks (dropT xs K), tabsB xs K)
def valT (parts : List (List Fa × List FnD)) (dn : List DefD) (exs : List (Fg → Bool)) (dks : List (Str × List (Str × Int))) (w : World) : AlT := (valP parts dn exs dks w, true)
theorem ks_mapT {β : Type} {x : Option PySem.W.SharedT} {n : Nat} {xs : List Str} {f : Fg → β} {v : β} (h : (x.map fun s => frK (KS n s) fun K => frK (dropT xs K) f) = some v) : (x.map fun s => f (dropT xs (KS n s))) = some v := by
  have e : (fun s => frK (KS n s) fun K => frK (dropT xs K) f) = fun s => f (dropT xs (KS n s)) := funext fun s => by rw [frK_eq, frK_eq]
  rw [e] at h
  exact h
def hookT (n : Nat) (xs : List Str) (parts : List (List Fa × List FnD)) (dn : List DefD) (exs : List (Fg → Bool)) (dks : List (Str × List (Str × Int))) : PySem.W.Hook where
  α := AlT
  obs := fun s => obsT xs parts dn exs dks (frG s.heap.get? (asN n))
  val := fun w => valT parts dn exs dks w
  says := fun w h => ∃ K : Fg, K.In h ∧ obsT xs parts dn exs dks K = valT parts dn exs dks w
  of := fun _ _ e => ⟨_, frG_in, e⟩
  keeps := fun _ _ _ ⟨K, hK, c⟩ k => ⟨K, PySem.W.Frag.In.keeps hK k, c⟩
theorem obsT_eq {n : Nat} {xs : List Str} {parts : List (List Fa × List FnD)} {dn : List DefD} {exs : List (Fg → Bool)} {dks : List (Str × List (Str × Int))} (s : PySem.W.SharedT) : obsT xs parts dn exs dks (KS n s) = (hookT n xs parts dn exs dks).obs s.abs := by
  have e : HandSHeadRun.getT s = s.abs.heap.get? := funext (HandSHeadRun.getT_eq s)
  unfold KS
  rw [e] <;> rfl
theorem saysT {xs : List Str} {parts : List (List Fa × List FnD)} {dn : List DefD} {exs : List (Fg → Bool)} {dks : List (Str × List (Str × Int))} {K : Fg} {w : World} (c : obsT xs parts dn exs dks K = valT parts dn exs dks w) : obsP parts dn exs dks (dropT xs K) = valP parts dn exs dks w ∧ tabsB xs K = true :=
  ⟨congrArg (fun z : AlT => z.1) c, congrArg (fun z : AlT => z.2) c⟩
/-! ### words of a lambda -/
/-! ### a class with a default, all told -/
theorem DfnID.mkf {P : Program} {w : World} {K : Fg} {mg : Str → Option Value} {base : Heap} {c qual : Str} {st : Stmt} {p1 p2 : Str} {k n : Nat} {g : List D → M D} (D : DfnID K mg c qual st [p1, p2] [.non])
    (b : ∀ (T : Addr) (kV doc pm : Value) (an : Option Addr) (cdv ct : Value) (us its : List Value), us.length = 2 → its.length = 1 →
      ∃ k, bindArgs (PySem.W.fnOf "__init__" qual (defArgs st) (defBody st) (defScope st) (.ref T) kV doc pm an cdv ct) ⟨us, []⟩ = seqItems? (.ref T) >>= k ∧ k (some its.toArray) = pure ([p1, p2].zip (us ++ its.drop 1)))
    (h : ∀ (f : Addr) (fd : FuncData) (dvs : List V), FunD K "__init__" qual (defArgs st) (defBody st) (defScope st) dvs [] f fd → FnOk P w K mg base (L2N.CX P w) k f fd [p1, p2] (spD K mg n g)) : MkF P w K mg base c k n g := by
  obtain ⟨C, f, fd, dvs, ds, h1, h2, F, hb, hv, hd⟩ := D.ex
  have ld : dvs.length = 1 := RepL.length (hd (fun _ => none) [])
  have ne : dvs ≠ [] := fun z => by rw [z] at ld; cases ld
  obtain ⟨ds', v', B⟩ := F.binds1 (ps := [p1, p2]) 2 1 ne (by rw [ld]; rfl) fun T kV doc pm an cdv ct us its l1 l2 => b T kV doc pm an cdv ct us its l1 (l2.trans ld)
  have e : ds' = [] := by
    have z := v'.length
    rw [List.length_drop, ld] at z
    exact List.length_eq_zero_iff.mp z.symm
  subst e
  exact ⟨C, f, fd, [p1, p2], h1, h2, h f fd dvs F, B⟩
end Lw
/-! SetQ: what a plain computation ends in, wished for: Wp. -/
namespace Lw
open PySem L2
def Wp {α : Type} (r : Res α) (P : α → AH → Prop) (E : Str → AH → Prop) : Prop := match r with
  | .ok a h => P a h
  | .exc x h => E x h
  | .stuck => False
/-- no error -/
abbrev NoE : Str → AH → Prop := fun _ _ => False
section
variable {α β γ τ τ' : Type} {h : AH} {P : α → AH → Prop} {Q : β → AH → Prop} {E : Str → AH → Prop}
theorem Wp.mono {r : Res α} {P' : α → AH → Prop} {E' : Str → AH → Prop} (w : Wp r P E) (hp : ∀ a h, P a h → P' a h) (he : ∀ x h, E x h → E' x h) : Wp r P' E' := by
  cases r with
  | ok a h => exact hp a h w
  | exc x h => exact he x h w
  | stuck => exact w
theorem Wp.imp {r : Res α} {P' : α → AH → Prop} (w : Wp r P E) (hp : ∀ a h, P a h → P' a h) : Wp r P' E := w.mono hp fun _ _ z => z
theorem Wp.noe {r : Res α} {P' : α → AH → Prop} (w : Wp r P NoE) (hp : ∀ a h, P a h → P' a h) : Wp r P' E := w.mono hp fun _ _ z => z.elim
theorem Wp.get {r : Res α} (w : Wp r P NoE) : ∃ a h, r = .ok a h ∧ P a h := by
  cases r with
  | ok a h => exact ⟨a, h, rfl, w⟩
  | exc x h => exact w.elim
  | stuck => exact w.elim
theorem Wp.of_eq {r : Res α} {a : α} {h' : AH} (e : r = .ok a h') (p : P a h') : Wp r P E := by
  rw [e]
  exact p
theorem w_ok {a : α} : Wp (.ok a h) P E ↔ P a h := Iff.rfl
theorem w_bind {x : M β} {f : β → M α} : Wp ((x >>= f) h) P E ↔ Wp (x h) (fun a h' => Wp (f a h') P E) E := by
  rw [bind_def]
  cases x h <;> exact Iff.rfl
theorem w_pure {a : α} : Wp ((pure a : M α) h) P E ↔ P a h := Iff.rfl
theorem w_throw {x : Str} : Wp ((throwM x : M α) h) P E ↔ E x h := Iff.rfl
theorem w_ite {c : Bool} {a b : M α} : Wp ((if c = true then a else b) h) P E ↔ if c = true then Wp (a h) P E else Wp (b h) P E := by
  cases c <;> exact Iff.rfl
theorem w_iteP {c : Prop} [Decidable c] {a b : M α} : Wp ((if c then a else b) h) P E ↔ if c then Wp (a h) P E else Wp (b h) P E := by
  by_cases q : c
  · rw [if_pos q, if_pos q]
  · rw [if_neg q, if_neg q]
def oK (k : τ' → M (Out τ β)) (P : Out τ β → AH → Prop) (E : Str → AH → Prop) : Out τ' β → AH → Prop := fun o h => match o with
  | .nx t => Wp (k t h) P E
  | .ret d => P (.ret d) h
  | .bk b => P (.bk b) h
  | .ct b => P (.ct b) h
section
variable {k : τ' → M (Out τ β)} {O : Out τ β → AH → Prop}
theorem w_obind {x : M (Out τ' β)} : Wp (obind x k h) O E ↔ Wp (x h) (oK k O E) E := by
  show Wp (ores k (x h)) O E ↔ _
  cases x h with
  | ok o h' => cases o <;> exact Iff.rfl
  | exc _ _ => exact Iff.rfl
  | stuck => exact Iff.rfl
theorem oK_nx {t : τ'} : oK k O E (.nx t) h ↔ Wp (k t h) O E := Iff.rfl
theorem oK_ret {d : D} : oK k O E (.ret d) h ↔ O (.ret d) h := Iff.rfl
theorem oK_bk {d : β} : oK k O E (.bk d) h ↔ O (.bk d) h := Iff.rfl
theorem oK_ct {d : β} : oK k O E (.ct d) h ↔ O (.ct d) h := Iff.rfl
end
def dK (P : D → AH → Prop) : Out τ β → AH → Prop := fun o h => match o with
  | .nx _ => P .non h
  | .ret d => P d h
  | _ => False
section
variable {P : D → AH → Prop}
theorem w_def {x : M (Out τ β)} : Wp (defM x h) P E ↔ Wp (x h) (dK P) E := by
  show Wp (dres (x h)) P E ↔ _
  cases x h with
  | ok o h' => cases o <;> exact Iff.rfl
  | exc _ _ => exact Iff.rfl
  | stuck => exact Iff.rfl
theorem dK_nx {t : τ} : (dK P : Out τ β → AH → Prop) (.nx t) h ↔ P .non h := Iff.rfl
theorem dK_ret {d : D} : (dK P : Out τ β → AH → Prop) (.ret d) h ↔ P d h := Iff.rfl
end
def lK (k : τ → M (Out τ β)) (P : Out τ β → AH → Prop) (E : Str → AH → Prop) : Out τ τ → AH → Prop := fun o h => match o with
  | .nx t => Wp (k t h) P E
  | .ct t => Wp (k t h) P E
  | .bk t => P (.nx t) h
  | .ret d => P (.ret d) h
section
variable {k : τ → M (Out τ β)} {O : Out τ β → AH → Prop}
theorem w_lbind {x : M (Out τ τ)} : Wp (lbind x k h) O E ↔ Wp (x h) (lK k O E) E := by
  show Wp (lres k (x h)) O E ↔ _
  cases x h with
  | ok o h' => cases o <;> exact Iff.rfl
  | exc _ _ => exact Iff.rfl
  | stuck => exact Iff.rfl
theorem lK_nx {t : τ} : lK k O E (.nx t) h ↔ Wp (k t h) O E := Iff.rfl
theorem lK_ct {t : τ} : lK k O E (.ct t) h ↔ Wp (k t h) O E := Iff.rfl
theorem lK_bk {t : τ} : lK k O E (.bk t) h ↔ O (.nx t) h := Iff.rfl
theorem lK_ret {d : D} : lK k O E (.ret d) h ↔ O (.ret d) h := Iff.rfl
theorem w_for0 {t : τ} {f : D → τ → M (Out τ τ)} : Wp ((forM [] t f : M (Out τ β)) h) O E ↔ O (.nx t) h := Iff.rfl
theorem w_for1 {x : D} {r : List D} {t : τ} {f : D → τ → M (Out τ τ)} : Wp ((forM (x :: r) t f : M (Out τ β)) h) O E ↔ Wp (f x t h) (lK (fun t' => forM r t' f) O E) E := w_lbind
/-- what a loop's turn ends in -/
def tK (N : τ → AH → Prop) (O : Out τ β → AH → Prop) : Out τ τ → AH → Prop := fun o h => match o with
  | .nx t => N t h
  | .ct t => N t h
  | .bk t => O (.nx t) h
  | .ret d => O (.ret d) h
theorem tK_nx {N : τ → AH → Prop} {t : τ} : tK N O (.nx t) h ↔ N t h := Iff.rfl
theorem tK_ct {N : τ → AH → Prop} {t : τ} : tK N O (.ct t) h ↔ N t h := Iff.rfl
theorem tK_bk {N : τ → AH → Prop} {t : τ} : tK N O (.bk t) h ↔ O (.nx t) h := Iff.rfl
theorem tK_ret {N : τ → AH → Prop} {d : D} : tK N O (.ret d) h ↔ O (.ret d) h := Iff.rfl
theorem lK_of {N : τ → AH → Prop} {o : Out τ τ} {h : AH} (q : tK N O o h) (n : ∀ t h, N t h → Wp (k t h) O E) : lK k O E o h := by
  cases o with
  | nx t => exact n t h q
  | ct t => exact n t h q
  | bk t => exact q
  | ret d => exact q
/-- a loop by what stays true: I k t h ahead of item k -/
theorem w_for_at {f : D → τ → M (Out τ τ)} (I : Nat → τ → AH → Prop) {xs : List D} (hs : ∀ (k : Nat) x t h, xs[k]? = some x → I k t h → Wp (f x t h) (tK (I (k + 1)) O) E) (he : ∀ t h, I xs.length t h → O (.nx t) h) :
    ∀ (r : List D) (n : Nat) (t : τ) (h : AH), xs.drop n = r → n ≤ xs.length → I n t h → Wp ((forM r t f : M (Out τ β)) h) O E
  | [], n, t, h, e, l, i => by
    have : n = xs.length := by
      have z := congrArg List.length e
      rw [List.length_drop, List.length_nil] at z
      omega
    subst this
    exact he t h i
  | x :: r, n, t, h, e, l, i => by
    have hx : xs[n]? = some x := by
      have z : (xs.drop n)[0]? = some x := by rw [e]; rfl
      rw [List.getElem?_drop] at z
      simpa using z
    have hl := (List.getElem?_eq_some_iff.mp hx).1
    refine w_for1.mpr ((hs n x t h hx i).imp fun o h' q => lK_of q fun t' h' q' => w_for_at I hs he r (n + 1) t' h' ?_ (by omega) q')
    rw [← List.drop_drop, e]
    rfl
theorem w_for {f : D → τ → M (Out τ τ)} (I : Nat → τ → AH → Prop) {xs : List D} {t : τ} (h0 : I 0 t h) (hs : ∀ (k : Nat) x t h, xs[k]? = some x → I k t h → Wp (f x t h) (tK (I (k + 1)) O) E) (he : ∀ t h, I xs.length t h → O (.nx t) h) :
    Wp ((forM xs t f : M (Out τ β)) h) O E := w_for_at I hs he xs 0 t h rfl (Nat.zero_le _) h0
end
theorem w_lift {a : α} : Wp ((liftO (some a) : M α) h) P E ↔ P a h := Iff.rfl
theorem w_noex {x : M α} : Wp (noexM x h) P E ↔ Wp (x h) P NoE := by
  show Wp (nores (x h)) P E ↔ _
  cases x h <;> exact Iff.rfl
def hK (c : Str → Option Bool) (hM : Str → M (Out τ β)) (O : Out τ β → AH → Prop) (E : Str → AH → Prop) : Str → AH → Prop := fun x h => match c x with
  | some true => Wp (hM x h) O NoE
  | some false => E x h
  | none => False
theorem hK_t {c : Str → Option Bool} {hM : Str → M (Out τ β)} {O : Out τ β → AH → Prop} {x : Str} (e : c x = some true) : hK c hM O E x h ↔ Wp (hM x h) O NoE := by
  unfold hK
  rw [e]
theorem w_try {c : Str → Option Bool} {mb : M (Out τ β)} {hM : Str → M (Out τ β)} {O : Out τ β → AH → Prop} : Wp (tryM c mb hM h) O E ↔ Wp (mb h) O (hK c hM O E) := by
  unfold tryM
  cases mb h with
  | ok o h' => exact Iff.rfl
  | stuck => exact Iff.rfl
  | exc x h' =>
    show Wp (match c x with | some true => noexM (hM x) h' | some false => .exc x h' | none => .stuck) O E ↔ hK c hM O E x h'
    unfold hK
    cases c x with
    | none => exact Iff.rfl
    | some b =>
      cases b with
      | true => exact w_noex
      | false => exact Iff.rfl
theorem w_pcall {P : D → AH → Prop} {g : List D → M D} {ds : List D} : Wp (pcallM g ds h) P E ↔ noRefs ds = true ∧ Wp (g ds []) (fun d _ => noRef d = true ∧ P d h) (fun x _ => E x h) := by
  unfold pcallM
  by_cases n : noRefs ds = true
  · simp only [n, if_true, true_and]
    cases g ds [] with
    | ok d h' =>
      by_cases m : noRef d = true
      · simp only [m, if_true]
        exact ⟨fun z => ⟨m, z⟩, fun z => z.2⟩
      · simp only [m]
        exact ⟨fun z => z.elim, fun z => absurd z.1 m⟩
    | exc x h' => exact Iff.rfl
    | stuck => exact Iff.rfl
  · simp only [n]
    exact ⟨fun z => z.elim, fun z => nomatch z.1⟩
/-! comprehensions -/
theorem w_comp {f : D → M (List D)} {P : List D → AH → Prop} (I : Nat → List D → AH → Prop) {xs : List D} (hs : ∀ (k : Nat) x acc h, xs[k]? = some x → I k acc h → Wp (f x h) (fun ys h' => I (k + 1) (acc ++ ys) h') E) :
    ∀ (r : List D) (n : Nat) (acc : List D) (h : AH), xs.drop n = r → n ≤ xs.length → I n acc h → (∀ ys h', I xs.length (acc ++ ys) h' → P ys h') → Wp (compM r f h) P E
  | [], n, acc, h, e, l, i, he => by
    have : n = xs.length := by
      have z := congrArg List.length e
      rw [List.length_drop, List.length_nil] at z
      omega
    subst this
    exact he [] h (by rw [List.append_nil]; exact i)
  | x :: r, n, acc, h, e, l, i, he => by
    have hx : xs[n]? = some x := by
      have z : (xs.drop n)[0]? = some x := by rw [e]; rfl
      rw [List.getElem?_drop] at z
      simpa using z
    have hl := (List.getElem?_eq_some_iff.mp hx).1
    show Wp ((f x >>= fun ys => compM r f >>= fun zs => pure (ys ++ zs)) h) P E
    rw [w_bind]
    refine (hs n x acc h hx i).imp fun ys h' q => ?_
    rw [w_bind]
    exact w_comp (P := fun zs h' => P (ys ++ zs) h') I hs r (n + 1) (acc ++ ys) h' (by rw [← List.drop_drop, e]; rfl) (by omega) q fun zs h2 z => he (ys ++ zs) h2 (by rw [← List.append_assoc]; exact z)
theorem w_lc {f : D → M (List D)} {P : D → AH → Prop} (I : Nat → List D → AH → Prop) {xs : List D} (l : xs.length ≤ 1000000) (h0 : I 0 [] h) (hs : ∀ (k : Nat) x acc h, xs[k]? = some x → I k acc h → Wp (f x h) (fun ys h' => I (k + 1) (acc ++ ys) h') NoE)
    (he : ∀ ys h', I xs.length ys h' → P (.lst ys) h') : Wp (lcM xs f h) P E := by
  unfold lcM
  rw [if_pos (show lenOk xs.length = true from decide_eq_true (Nat.le_trans l (by decide))), w_bind, w_noex]
  exact w_comp I hs xs 0 [] h rfl (Nat.zero_le _) h0 fun ys h' q => he ys h' q
/-! locked dicts -/
end
/-! ### operations -/
section
variable {h : AH} {E : Str → AH → Prop} {P : D → AH → Prop} {i j : Int} {n : Nat} {xs ys : List D} {x y z : D}
theorem w_add : Wp (addM (.int i) (.int j) h) P E ↔ P (.int (i + j)) h := Iff.rfl
theorem w_sub : Wp (subM (.int i) (.int j) h) P E ↔ P (.int (i - j)) h := Iff.rfl
theorem w_neg : Wp (negM (.int i) h) P E ↔ P (.int (-i)) h := Iff.rfl
theorem w_lt : Wp (ltM (.int i) (.int j) h) P E ↔ P (.bl (decide (i < j))) h := Iff.rfl
theorem w_le : Wp (leM (.int i) (.int j) h) P E ↔ P (.bl (decide (i ≤ j))) h := Iff.rfl
theorem w_gt : Wp (gtM (.int i) (.int j) h) P E ↔ P (.bl (decide (j < i))) h := Iff.rfl
theorem w_ge : Wp (geM (.int i) (.int j) h) P E ↔ P (.bl (decide (j ≤ i))) h := Iff.rfl
theorem w_max : Wp (maxM (.int i) (.int j) h) P E ↔ P (.int (max i j)) h := by rw [maxM_int] <;> exact Iff.rfl
theorem w_min : Wp (minM (.int i) (.int j) h) P E ↔ P (.int (min i j)) h := by rw [minM_int] <;> exact Iff.rfl
theorem w_eqi : Wp (eqM (.int i) (.int j) h) P E ↔ P (.bl (decide (i = j))) h := by rw [eqM_int] <;> exact Iff.rfl
theorem w_nei : Wp (neM (.int i) (.int j) h) P E ↔ P (.bl (decide (i ≠ j))) h := by rw [neM_int] <;> exact Iff.rfl
theorem w_eqs {a b : Str} : Wp (eqM (.str a) (.str b) h) P E ↔ P (.bl (decide (a = b))) h := Iff.rfl
theorem w_nes {a b : Str} : Wp (neM (.str a) (.str b) h) P E ↔ P (.bl (!decide (a = b))) h := Iff.rfl
theorem w_mul (c : i.natAbs.log2 + j.natAbs.log2 < 1000000) : Wp (mulM (.int i) (.int j) h) P E ↔ P (.int (i * j)) h := by rw [mulM_int c] <;> exact Iff.rfl
theorem w_fdiv (c : 0 < j) (c2 : j.natAbs.log2 < 9000) : Wp (fdivM (.int i) (.int j) h) P E ↔ P (.int (i / j)) h := by rw [fdivM_int c c2] <;> exact Iff.rfl
theorem w_mod (c : 0 < j) : Wp (modM (.int i) (.int j) h) P E ↔ P (.int (i % j)) h := by rw [modM_int c] <;> exact Iff.rfl
theorem w_pow (c : 0 ≤ j ∧ j ≤ 1000000 ∧ i.natAbs < 2 ^ 64) : Wp (powM (.int i) (.int j) h) P E ↔ P (.int (i ^ j.toNat)) h := by rw [powM_int c] <;> exact Iff.rfl
theorem w_asB {b : Bool} {P : Bool → AH → Prop} : Wp (asB (.bl b) h) P E ↔ P b h := Iff.rfl
theorem w_asI {P : Option Int → AH → Prop} : Wp (asI (.int i) h) P E ↔ P (some i) h := Iff.rfl
theorem w_not {b : Bool} : Wp (notV (.bl b) h) P E ↔ P (.bl (!b)) h := Iff.rfl
theorem w_tru {b : Bool} {P : Bool → AH → Prop} : Wp (truM (.bl b) h) P E ↔ P b h := Iff.rfl
theorem w_and {b : Bool} {m : M D} : Wp (andV (.bl b) m h) P E ↔ if b = true then Wp (m h) P E else P (.bl false) h := by cases b <;> exact Iff.rfl
theorem w_or {b : Bool} {m : M D} : Wp (orV (.bl b) m h) P E ↔ if b = true then P (.bl true) h else Wp (m h) P E := by cases b <;> exact Iff.rfl
theorem w_tup (l : xs.length ≤ 1000000) : Wp (tupM xs h) P E ↔ P (.tup xs) h := by rw [tupM_run l] <;> exact Iff.rfl
theorem w_lst (l : xs.length ≤ 1000000) : Wp (lstM xs h) P E ↔ P (.lst xs) h := by rw [lstM_run l] <;> exact Iff.rfl
theorem w_lstH (l : xs.length ≤ 1000000) : Wp (lstH xs h) P E ↔ P (.ref h.length) (h ++ [.lst xs]) := by rw [lstH_run l] <;> exact Iff.rfl
theorem w_tup0 : Wp (tupM [] h) P E ↔ P (.tup []) h := w_tup (Nat.le_of_ble_eq_true rfl)
theorem w_lst0 : Wp (lstM [] h) P E ↔ P (.lst []) h := w_lst (Nat.le_of_ble_eq_true rfl)
theorem w_lsH0 : Wp (lstH [] h) P E ↔ P (.ref h.length) (h ++ [.lst []]) := w_lstH (Nat.le_of_ble_eq_true rfl)
theorem w_tup1 {x0 : D} : Wp (tupM [x0] h) P E ↔ P (.tup [x0]) h := w_tup (Nat.le_of_ble_eq_true rfl)
theorem w_lst1 {x0 : D} : Wp (lstM [x0] h) P E ↔ P (.lst [x0]) h := w_lst (Nat.le_of_ble_eq_true rfl)
theorem w_lsH1 {x0 : D} : Wp (lstH [x0] h) P E ↔ P (.ref h.length) (h ++ [.lst [x0]]) := w_lstH (Nat.le_of_ble_eq_true rfl)
theorem w_tup2 {x0 x1 : D} : Wp (tupM [x0, x1] h) P E ↔ P (.tup [x0, x1]) h := w_tup (Nat.le_of_ble_eq_true rfl)
theorem w_lst2 {x0 x1 : D} : Wp (lstM [x0, x1] h) P E ↔ P (.lst [x0, x1]) h := w_lst (Nat.le_of_ble_eq_true rfl)
theorem w_lsH2 {x0 x1 : D} : Wp (lstH [x0, x1] h) P E ↔ P (.ref h.length) (h ++ [.lst [x0, x1]]) := w_lstH (Nat.le_of_ble_eq_true rfl)
theorem w_tup3 {x0 x1 x2 : D} : Wp (tupM [x0, x1, x2] h) P E ↔ P (.tup [x0, x1, x2]) h := w_tup (Nat.le_of_ble_eq_true rfl)
theorem w_lst3 {x0 x1 x2 : D} : Wp (lstM [x0, x1, x2] h) P E ↔ P (.lst [x0, x1, x2]) h := w_lst (Nat.le_of_ble_eq_true rfl)
theorem w_lsH3 {x0 x1 x2 : D} : Wp (lstH [x0, x1, x2] h) P E ↔ P (.ref h.length) (h ++ [.lst [x0, x1, x2]]) := w_lstH (Nat.le_of_ble_eq_true rfl)
theorem w_tup4 {x0 x1 x2 x3 : D} : Wp (tupM [x0, x1, x2, x3] h) P E ↔ P (.tup [x0, x1, x2, x3]) h := w_tup (Nat.le_of_ble_eq_true rfl)
theorem w_lst4 {x0 x1 x2 x3 : D} : Wp (lstM [x0, x1, x2, x3] h) P E ↔ P (.lst [x0, x1, x2, x3]) h := w_lst (Nat.le_of_ble_eq_true rfl)
theorem w_lsH4 {x0 x1 x2 x3 : D} : Wp (lstH [x0, x1, x2, x3] h) P E ↔ P (.ref h.length) (h ++ [.lst [x0, x1, x2, x3]]) := w_lstH (Nat.le_of_ble_eq_true rfl)
theorem w_tup5 {x0 x1 x2 x3 x4 : D} : Wp (tupM [x0, x1, x2, x3, x4] h) P E ↔ P (.tup [x0, x1, x2, x3, x4]) h := w_tup (Nat.le_of_ble_eq_true rfl)
theorem w_lst5 {x0 x1 x2 x3 x4 : D} : Wp (lstM [x0, x1, x2, x3, x4] h) P E ↔ P (.lst [x0, x1, x2, x3, x4]) h := w_lst (Nat.le_of_ble_eq_true rfl)
theorem w_lsH5 {x0 x1 x2 x3 x4 : D} : Wp (lstH [x0, x1, x2, x3, x4] h) P E ↔ P (.ref h.length) (h ++ [.lst [x0, x1, x2, x3, x4]]) := w_lstH (Nat.le_of_ble_eq_true rfl)
theorem w_tup6 {x0 x1 x2 x3 x4 x5 : D} : Wp (tupM [x0, x1, x2, x3, x4, x5] h) P E ↔ P (.tup [x0, x1, x2, x3, x4, x5]) h := w_tup (Nat.le_of_ble_eq_true rfl)
theorem w_lst6 {x0 x1 x2 x3 x4 x5 : D} : Wp (lstM [x0, x1, x2, x3, x4, x5] h) P E ↔ P (.lst [x0, x1, x2, x3, x4, x5]) h := w_lst (Nat.le_of_ble_eq_true rfl)
theorem w_lsH6 {x0 x1 x2 x3 x4 x5 : D} : Wp (lstH [x0, x1, x2, x3, x4, x5] h) P E ↔ P (.ref h.length) (h ++ [.lst [x0, x1, x2, x3, x4, x5]]) := w_lstH (Nat.le_of_ble_eq_true rfl)
theorem w_tup7 {x0 x1 x2 x3 x4 x5 x6 : D} : Wp (tupM [x0, x1, x2, x3, x4, x5, x6] h) P E ↔ P (.tup [x0, x1, x2, x3, x4, x5, x6]) h := w_tup (Nat.le_of_ble_eq_true rfl)
theorem w_lst7 {x0 x1 x2 x3 x4 x5 x6 : D} : Wp (lstM [x0, x1, x2, x3, x4, x5, x6] h) P E ↔ P (.lst [x0, x1, x2, x3, x4, x5, x6]) h := w_lst (Nat.le_of_ble_eq_true rfl)
theorem w_lsH7 {x0 x1 x2 x3 x4 x5 x6 : D} : Wp (lstH [x0, x1, x2, x3, x4, x5, x6] h) P E ↔ P (.ref h.length) (h ++ [.lst [x0, x1, x2, x3, x4, x5, x6]]) := w_lstH (Nat.le_of_ble_eq_true rfl)
theorem w_tup8 {x0 x1 x2 x3 x4 x5 x6 x7 : D} : Wp (tupM [x0, x1, x2, x3, x4, x5, x6, x7] h) P E ↔ P (.tup [x0, x1, x2, x3, x4, x5, x6, x7]) h := w_tup (Nat.le_of_ble_eq_true rfl)
theorem w_lst8 {x0 x1 x2 x3 x4 x5 x6 x7 : D} : Wp (lstM [x0, x1, x2, x3, x4, x5, x6, x7] h) P E ↔ P (.lst [x0, x1, x2, x3, x4, x5, x6, x7]) h := w_lst (Nat.le_of_ble_eq_true rfl)
theorem w_lsH8 {x0 x1 x2 x3 x4 x5 x6 x7 : D} : Wp (lstH [x0, x1, x2, x3, x4, x5, x6, x7] h) P E ↔ P (.ref h.length) (h ++ [.lst [x0, x1, x2, x3, x4, x5, x6, x7]]) := w_lstH (Nat.le_of_ble_eq_true rfl)
theorem w_new {c : Cell} : Wp (newM c h) P E ↔ P (.ref h.length) (h ++ [c]) := Iff.rfl
theorem w_lenT : Wp (lenM (.tup xs) h) P E ↔ P (.int xs.length) h := Iff.rfl
theorem w_lenL : Wp (lenM (.lst xs) h) P E ↔ P (.int xs.length) h := Iff.rfl
theorem w_ixL (e : atI xs i = some x) : Wp (ixM (.lst xs) (.int i) h) P E ↔ P x h := by rw [ixM_lst e] <;> exact Iff.rfl
theorem w_ixR (q : h[n]? = some (.lst xs)) (e : atI xs i = some x) : Wp (ixM (.ref n) (.int i) h) P E ↔ P x h := by rw [ixM_ref q e] <;> exact Iff.rfl
theorem w_lchk {P : Unit → AH → Prop} (e : h[n]? = some (.lst xs)) : Wp (lchk (.ref n) h) P E ↔ P () h := by rw [lchk_ref e] <;> exact Iff.rfl
theorem w_append (e : h[n]? = some (.lst xs)) (l : xs.length < 1000000) : Wp (appendM (.ref n) x h) P E ↔ P .non (h.set n (.lst (xs ++ [x]))) := by rw [appendM_ref e l] <;> exact Iff.rfl
theorem w_setix {P : Unit → AH → Prop} (q : h[n]? = some (.lst xs)) (h0 : 0 ≤ i) (h1 : i < xs.length) : Wp (setIxM (.ref n) (.int i) x h) P E ↔ P () (h.set n (.lst (xs.set i.toNat x))) := by rw [setIxM_pos q h0 h1] <;> exact Iff.rfl
theorem w_freeze (e : h[n]? = some (.lst xs)) : Wp (freezeM (.ref n) h) P E ↔ P (.lst xs) (h.set n .dead) := by rw [freezeM_ref e] <;> exact Iff.rfl
theorem w_itT {P : List D → AH → Prop} : Wp (itemsM (.tup xs) h) P E ↔ P xs h := Iff.rfl
theorem w_itL {P : List D → AH → Prop} : Wp (itemsM (.lst xs) h) P E ↔ P xs h := Iff.rfl
theorem w_tupT : Wp (tupleM (.tup xs) h) P E ↔ P (.tup xs) h := Iff.rfl
theorem w_tupL : Wp (tupleM (.lst xs) h) P E ↔ P (.tup xs) h := Iff.rfl
theorem w_listT : Wp (listM (.tup xs) h) P E ↔ P (.lst xs) h := Iff.rfl
theorem w_listL : Wp (listM (.lst xs) h) P E ↔ P (.lst xs) h := Iff.rfl
theorem w_rng1 {P : List D → AH → Prop} (a : -(2 ^ 62) ≤ j) (b : j < 2 ^ 62) : Wp (rng1M [.int j] h) P E ↔ P (rangeD 0 j.toNat) h := by rw [rng1M_run a b] <;> exact Iff.rfl
theorem w_addL (l : xs.length + ys.length ≤ 1000000) : Wp (addM (.lst xs) (.lst ys) h) P E ↔ P (.lst (xs ++ ys)) h := by rw [addM_lst l] <;> exact Iff.rfl
theorem w_addS {a b : Str} (l : a.length + b.length ≤ 1000000) : Wp (addM (.str a) (.str b) h) P E ↔ P (.str (a ++ b)) h := by rw [addM_str l] <;> exact Iff.rfl
theorem w_slT {lo hi : Option Int} : Wp (sliceM (.tup xs) lo hi h) P E ↔ P (.tup (cutD xs lo hi)) h := Iff.rfl
theorem w_slL {lo hi : Option Int} : Wp (sliceM (.lst xs) lo hi h) P E ↔ P (.lst (cutD xs lo hi)) h := Iff.rfl
theorem w_isn : Wp (isM false x .non h) P E ↔ P (.bl (isC x .non)) h := by
  show P (.bl (xor false (isC x .non))) h ↔ _
  rw [Bool.false_xor]
theorem w_isnn : Wp (isM true x .non h) P E ↔ P (.bl (!isC x .non)) h := by
  show P (.bl (xor true (isC x .non))) h ↔ _
  rw [Bool.true_xor]
theorem w_inti : Wp (intM (.int i) h) P E ↔ P (.int i) h := Iff.rfl
theorem w_intb {b : Bool} : Wp (intM (.bl b) h) P E ↔ P (.int (if b = true then 1 else 0)) h := Iff.rfl
theorem w_strs {a : Str} : Wp (strM (.str a) h) P E ↔ P (.str a) h := Iff.rfl
theorem w_schk {a : Str} {P : Unit → AH → Prop} : Wp (schk (.str a) h) P E ↔ P () h := Iff.rfl
theorem w_zipT {P : List D → AH → Prop} : Wp (zipM [.tup xs, .tup ys] h) P E ↔ P (zipD xs ys) h := Iff.rfl
theorem w_zipL {P : List D → AH → Prop} : Wp (zipM [.lst xs, .lst ys] h) P E ↔ P (zipD xs ys) h := Iff.rfl
theorem w_zipLT {P : List D → AH → Prop} : Wp (zipLTM [.lst xs, .tup ys] h) P E ↔ P (zipD xs ys) h := Iff.rfl
theorem w_enumT {P : List D → AH → Prop} : Wp (enumM (.tup xs) h) P E ↔ P (enumD 0 xs) h := Iff.rfl
theorem w_enumL {P : List D → AH → Prop} : Wp (enumM (.lst xs) h) P E ↔ P (enumD 0 xs) h := Iff.rfl
theorem w_app1 {g : D → M D} : Wp (app1 g [x] h) P E ↔ Wp (g x h) P E := Iff.rfl
theorem w_app2 {g : D → D → M D} : Wp (app2 g [x, y] h) P E ↔ Wp (g x y h) P E := Iff.rfl
theorem w_app3 {g : D → D → D → M D} : Wp (app3 g [x, y, z] h) P E ↔ Wp (g x y z h) P E := Iff.rfl
theorem w_app4 {g : D → D → D → D → M D} {u : D} : Wp (app4 g [x, y, z, u] h) P E ↔ Wp (g x y z u h) P E := Iff.rfl
theorem w_app5 {g : D → D → D → D → D → M D} {u v : D} : Wp (app5 g [x, y, z, u, v] h) P E ↔ Wp (g x y z u v h) P E := Iff.rfl
theorem w_ne_f {a b : D} (ha : nb 60 (lookD h a) = true) (hb : nb 60 (lookD h b) = true) (e : lookD h a = lookD h b) : Wp (neM a b h) P E ↔ P (.bl false) h := by rw [neM_eq ha hb e] <;> exact Iff.rfl
end
/-! ### objects, dicts -/
section
variable {h : AH} {E : Str → AH → Prop} {P : D → AH → Prop} {U : Unit → AH → Prop} {n : Nat} {tab : CTab} {c f : Str} {fs : List (Str × D)} {v x : D} {kvs : List (Key × D)} {k : Key}
theorem w_fld (e : h[n]? = some (.ins c fs)) (t : hasF tab c f = true) (l : fs.lookup f = some v) : Wp (fldM tab f (.ref n) h) P E ↔ P v h := by
  unfold fldM
  simp only [e, t, l, if_true] <;> exact Iff.rfl
theorem w_setf (e : h[n]? = some (.ins c fs)) (t : (hasF tab c f && decide (fs.length < 1000)) = true) : Wp (setFM tab f (.ref n) v h) U E ↔ U () (h.set n (.ins c (putD f v fs))) := by
  unfold setFM
  simp only [e]
  rw [if_pos t] <;> exact Iff.rfl
theorem w_mchk {m : Str} (e : h[n]? = some (.ins c fs)) (l : fs.lookup m = none) : Wp (mchkM c m (.ref n) h) U E ↔ U () h := by
  unfold mchkM
  simp only [e, l]
  rw [if_pos (by simp)] <;> exact Iff.rfl
theorem w_make {g : List D → M D} {as : List D} : Wp (makeM c g as h) P E ↔ Wp (g (.ref h.length :: as) (h ++ [.ins c []])) (fun v h' => v = .non ∧ P (.ref h.length) h') E := by
  unfold makeM
  rw [w_bind, w_new, w_bind]
  cases g (.ref h.length :: as) (h ++ [.ins c []]) with
  | ok v h' =>
    cases v <;> first | exact ⟨fun z => ⟨rfl, z⟩, fun z => z.2⟩ | exact ⟨fun z => z.elim, fun z => nomatch z.1⟩
  | exc x h' => exact Iff.rfl
  | stuck => exact Iff.rfl
theorem w_dget (e : dkOf h x = some kvs) (ek : keyD y = some k) (l : valD kvs k = some v) : Wp (dgetM x y h) P E ↔ P v h := by
  unfold dgetM
  simp only [e, ek, l] <;> exact Iff.rfl
theorem w_dput (e : h[n]? = some (.dk kvs)) (ek : keyD y = some k) (l : kvs.length < 1000000) : Wp (dputM (.ref n) y v h) U E ↔ U () (h.set n (.dk (putKD kvs k v))) := by
  unfold dputM
  simp only [e, ek]
  rw [if_pos (show lenOk (kvs.length + 1) = true from decide_eq_true (Nat.le_trans l (by decide)))] <;> exact Iff.rfl
theorem dkOf_ref (e : h[n]? = some (.dk kvs)) : dkOf h (.ref n) = some kvs := by
  unfold dkOf
  simp only [e]
end
/-! the rows that a plain reading is simplified by, all in one; WQS: but w_obind -/
def WPS := And.intro @w_bind (And.intro @w_pure (And.intro @w_throw (And.intro @w_tup0 (And.intro @w_lst0 (And.intro @w_lsH0 (And.intro @w_tup1 (And.intro @w_lst1 (And.intro @w_lsH1 (And.intro @w_tup2 (And.intro @w_lst2 (And.intro @w_lsH2 (And.intro @w_tup3 (And.intro @w_lst3 (And.intro @w_lsH3 (And.intro @w_tup4 (And.intro @w_lst4 (And.intro @w_lsH4 (And.intro @w_tup5 (And.intro @w_lst5 (And.intro @w_lsH5 (And.intro @w_tup6 (And.intro @w_lst6 (And.intro @w_lsH6 (And.intro @w_tup7 (And.intro @w_lst7 (And.intro @w_lsH7 (And.intro @w_tup8 (And.intro @w_lst8 (And.intro @w_lsH8 (And.intro @w_ite (And.intro @w_iteP (And.intro @w_obind (And.intro @oK_nx (And.intro @oK_ret (And.intro @oK_bk (And.intro @oK_ct (And.intro @w_def (And.intro @dK_nx (And.intro @dK_ret (And.intro @w_lift (And.intro @w_noex (And.intro @w_add (And.intro @w_sub (And.intro @w_neg (And.intro @w_lt (And.intro @w_le (And.intro @w_gt (And.intro @w_ge (And.intro @w_max (And.intro @w_min (And.intro @w_eqi (And.intro @w_nei (And.intro @w_eqs (And.intro @w_nes (And.intro @w_asB (And.intro @w_asI (And.intro @w_not (And.intro @w_tru (And.intro @w_and (And.intro @w_or (And.intro @w_new (And.intro @w_lenT (And.intro @w_lenL (And.intro @w_itT (And.intro @w_itL (And.intro @w_tupT (And.intro @w_tupL (And.intro @w_listT (And.intro @w_listL (And.intro @w_slT (And.intro @w_slL (And.intro @w_isn (And.intro @w_isnn (And.intro @w_inti (And.intro @w_intb (And.intro @w_strs (And.intro @w_schk (And.intro @w_zipT (And.intro @w_zipL (And.intro @w_zipLT (And.intro @w_enumT (And.intro @w_enumL (And.intro @w_app1 (And.intro @w_app2 (And.intro @w_app3 (And.intro @w_app4 (And.intro @w_app5 (And.intro @tK_nx (And.intro @tK_ct (And.intro @tK_bk (And.intro @tK_ret (And.intro @lK_nx (And.intro @lK_ct (And.intro @lK_bk (And.intro @lK_ret (And.intro @decide_eq_true_eq (And.intro @if_true.{1} (And.intro @if_false.{1} (And.intro @Bool.false_eq_true (And.intro @Bool.not_true (And.intro @Bool.not_false (And.intro @List.length_cons.{0} @List.length_nil.{0}))))))))))))))))))))))))))))))))))))))))))))))))))))))))))))))))))))))))))))))))))))))))))))))))))))))
end Lw
/-! the plain reading of the text (printed by gen.py) -/
noncomputable section
namespace Lw
open PySem L2
def top (i : Nat) : Stmt := PySem.Challenge.pw_lentwork_k41_stores.main.body.getD i (.Pass ⟨0, 0, 0, 0⟩)
def xqH : List (Str × Str) := [("_law_fall", "_law_fall.<locals>._law_fall_here")]
def ah0 : AH := [.tab "_law_fall" "_law_fall.<locals>._law_fall_here"]
def tabE : Tab := [("Fallen", [("Down", false), ("Fallen", true), ("LentError", true), ("NoBook", false)])]
def isE : Str → Str → Option Bool := isEt tabE
def tabC : CTab := [("Store", ["fall", "kept", "asked"])]
def b_law_tape (cell1 : D) : M (Out Unit Empty) := (((((pure (.int 0)) >>= fun x6 => ((pure cell1) >>= fun x4 => ((pure (.int 10)) >>= fun x2 => (pure (.int 18)) >>= fun y3 => powM x2 y3) >>= fun y5 => subM x4 y5) >>= fun y7 => maxM x6 y7) >>= fun a12 => (((pure cell1) >>= fun x8 => (pure (.int 2147483647)) >>= fun y9 => modM x8 y9) >>= fun a10 => (pure (.int 0)) >>= fun a11 => pure [a10, a11]) >>= fun as13 => pure (a12 :: as13)) >>= fun xs14 => lstH xs14) >>= fun d15 => (pure (Out.ret d15) : M (Out (Unit) (Empty))))
def f_law_tape (cell1 : D) : M D := defM (b_law_tape cell1)
def b_Store___init__ (self16 : D) (fall17 : D) : M (Out Unit Empty) := ((pure fall17) >>= fun v18 => (pure self16) >>= fun x19 => setFM tabC "fall" x19 v18 >>= fun _ => ((pure (.str "")) >>= fun v20 => (pure self16) >>= fun x21 => setFM tabC "kept" x21 v20 >>= fun _ => ((pure (.int 0)) >>= fun v22 => (pure self16) >>= fun x23 => setFM tabC "asked" x23 v22 >>= fun _ => (pure (Out.nx ()) : M (Out (Unit) (Empty))))))
def f_Store___init__ (self16 : D) (fall17 : D) : M D := defM (b_Store___init__ self16 fall17)
def b_law_cell_at (script24 : D) (at25 : D) : M (Out Unit Empty) := ((((pure at25) >>= fun x27 => ((pure script24) >>= fun x26 => lenM x26) >>= fun y28 => ltM x27 y28) >>= fun b29 => asB b29) >>= fun t30 => if t30 = true then obind (((pure script24) >>= fun x31 => (pure at25) >>= fun y32 => ixM x31 y32) >>= fun d33 => (pure (Out.ret d33) : M (Out (Empty) (Empty)))) (fun e => e.elim) else ((pure (.int 0)) >>= fun d34 => (pure (Out.ret d34) : M (Out (Unit) (Empty)))))
def f_law_cell_at (script24 : D) (at25 : D) : M D := defM (b_law_cell_at script24 at25)
def b_law_take (tape_here35 : D) (many36 : D) : M (Out Unit Empty) := (((((pure tape_here35) >>= fun x37 => (pure (.int 0)) >>= fun y38 => ixM x37 y38) >>= fun x39 => (pure (.int 0)) >>= fun y40 => gtM x39 y40) >>= fun b41 => asB b41) >>= fun t42 => if t42 = true then obind ((((pure tape_here35) >>= fun x44 => (pure (.int 0)) >>= fun y45 => ixM x44 y45) >>= fun x46 => (pure many36) >>= fun y47 => modM x46 y47) >>= fun found43 => ((((pure tape_here35) >>= fun x48 => (pure (.int 0)) >>= fun y49 => ixM x48 y49) >>= fun x50 => (pure many36) >>= fun y51 => fdivM x50 y51) >>= fun v52 => (pure tape_here35) >>= fun x53 => (pure (.int 0)) >>= fun y54 => setIxM x53 y54 v52 >>= fun _ => ((pure found43) >>= fun d55 => (pure (Out.ret d55) : M (Out (Empty) (Empty)))))) (fun e => e.elim) else ((((pure tape_here35) >>= fun x56 => (pure (.int 2)) >>= fun y57 => ixM x56 y57) >>= fun x58 => (pure (.int 1)) >>= fun y59 => addM x58 y59) >>= fun v60 => (pure tape_here35) >>= fun x61 => (pure (.int 2)) >>= fun y62 => setIxM x61 y62 v60 >>= fun _ => (((((((pure tape_here35) >>= fun x64 => (pure (.int 1)) >>= fun y65 => ixM x64 y65) >>= fun x70 => ((pure (.int 7919)) >>= fun x68 => ((pure tape_here35) >>= fun x66 => (pure (.int 2)) >>= fun y67 => ixM x66 y67) >>= fun y69 => mulM x68 y69) >>= fun y71 => addM x70 y71) >>= fun x72 => (pure (.int 1)) >>= fun y73 => addM x72 y73) >>= fun x74 => (pure (.int 48271)) >>= fun y75 => mulM x74 y75) >>= fun x76 => (pure (.int 2147483647)) >>= fun y77 => modM x76 y77) >>= fun number63 => ((((pure number63) >>= fun x83 => (((pure number63) >>= fun x79 => (pure (.int 1009)) >>= fun y80 => fdivM x79 y80) >>= fun x81 => (pure (.int 69621)) >>= fun y82 => addM x81 y82) >>= fun y84 => mulM x83 y84) >>= fun x85 => (pure (.int 2147483647)) >>= fun y86 => modM x85 y86) >>= fun number78 => ((((pure number78) >>= fun x92 => (((pure number78) >>= fun x88 => (pure (.int 2003)) >>= fun y89 => fdivM x88 y89) >>= fun x90 => (pure (.int 40692)) >>= fun y91 => addM x90 y91) >>= fun y93 => mulM x92 y93) >>= fun x94 => (pure (.int 2147483399)) >>= fun y95 => modM x94 y95) >>= fun number87 => ((((pure number87) >>= fun x96 => (pure (.int 7)) >>= fun y97 => fdivM x96 y97) >>= fun x98 => (pure many36) >>= fun y99 => modM x98 y99) >>= fun d100 => (pure (Out.ret d100) : M (Out (Unit) (Empty)))))))))
def f_law_take (tape_here35 : D) (many36 : D) : M D := defM (b_law_take tape_here35 many36)
def b_Store_whole_text (self101 : D) : M (Out Unit Empty) := (((pure self101) >>= fun x102 => fldM tabC "kept" x102) >>= fun d103 => (pure (Out.ret d103) : M (Out (Unit) (Empty))))
def f_Store_whole_text (self101 : D) : M D := defM (b_Store_whole_text self101)
abbrev s_law_fall : Stmt := top 13
abbrev is_law_fall : Stmt := (defBody s_law_fall).getD 0 (.Pass ⟨0, 0, 0, 0⟩)
def S_law_fall : FnS := defS is_law_fall "_law_fall_here" "_law_fall.<locals>._law_fall_here" ["_law_answers", "_law_counts", "_law_seen", "_law_store"]
def b_law_fall_i (answers105 : D) (counts106 : D) (seen107 : D) (store108 : D) (count104 : D) : M (Out Unit Empty) := (((pure counts106) >>= fun x109 => lchk x109 >>= fun _ => (pure count104) >>= fun y110 => appendM x109 y110) >>= fun _ => (((pure seen107) >>= fun x114 => lchk x114 >>= fun _ => (((pure store108) >>= fun x111 => (pure (.int 0)) >>= fun y112 => ixM x111 y112) >>= fun x113 => mchkM "Store" "whole_text" x113 >>= fun _ => app1 f_Store_whole_text [x113]) >>= fun y115 => appendM x114 y115) >>= fun _ => (((pure answers105) >>= fun x119 => ((pure count104) >>= fun x117 => ((pure answers105) >>= fun x116 => lenM x116) >>= fun y118 => modM x117 y118) >>= fun y120 => ixM x119 y120) >>= fun d121 => (pure (Out.ret d121) : M (Out (Unit) (Empty))))))
def g_law_fall : List D → List D → M D
  | [answers105, counts106, seen107, store108], [count104] => defM (b_law_fall_i answers105 counts106 seen107 store108 count104)
  | _, _ => stuck
def fnT : List (FnS × Nat × (List D → List D → M D)) := [(S_law_fall, 1, g_law_fall)]
def f_law_fall (answers122 : D) (counts123 : D) (seen124 : D) (store125 : D) : M D := mkfnM 0 "_law_fall" "_law_fall.<locals>._law_fall_here" S_law_fall [answers122, counts123, seen124, store125]
def l_law_made_1 (answers132 : D) (tape_here126 : D) : D → (Unit) → M (Out (Unit) (Unit)) := fun x138 t134 => liftO (some x138) >>= fun p139 => (((pure answers132) >>= fun x166 => lchk x166 >>= fun _ => ((((pure .non) >>= fun a159 => ((pure .non) >>= fun a157 => ((pure (.int 0)) >>= fun a155 => (((pure (.int 1)) >>= fun x140 => negM x140) >>= fun a153 => (((pure tape_here126) >>= fun a141 => (pure (.int 33)) >>= fun a142 => f_law_take a141 a142) >>= fun a151 => (((pure (.int 10)) >>= fun x143 => (pure (.int 17)) >>= fun y144 => powM x143 y144) >>= fun a149 => ((pure (.int 0)) >>= fun x147 => ((pure (.int 10)) >>= fun x145 => (pure (.int 17)) >>= fun y146 => powM x145 y146) >>= fun y148 => subM x147 y148) >>= fun a150 => pure [a149, a150]) >>= fun as152 => pure (a151 :: as152)) >>= fun as154 => pure (a153 :: as154)) >>= fun as156 => pure (a155 :: as156)) >>= fun as158 => pure (a157 :: as158)) >>= fun as160 => pure (a159 :: as160)) >>= fun xs161 => lstM xs161) >>= fun x164 => ((pure tape_here126) >>= fun a162 => (pure (.int 7)) >>= fun a163 => f_law_take a162 a163) >>= fun y165 => ixM x164 y165) >>= fun y167 => appendM x166 y167) >>= fun _ => (pure (Out.nx ()) : M (Out (Unit) (Unit))))
def b_law_made (tape_here126 : D) : M (Out Unit Empty) := (((pure (.int 1)) >>= fun x130 => ((pure tape_here126) >>= fun a128 => (pure (.int 6)) >>= fun a129 => f_law_take a128 a129) >>= fun y131 => addM x130 y131) >>= fun many127 => (((pure []) >>= fun xs133 => lstH xs133) >>= fun answers132 => (((pure many127) >>= fun x136 => rng1M [x136]) >>= fun xs137 => obind (forM xs137 (() : Unit) (l_law_made_1 answers132 tape_here126)) (fun s135 => (freezeM answers132 >>= fun answers168 => (((pure []) >>= fun xs170 => lstH xs170) >>= fun counts169 => (((pure []) >>= fun xs172 => lstH xs172) >>= fun seen171 => (((pure []) >>= fun xs174 => lstH xs174) >>= fun held173 => (((((pure answers168) >>= fun a176 => (pure counts169) >>= fun a177 => (pure seen171) >>= fun a178 => (pure held173) >>= fun a179 => f_law_fall a176 a177 a178 a179) >>= fun a180 => pure [a180]) >>= fun as181 => makeM "Store" (app2 f_Store___init__) as181) >>= fun store175 => (((pure held173) >>= fun x182 => lchk x182 >>= fun _ => (pure store175) >>= fun y183 => appendM x182 y183) >>= fun _ => ((newM (.dk []) >>= fun r202 => ((pure (.str "store")) >>= fun x199 => (pure store175) >>= fun y200 => ((pure (.str "answers")) >>= fun x196 => (pure answers168) >>= fun y197 => ((pure (.str "counts")) >>= fun x193 => (pure counts169) >>= fun y194 => ((pure (.str "seen")) >>= fun x190 => (pure seen171) >>= fun y191 => ((pure (.str "text")) >>= fun x187 => (pure (.str "")) >>= fun y188 => ((pure (.str "many")) >>= fun x184 => (pure (.int 0)) >>= fun y185 => (pure []) >>= fun ps186 => pure ((x184, y185) :: ps186)) >>= fun ps189 => pure ((x187, y188) :: ps189)) >>= fun ps192 => pure ((x190, y191) :: ps192)) >>= fun ps195 => pure ((x193, y194) :: ps195)) >>= fun ps198 => pure ((x196, y197) :: ps198)) >>= fun ps201 => pure ((x199, y200) :: ps201)) >>= fun ps203 => dispM r202 ps203) >>= fun d204 => (pure (Out.ret d204) : M (Out (Unit) (Empty))))))))))))))
def f_law_made (tape_here126 : D) : M D := defM (b_law_made tape_here126)
def c_law_text_1 (signs207 : D) (tape_here205 : D) : D → M (List D) := fun x215 => liftO (some x215) >>= fun p216 => (pure true) >>= fun t217 => if t217 = true then (((pure signs207) >>= fun x222 => ((pure tape_here205) >>= fun a219 => ((pure signs207) >>= fun x220 => lenM x220) >>= fun a221 => f_law_take a219 a221) >>= fun y223 => ixM x222 y223) >>= fun y218 => pure [y218]) else pure []
def b_law_text (tape_here205 : D) : M (Out Unit Empty) := ((pure (D.str " !\"#$&'()*+,-./0123456789:;<=>?@ABCDEFGHIJKLMNOPQRSTUVWXYZ[\\]^_`")) >>= fun signs206 => (((pure signs206) >>= fun x208 => (pure (.str "abcdefghijklmnopqrstuvwxyz{|}~\n\n\n")) >>= fun y209 => addM x208 y209) >>= fun signs207 => (((((pure tape_here205) >>= fun a211 => (pure (.int 31)) >>= fun a212 => f_law_take a211 a212) >>= fun x213 => rng1M [x213]) >>= fun xs214 => lcM xs214 (c_law_text_1 signs207 tape_here205)) >>= fun some210 => ((((pure (.str "")) >>= fun x224 => schk x224 >>= fun _ => (pure some210) >>= fun y225 => joinM x224 y225) >>= fun x233 => ((((pure (.str "")) >>= fun a226 => (pure (.str "\n")) >>= fun a227 => pure [a226, a227]) >>= fun xs228 => lstM xs228) >>= fun x231 => ((pure tape_here205) >>= fun a229 => (pure (.int 2)) >>= fun a230 => f_law_take a229 a230) >>= fun y232 => ixM x231 y232) >>= fun y234 => addM x233 y234) >>= fun d235 => (pure (Out.ret d235) : M (Out (Unit) (Empty)))))))
def f_law_text (tape_here205 : D) : M D := defM (b_law_text tape_here205)
def b_Store_asked_for (self236 : D) : M (Out Unit Empty) := (((pure self236) >>= fun x237 => fldM tabC "asked" x237) >>= fun d238 => (pure (Out.ret d238) : M (Out (Unit) (Empty))))
def f_Store_asked_for (self236 : D) : M D := defM (b_Store_asked_for self236)
def b_Store_write (self239 : D) (text240 : D) : M (Out Unit Empty) := (((pure self239) >>= fun x242 => fldM tabC "asked" x242) >>= fun count241 => (((pure count241) >>= fun x243 => (pure (.int 1)) >>= fun y244 => addM x243 y244) >>= fun v245 => (pure self239) >>= fun x246 => setFM tabC "asked" x246 v245 >>= fun _ => ((pure D.non) >>= fun signs247 => (((((pure self239) >>= fun x248 => fldM tabC "fall" x248) >>= fun x249 => (pure .non) >>= fun y250 => isM true x249 y250) >>= fun b251 => asB b251) >>= fun t252 => obind ((if t252 = true then (((pure self239) >>= fun x254 => fldM tabC "fall" x254 >>= fun f255 => fnchk f255 >>= fun _ => ((pure count241) >>= fun a256 => pure [a256]) >>= fun as257 => callvM fnT f255 as257) >>= fun signs253 => (pure (Out.nx signs253) : M (Out (D) (Empty)))) else (pure (Out.nx signs247) : M (Out (D) (Empty)))) : M (Out (D) (Empty))) (fun s258 => ((((pure s258) >>= fun x259 => (pure .non) >>= fun y260 => isM false x259 y260) >>= fun b261 => asB b261) >>= fun t262 => if t262 = true then obind ((((pure self239) >>= fun x263 => fldM tabC "kept" x263) >>= fun x264 => (pure text240) >>= fun y265 => addM x264 y265) >>= fun v266 => (pure self239) >>= fun x267 => setFM tabC "kept" x267 v266 >>= fun _ => (pure (Out.ret .non) : M (Out (Empty) (Empty)))) (fun e => e.elim) else ((((pure self239) >>= fun x268 => fldM tabC "kept" x268) >>= fun x275 => ((pure text240) >>= fun x272 => (pure none) >>= fun l273 => (((pure (.int 0)) >>= fun x269 => (pure s258) >>= fun y270 => maxM x269 y270) >>= fun x271 => asI x271) >>= fun u274 => sliceM x272 l273 u274) >>= fun y276 => addM x275 y276) >>= fun v277 => (pure self239) >>= fun x278 => setFM tabC "kept" x278 v277 >>= fun _ => (throwM "Fallen" : M (Out (Unit) (Empty))))))))))
def f_Store_write (self239 : D) (text240 : D) : M D := defM (b_Store_write self239 text240)
def h_law_wrote_1 : Str → M (Out (D) (Empty)) := fun z282 => (((((pure (.str "other")) >>= fun a293 => (pure (.str "fallen")) >>= fun a294 => pure [a293, a294]) >>= fun xs295 => lstM xs295) >>= fun x299 => (((isEZ isE "Fallen" z282) >>= fun x297 => andV x297 ((isEO (orO (isE z282 "Down") (orO (isE z282 "NoBook") (some false)))) >>= fun x296 => notV x296)) >>= fun x298 => intM x298) >>= fun y300 => ixM x299 y300) >>= fun word292 => (pure (Out.nx word292) : M (Out (D) (Empty))))
def b_law_wrote (store279 : D) (text_here280 : D) : M (Out Unit Empty) := ((pure (D.str "told")) >>= fun word281 => (obind ((tryM (fun z => isE z "LentError") (((((pure store279) >>= fun x283 => mchkM "Store" "write" x283 >>= fun _ => ((pure text_here280) >>= fun a284 => pure [a284]) >>= fun as285 => app2 f_Store_write (x283 :: as285)) >>= fun x286 => (pure .non) >>= fun y287 => isM true x286 y287) >>= fun b288 => asB b288) >>= fun t289 => obind ((if t289 = true then ((pure (D.str "something")) >>= fun word290 => (pure (Out.nx word290) : M (Out (D) (Empty)))) else (pure (Out.nx word281) : M (Out (D) (Empty)))) : M (Out (D) (Empty))) (fun s291 => (pure (Out.nx s291) : M (Out (D) (Empty))))) h_law_wrote_1) : M (Out (D) (Empty))) (fun s301 => ((pure s301) >>= fun d302 => (pure (Out.ret d302) : M (Out (Unit) (Empty)))))))
def f_law_wrote (store279 : D) (text_here280 : D) : M D := defM (b_law_wrote store279 text_here280)
def r_law_goes_1 (one303 : D) (text_here304 : D) : (D × D) → M (Out (Unit) (Empty)) := fun s331 => (((((((pure one303) >>= fun x332 => (pure (.str "store")) >>= fun y333 => dgetM x332 y333) >>= fun a334 => (pure text_here304) >>= fun a335 => f_law_wrote a334 a335) >>= fun x336 => (pure s331.1) >>= fun y337 => neM x336 y337) >>= fun b338 => asB b338) >>= fun t349 => if t349 = true then pure true else ((((pure one303) >>= fun x339 => (pure (.str "counts")) >>= fun y340 => dgetM x339 y340) >>= fun x346 => ((((pure one303) >>= fun x341 => (pure (.str "many")) >>= fun y342 => dgetM x341 y342) >>= fun x343 => (pure (.int 1)) >>= fun y344 => addM x343 y344) >>= fun x345 => lrgM .lst (.int 0) x345) >>= fun y347 => neM x346 y347) >>= fun b348 => asB b348)) >>= fun t350 => if t350 = true then obind ((pure (.bl false)) >>= fun d351 => (pure (Out.ret d351) : M (Out (Empty) (Empty)))) (fun e => e.elim) else ((((((pure one303) >>= fun x352 => (pure (.str "seen")) >>= fun y353 => dgetM x352 y353) >>= fun x355 => ((pure (.int 1)) >>= fun x354 => negM x354) >>= fun y356 => ixM x355 y356) >>= fun x359 => ((pure one303) >>= fun x357 => (pure (.str "text")) >>= fun y358 => dgetM x357 y358) >>= fun y360 => neM x359 y360) >>= fun b361 => asB b361) >>= fun t362 => if t362 = true then obind ((pure (.bl false)) >>= fun d363 => (pure (Out.ret d363) : M (Out (Empty) (Empty)))) (fun e => e.elim) else ((((pure one303) >>= fun x364 => (pure (.str "text")) >>= fun y365 => dgetM x364 y365) >>= fun x366 => (pure s331.2) >>= fun y367 => addM x366 y367) >>= fun v368 => (pure one303) >>= fun x369 => (pure (.str "text")) >>= fun y370 => dputM x369 y370 v368 >>= fun _ => ((((pure one303) >>= fun x371 => (pure (.str "many")) >>= fun y372 => dgetM x371 y372) >>= fun x373 => (pure (.int 1)) >>= fun y374 => addM x373 y374) >>= fun v375 => (pure one303) >>= fun x376 => (pure (.str "many")) >>= fun y377 => dputM x376 y377 v375 >>= fun _ => ((pure (.bl true)) >>= fun d378 => (pure (Out.ret d378) : M (Out (Unit) (Empty))))))))
def b_law_goes (one303 : D) (text_here304 : D) : M (Out Unit Empty) := ((((pure one303) >>= fun x306 => (pure (.str "answers")) >>= fun y307 => dgetM x306 y307) >>= fun x315 => (((pure one303) >>= fun x308 => (pure (.str "many")) >>= fun y309 => dgetM x308 y309) >>= fun x313 => (((pure one303) >>= fun x310 => (pure (.str "answers")) >>= fun y311 => dgetM x310 y311) >>= fun x312 => lenM x312) >>= fun y314 => modM x313 y314) >>= fun y316 => ixM x315 y316) >>= fun answer305 => ((pure (D.str "told")) >>= fun due317 => ((pure text_here304) >>= fun more318 => ((((pure answer305) >>= fun x319 => (pure .non) >>= fun y320 => isM true x319 y320) >>= fun b321 => asB b321) >>= fun t322 => obind ((if t322 = true then ((pure (D.str "fallen")) >>= fun due323 => (((pure text_here304) >>= fun x328 => (pure none) >>= fun l329 => (((pure (.int 0)) >>= fun x325 => (pure answer305) >>= fun y326 => maxM x325 y326) >>= fun x327 => asI x327) >>= fun u330 => sliceM x328 l329 u330) >>= fun more324 => (pure (Out.nx (due323, more324)) : M (Out (D × D) (Empty))))) else (pure (Out.nx (due317, more318)) : M (Out (D × D) (Empty)))) : M (Out (D × D) (Empty))) (r_law_goes_1 one303 text_here304)))))
def f_law_goes (one303 : D) (text_here304 : D) : M D := defM (b_law_goes one303 text_here304)
def l_law_1 : D → (Unit) → M (Out (Unit) (Unit)) := fun x466 t445 => liftO (some x466) >>= fun p467 => (((pure p467) >>= fun x469 => (pure (.str "store")) >>= fun y470 => dgetM x469 y470) >>= fun store468 => (((((((pure store468) >>= fun x471 => mchkM "Store" "whole_text" x471 >>= fun _ => app1 f_Store_whole_text [x471]) >>= fun a473 => ((pure store468) >>= fun x472 => mchkM "Store" "asked_for" x472 >>= fun _ => app1 f_Store_asked_for [x472]) >>= fun a474 => pure [a473, a474]) >>= fun xs475 => tupM xs475) >>= fun x483 => ((((pure p467) >>= fun x476 => (pure (.str "text")) >>= fun y477 => dgetM x476 y477) >>= fun a480 => ((pure p467) >>= fun x478 => (pure (.str "many")) >>= fun y479 => dgetM x478 y479) >>= fun a481 => pure [a480, a481]) >>= fun xs482 => tupM xs482) >>= fun y484 => neM x483 y484) >>= fun b485 => asB b485) >>= fun t486 => if t486 = true then obind ((pure (.bl false)) >>= fun d487 => (pure (Out.ret d487) : M (Out (Empty) (Unit)))) (fun e => e.elim) else (pure (Out.nx ()) : M (Out (Unit) (Unit)))))
def l_law_2 (tape_here397 : D) (some399 : D) (plain405 : D) : D → (D) → M (Out (D) (D)) := fun x422 t416 => liftO (some x422) >>= fun p423 => (((pure tape_here397) >>= fun a425 => f_law_text a425) >>= fun more424 => (((((((pure some399) >>= fun x428 => ((pure tape_here397) >>= fun a426 => (pure (.int 2)) >>= fun a427 => f_law_take a426 a427) >>= fun y429 => ixM x428 y429) >>= fun a430 => (pure more424) >>= fun a431 => f_law_goes a430 a431) >>= fun x432 => truM x432) >>= fun t433 => pure (!t433)) >>= fun t439 => if t439 = true then pure true else ((((pure plain405) >>= fun a434 => (pure more424) >>= fun a435 => f_law_wrote a434 a435) >>= fun x436 => (pure (.str "told")) >>= fun y437 => neM x436 y437) >>= fun b438 => asB b438)) >>= fun t440 => if t440 = true then obind ((pure (.bl false)) >>= fun d441 => (pure (Out.ret d441) : M (Out (Empty) (D)))) (fun e => e.elim) else (((pure t416) >>= fun x443 => (pure more424) >>= fun y444 => addM x443 y444) >>= fun text_here442 => ((((pure some399) >>= fun x462 => (((newM (.dk []) >>= fun r458 => ((pure (.str "store")) >>= fun x455 => (pure plain405) >>= fun y456 => ((pure (.str "text")) >>= fun x452 => (pure text_here442) >>= fun y453 => ((pure (.str "many")) >>= fun x449 => ((pure p423) >>= fun x447 => (pure (.int 1)) >>= fun y448 => addM x447 y448) >>= fun y450 => (pure []) >>= fun ps451 => pure ((x449, y450) :: ps451)) >>= fun ps454 => pure ((x452, y453) :: ps454)) >>= fun ps457 => pure ((x455, y456) :: ps457)) >>= fun ps459 => dispM r458 ps459) >>= fun a460 => pure [a460]) >>= fun xs461 => lstM xs461) >>= fun y463 => addM x462 y463) >>= fun x464 => itemsM x464) >>= fun xs465 => obind (forM xs465 (() : Unit) l_law_1) (fun s446 => (pure (Out.nx text_here442) : M (Out (D) (D))))))))
def l_law_3 : D → (Unit) → M (Out (Unit) (Unit)) := fun x395 t380 => liftO (some x395) >>= fun p396 => (((pure p396) >>= fun a398 => f_law_tape a398) >>= fun tape_here397 => (((((pure tape_here397) >>= fun a400 => f_law_made a400) >>= fun a402 => ((pure tape_here397) >>= fun a401 => f_law_made a401) >>= fun a403 => pure [a402, a403]) >>= fun xs404 => lstM xs404) >>= fun some399 => (((((makeM "Store" (app2 f_Store___init__) [.non]) >>= fun a408 => (((pure .non) >>= fun a406 => pure [a406]) >>= fun as407 => makeM "Store" (app2 f_Store___init__) as407) >>= fun a409 => pure [a408, a409]) >>= fun xs410 => lstM xs410) >>= fun x413 => ((pure tape_here397) >>= fun a411 => (pure (.int 2)) >>= fun a412 => f_law_take a411 a412) >>= fun y414 => ixM x413 y414) >>= fun plain405 => ((pure (D.str "")) >>= fun text_here415 => ((((pure tape_here397) >>= fun a418 => (pure (.int 13)) >>= fun a419 => f_law_take a418 a419) >>= fun x420 => rng1M [x420]) >>= fun xs421 => obind (forM xs421 (text_here415 : D) (l_law_2 tape_here397 some399 plain405)) (fun s417 => ((makeM "Store" (app2 f_Store___init__) [.non]) >>= fun fresh488 => (((((((pure fresh488) >>= fun x489 => mchkM "Store" "whole_text" x489 >>= fun _ => app1 f_Store_whole_text [x489]) >>= fun a491 => ((pure fresh488) >>= fun x490 => mchkM "Store" "asked_for" x490 >>= fun _ => app1 f_Store_asked_for [x490]) >>= fun a492 => pure [a491, a492]) >>= fun xs493 => tupM xs493) >>= fun x497 => (((pure (.str "")) >>= fun a494 => (pure (.int 0)) >>= fun a495 => pure [a494, a495]) >>= fun xs496 => tupM xs496) >>= fun y498 => neM x497 y498) >>= fun b499 => asB b499) >>= fun t500 => if t500 = true then obind ((pure (.bl false)) >>= fun d501 => (pure (Out.ret d501) : M (Out (Empty) (Unit)))) (fun e => e.elim) else (pure (Out.nx ()) : M (Out (Unit) (Unit)))))))))))
def b_law (script379 : D) : M (Out Unit Empty) := (((((((pure script379) >>= fun a382 => (pure (.int 0)) >>= fun a383 => pcallM (app2 f_law_cell_at) [a382, a383]) >>= fun a384 => pure [a384]) >>= fun xs385 => lstM xs385) >>= fun x391 => ((pure script379) >>= fun x388 => ((pure (.int 1)) >>= fun x386 => asI x386) >>= fun l389 => ((pure (.int 6)) >>= fun x387 => asI x387) >>= fun u390 => sliceM x388 l389 u390) >>= fun y392 => addM x391 y392) >>= fun x393 => itemsM x393) >>= fun xs394 => obind (forM xs394 (() : Unit) l_law_3) (fun s381 => ((pure (.bl true)) >>= fun d502 => (pure (Out.ret d502) : M (Out (Unit) (Empty))))))
def f_law (script379 : D) : M D := defM (b_law script379)
end Lw
/-! SetG: small facts. -/
namespace Lw
open PySem L2
/-- all but the cell n is as it was -/
def Fr (n : Nat) (h h' : AH) : Prop := h'.length = h.length ∧ ∀ i, i ≠ n → h'[i]? = h[i]?
theorem Fr.set {n : Nat} {h : AH} {c : Cell} : Fr n h (h.set n c) := ⟨List.length_set .., fun i q => List.getElem?_set_ne (Ne.symm q)⟩
theorem Fr.trans {n : Nat} {a b c : AH} (x : Fr n a b) (y : Fr n b c) : Fr n a c := ⟨y.1.trans x.1, fun i q => (y.2 i q).trans (x.2 i q)⟩
theorem log_small {i : Int} {k : Nat} (h : i.natAbs < 2 ^ k) (h0 : 0 < k) : i.natAbs.log2 < k := by
  by_cases z : i.natAbs = 0
  · rw [z]
    simpa using h0
  · exact (Nat.log2_lt z).mpr h
theorem mulOk {i j : Int} (a : i.natAbs < 2 ^ 1000) (b : j.natAbs < 2 ^ 1000) : i.natAbs.log2 + j.natAbs.log2 < 1000000 := by
  have := log_small a (by decide)
  have := log_small b (by decide)
  omega
theorem small {i : Int} (a : -(2 ^ 100) < i) (b : i < 2 ^ 100) : i.natAbs < 2 ^ 1000 := by
  have : i.natAbs < 2 ^ 100 := by omega
  exact Nat.lt_of_lt_of_le this (Nat.pow_le_pow_right (by decide) (by decide))
theorem getElem?_lt {α : Type} {l : List α} {n : Nat} {x : α} (e : l[n]? = some x) : n < l.length := (List.getElem?_eq_some_iff.mp e).1
theorem rangeD_get {lo : Int} {n k : Nat} {x : D} (hx : (rangeD lo n)[k]? = some x) : k < n ∧ x = .int (lo + (k : Nat)) := by
  unfold rangeD at hx
  rw [List.getElem?_map] at hx
  by_cases hk : k < n
  · rw [List.getElem?_range hk] at hx
    exact ⟨hk, (Option.some.inj hx).symm⟩
  · rw [List.getElem?_eq_none (by rw [List.length_range]; omega)] at hx
    cases hx
theorem rangeD_len {lo : Int} {n : Nat} : (rangeD lo n).length = n := by simp [rangeD]
theorem atI_in {α : Type} {xs : List α} {i : Int} (h0 : 0 ≤ i) (h1 : i < xs.length) : ∃ x, atI xs i = some x ∧ x ∈ xs := by
  have hn : i.toNat < xs.length := by omega
  exact ⟨xs[i.toNat], atI_pos h0 (List.getElem?_eq_getElem hn), List.getElem_mem hn⟩
section
variable {h : AH} {E : Str → AH → Prop} {P : D → AH → Prop}
theorem w_pick {xs : List D} {i : Int} (h0 : 0 ≤ i) (h1 : i < xs.length) (p : ∀ x ∈ xs, P x h) : Wp (ixM (.lst xs) (.int i) h) P E := by
  obtain ⟨x, e, m⟩ := atI_in h0 h1
  exact (w_ixL e).mpr (p x m)
end
theorem cutD_mid {α : Type} {xs : List α} (a b : Nat) : cutD xs (some (a : Int)) (some (b : Int)) = (xs.drop a).take (b - a) := by
  unfold cutD
  rw [HT.sIx_nat, HT.sIx_nat]
  by_cases q : a ≤ xs.length
  · rw [Nat.min_eq_left q]
    by_cases r : b ≤ xs.length
    · rw [Nat.min_eq_left r]
    · rw [Nat.min_eq_right (by omega), List.take_of_length_le (by rw [List.length_drop]; exact Nat.le_refl _), List.take_of_length_le (by rw [List.length_drop]; omega)]
  · rw [Nat.min_eq_right (by omega : xs.length ≤ a), List.drop_of_length_le (Nat.le_refl _), List.drop_of_length_le (by omega)]
    simp
end Lw
/-! SetCv: what a made function held in a field does; stores whose writings may fall. -/
namespace Lw
open PySem L2
section
variable {h : AH} {E : Str → AH → Prop} {P : D → AH → Prop} {U : Unit → AH → Prop}
theorem undA_ok : ∀ {h k : AH}, h.length ≤ k.length → (∀ (i : Nat) S cs, h[i]? = some (.fn S cs) → k[i]? = some .hid) → ∃ r, undA h k = some r ∧ r.length = k.length ∧ (∀ (i : Nat) S cs, h[i]? = some (.fn S cs) → r[i]? = some (.fn S cs)) ∧ ∀ (i : Nat), (∀ S cs, h[i]? ≠ some (.fn S cs)) → r[i]? = k[i]?
  | [], k, _, _ => ⟨k, by unfold undA; rfl, rfl, fun i S cs e => by simp at e, fun i _ => rfl⟩
  | x :: h, [], l, _ => absurd l (by simp)
  | x :: h, c :: k, l, q => by
    obtain ⟨r, e, l1, f1, f2⟩ := undA_ok (h := h) (k := k) (by simpa using l) fun i S cs z => by simpa using q (i + 1) S cs (by simpa using z)
    have go : ∀ y, undA (x :: h) (c :: k) = some (y :: r) → (∀ S cs, x = .fn S cs → y = .fn S cs) → ((∀ S cs, x ≠ .fn S cs) → y = c) → ∃ r, undA (x :: h) (c :: k) = some r ∧ r.length = (c :: k).length ∧ (∀ (i : Nat) S cs, (x :: h)[i]? = some (.fn S cs) → r[i]? = some (.fn S cs)) ∧ ∀ (i : Nat), (∀ S cs, (x :: h)[i]? ≠ some (.fn S cs)) → r[i]? = (c :: k)[i]? := fun y ey y1 y2 => by
      refine ⟨y :: r, ey, by simp [l1], fun i S cs z => ?_, fun i z => ?_⟩
      · cases i with
        | zero => have z : some x = some (Cell.fn S cs) := z; cases z; exact congrArg some (y1 S cs rfl)
        | succ i => exact f1 i S cs (by simpa using z)
      · cases i with
        | zero => exact congrArg some (y2 fun S cs w => z S cs (by rw [w] <;> rfl))
        | succ i => exact f2 i fun S cs w => z S cs (by simpa using w)
    cases x with
    | fn S cs =>
      have c0 : (c :: k)[0]? = some .hid := q 0 S cs rfl
      have c0 : some c = some Cell.hid := c0
      cases c0
      refine go (.fn S cs) (by unfold undA; rw [e] <;> rfl) (fun S' cs' w => w) fun w => absurd rfl (w S cs)
    | _ => exact go c (by unfold undA; rw [e] <;> rfl) (fun S' cs' w => nomatch w) fun _ => rfl
theorem hid_at {i : Nat} {c : Cell} (e : h[i]? = some c) (n : ∀ S cs, c ≠ .fn S cs) : (hidA h)[i]? = some c := by
  unfold hidA
  rw [List.getElem?_map, e]
  cases c <;> first | rfl | exact absurd rfl (n _ _)
theorem hid_fn {i : Nat} {S : FnS} {cs : List D} (e : h[i]? = some (.fn S cs)) : (hidA h)[i]? = some .hid := by
  unfold hidA
  rw [List.getElem?_map, e] <;> rfl
theorem hid_len : (hidA h).length = h.length := by
  unfold hidA
  rw [List.length_map]
/-- a made function called -/
theorem callv_w {T : List (FnS × Nat × (List D → List D → M D))} {f n : Nat} {S : FnS} {cs as : List D} {g : List D → List D → M D} (e : h[f]? = some (.fn S cs)) (ft : T.find? (isS S) = some (S, n, g)) (l : as.length = n)
    (w : Wp (g cs as (hidA h)) (fun d k => h.length ≤ k.length ∧ (∀ (i : Nat) S cs, h[i]? = some (.fn S cs) → k[i]? = some .hid) ∧ ∀ r : AH, r.length = k.length → (∀ (i : Nat) S cs, h[i]? = some (.fn S cs) → r[i]? = some (.fn S cs)) → (∀ (i : Nat), (∀ S cs, h[i]? ≠ some (.fn S cs)) → r[i]? = k[i]?) → P d r) NoE) : Wp (callvM T (.ref f) as h) P E := by
  unfold callvM
  simp only [e, ft, if_pos l]
  cases q : g cs as (hidA h) with
  | ok d k =>
    rw [q] at w
    obtain ⟨w1, w2, w3⟩ := w
    obtain ⟨r, e1, e2, e3, e4⟩ := undA_ok w1 w2
    simp only [e1]
    exact w3 r e2 e3 e4
  | exc x k =>
    rw [q] at w
    exact w.elim
  | stuck =>
    rw [q] at w
    exact w.elim
theorem hid_eq {i : Nat} (n : ∀ S cs, h[i]? ≠ some (.fn S cs)) : (hidA h)[i]? = h[i]? := by
  cases e : h[i]? with
  | none =>
    unfold hidA
    rw [List.getElem?_map, e] <;> rfl
  | some c => exact hid_at e fun S cs z => n S cs (by rw [e, z])
/-- .. that writes at places of M alone -/
theorem callvS_w {T : List (FnS × Nat × (List D → List D → M D))} {f n : Nat} {S : FnS} {cs as : List D} {g : List D → List D → M D} (M : Nat → Prop) (e : h[f]? = some (.fn S cs)) (ft : T.find? (isS S) = some (S, n, g)) (l : as.length = n) (nm : ∀ i, M i → ∀ S cs, h[i]? ≠ some (.fn S cs))
    (w : Wp (g cs as (hidA h)) (fun d k => k.length = h.length ∧ (∀ i, ¬ M i → k[i]? = (hidA h)[i]?) ∧ ∀ r : AH, r.length = h.length → (∀ i, ¬ M i → r[i]? = h[i]?) → (∀ i, M i → r[i]? = k[i]?) → P d r) NoE) : Wp (callvM T (.ref f) as h) P E := by
  refine callv_w e ft l (w.imp fun d k q => ?_)
  obtain ⟨q1, q2, q3⟩ := q
  refine ⟨by omega, fun i S' cs' z => ?_, fun r r1 r2 r3 => q3 r (by omega) (fun i hi => ?_) fun i hi => r3 i (nm i hi)⟩
  · have ni : ¬ M i := fun hi => nm i hi S' cs' z
    rw [q2 i ni]
    exact hid_fn z
  · by_cases q : ∃ S' cs', h[i]? = some (.fn S' cs')
    · obtain ⟨S', cs', z⟩ := q
      rw [r2 i S' cs' z, z]
    · have q : ∀ S' cs', h[i]? ≠ some (.fn S' cs') := fun S' cs' z => q ⟨S', cs', z⟩
      rw [r3 i q, q2 i hi, hid_eq q]
theorem w_fnchk {f : Nat} {S : FnS} {cs : List D} (e : h[f]? = some (.fn S cs)) : Wp (fnchk (.ref f) h) U E ↔ U () h := by
  unfold fnchk
  simp only [e] <;> exact Iff.rfl
theorem find_one {S : FnS} {n : Nat} {g : List D → List D → M D} {r : List (FnS × Nat × (List D → List D → M D))} : ((S, n, g) :: r).find? (isS S) = some (S, n, g) := by
  rw [List.find?_cons, isS_same]
theorem w_mkfn {ti : Nat} {x qc : Str} {S : FnS} {cs : List D} (e : h[ti]? = some (.tab x qc)) : Wp (mkfnM ti x qc S cs h) P E ↔ P (.ref h.length) (h ++ [.fn S cs]) := by
  unfold mkfnM
  simp only [e, and_self, if_true] <;> exact Iff.rfl
/-! ### stores -/
def stF (v : D) (T : Str) (k : Int) : Cell := .ins "Store" [("fall", v), ("kept", .str T), ("asked", .int k)]
variable {st f : Nat} {v : D} {T : Str} {kk : Int}
theorem sfF_w {tab : CTab} {n : Nat} {c f : Str} {fs : List (Str × D)} {v : D} (e : h[n]? = some (.ins c fs)) (t : (hasF tab c f && decide (fs.length < 1000)) = true) (k : ∀ h', h'[n]? = some (.ins c (putD f v fs)) → h'.length = h.length → (∀ i, i ≠ n → h'[i]? = h[i]?) → U () h') : Wp (setFM tab f (.ref n) v h) U E := by
  rw [w_setf e t]
  exact k _ (List.getElem?_set_self (getElem?_lt e)) (List.length_set ..) fun i hi => List.getElem?_set_ne (Ne.symm hi)
theorem w_slSF {z : Str} {lo hi : Option Int} (l : z.length ≤ 1000000) : Wp (sliceM (.str z) lo hi h) P E ↔ P (.str (cutS z lo hi)) h := by
  unfold sliceM
  simp only [show lenOk z.length = true from decide_eq_true (Nat.le_trans l (by decide)), if_true]
  exact Iff.rfl
theorem apF_w {n : Nat} {xs : List D} {x : D} (e : h[n]? = some (.lst xs)) (l : xs.length < 1000000) (k : ∀ h', h'[n]? = some (.lst (xs ++ [x])) → h'.length = h.length → (∀ i, i ≠ n → h'[i]? = h[i]?) → P .non h') : Wp (appendM (.ref n) x h) P E := by
  rw [w_append e l]
  exact k _ (List.getElem?_set_self (getElem?_lt e)) (List.length_set ..) fun i hi => List.getElem?_set_ne (Ne.symm hi)
theorem dpF_w {n : Nat} {kvs : List (Key × D)} {y v : D} {ky : Key} (e : h[n]? = some (.dk kvs)) (ek : keyD y = some ky) (l : kvs.length < 1000000) (k : ∀ h', h'[n]? = some (.dk (putKD kvs ky v)) → h'.length = h.length → (∀ i, i ≠ n → h'[i]? = h[i]?) → U () h') : Wp (dputM (.ref n) y v h) U E := by
  rw [w_dput e ek l]
  exact k _ (List.getElem?_set_self (getElem?_lt e)) (List.length_set ..) fun i hi => List.getElem?_set_ne (Ne.symm hi)
/-- the signs that a fall leaves -/
def fellS (z : Str) (i : Int) : Str := cutS z none (some (max 0 i))
theorem fell_cps (z : Str) (i : Int) : (fellS z i).cps.toList = z.cps.toList.take i.toNat := by
  unfold fellS cutS
  rw [show HT.sIx z.length 0 none = 0 from rfl]
  have e : (max 0 i : Int) = ((i.toNat : Nat) : Int) := by omega
  rw [e, HT.sIx_nat, List.drop_zero, Nat.sub_zero]
  have l : z.length = z.cps.toList.length := rfl
  show List.take _ _ = _
  rw [l]
  rcases Nat.le_total i.toNat z.cps.toList.length with q | q
  · rw [Nat.min_eq_left q]
  · rw [Nat.min_eq_right q, List.take_of_length_le (Nat.le_refl _), List.take_of_length_le q]
theorem fell_len (z : Str) (i : Int) : (fellS z i).length ≤ z.length := by
  show (fellS z i).cps.toList.length ≤ z.cps.toList.length
  rw [fell_cps, List.length_take]
  exact Nat.min_le_right _ _
theorem wholeF_w (e : h[st]? = some (stF v T kk)) : Wp (f_Store_whole_text (.ref st) h) P E ↔ P (.str T) h := by
  unfold f_Store_whole_text b_Store_whole_text
  have g3 : ∀ {Q : D → AH → Prop} {F : Str → AH → Prop}, (Wp (fldM tabC "kept" (.ref st) h) Q F ↔ Q (.str T) h) := w_fld e rfl rfl
  simp only [WPS, reduceIte, g3]
theorem askedF_w (e : h[st]? = some (stF v T kk)) : Wp (f_Store_asked_for (.ref st) h) P E ↔ P (.int kk) h := by
  unfold f_Store_asked_for b_Store_asked_for
  have g3 : ∀ {Q : D → AH → Prop} {F : Str → AH → Prop}, (Wp (fldM tabC "asked" (.ref st) h) Q F ↔ Q (.int kk) h) := w_fld e rfl rfl
  simp only [WPS, reduceIte, g3]
theorem w_mchkF {m : Str} (e : h[st]? = some (stF v T kk)) (l : ([("fall", v), ("kept", .str T), ("asked", .int kk)] : List (Str × D)).lookup m = none := by rfl) : Wp (mchkM "Store" m (.ref st) h) U E ↔ U () h := w_mchk e l
theorem storeF_w (k : ∀ h', h'[h.length]? = some (stF v "" 0) → h'.length = h.length + 1 → (∀ i, i < h.length → h'[i]? = h[i]?) → P (.ref h.length) h') : Wp (makeM "Store" (app2 f_Store___init__) [v] h) P E := by
  rw [w_make, w_app2]
  have o0 : (h ++ [Cell.ins "Store" []])[h.length]? = some (.ins "Store" []) := by simp
  have l0 : (h ++ [Cell.ins "Store" []]).length = h.length + 1 := by simp
  have k0 : ∀ i, i < h.length → (h ++ [Cell.ins "Store" []])[i]? = h[i]? := fun i hi => List.getElem?_append_left hi
  generalize h ++ [Cell.ins "Store" []] = g at o0 l0 k0
  unfold f_Store___init__ b_Store___init__
  simp only [WPS, reduceIte]
  refine sfF_w o0 rfl fun h1 o1 l1 k1 => ?_
  try simp only [WPS, reduceIte]
  refine sfF_w o1 rfl fun h2 o2 l2 k2 => ?_
  try simp only [WPS, reduceIte]
  refine sfF_w o2 rfl fun h3 o3 l3 k3 => ?_
  try simp only [WPS, reduceIte]
  refine ⟨trivial, k h3 o3 (by omega) fun i hi => ?_⟩
  rw [k3 i (by omega), k2 i (by omega), k1 i (by omega)]
  exact k0 i hi
/-- a writing on a store with no fall -/
theorem writeN_w {z : Str} (e : h[st]? = some (stF .non T kk)) (l : T.length + z.length ≤ 1000000) (k : ∀ h', h'[st]? = some (stF .non (T ++ z) (kk + 1)) → h'.length = h.length → (∀ i, i ≠ st → h'[i]? = h[i]?) → P .non h') : Wp (f_Store_write (.ref st) (.str z) h) P E := by
  unfold f_Store_write b_Store_write
  have g1 : ∀ {g : AH} {T : Str} {j : Int} {Q : D → AH → Prop} {F : Str → AH → Prop}, g[st]? = some (stF .non T j) → (Wp (fldM tabC "asked" (.ref st) g) Q F ↔ Q (.int j) g) := fun e => w_fld e rfl rfl
  have g2 : ∀ {g : AH} {T : Str} {j : Int} {Q : D → AH → Prop} {F : Str → AH → Prop}, g[st]? = some (stF .non T j) → (Wp (fldM tabC "fall" (.ref st) g) Q F ↔ Q .non g) := fun e => w_fld e rfl rfl
  have g3 : ∀ {g : AH} {T : Str} {j : Int} {Q : D → AH → Prop} {F : Str → AH → Prop}, g[st]? = some (stF .non T j) → (Wp (fldM tabC "kept" (.ref st) g) Q F ↔ Q (.str T) g) := fun e => w_fld e rfl rfl
  simp only [WPS, reduceIte, g1 e]
  refine sfF_w e rfl fun h1 o1 l1 k1 => ?_
  have o1 : h1[st]? = some (stF .non T (kk + 1)) := o1
  simp only [WPS, reduceIte, g2 o1, show isC D.non D.non = true from rfl, g3 o1, w_addS l]
  refine sfF_w o1 rfl fun h2 o2 l2 k2 => ?_
  try simp only [WPS, reduceIte]
  exact k h2 o2 (by omega) fun i hi => (k2 i hi).trans (k1 i hi)
/-- .. on a store with a fall: what the fall answers is told by call -/
theorem writeF_w {z : Str} {R : Option Int → AH → Prop} (e : h[st]? = some (stF (.ref f) T kk)) (hf : ∀ h1 : AH, h1.length = h.length → (∀ i, i ≠ st → h1[i]? = h[i]?) → ∃ S cs, h1[f]? = some (.fn S cs)) (l : T.length + z.length ≤ 1000000)
    (call : ∀ h1, h1[st]? = some (stF (.ref f) T (kk + 1)) → h1.length = h.length → (∀ i, i ≠ st → h1[i]? = h[i]?) →
      Wp (callvM fnT (.ref f) [.int kk] h1) (fun d h2 => h2[st]? = some (stF (.ref f) T (kk + 1)) ∧ ((d = .non ∧ R none h2) ∨ ∃ i, d = .int i ∧ R (some i) h2)) NoE)
    (k1 : ∀ h2 h3, R none h2 → h3[st]? = some (stF (.ref f) (T ++ z) (kk + 1)) → h3.length = h2.length → (∀ i, i ≠ st → h3[i]? = h2[i]?) → P .non h3)
    (k2 : ∀ i h2 h3, R (some i) h2 → h3[st]? = some (stF (.ref f) (T ++ fellS z i) (kk + 1)) → h3.length = h2.length → (∀ i, i ≠ st → h3[i]? = h2[i]?) → E "Fallen" h3) : Wp (f_Store_write (.ref st) (.str z) h) P E := by
  unfold f_Store_write b_Store_write
  have g1 : ∀ {g : AH} {T : Str} {j : Int} {Q : D → AH → Prop} {F : Str → AH → Prop}, g[st]? = some (stF (.ref f) T j) → (Wp (fldM tabC "asked" (.ref st) g) Q F ↔ Q (.int j) g) := fun e => w_fld e rfl rfl
  have g2 : ∀ {g : AH} {T : Str} {j : Int} {Q : D → AH → Prop} {F : Str → AH → Prop}, g[st]? = some (stF (.ref f) T j) → (Wp (fldM tabC "fall" (.ref st) g) Q F ↔ Q (.ref f) g) := fun e => w_fld e rfl rfl
  have g3 : ∀ {g : AH} {T : Str} {j : Int} {Q : D → AH → Prop} {F : Str → AH → Prop}, g[st]? = some (stF (.ref f) T j) → (Wp (fldM tabC "kept" (.ref st) g) Q F ↔ Q (.str T) g) := fun e => w_fld e rfl rfl
  simp only [WPS, reduceIte, g1 e]
  refine sfF_w e rfl fun h1 o1 l1 q1 => ?_
  have o1 : h1[st]? = some (stF (.ref f) T (kk + 1)) := o1
  obtain ⟨S, cs, ef⟩ := hf h1 l1 q1
  simp only [WPS, reduceIte, g2 o1, show isC (D.ref f) D.non = false from rfl, w_fnchk ef]
  refine (call h1 o1 l1 q1).noe fun d h2 hq => ?_
  obtain ⟨o2, hq⟩ := hq
  rcases hq with ⟨rfl, r⟩ | ⟨i, rfl, r⟩
  · simp only [WPS, reduceIte, show isC D.non D.non = true from rfl, g3 o2, w_addS l]
    refine sfF_w o2 rfl fun h3 o3 l3 q3 => ?_
    try simp only [WPS, reduceIte]
    exact k1 h2 h3 r o3 l3 q3
  · have lz : z.length ≤ 1000000 := by omega
    have lc : T.length + (fellS z i).length ≤ 1000000 := by
      have := fell_len z i
      omega
    simp only [WPS, reduceIte, show isC (D.int i) D.non = false from rfl, g3 o2, w_slSF lz]
    rw [show cutS z none (some (max 0 i)) = fellS z i from rfl]
    simp only [WPS, reduceIte, w_addS lc]
    refine sfF_w o2 rfl fun h3 o3 l3 q3 => ?_
    try simp only [WPS, reduceIte]
    exact k2 i h2 h3 r o3 l3 q3
end
end Lw
/-! SetT: tapes. -/
namespace Lw
open PySem L2
/-- a tape at n, that m draws are still taken of -/
structure Tape (h : AH) (n m : Nat) : Prop where
  ex : ∃ a b c : Int, h[n]? = some (.lst [.int a, .int b, .int c]) ∧ 0 ≤ a ∧ 0 ≤ b ∧ b < 2 ^ 40 ∧ 0 ≤ c ∧ c + m < 2 ^ 40
theorem Tape.less {h : AH} {n m m' : Nat} (w : Tape h n m) (l : m' ≤ m) : Tape h n m' := by
  obtain ⟨a, b, c, e, a0, b0, b1, c0, c1⟩ := w.ex
  exact ⟨a, b, c, e, a0, b0, b1, c0, by omega⟩
theorem Tape.lt {h : AH} {n m : Nat} (w : Tape h n m) : n < h.length := by
  obtain ⟨_, _, _, e, _⟩ := w.ex
  exact getElem?_lt e
theorem Tape.at {h h' : AH} {n m : Nat} (w : Tape h n m) (e : h'[n]? = h[n]?) : Tape h' n m := by
  obtain ⟨a, b, c, q, r⟩ := w.ex
  exact ⟨a, b, c, e.trans q, r⟩
section
variable {h : AH} {n m : Nat} {E : Str → AH → Prop} {P : D → AH → Prop}
theorem take_w {k : Int} (w : Tape h n (m + 1)) (k0 : 0 < k) (kb : k < 2 ^ 100) (p : ∀ r h', 0 ≤ r → r < k → Tape h' n m → Fr n h h' → P (.int r) h') : Wp (f_law_take (.ref n) (.int k) h) P E := by
  obtain ⟨a, b, c, e, a0, b0, b1, c0, c1⟩ := w.ex
  have hn := getElem?_lt e
  have l0 : (0 : Int) < (([D.int a, .int b, .int c] : List D).length : Int) := by simp
  have l2 : (2 : Int) < (([D.int a, .int b, .int c] : List D).length : Int) := by simp
  unfold f_law_take b_law_take
  simp only [WPS, reduceIte, w_ixR e (show atI [D.int a, .int b, .int c] 0 = some (.int a) from rfl), w_ixR e (show atI [D.int a, .int b, .int c] 1 = some (.int b) from rfl), w_ixR e (show atI [D.int a, .int b, .int c] 2 = some (.int c) from rfl),
    w_mod k0, w_fdiv k0 (Nat.lt_trans (log_small (k := 100) (by omega) (by decide)) (by decide)), w_setix e (show (0 : Int) ≤ 0 by decide) l0, w_setix e (show (0 : Int) ≤ 2 by decide) l2]
  by_cases hb : 0 < a
  · rw [if_pos hb]
    refine p _ _ (Int.emod_nonneg _ (by omega)) (Int.emod_lt_of_pos _ k0) ⟨a / k, b, c, by rw [List.getElem?_set_self hn]; rfl, Int.ediv_nonneg a0 (by omega), b0, b1, c0, by omega⟩ Fr.set
  · rw [if_neg hb]
    have e2 : (h.set n (.lst [.int a, .int b, .int (c + 1)]))[n]? = some (.lst [.int a, .int b, .int (c + 1)]) := List.getElem?_set_self hn
    rw [show ([D.int a, .int b, .int c].set (2 : Int).toNat (.int (c + 1))) = [.int a, .int b, .int (c + 1)] from rfl]
    have q1 := Int.emod_nonneg ((b + 7919 * (c + 1) + 1) * 48271) (show (2147483647 : Int) ≠ 0 by decide)
    have q2 := Int.emod_lt_of_pos ((b + 7919 * (c + 1) + 1) * 48271) (show (0 : Int) < 2147483647 by decide)
    generalize hu : (b + 7919 * (c + 1) + 1) * 48271 % 2147483647 = u at q1 q2
    have d1 : 0 ≤ u / 1009 := Int.ediv_nonneg q1 (by decide)
    have d2 : u / 1009 ≤ u := Int.ediv_le_self _ q1
    have q3 := Int.emod_nonneg (u * (u / 1009 + 69621)) (show (2147483647 : Int) ≠ 0 by decide)
    have q4 := Int.emod_lt_of_pos (u * (u / 1009 + 69621)) (show (0 : Int) < 2147483647 by decide)
    generalize hv : u * (u / 1009 + 69621) % 2147483647 = v at q3 q4
    have d3 : 0 ≤ v / 2003 := Int.ediv_nonneg q3 (by decide)
    have d4 : v / 2003 ≤ v := Int.ediv_le_self _ q3
    simp only [WPS, reduceIte, w_ixR e2 (show atI [D.int a, .int b, .int (c + 1)] 1 = some (.int b) from rfl), w_ixR e2 (show atI [D.int a, .int b, .int (c + 1)] 2 = some (.int (c + 1)) from rfl),
      w_mul (mulOk (small (i := 7919) (by omega) (by omega)) (small (i := c + 1) (by omega) (by omega))), w_mul (mulOk (small (i := b + 7919 * (c + 1) + 1) (by omega) (by omega)) (small (i := 48271) (by omega) (by omega))),
      w_mod (show (0 : Int) < 2147483647 by decide), hu, w_fdiv (show (0 : Int) < 1009 by decide) (by decide), w_mul (mulOk (small (i := u) (by omega) (by omega)) (small (i := u / 1009 + 69621) (by omega) (by omega))), hv,
      w_fdiv (show (0 : Int) < 2003 by decide) (by decide), w_mul (mulOk (small (i := v) (by omega) (by omega)) (small (i := v / 2003 + 40692) (by omega) (by omega))), w_mod (show (0 : Int) < 2147483399 by decide), w_fdiv (show (0 : Int) < 7 by decide) (by decide), w_mod k0]
    exact p _ _ (Int.emod_nonneg _ (by omega)) (Int.emod_lt_of_pos _ k0) ⟨a, b, c + 1, e2, a0, b0, b1, by omega, by omega⟩ Fr.set
/-- a new tape -/
theorem tape_w {x : Int} (p : ∀ h', Tape h' h.length 1000000 → h'.length = h.length + 1 → (∀ i, i < h.length → h'[i]? = h[i]?) → P (.ref h.length) h') : Wp (f_law_tape (.int x) h) P E := by
  have q1 := Int.emod_nonneg x (show (2147483647 : Int) ≠ 0 by decide)
  have q2 := Int.emod_lt_of_pos x (show (0 : Int) < 2147483647 by decide)
  unfold f_law_tape b_law_tape
  simp only [WPS, reduceIte, w_mod (show (0 : Int) < 2147483647 by decide), w_pow (show (0 : Int) ≤ 18 ∧ (18 : Int) ≤ 1000000 ∧ (10 : Int).natAbs < 2 ^ 64 by decide)]
  exact p _ ⟨_, _, _, List.getElem?_append_right (Nat.le_refl _) |>.trans (by simp; exact ⟨rfl, rfl⟩), Int.le_max_left .., q1, by omega, by decide, by decide⟩ (by simp) fun i hi => List.getElem?_append_left hi
end
end Lw
/-! SetL: wells. -/
namespace Lw
open PySem L2
/-- a well at n, that m draws are still taken of -/
structure Well (h : AH) (n m : Nat) : Prop where
  ex : ∃ a b c : Int, h[n]? = some (.lst [.int a, .int b, .int c]) ∧ 0 ≤ a ∧ a < 2 ^ 40 ∧ 0 ≤ b ∧ 0 ≤ c ∧ c + m < 2 ^ 40
theorem Well.less {h : AH} {n m m' : Nat} (w : Well h n m) (l : m' ≤ m) : Well h n m' := by
  obtain ⟨a, b, c, e, a0, a1, b0, c0, c1⟩ := w.ex
  exact ⟨a, b, c, e, a0, a1, b0, c0, by omega⟩
section
end
end Lw
/-! SetM: picks, rows of words. -/
namespace Lw
open PySem L2
theorem strsOf_map (ys : List Str) : strsOf (ys.map D.str) = some ys := by
  induction ys with
  | nil => rfl
  | cons y r ih =>
    show (match strsOf (r.map D.str) with | some ys => some (y :: ys) | none => none) = _
    rw [ih]
end Lw
/-! SetLr: rows, heads, lines: their parts. -/
namespace Lw
open PySem L2
theorem str_app (a b : Str) : (a ++ b).cps.toList = a.cps.toList ++ b.cps.toList := by
  show (a.cps ++ b.cps).toList = _
  exact Array.toList_append
theorem join0 : ∀ ys : List Str, (Txt.join "" ys).cps.toList = (ys.map fun y => y.cps.toList).flatten := by
  intro ys
  rw [TL.join_eq]
  induction ys with
  | nil => rfl
  | cons y r ih =>
    cases r with
    | nil =>
      show y.cps.toList = _
      simp
    | cons z t =>
      have e : Str.join "" (y :: z :: t) = y ++ "" ++ Str.join "" (z :: t) := rfl
      rw [e, str_app, str_app, ih]
      show y.cps.toList ++ [] ++ _ = _
      rw [List.append_nil]
      rfl
section
end
end Lw
/-! SetW: stretches of places as sets, in plain Lean. -/
namespace Lw
abbrev P2 := Int × Int
def mem (n : Int) (w : List P2) : Prop := ∃ p, p ∈ w ∧ p.1 ≤ n ∧ n < p.2
/-- stretches one behind the other -/
def Wk (w : List P2) : Prop := w.Pairwise (fun p q => p.2 ≤ q.1) ∧ ∀ p, p ∈ w → p.1 < p.2
/-- none touches the next -/
def Can (w : List P2) : Prop := w.Pairwise (fun p q => p.2 < q.1) ∧ ∀ p, p ∈ w → p.1 < p.2
theorem Wk.nil : Wk [] := ⟨List.Pairwise.nil, fun _ h => nomatch h⟩
theorem Can.nil : Can [] := ⟨List.Pairwise.nil, fun _ h => nomatch h⟩
theorem mem_cons {n : Int} {p : P2} {w : List P2} : mem n (p :: w) ↔ (p.1 ≤ n ∧ n < p.2) ∨ mem n w := by
  unfold mem
  constructor
  · rintro ⟨q, hq, a, b⟩
    rcases List.mem_cons.mp hq with rfl | hq
    · exact .inl ⟨a, b⟩
    · exact .inr ⟨q, hq, a, b⟩
  · rintro (⟨a, b⟩ | ⟨q, hq, a, b⟩)
    · exact ⟨p, List.mem_cons_self, a, b⟩
    · exact ⟨q, List.mem_cons_of_mem _ hq, a, b⟩
theorem mem_append {n : Int} {w u : List P2} : mem n (w ++ u) ↔ mem n w ∨ mem n u := by
  unfold mem
  constructor
  · rintro ⟨q, hq, a, b⟩
    rcases List.mem_append.mp hq with hq | hq
    · exact .inl ⟨q, hq, a, b⟩
    · exact .inr ⟨q, hq, a, b⟩
  · rintro (⟨q, hq, a, b⟩ | ⟨q, hq, a, b⟩)
    · exact ⟨q, List.mem_append_left _ hq, a, b⟩
    · exact ⟨q, List.mem_append_right _ hq, a, b⟩
/-! ### laid together -/
def lstep (acc : List P2) (p : P2) : List P2 := match acc.getLast? with
  | some q => if p.1 ≤ q.2 then acc.dropLast ++ [(q.1, max q.2 p.2)] else acc ++ [p]
  | none => acc ++ [p]
def laid (xs : List P2) : List P2 := xs.foldl lstep []
/-! ### one set, one row of stretches -/
/-! ### what both hold -/
/-! ### the one without the other -/
/-! ### what either holds -/
/-! ### the facts of the three -/
section
end
/-! ### how many places -/
def size (w : List P2) : Int := (w.map fun p => p.2 - p.1).sum
def S (f : Int → Int) (L : Int) : Nat → Int
  | 0 => 0
  | k + 1 => S f L k + f (L + k)
end Lw
/-! SetLt: lines and heads as they are drawn and written. -/
namespace Lw
open PySem L2
section
variable {h : AH} {n m : Nat} {E : Str → AH → Prop} {P : D → AH → Prop}
/-! ### what is drawn -/
/-- a sign of a text by its place -/
theorem w_sign {z : Str} {i : Int} (h0 : 0 ≤ i) (h1 : i < z.length) (hz : z.length ≤ 1000000) (p : ∀ c ∈ z.cps.toList, P (.str ⟨#[c]⟩) h) : Wp (ixM (.str z) (.int i) h) P E := by
  obtain ⟨c, e, hc⟩ := atI_in (xs := z.cps.toList) h0 (by simpa [Str.length] using h1)
  unfold ixM
  simp only
  rw [if_pos (show lenOk z.length = true from decide_eq_true (Nat.le_trans hz (by decide))), e]
  exact p c hc
end
end Lw
/-! k41: stores. -/
namespace Lw
open PySem L2
def okS (z : Str) : Prop := PyData.strOk z = true
theorem okS_iff {z : Str} : okS z ↔ ∀ c ∈ z.cps.toList, c < 0x110000 := by
  unfold okS PyData.strOk
  rw [Array.all_eq_true']
  exact ⟨fun h c hc => of_decide_eq_true (h c (Array.mem_toList_iff.mp hc)), fun h c hc => decide_eq_true (h c (Array.mem_toList_iff.mpr hc))⟩
theorem okS_app {a b : Str} (x : okS a) (y : okS b) : okS (a ++ b) := okS_iff.mpr fun c hc => by
  rw [str_app] at hc
  rcases List.mem_append.mp hc with hc | hc
  · exact okS_iff.mp x c hc
  · exact okS_iff.mp y c hc
theorem okS_fell {z : Str} {i : Int} (x : okS z) : okS (fellS z i) := okS_iff.mpr fun c hc => by
  rw [fell_cps] at hc
  exact okS_iff.mp x c (List.mem_of_mem_take hc)
theorem lenA (a b : Str) : (a ++ b).length = a.length + b.length := by
  show (a ++ b).cps.size = a.cps.size + b.cps.size
  rw [← Array.length_toList, str_app, List.length_append, Array.length_toList, Array.length_toList]
/-- a text to be written -/
structure TxtS (z : Str) : Prop where
  len : z.length ≤ 40
  ok : okS z
def kvO (a : Nat) (A : List D) (T : Str) (k : Nat) : List (Key × D) := [(.inr "store", .ref (a + 5)), (.inr "answers", .lst A), (.inr "counts", .ref (a + 1)), (.inr "seen", .ref (a + 2)), (.inr "text", .str T), (.inr "many", .int (k : Nat))]
/-- a store with its fall and what is told of it -/
structure One (h : AH) (a : Nat) (A : List D) (T : Str) (k : Nat) : Prop where
  cn : h[a + 1]? = some (.lst (rangeD 0 k))
  se : ∃ xs, h[a + 2]? = some (.lst xs) ∧ xs.length = k
  he : h[a + 3]? = some (.lst [.ref (a + 5)])
  fn : h[a + 4]? = some (.fn S_law_fall [.lst A, .ref (a + 1), .ref (a + 2), .ref (a + 3)])
  st : h[a + 5]? = some (stF (.ref (a + 4)) T (k : Nat))
  di : h[a + 6]? = some (.dk (kvO a A T k))
  ne : A ≠ []
  le : A.length ≤ 6
  an : ∀ x ∈ A, x = .non ∨ ∃ i : Int, x = .int i
  tl : T.length ≤ 40 * k
  ok : okS T
theorem One.at {h h' : AH} {a : Nat} {A : List D} {T : Str} {k : Nat} (o : One h a A T k) (e : ∀ i, a < i → i < a + 7 → h'[i]? = h[i]?) : One h' a A T k := by
  obtain ⟨xs, s1, s2⟩ := o.se
  exact ⟨(e _ (by omega) (by omega)).trans o.cn, ⟨xs, (e _ (by omega) (by omega)).trans s1, s2⟩, (e _ (by omega) (by omega)).trans o.he, (e _ (by omega) (by omega)).trans o.fn, (e _ (by omega) (by omega)).trans o.st, (e _ (by omega) (by omega)).trans o.di, o.ne, o.le, o.an, o.tl, o.ok⟩
theorem One.lt {h : AH} {a : Nat} {A : List D} {T : Str} {k : Nat} (o : One h a A T k) : a + 6 < h.length := getElem?_lt o.di
def fallen (x : D) : Str := match x with
  | .int _ => "fallen"
  | _ => "told"
def more (x : D) (z : Str) : Str := match x with
  | .int i => fellS z i
  | _ => z
theorem more_len (x : D) (z : Str) : (more x z).length ≤ z.length := by
  unfold more
  split
  · exact fell_len z _
  · exact Nat.le_refl _
theorem more_ok {x : D} {z : Str} (o : okS z) : okS (more x z) := by
  unfold more
  split
  · exact okS_fell o
  · exact o
section
variable {h : AH} {E : Str → AH → Prop} {P : D → AH → Prop} {a k : Nat} {A : List D} {T z : Str}
theorem rangeD_snoc (k : Nat) : rangeD 0 k ++ [D.int (k : Nat)] = rangeD 0 (k + 1) := by
  unfold rangeD
  rw [List.range_succ, List.map_append]
  show _ = _ ++ [D.int (0 + (k : Nat))]
  rw [Int.zero_add]
theorem lrg_runK (l : k ≤ 1000) : lrgM .lst (.int 0) (.int ((k : Nat) : Int)) h = .ok (.lst (rangeD 0 k)) h := by
  unfold lrgM
  have e : (((k : Nat) : Int) - 0).toNat = k := by omega
  simp only [e]
  rw [if_pos ⟨by omega, by omega, by omega⟩]
/-- what stands behind a writing -/
structure Wrote (h h' : AH) (a : Nat) (T z : Str) (k : Nat) (x : D) : Prop where
  cn : h'[a + 1]? = some (.lst (rangeD 0 (k + 1)))
  se : ∃ xs : List D, h'[a + 2]? = some (.lst (xs ++ [.str T])) ∧ xs.length = k
  st : h'[a + 5]? = some (stF (.ref (a + 4)) (T ++ more x z) ((k + 1 : Nat) : Int))
  len : h'.length = h.length
  kp : ∀ i, i ≠ a + 1 → i ≠ a + 2 → i ≠ a + 5 → h'[i]? = h[i]?
theorem write1_w (o : One h a A T k) (t : TxtS z) (kl : k ≤ 100) {x : D} (ex : atI A (((k : Nat) : Int) % ((A.length : Nat) : Int)) = some x) (p : fallen x = "told" → ∀ h', Wrote h h' a T z k x → P .non h') (q : fallen x = "fallen" → ∀ h', Wrote h h' a T z k x → E "Fallen" h') : Wp (f_Store_write (.ref (a + 5)) (.str z) h) P E := by
  obtain ⟨xs, s1, s2⟩ := o.se
  have tl := o.tl
  have zl := t.len
  have xa : x ∈ A := by
    obtain ⟨j, _, e⟩ := Option.bind_eq_some_iff.mp ex
    exact List.mem_of_getElem? e
  have xk := o.an x xa
  refine writeF_w (R := fun v h2 => x = (match v with | none => .non | some i => .int i) ∧ h2.length = h.length ∧ h2[a + 1]? = some (.lst (rangeD 0 (k + 1))) ∧ h2[a + 2]? = some (.lst (xs ++ [.str T])) ∧ ∀ i, i ≠ a + 1 → i ≠ a + 2 → i ≠ a + 5 → h2[i]? = h[i]?) o.st (fun h1 l1 q1 => ⟨_, _, (q1 _ (by omega)).trans o.fn⟩) (by omega) (fun h1 o1 l1 q1 => ?_) (fun h2 h3 r o3 l3 q3 => ?_) fun i h2 h3 r o3 l3 q3 => ?_
  · refine callvS_w (fun i => i = a + 1 ∨ i = a + 2) ((q1 (a + 4) (by omega)).trans o.fn) find_one rfl (fun i hi S cs z => ?_) ?_
    · rcases hi with rfl | rfl
      · rw [q1 _ (by omega), o.cn] at z
        cases z
      · rw [q1 _ (by omega), s1] at z
        cases z
    · show Wp (defM (b_law_fall_i (.lst A) (.ref (a + 1)) (.ref (a + 2)) (.ref (a + 3)) (.int ((k : Nat) : Int))) (hidA h1)) _ _
      have c1 : (hidA h1)[a + 1]? = some (.lst (rangeD 0 k)) := hid_at ((q1 _ (by omega)).trans o.cn) fun S cs z => nomatch z
      have c2 : (hidA h1)[a + 2]? = some (.lst xs) := hid_at ((q1 _ (by omega)).trans s1) fun S cs z => nomatch z
      have c3 : (hidA h1)[a + 3]? = some (.lst [.ref (a + 5)]) := hid_at ((q1 _ (by omega)).trans o.he) fun S cs z => nomatch z
      have c5 : (hidA h1)[a + 5]? = some (stF (.ref (a + 4)) T ((k : Nat) + 1)) := hid_at o1 fun S cs z => nomatch z
      have c0 : (hidA h1).length = h1.length := hid_len
      generalize hidA h1 = g at c1 c2 c3 c5 c0
      unfold b_law_fall_i
      simp only [WPS, reduceIte, w_lchk c1]
      refine apF_w c1 (by rw [rangeD_len]; omega) fun g1 o2 l2 k2 => ?_
      have d2 := (k2 (a + 2) (by omega)).trans c2
      have d3 := (k2 (a + 3) (by omega)).trans c3
      have d5 := (k2 (a + 5) (by omega)).trans c5
      try simp only [WPS, reduceIte, w_lchk d2, w_ixR d3 (show atI [D.ref (a + 5)] 0 = some (.ref (a + 5)) from rfl), w_mchkF d5 (m := "whole_text"), wholeF_w d5]
      refine apF_w d2 (by omega) fun g2 o3 l3 k3 => ?_
      have ap : (0 : Int) < ((A.length : Nat) : Int) := by
        have := List.length_pos_iff.mpr o.ne
        omega
      try simp only [WPS, reduceIte, w_mod ap, w_ixL ex]
      refine ⟨by omega, fun i hi => ?_, fun r r1 r2 r3 => ?_⟩
      · rw [k3 i (fun z => hi (.inr z)), k2 i (fun z => hi (.inl z))]
      · refine ⟨(r2 (a + 5) (by omega)).trans o1, ?_⟩
        have R1 : r[a + 1]? = some (.lst (rangeD 0 (k + 1))) := by
          rw [r3 _ (.inl rfl), k3 _ (by omega), o2, rangeD_snoc]
        have R2 : r[a + 2]? = some (.lst (xs ++ [.str T])) := by rw [r3 _ (.inr rfl), o3]
        have R3 : ∀ i, i ≠ a + 1 → i ≠ a + 2 → i ≠ a + 5 → r[i]? = h[i]? := fun i i1 i2 i3 => (r2 i (fun z => z.elim i1 i2)).trans (q1 i i3)
        rcases xk with rfl | ⟨j, rfl⟩
        · exact .inl ⟨rfl, rfl, by omega, R1, R2, R3⟩
        · exact .inr ⟨j, rfl, rfl, by omega, R1, R2, R3⟩
  · obtain ⟨rfl, r1, r2, r3, r4⟩ := r
    exact p rfl h3 ⟨(q3 _ (by omega)).trans r2, ⟨xs, (q3 _ (by omega)).trans r3, s2⟩, o3, by omega, fun j j1 j2 j3 => (q3 j j3).trans (r4 j j1 j2 j3)⟩
  · obtain ⟨rfl, r1, r2, r3, r4⟩ := r
    exact q rfl h3 ⟨(q3 _ (by omega)).trans r2, ⟨xs, (q3 _ (by omega)).trans r3, s2⟩, o3, by omega, fun j j1 j2 j3 => (q3 j j3).trans (r4 j j1 j2 j3)⟩
theorem ise1 : isE "Fallen" "LentError" = some true := by decide +kernel
theorem ise2 : isE "Fallen" "Fallen" = some true := by decide +kernel
theorem ise3 : isE "Fallen" "Down" = some false := by decide +kernel
theorem ise4 : isE "Fallen" "NoBook" = some false := by decide +kernel
theorem wrote1_w (o : One h a A T k) (t : TxtS z) (kl : k ≤ 100) {x : D} (ex : atI A (((k : Nat) : Int) % ((A.length : Nat) : Int)) = some x) (p : ∀ h', Wrote h h' a T z k x → P (.str (fallen x)) h') : Wp (f_law_wrote (.ref (a + 5)) (.str z) h) P E := by
  unfold f_law_wrote b_law_wrote
  simp only [WPS, reduceIte, w_try, w_mchkF o.st (m := "write")]
  refine write1_w o t kl ex (fun e h' w => ?_) fun e h' w => ?_
  · rw [e] at p
    simp only [WPS, reduceIte, show isC D.non D.non = true from rfl]
    exact p h' w
  · rw [hK_t (c := fun z => isE z "LentError") ise1]
    unfold h_law_wrote_1
    have i1 : ∀ {Q : D → AH → Prop} {F : Str → AH → Prop}, Wp (isEZ isE "Fallen" "Fallen" h') Q F ↔ Q (.bl true) h' := by
      intro Q F
      unfold isEZ
      rw [ise2] <;> exact Iff.rfl
    have i2 : ∀ {Q : D → AH → Prop} {F : Str → AH → Prop}, Wp (isEO (orO (isE "Fallen" "Down") (orO (isE "Fallen" "NoBook") (some false))) h') Q F ↔ Q (.bl false) h' := by
      intro Q F
      rw [ise3, ise4] <;> exact Iff.rfl
    rw [e] at p
    simp only [WPS, reduceIte, i1, i2, w_ixL (show atI [D.str "other", .str "fallen"] 1 = some (.str "fallen") from rfl)]
    exact p h' w
theorem goes1_w (o : One h a A T k) (t : TxtS z) (kl : k ≤ 30) (p : ∀ h' T', One h' a A T' (k + 1) → h'.length = h.length → (∀ i, i ≤ a ∨ a + 7 ≤ i → h'[i]? = h[i]?) → P (.bl true) h') : Wp (f_law_goes (.ref (a + 6)) (.str z) h) P E := by
  have ap : (0 : Int) < ((A.length : Nat) : Int) := by
    have := List.length_pos_iff.mpr o.ne
    omega
  have zl : z.length ≤ 1000000 := by have := t.len; omega
  obtain ⟨x, ex, xa⟩ := atI_in (xs := A) (i := ((k : Nat) : Int) % ((A.length : Nat) : Int)) (Int.emod_nonneg _ (by omega)) (Int.emod_lt_of_pos _ ap)
  have g : ∀ {g : AH} {T : Str} {j : Nat} {s : Str} {v : D} {Q : D → AH → Prop} {F : Str → AH → Prop}, g[a + 6]? = some (.dk (kvO a A T j)) → valD (kvO a A T j) (.inr s) = some v → (Wp (dgetM (.ref (a + 6)) (.str s) g) Q F ↔ Q v g) := fun e l => w_dget (dkOf_ref e) rfl l
  have v1 : ∀ {T : Str} {j : Nat}, valD (kvO a A T j) (.inr "store") = some (.ref (a + 5)) := rfl
  have v2 : ∀ {T : Str} {j : Nat}, valD (kvO a A T j) (.inr "answers") = some (.lst A) := rfl
  have v3 : ∀ {T : Str} {j : Nat}, valD (kvO a A T j) (.inr "counts") = some (.ref (a + 1)) := rfl
  have v4 : ∀ {T : Str} {j : Nat}, valD (kvO a A T j) (.inr "seen") = some (.ref (a + 2)) := rfl
  have v5 : ∀ {T : Str} {j : Nat}, valD (kvO a A T j) (.inr "text") = some (.str T) := rfl
  have v6 : ∀ {T : Str} {j : Nat}, valD (kvO a A T j) (.inr "many") = some (.int (j : Nat)) := rfl
  -- behind what is due
  have rest : ∀ {O : Out Unit Empty → AH → Prop} {m : Str}, m = more x z → (∀ h' T', One h' a A T' (k + 1) → h'.length = h.length → (∀ i, i ≤ a ∨ a + 7 ≤ i → h'[i]? = h[i]?) → O (.ret (.bl true)) h') → Wp (r_law_goes_1 (.ref (a + 6)) (.str z) (.str (fallen x), .str m) h) O E := by
    intro O m em k1
    subst em
    unfold r_law_goes_1
    simp only [WPS, reduceIte, g o.di v1]
    refine wrote1_w o t (by omega) ex fun h1 w => ?_
    have di1 : h1[a + 6]? = some (.dk (kvO a A T k)) := (w.kp _ (by omega) (by omega) (by omega)).trans o.di
    have ek : ((k : Nat) : Int) + 1 = ((k + 1 : Nat) : Int) := by omega
    simp only [WPS, reduceIte, decide_true, Bool.not_true, g di1 v3, g di1 v6, ek]
    rw [lrg_runK (h := h1) (k := k + 1) (by omega), w_ok]
    have lk : lookD h1 (.ref (a + 1)) = .lst (rangeD 0 (k + 1)) := by
      unfold lookD
      simp only [w.cn]
    have nbR : nb 60 (.lst (rangeD 0 (k + 1))) = true := by
      show nbs 59 _ = true
      have go : ∀ l : List Nat, nbs 59 (l.map fun j => D.int (0 + (j : Nat))) = true := by
        intro l
        induction l with
        | nil => rfl
        | cons j r ih =>
          show (nb 59 _ && nbs 59 _) = true
          rw [ih]
          rfl
      exact go _
    try simp only [WPS, reduceIte]
    rw [w_ne_f (h := h1) (a := .ref (a + 1)) (b := .lst (rangeD 0 (k + 1))) (by rw [lk]; exact nbR) nbR (by rw [lk]; rfl)]
    obtain ⟨xs, s1, s2⟩ := w.se
    have lst : atI (xs ++ [D.str T]) (-1) = some (.str T) := atI_last
    simp only [WPS, reduceIte, g di1 v4, g di1 v5, w_ixR s1 lst, decide_true, Bool.not_true]
    have lz := more_len x z
    have tl := o.tl
    have zl2 := t.len
    rw [w_addS (by omega)]
    try simp only [WPS, reduceIte]
    refine dpF_w di1 rfl (by show 6 < 1000000; decide) fun h2 o2 l2 q2 => ?_
    have o2 : h2[a + 6]? = some (.dk (kvO a A (T ++ more x z) k)) := o2
    simp only [WPS, reduceIte, g o2 v6, ek]
    refine dpF_w o2 rfl (by show 6 < 1000000; decide) fun h3 o3 l3 q3 => ?_
    have o3 : h3[a + 6]? = some (.dk (kvO a A (T ++ more x z) (k + 1))) := o3
    try simp only [WPS, reduceIte]
    have kp : ∀ i, i ≠ a + 6 → h3[i]? = h1[i]? := fun i hi => (q3 i hi).trans (q2 i hi)
    refine k1 h3 (T ++ more x z) ⟨(kp _ (by omega)).trans w.cn, ⟨_, (kp _ (by omega)).trans s1, by simp [s2]⟩, (kp _ (by omega)).trans ((w.kp _ (by omega) (by omega) (by omega)).trans o.he), (kp _ (by omega)).trans ((w.kp _ (by omega) (by omega) (by omega)).trans o.fn), (kp _ (by omega)).trans w.st, o3, o.ne, o.le, o.an, by rw [lenA]; omega, okS_app o.ok (more_ok t.ok)⟩ (by have := w.len; omega) fun i hi => ?_
    rw [kp i (by omega), w.kp i (by omega) (by omega) (by omega)]
  unfold f_law_goes b_law_goes
  simp only [WPS, reduceIte, g o.di v2, g o.di v6, w_mod ap, w_ixL ex]
  rcases o.an x xa with rfl | ⟨i, rfl⟩
  · simp only [WPS, reduceIte, show isC D.non D.non = true from rfl]
    refine rest (m := z) rfl fun h' T' o' l' k' => ?_
    exact p h' T' o' l' k'
  · simp only [WPS, reduceIte, show isC (D.int i) D.non = false from rfl, w_slSF zl]
    refine rest (m := fellS z i) rfl fun h' T' o' l' k' => ?_
    exact p h' T' o' l' k'
/-! ### texts, what is made -/
theorem w_lenS' {z : Str} (l : z.length ≤ 1000000) : Wp (lenM (.str z) h) P E ↔ P (.int z.length) h := by
  unfold lenM
  simp only [show lenOk z.length = true from decide_eq_true (Nat.le_trans l (by decide)), if_true]
  exact Iff.rfl
theorem join1 {ys : List Str} (h : ∀ y ∈ ys, y.length = 1 ∧ okS y) : (Txt.join "" ys).length = ys.length ∧ okS (Txt.join "" ys) := by
  refine ⟨?_, okS_iff.mpr fun c hc => ?_⟩
  · show (Txt.join "" ys).cps.size = _
    rw [← Array.length_toList, join0]
    induction ys with
    | nil => rfl
    | cons y r ih =>
      rw [List.map_cons, List.flatten_cons, List.length_append, ih fun z hz => h z (List.mem_cons_of_mem _ hz), List.length_cons, show y.cps.toList.length = 1 from (by rw [Array.length_toList]; exact (h y List.mem_cons_self).1)]
      omega
  · rw [join0] at hc
    obtain ⟨l, hl, hm⟩ := List.mem_flatten.mp hc
    obtain ⟨y, hy, rfl⟩ := List.mem_map.mp hl
    exact okS_iff.mp (h y hy).2 c hm
theorem joinM_w {ys : List Str} (l : ys.length ≤ 1000) (h1 : ∀ y ∈ ys, y.length = 1) : Wp (joinM (.str "") (.lst (ys.map D.str)) h) P E ↔ P (.str (Txt.join "" ys)) h := by
  have sm : (ys.map (·.length)).sum = ys.length := by
    clear l
    induction ys with
    | nil => rfl
    | cons y r ih =>
      rw [List.map_cons, List.sum_cons, ih fun z hz => h1 z (List.mem_cons_of_mem _ hz), h1 y List.mem_cons_self, List.length_cons]
      omega
  have l2 : (ys.map (·.length)).sum + ys.length * (("" : Str)).length ≤ 16777216 := by
    have c : (("" : Str)).length = 0 := rfl
    rw [c, sm]
    omega
  unfold joinM
  have q : seqOf h (.lst (ys.map D.str)) = some (ys.map D.str) := rfl
  rw [q]
  simp only [strsOf_map]
  rw [if_pos l2]
  exact Iff.rfl
def signsT : Str := " !\"#$&'()*+,-./0123456789:;<=>?@ABCDEFGHIJKLMNOPQRSTUVWXYZ[\\]^_`" ++ "abcdefghijklmnopqrstuvwxyz{|}~\n\n\n"
theorem signsT_len : signsT.length = 97 := by decide +kernel
theorem okS_by {z : Str} (h : PyData.strOk z = true) : okS z := h
theorem signsT_ok : okS signsT := okS_by (by decide +kernel)
theorem text_w {n m : Nat} (w : Tape h n (m + 40)) (p : ∀ z h', TxtS z → Tape h' n m → Fr n h h' → P (.str z) h') : Wp (f_law_text (.ref n) h) P E := by
  unfold f_law_text b_law_text
  simp only [WPS, reduceIte]
  rw [w_addS (by decide +kernel)]
  rw [show ((" !\"#$&'()*+,-./0123456789:;<=>?@ABCDEFGHIJKLMNOPQRSTUVWXYZ[\\]^_`" : Str) ++ "abcdefghijklmnopqrstuvwxyz{|}~\n\n\n") = signsT from rfl]
  try simp only [WPS, reduceIte]
  refine take_w (m := m + 39) (w.less (by omega)) (by decide) (by decide) fun r1 h1 a1 b1 w1 f1 => ?_
  try simp only [WPS, reduceIte]
  rw [w_rng1 (by omega) (by omega)]
  have hl : (rangeD 0 r1.toNat).length = r1.toNat := by simp [rangeD]
  have ls := signsT_len
  refine w_lc (fun k acc hh => k ≤ 31 ∧ Fr n h hh ∧ Tape hh n (m + 39 - k) ∧ ∃ ys : List Str, acc = ys.map D.str ∧ ys.length = k ∧ ∀ y ∈ ys, y.length = 1 ∧ okS y) (by omega) ⟨by decide, f1, w1, [], rfl, rfl, fun _ h => nomatch h⟩ (fun k x acc hh hx i => ?_) fun ys hh i => ?_
  · obtain ⟨k12, F, v, ys, rfl, yl, yy⟩ := i
    have hk := getElem?_lt hx
    rw [hl] at hk
    unfold c_law_text_1
    simp only [WPS, reduceIte]
    rw [w_lenS' (by omega), ls]
    try simp only [WPS, reduceIte]
    refine take_w (m := m + 38 - k) (v.less (by omega)) (by decide) (by decide) fun r2 h2 a2 b2 w2 f2 => ?_
    refine w_sign a2 (by rw [ls]; exact b2) (by omega) fun c hc => ?_
    try simp only [WPS, reduceIte]
    refine ⟨by omega, F.trans f2, w2.less (by omega), ys ++ [⟨#[c]⟩], by simp, by simp [yl], fun y hy => ?_⟩
    rcases List.mem_append.mp hy with hy | hy
    · exact yy y hy
    · rw [List.mem_singleton.mp hy]
      refine ⟨rfl, okS_iff.mpr fun x hx => ?_⟩
      have hx : x ∈ [c] := hx
      rw [List.mem_singleton.mp hx]
      exact okS_iff.mp signsT_ok c hc
  · obtain ⟨k12, F, v, zs, rfl, zl, zz⟩ := i
    rw [hl] at k12 v zl
    obtain ⟨j1, j2⟩ := join1 zz
    try simp only [WPS, reduceIte]
    rw [joinM_w (by omega) fun y hy => (zz y hy).1]
    try simp only [WPS, reduceIte]
    refine take_w (m := m) (v.less (by omega)) (by decide) (by decide) fun r2 h2 a2 b2 w2 f2 => ?_
    refine w_pick a2 (by simpa using b2) fun x hx => ?_
    simp only [List.mem_cons, List.not_mem_nil, or_false] at hx
    rcases hx with rfl | rfl
    · rw [w_addS (by rw [show (("" : Str)).length = 0 from rfl]; omega)]
      try simp only [WPS, reduceIte]
      exact p _ h2 ⟨by rw [lenA, show (("" : Str)).length = 0 from rfl]; omega, okS_app j2 (okS_by (by decide +kernel))⟩ w2 (F.trans f2)
    · rw [w_addS (by rw [show (("\n" : Str)).length = 1 from rfl]; omega)]
      try simp only [WPS, reduceIte]
      exact p _ h2 ⟨by rw [lenA, show (("\n" : Str)).length = 1 from rfl]; omega, okS_app j2 (okS_by (by decide +kernel))⟩ w2 (F.trans f2)
theorem made_w {n m : Nat} (w : Tape h n (m + 20)) (tb : h[0]? = some (.tab "_law_fall" "_law_fall.<locals>._law_fall_here")) (n0 : n ≠ 0) (p : ∀ A h', One h' h.length A "" 0 → Tape h' n m → h'.length = h.length + 7 → (∀ i, i < h.length → i ≠ n → h'[i]? = h[i]?) → P (.ref (h.length + 6)) h') : Wp (f_law_made (.ref n) h) P E := by
  have hn := w.lt
  unfold f_law_made b_law_made
  simp only [WPS, reduceIte]
  refine take_w (m := m + 19) (w.less (by omega)) (by decide) (by decide) fun r h1 a1 b1 w1 f1 => ?_
  try simp only [WPS, reduceIte]
  rw [w_rng1 (by omega) (by omega)]
  have l1 : h1.length = h.length := f1.1
  have hl : (rangeD 0 (1 + r).toNat).length = (1 + r).toNat := by simp [rangeD]
  have c0 : (h1 ++ [Cell.lst []])[h.length]? = some (.lst []) := by rw [← l1]; simp
  have w2 : Tape (h1 ++ [Cell.lst []]) n (m + 19) := w1.at (List.getElem?_append_left w1.lt)
  have k0 : ∀ i, i < h.length → i ≠ n → (h1 ++ [Cell.lst []])[i]? = h[i]? := fun i hi ni => by
    rw [List.getElem?_append_left (by omega)]
    exact f1.2 i ni
  have l2 : (h1 ++ [Cell.lst []]).length = h.length + 1 := by simp [l1]
  generalize h1 ++ [Cell.lst []] = g at c0 w2 k0 l2
  rw [l1]
  refine w_for (fun k t hh => k ≤ 6 ∧ (∃ A : List D, hh[h.length]? = some (.lst A) ∧ A.length = k ∧ ∀ x ∈ A, x = .non ∨ ∃ i : Int, x = .int i) ∧ Tape hh n (m + 19 - 2 * k) ∧ hh.length = h.length + 1 ∧ ∀ i, i < h.length → i ≠ n → hh[i]? = h[i]?) ⟨by decide, ⟨[], c0, rfl, fun _ h => nomatch h⟩, w2, l2, k0⟩ (fun k x t hh hx i => ?_) fun t hh i => ?_
  · obtain ⟨k6, ⟨A, e, al, an⟩, v, ll, kp⟩ := i
    have hk := getElem?_lt hx
    rw [hl] at hk
    unfold l_law_made_1
    simp only [WPS, reduceIte, w_lchk e]
    refine take_w (m := m + 18 - 2 * k) (v.less (by omega)) (by decide) (by decide) fun r2 h2 a2 b2 w2 f2 => ?_
    have p17 : (0 : Int) ≤ 17 ∧ (17 : Int) ≤ 1000000 ∧ (10 : Int).natAbs < 2 ^ 64 := by decide
    try simp only [WPS, reduceIte, w_pow p17, w_lst (show ([_, _, _, _, _, _, _] : List D).length ≤ 1000000 from Nat.le_of_ble_eq_true rfl)]
    refine take_w (m := m + 17 - 2 * k) (w2.less (by omega)) (by decide) (by decide) fun r3 h3 a3 b3 w3 f3 => ?_
    refine w_pick a3 (by simpa using b3) fun x hx => ?_
    have e3 : h3[h.length]? = some (.lst A) := ((f2.trans f3).2 _ (by omega)).trans e
    refine apF_w e3 (by omega) fun h4 o4 l4 q4 => ?_
    try simp only [WPS, reduceIte]
    refine ⟨by omega, ⟨_, o4, by simp [al], fun y hy => ?_⟩, (w3.less (by omega)).at (q4 _ (by omega)), by have := (f2.trans f3).1; omega, fun i hi ni => ?_⟩
    · rcases List.mem_append.mp hy with hy | hy
      · exact an y hy
      · rw [List.mem_singleton.mp hy]
        simp only [List.mem_cons, List.not_mem_nil, or_false] at hx
        rcases hx with rfl | rfl | rfl | rfl | rfl | rfl | rfl
        · exact .inl rfl
        · exact .inl rfl
        all_goals exact .inr ⟨_, rfl⟩
    · rw [q4 i (by omega), (f2.trans f3).2 i ni]
      exact kp i hi ni
  · obtain ⟨k6, ⟨A, e, al, an⟩, v, ll, kp⟩ := i
    rw [hl] at k6 al v
    rw [oK_nx]
    simp only [WPS, reduceIte, w_freeze e]
    have g1 : (hh.set h.length .dead).length = h.length + 1 := by rw [List.length_set]; exact ll
    have g2 : ∀ i, i < h.length → i ≠ n → (hh.set h.length .dead)[i]? = h[i]? := fun i hi ni => by
      rw [List.getElem?_set_ne (by omega)]
      exact kp i hi ni
    have g3 : Tape (hh.set h.length .dead) n m := (v.less (by omega)).at (List.getElem?_set_ne (by omega))
    generalize hh.set h.length .dead = g at g1 g2 g3
    have tb1 : g[0]? = some (.tab "_law_fall" "_law_fall.<locals>._law_fall_here") := (g2 0 (by omega) (Ne.symm n0)).trans tb
    have gl : (g ++ [Cell.lst []] ++ [Cell.lst []] ++ [Cell.lst []]).length = h.length + 4 := by simp [g1]
    have gk : ∀ i, i < g.length → (g ++ [Cell.lst []] ++ [Cell.lst []] ++ [Cell.lst []])[i]? = g[i]? := fun i hi => by
      rw [List.getElem?_append_left (by simp; omega), List.getElem?_append_left (by simp; omega), List.getElem?_append_left hi]
    have q1 : (g ++ [Cell.lst []] ++ [Cell.lst []] ++ [Cell.lst []])[h.length + 1]? = some (.lst []) := by
      rw [← g1, List.getElem?_append_left (by simp), List.getElem?_append_left (by simp)]
      simp
    have q2 : (g ++ [Cell.lst []] ++ [Cell.lst []] ++ [Cell.lst []])[h.length + 2]? = some (.lst []) := by
      rw [List.getElem?_append_left (by simp; omega), List.getElem?_append_right (by simp; omega)]
      simp [g1]
    have q3 : (g ++ [Cell.lst []] ++ [Cell.lst []] ++ [Cell.lst []])[h.length + 3]? = some (.lst []) := by
      rw [List.getElem?_append_right (by simp; omega)]
      simp [g1]
    rw [show (g ++ [Cell.lst []]).length = h.length + 2 by simp [g1], show (g ++ [Cell.lst []] ++ [Cell.lst []]).length = h.length + 3 by simp [g1], g1]
    generalize g ++ [Cell.lst []] ++ [Cell.lst []] ++ [Cell.lst []] = G at gl gk q1 q2 q3
    have tb2 : G[0]? = some (.tab "_law_fall" "_law_fall.<locals>._law_fall_here") := (gk 0 (by omega)).trans tb1
    unfold f_law_fall
    rw [w_mkfn tb2, gl]
    have G1 : (G ++ [Cell.fn S_law_fall [.lst A, .ref (h.length + 1), .ref (h.length + 2), .ref (h.length + 3)]]).length = h.length + 5 := by simp [gl]
    have G2 : ∀ i, i < h.length + 4 → (G ++ [Cell.fn S_law_fall [.lst A, .ref (h.length + 1), .ref (h.length + 2), .ref (h.length + 3)]])[i]? = G[i]? := fun i hi => List.getElem?_append_left (by omega)
    have G3 : (G ++ [Cell.fn S_law_fall [.lst A, .ref (h.length + 1), .ref (h.length + 2), .ref (h.length + 3)]])[h.length + 4]? = some (.fn S_law_fall [.lst A, .ref (h.length + 1), .ref (h.length + 2), .ref (h.length + 3)]) := by
      rw [← gl]
      simp
    generalize G ++ [Cell.fn S_law_fall [.lst A, .ref (h.length + 1), .ref (h.length + 2), .ref (h.length + 3)]] = G' at G1 G2 G3
    try simp only [WPS, reduceIte]
    refine storeF_w fun S s1 s2 s3 => ?_
    rw [G1] at s1 s2 s3 ⊢
    have q3' : S[h.length + 3]? = some (.lst []) := by rw [s3 _ (by omega), G2 _ (by omega), q3]
    try simp only [WPS, reduceIte, w_lchk q3']
    refine apF_w q3' (by decide) fun S2 u1 u2 u3 => ?_
    try simp only [WPS, reduceIte]
    have sl : S2.length = h.length + 6 := by omega
    rw [sl]
    have dp : dispM (.ref (h.length + 6)) [(.str "store", .ref (h.length + 5)), (.str "answers", .lst A), (.str "counts", .ref (h.length + 1)), (.str "seen", .ref (h.length + 2)), (.str "text", .str ""), (.str "many", .int 0)] (S2 ++ [Cell.dk []]) = .ok (.ref (h.length + 6)) (S2 ++ [Cell.dk (kvO h.length A "" 0)]) := by
      have o : (S2 ++ [Cell.dk []])[h.length + 6]? = some (.dk []) := by rw [← sl]; simp
      unfold dispM
      simp only [o]
      have ks : keysPs [(D.str "store", D.ref (h.length + 5)), (.str "answers", .lst A), (.str "counts", .ref (h.length + 1)), (.str "seen", .ref (h.length + 2)), (.str "text", .str ""), (.str "many", .int 0)] = some (kvO h.length A "" 0) := rfl
      simp only [ks]
      have mk : mergeKD [] (kvO h.length A "" 0) = kvO h.length A "" 0 := rfl
      rw [if_pos (Nat.le_of_ble_eq_true rfl), mk, ← sl, List.set_append_right _ _ (Nat.le_refl _)]
      simp
    rw [dp, w_ok]
    have kF : ∀ i, i < h.length + 6 → i ≠ h.length + 3 → (S2 ++ [Cell.dk (kvO h.length A "" 0)])[i]? = S[i]? := fun i hi ni => by
      rw [List.getElem?_append_left (by omega), u3 i ni]
    have A0 : A ≠ [] := fun z => by
      rw [z] at al
      have al : (0 : Nat) = (1 + r).toNat := al
      omega
    refine p A _ ⟨?_, ⟨[], ?_, rfl⟩, ?_, ?_, ?_, ?_, A0, by omega, an, Nat.zero_le _, okS_by (by decide +kernel)⟩ ?_ (by simp [sl]) fun i hi ni => ?_
    · rw [kF _ (by omega) (by omega), s3 _ (by omega), G2 _ (by omega), q1]
      rfl
    · rw [kF _ (by omega) (by omega), s3 _ (by omega), G2 _ (by omega), q2]
    · rw [List.getElem?_append_left (by omega), u1]
      rfl
    · rw [kF _ (by omega) (by omega), s3 _ (by omega), G3]
    · rw [kF _ (by omega) (by omega)]
      exact s1
    · rw [← sl]
      simp
    · refine g3.at ?_
      rw [kF _ (by omega) (by omega), s3 _ (by omega), G2 _ (by omega), gk _ (by omega)]
    · rw [kF _ (by omega) (by omega), s3 _ (by omega), G2 _ (by omega), gk _ (by omega)]
      exact g2 i hi ni
/-! ### turns -/
theorem nb_two {T : Str} {k : Int} (o : okS T) : nb 60 (.tup [.str T, .int k]) = true := by
  show (nb 59 (.str T) && (nb 59 (.int k) && nbs 59 [])) = true
  rw [show nb 59 (.str T) = true from o]
  rfl
theorem wroteP_w {st : Nat} (e : h[st]? = some (stF .non T (k : Nat))) (l : T.length + z.length ≤ 1000000) (p : ∀ h', h'[st]? = some (stF .non (T ++ z) ((k + 1 : Nat) : Int)) → h'.length = h.length → (∀ i, i ≠ st → h'[i]? = h[i]?) → P (.str "told") h') : Wp (f_law_wrote (.ref st) (.str z) h) P E := by
  unfold f_law_wrote b_law_wrote
  simp only [WPS, reduceIte, w_try, w_mchkF e (m := "write")]
  refine writeN_w e l fun h' o' l' k' => ?_
  simp only [WPS, reduceIte, show isC D.non D.non = true from rfl]
  exact p h' o' l' k'
theorem cmp_w {r st : Nat} {kvs : List (Key × D)} {v : D} {j : Int} {O : Out Unit Unit → AH → Prop} (e : h[r]? = some (.dk kvs)) (v1 : valD kvs (.inr "store") = some (.ref st)) (v2 : valD kvs (.inr "text") = some (.str T)) (v3 : valD kvs (.inr "many") = some (.int j)) (s : h[st]? = some (stF v T j)) (o : okS T) (q : O (.nx ()) h) : Wp (l_law_1 (.ref r) () h) O E := by
  unfold l_law_1
  have g : ∀ {y : Str} {v : D} {Q : D → AH → Prop} {F : Str → AH → Prop}, valD kvs (.inr y) = some v → (Wp (dgetM (.ref r) (.str y) h) Q F ↔ Q v h) := fun l => w_dget (dkOf_ref e) rfl l
  simp only [WPS, reduceIte, g v1, g v2, g v3, w_mchkF s (m := "whole_text"), w_mchkF s (m := "asked_for"), wholeF_w s, askedF_w s]
  rw [w_ne_f (h := h) (a := .tup [.str T, .int j]) (b := .tup [.str T, .int j]) (nb_two o) (nb_two o) rfl]
  simp only [WPS, reduceIte]
  exact q
abbrev tb0 : Cell := .tab "_law_fall" "_law_fall.<locals>._law_fall_here"
structure Gs (h : AH) (n a p : Nat) (T : Str) (k : Nat) : Prop where
  tp : Tape h n (100000 - 100 * k)
  o1 : ∃ A T1 k1, One h a A T1 k1 ∧ k1 ≤ k
  o2 : ∃ A T2 k2, One h (a + 7) A T2 k2 ∧ k2 ≤ k
  sp : h[p]? = some (stF .non T (k : Nat))
  tl : T.length ≤ 40 * k
  ok : okS T
  na : n < a
  ap : a + 14 ≤ p
theorem turn_w {n p : Nat} (g : Gs h n a p T k) (z0 : h[0]? = some tb0) (n0 : n ≠ 0) (kl : k ≤ 13) {O : Out D D → AH → Prop} (q : ∀ T' h', Gs h' n a p T' (k + 1) → h'[0]? = some tb0 → O (.nx (.str T')) h') : Wp (l_law_2 (.ref n) (.lst [.ref (a + 6), .ref (a + 13)]) (.ref p) (.int (k : Nat)) (.str T) h) O E := by
  have na := g.na
  have ap := g.ap
  unfold l_law_2
  simp only [WPS, reduceIte]
  refine text_w (m := 100000 - 100 * k - 40) (g.tp.less (by omega)) fun z h1 tz w1 f1 => ?_
  try simp only [WPS, reduceIte]
  refine take_w (m := 100000 - 100 * (k + 1)) (w1.less (by omega)) (by decide) (by decide) fun r h2 a2 b2 w2 f2 => ?_
  have K2 : ∀ i, i ≠ n → h2[i]? = h[i]? := (f1.trans f2).2
  obtain ⟨A1, T1, k1, o1, kl1⟩ := g.o1
  obtain ⟨A2, T2, k2, o2, kl2⟩ := g.o2
  have p1 : One h2 a A1 T1 k1 := o1.at fun i i1 i2 => K2 i (by omega)
  have p2 : One h2 (a + 7) A2 T2 k2 := o2.at fun i i1 i2 => K2 i (by omega)
  have p3 : h2[p]? = some (stF .non T (k : Nat)) := (K2 p (by omega)).trans g.sp
  have pl : p < h2.length := getElem?_lt p3
  refine w_pick a2 (by simpa using b2) fun x hx => ?_
  simp only [List.mem_cons, List.not_mem_nil, or_false] at hx
  have one : Wp (f_law_goes x (.str z) h2) (fun d h3 => d = .bl true ∧ (∃ A T1 k1, One h3 a A T1 k1 ∧ k1 ≤ k + 1) ∧ (∃ A T2 k2, One h3 (a + 7) A T2 k2 ∧ k2 ≤ k + 1) ∧ Tape h3 n (100000 - 100 * (k + 1)) ∧ h3[p]? = some (stF .non T (k : Nat)) ∧ h3[0]? = some tb0) NoE := by
    have z2 := (K2 0 (Ne.symm n0)).trans z0
    rcases hx with rfl | rfl
    · refine goes1_w p1 tz (by omega) fun h3 T' o3 l3 q3 => ?_
      exact ⟨rfl, ⟨_, _, _, o3, by omega⟩, ⟨_, _, _, p2.at fun i i1 i2 => q3 i (by omega), by omega⟩, w2.at (q3 n (by omega)), (q3 p (by omega)).trans p3, (q3 0 (by omega)).trans z2⟩
    · refine goes1_w p2 tz (by omega) fun h3 T' o3 l3 q3 => ?_
      exact ⟨rfl, ⟨_, _, _, p1.at fun i i1 i2 => q3 i (by omega), by omega⟩, ⟨_, _, _, o3, by omega⟩, w2.at (q3 n (by omega)), (q3 p (by omega)).trans p3, (q3 0 (by omega)).trans z2⟩
  refine one.noe fun d h3 hq => ?_
  obtain ⟨rfl, ⟨B1, U1, j1, o1, kl1⟩, ⟨B2, U2, j2, o2, kl2⟩, w3, p3, z3⟩ := hq
  have tl := g.tl
  have zl := tz.len
  simp only [WPS, reduceIte]
  refine wroteP_w p3 (by omega) fun h4 p4 l4 q4 => ?_
  have o1 : One h4 a B1 U1 j1 := o1.at fun i i1 i2 => q4 i (by omega)
  have o2 : One h4 (a + 7) B2 U2 j2 := o2.at fun i i1 i2 => q4 i (by omega)
  have w4 := w3.at (q4 n (by omega))
  have ek : ((k : Nat) : Int) + 1 = ((k + 1 : Nat) : Int) := by omega
  simp only [WPS, reduceIte, decide_true, Bool.not_true]
  rw [w_addS (by omega)]
  try simp only [WPS, reduceIte, ek]
  have dp : dispM (.ref h4.length) [(.str "store", .ref p), (.str "text", .str (T ++ z)), (.str "many", .int ((k + 1 : Nat) : Int))] (h4 ++ [Cell.dk []]) = .ok (.ref h4.length) (h4 ++ [Cell.dk [(.inr "store", .ref p), (.inr "text", .str (T ++ z)), (.inr "many", .int ((k + 1 : Nat) : Int))]]) := by
    have o : (h4 ++ [Cell.dk []])[h4.length]? = some (.dk []) := by simp
    unfold dispM
    simp only [o]
    have ks : keysPs [(D.str "store", D.ref p), (.str "text", .str (T ++ z)), (.str "many", .int ((k + 1 : Nat) : Int))] = some [(.inr "store", .ref p), (.inr "text", .str (T ++ z)), (.inr "many", .int ((k + 1 : Nat) : Int))] := rfl
    simp only [ks]
    have mk : mergeKD [] [((.inr "store" : Key), D.ref p), (.inr "text", .str (T ++ z)), (.inr "many", .int ((k + 1 : Nat) : Int))] = [(.inr "store", .ref p), (.inr "text", .str (T ++ z)), (.inr "many", .int ((k + 1 : Nat) : Int))] := rfl
    rw [if_pos (Nat.le_of_ble_eq_true rfl), mk, List.set_append_right _ _ (Nat.le_refl _)]
    simp
  rw [dp, w_ok]
  have k5 : ∀ i, i < h4.length → (h4 ++ [Cell.dk [((.inr "store" : Key), D.ref p), (.inr "text", .str (T ++ z)), (.inr "many", .int ((k + 1 : Nat) : Int))]])[i]? = h4[i]? := fun i hi => List.getElem?_append_left hi
  have d5 : (h4 ++ [Cell.dk [((.inr "store" : Key), D.ref p), (.inr "text", .str (T ++ z)), (.inr "many", .int ((k + 1 : Nat) : Int))]])[h4.length]? = some (.dk [(.inr "store", .ref p), (.inr "text", .str (T ++ z)), (.inr "many", .int ((k + 1 : Nat) : Int))]) := by simp
  generalize h4 ++ [Cell.dk [((.inr "store" : Key), D.ref p), (.inr "text", .str (T ++ z)), (.inr "many", .int ((k + 1 : Nat) : Int))]] = h5 at k5 d5
  have pl4 := getElem?_lt p4
  have o1 : One h5 a B1 U1 j1 := o1.at fun i i1 i2 => k5 i (by omega)
  have o2 : One h5 (a + 7) B2 U2 j2 := o2.at fun i i1 i2 => k5 i (by omega)
  have p5 := (k5 p pl4).trans p4
  have w5 := w4.at (k5 n (by omega))
  have okT : okS (T ++ z) := okS_app g.ok tz.ok
  try simp only [WPS, reduceIte]
  rw [w_addL (show _ + _ ≤ _ from by simp)]
  simp only [WPS, reduceIte, List.cons_append, List.nil_append]
  refine w_for1.mpr (cmp_w o1.di rfl rfl rfl o1.st o1.ok ?_)
  rw [lK_nx]
  refine w_for1.mpr (cmp_w o2.di rfl rfl rfl o2.st o2.ok ?_)
  rw [lK_nx]
  refine w_for1.mpr (cmp_w d5 rfl rfl rfl p5 okT ?_)
  rw [lK_nx]
  refine w_for0.mpr ?_
  simp only [WPS, reduceIte]
  exact q _ h5 ⟨w5, ⟨_, _, _, o1, kl1⟩, ⟨_, _, _, o2, kl2⟩, p5, by rw [lenA]; omega, okT, na, ap⟩ ((k5 0 (by omega)).trans ((q4 0 (by omega)).trans z3))
theorem cell_w {ns : List Int} (k : Nat) (p : ∀ v, P (.int v) h) : Wp (pcallM (app2 f_law_cell_at) [.lst (ns.map D.int), .int (k : Int)] h) P E := by
  rw [w_pcall]
  refine ⟨by rw [noRefs_cons, noRefs_cons, noRefs_nil, noRef_int, noRef_lst, noRefs_map fun _ => noRef_int]; rfl, ?_⟩
  rw [w_app2]
  unfold f_law_cell_at b_law_cell_at
  simp only [WPS, reduceIte, List.length_map]
  by_cases hk : (k : Int) < ns.length
  · have hk2 : k < ns.length := by omega
    simp only [hk, WPS, reduceIte, w_ixL (show atI (ns.map D.int) k = some (.int ns[k]) from atI_nat (by rw [List.getElem?_map, List.getElem?_eq_getElem hk2]; rfl))]
    exact ⟨noRef_int, p _⟩
  · simp only [hk, WPS, reduceIte]
    exact ⟨noRef_int, p _⟩
theorem big_w {x : Int} (t0 : h[0]? = some tb0) {O : Out Unit Unit → AH → Prop} (q : ∀ h', h'[0]? = some tb0 → O (.nx ()) h') : Wp (l_law_3 (.int x) () h) O E := by
  have h0 := getElem?_lt t0
  unfold l_law_3
  simp only [WPS, reduceIte]
  refine tape_w fun h1 w1 l1 k1 => ?_
  have t1 := (k1 0 h0).trans t0
  try simp only [WPS, reduceIte]
  refine made_w (m := 900000) (w1.less (by decide)) t1 (by omega) fun A h2 o2 w2 l2 k2 => ?_
  have t2 := (k2 0 (by omega) (by omega)).trans t1
  try simp only [WPS, reduceIte]
  refine made_w (m := 800000) (w2.less (by decide)) t2 (by omega) fun A' h3 o3 w3 l3 k3 => ?_
  have t3 := (k3 0 (by omega) (by omega)).trans t2
  have o2 : One h3 h1.length A "" 0 := o2.at fun i i1 i2 => k3 i (by omega) (by omega)
  rw [show h2.length + 6 = h1.length + 13 by omega]
  have o3 : One h3 (h1.length + 7) A' "" 0 := by rw [← l2]; exact o3
  try simp only [WPS, reduceIte]
  refine storeF_w fun h4 s4 l4 k4 => ?_
  try simp only [WPS, reduceIte]
  refine storeF_w fun h5 s5 l5 k5 => ?_
  have s4 := (k5 _ (by omega)).trans s4
  have K5 : ∀ i, i < h3.length → h5[i]? = h3[i]? := fun i hi => (k5 i (by omega)).trans (k4 i hi)
  try simp only [WPS, reduceIte]
  refine take_w (m := 700000) ((w3.at (K5 _ (by omega))).less (by decide)) (by decide) (by decide) fun r h6 a6 b6 w6 f6 => ?_
  refine w_pick a6 (by simpa using b6) fun y hy => ?_
  have K6 : ∀ i, i ≠ h.length → h6[i]? = h5[i]? := f6.2
  have pp : ∃ p, y = .ref p ∧ h1.length + 14 ≤ p ∧ h6[p]? = some (stF .non "" 0) := by
    simp only [List.mem_cons, List.not_mem_nil, or_false] at hy
    rcases hy with rfl | rfl
    · exact ⟨_, rfl, by omega, (K6 _ (by omega)).trans s4⟩
    · exact ⟨_, rfl, by omega, (K6 _ (by omega)).trans s5⟩
  obtain ⟨p, rfl, pl, ps⟩ := pp
  try simp only [WPS, reduceIte]
  refine take_w (m := 600000) (w6.less (by decide)) (by decide) (by decide) fun r2 h7 a7 b7 w7 f7 => ?_
  have K7 : ∀ i, i ≠ h.length → i < h3.length → h7[i]? = h3[i]? := fun i hi il => (f7.2 i hi).trans ((K6 i hi).trans (K5 i il))
  try simp only [WPS, reduceIte]
  rw [w_rng1 (by omega) (by omega)]
  have g0 : Gs h7 h.length h1.length p "" 0 := ⟨w7.less (by decide), ⟨A, "", 0, o2.at fun i i1 i2 => K7 i (by omega) (by omega), Nat.le_refl _⟩, ⟨A', "", 0, o3.at fun i i1 i2 => K7 i (by omega) (by omega), Nat.le_refl _⟩, (f7.2 p (by omega)).trans ps, Nat.le_refl _, okS_by (by decide +kernel), by omega, pl⟩
  have z0 : h7[0]? = some tb0 := (K7 0 (by omega) (by omega)).trans t3
  refine w_for (fun k t hh => ∃ T, t = D.str T ∧ Gs hh h.length h1.length p T k ∧ hh[0]? = some tb0) ⟨"", rfl, g0, z0⟩ (fun k y t hh hy i => ?_) fun t hh i => ?_
  · obtain ⟨T, rfl, g, z⟩ := i
    obtain ⟨hk, rfl⟩ := rangeD_get hy
    rw [Int.zero_add]
    refine turn_w g z (by omega) (by omega) fun T' h' g' z' => ?_
    rw [tK_nx]
    exact ⟨T', rfl, g', z'⟩
  · obtain ⟨T, rfl, g, z⟩ := i
    rw [oK_nx]
    try simp only [WPS, reduceIte]
    refine storeF_w fun h8 s8 l8 k8 => ?_
    simp only [WPS, reduceIte, w_mchkF s8 (m := "whole_text"), w_mchkF s8 (m := "asked_for"), wholeF_w s8, askedF_w s8]
    rw [w_ne_f (h := h8) (a := .tup [.str "", .int 0]) (b := .tup [.str "", .int 0]) (nb_two (okS_by (by decide +kernel))) (nb_two (okS_by (by decide +kernel))) rfl]
    simp only [WPS, reduceIte]
    exact q h8 ((k8 0 (getElem?_lt z)).trans z)
end
theorem plain (ns : List Int) (hl : ns.length ≤ 63) (hb : ∀ z ∈ ns, Builtin.Int.intBits z ≤ 1048576) : ∃ ah, f_law (.lst (ns.map D.int)) ah0 = .ok (.bl true) ah := by
  have goal : Wp (f_law (.lst (ns.map D.int)) ah0) (fun d _ => d = .bl true) NoE := by
    have z0 : ah0[0]? = some tb0 := rfl
    generalize ah0 = h0 at z0
    unfold f_law b_law
    simp only [WPS, reduceIte]
    refine cell_w 0 fun v => ?_
    have e6 : cutD (ns.map D.int) (some 1) (some 6) = ((ns.drop 1).take 5).map D.int := by
      rw [show (some 1 : Option Int) = some ((1 : Nat) : Int) from rfl, show (some 6 : Option Int) = some ((6 : Nat) : Int) from rfl, cutD_mid 1 6, List.map_take, List.map_drop]
    simp only [WPS, reduceIte, e6]
    rw [w_addL (by simp only [List.length_cons, List.length_nil, List.length_map, List.length_take, List.length_drop]; omega)]
    simp only [WPS, reduceIte]
    refine w_for (fun _ _ hh => hh[0]? = some tb0) z0 (fun k x t h hx i => ?_) fun t h i => ?_
    · have : ∃ y : Int, x = .int y := by
        have m := List.mem_of_getElem? hx
        rcases List.mem_append.mp m with m | m
        · exact ⟨v, List.mem_singleton.mp m⟩
        · obtain ⟨y, _, e⟩ := List.mem_map.mp m
          exact ⟨y, e.symm⟩
      obtain ⟨y, rfl⟩ := this
      refine big_w i fun h' i' => ?_
      rw [tK_nx]
      exact i'
    · rw [oK_nx]
      simp only [WPS, reduceIte]
  obtain ⟨a, h', e, rfl⟩ := goal.get
  exact ⟨h', e⟩
end Lw
/-! each def does what the plain reading says (printed by gen.py) -/
namespace Lw
open PySem L2 NdefX
abbrev s_law_tape : Stmt := top 10
theorem sc_law_tape : FnScope ["_law_cell"] ["_law_cell"] (defScope s_law_tape) := ⟨rfl, rfl, rfl, by decide +kernel, rfl, by decide +kernel, by decide +kernel⟩
abbrev s_Store___init__ : Stmt := inClass (top 7) 0
theorem sc_Store___init__ : FnScope ["self", "fall"] ["self", "fall"] (defScope s_Store___init__) := ⟨rfl, rfl, rfl, by decide +kernel, rfl, by decide +kernel, by decide +kernel⟩
abbrev s_law_cell_at : Stmt := top 9
theorem sc_law_cell_at : FnScope ["_law_script", "_law_at"] ["_law_script", "_law_at"] (defScope s_law_cell_at) := ⟨rfl, rfl, rfl, by decide +kernel, rfl, by decide +kernel, by decide +kernel⟩
abbrev s_law_take : Stmt := top 11
theorem sc_law_take : FnScope ["_law_tape_here", "_law_many", "_law_found", "_law_number"] ["_law_tape_here", "_law_many"] (defScope s_law_take) := ⟨rfl, rfl, rfl, by decide +kernel, rfl, by decide +kernel, by decide +kernel⟩
abbrev s_Store_whole_text : Stmt := inClass (top 7) 2
theorem sc_Store_whole_text : FnScope ["self"] ["self"] (defScope s_Store_whole_text) := ⟨rfl, rfl, rfl, by decide +kernel, rfl, by decide +kernel, by decide +kernel⟩
theorem sc_law_fall : FnScope ["_law_answers", "_law_counts", "_law_seen", "_law_store", "_law_fall_here"] ["_law_answers", "_law_counts", "_law_seen", "_law_store"] (defScope s_law_fall) := ⟨rfl, rfl, rfl, by decide +kernel, rfl, by decide +kernel, by decide +kernel⟩
abbrev s_law_made : Stmt := top 15
theorem sc_law_made : FnScope ["_law_tape_here", "_law_many", "_law_answers", "_law_k", "_law_counts", "_law_seen", "_law_held", "_law_store"] ["_law_tape_here"] (defScope s_law_made) := ⟨rfl, rfl, rfl, by decide +kernel, rfl, by decide +kernel, by decide +kernel⟩
abbrev s_law_text : Stmt := top 12
theorem sc_law_text : FnScope ["_law_tape_here", "_law_signs", "_law_some", "_law_k"] ["_law_tape_here"] (defScope s_law_text) := ⟨rfl, rfl, rfl, by decide +kernel, rfl, by decide +kernel, by decide +kernel⟩
abbrev s_Store_asked_for : Stmt := inClass (top 7) 3
theorem sc_Store_asked_for : FnScope ["self"] ["self"] (defScope s_Store_asked_for) := ⟨rfl, rfl, rfl, by decide +kernel, rfl, by decide +kernel, by decide +kernel⟩
abbrev s_Store_write : Stmt := inClass (top 7) 1
theorem sc_Store_write : FnScope ["self", "text", "count", "signs"] ["self", "text"] (defScope s_Store_write) := ⟨rfl, rfl, rfl, by decide +kernel, rfl, by decide +kernel, by decide +kernel⟩
abbrev s_law_wrote : Stmt := top 14
theorem sc_law_wrote : FnScope ["_law_store", "_law_text_here", "_law_word", "e"] ["_law_store", "_law_text_here"] (defScope s_law_wrote) := ⟨rfl, rfl, rfl, by decide +kernel, rfl, by decide +kernel, by decide +kernel⟩
abbrev s_law_goes : Stmt := top 16
theorem sc_law_goes : FnScope ["_law_one", "_law_text_here", "_law_answer", "_law_due", "_law_more"] ["_law_one", "_law_text_here"] (defScope s_law_goes) := ⟨rfl, rfl, rfl, by decide +kernel, rfl, by decide +kernel, by decide +kernel⟩
abbrev s_law : Stmt := top 17
theorem sc_law : FnScope ["_law_script", "_law_cell", "_law_tape_here", "_law_some", "_law_plain", "_law_text_here", "_law_k", "_law_more", "_law_one", "_law_store", "_law_fresh"] ["_law_script"] (defScope s_law) := ⟨rfl, rfl, rfl, by decide +kernel, rfl, by decide +kernel, by decide +kernel⟩
structure Tx (K : Fg) (mg : Str → Option Value) : Prop where
  no_max : mg "max" = none
  no_len : mg "len" = none
  no_range : mg "range" = none
  no_int : mg "int" = none
  no_isinstance : mg "isinstance" = none
  no_list : mg "list" = none
  ex : ExF K mg isE
  at_ : AtF K mg tabC
  x_Fallen : ∃ C, ClF K mg "Fallen" C
  x_LentError : ∃ C, ClF K mg "LentError" C
  d_law_tape : Dfn K mg "_law_tape" "_law_tape" s_law_tape ["_law_cell"]
  d_Store___init__ : DfnID K mg "Store" "Store.__init__" s_Store___init__ ["self", "fall"] [.non]
  d_law_cell_at : Dfn K mg "_law_cell_at" "_law_cell_at" s_law_cell_at ["_law_script", "_law_at"]
  d_law_take : Dfn K mg "_law_take" "_law_take" s_law_take ["_law_tape_here", "_law_many"]
  d_Store_whole_text : DfnM K mg "Store" "whole_text" "Store.whole_text" s_Store_whole_text ["self"]
  d_law_fall : Dfn K mg "_law_fall" "_law_fall" s_law_fall ["_law_answers", "_law_counts", "_law_seen", "_law_store"]
  d_law_made : Dfn K mg "_law_made" "_law_made" s_law_made ["_law_tape_here"]
  d_law_text : Dfn K mg "_law_text" "_law_text" s_law_text ["_law_tape_here"]
  d_Store_asked_for : DfnM K mg "Store" "asked_for" "Store.asked_for" s_Store_asked_for ["self"]
  d_Store_write : DfnM K mg "Store" "write" "Store.write" s_Store_write ["self", "text"]
  d_law_wrote : Dfn K mg "_law_wrote" "_law_wrote" s_law_wrote ["_law_store", "_law_text_here"]
  d_law_goes : Dfn K mg "_law_goes" "_law_goes" s_law_goes ["_law_one", "_law_text_here"]
  d_law : Dfn K mg "law" "law" s_law ["_law_script"]
theorem fo_law_tape {P : Program} {w : World} {K : Fg} {mg : Str → Option Value} {base : Heap} (T : Tx K mg) {f : Addr} {fd : FuncData} (F : Fun K "_law_tape" "_law_tape" s_law_tape f fd) : FnOk P w K mg base (L2N.CX P w) 1 f fd ["_law_cell"] (spD K mg 1 (app1 f_law_tape)) := by
  refine fn1 (N := ["_law_cell"]) (mk := fun _ : Unit => [none]) (lp := fun e : Empty => e.elim) (mc := b_law_tape) F sc_law_tape rfl fun cdv A outer s H E hr cell1 => ?_
  unfold b_law_tape
  exact (show DS _ _ _ [some cell1] _ _ _ _ from (ds_ret (de_lstH (da_cons (de_max2 rfl T.no_max de_int (de_sub (de_var 0) (de_pow de_int de_int))) (da_two (de_mod (de_var 0) de_int) de_int))) (EnvLe.noth rfl)))
theorem ok_law_tape {P : Program} {w : World} {K : Fg} {mg : Str → Option Value} {base : Heap} (T : Tx K mg) : Cal P w K mg base "_law_tape" 1 1 (app1 f_law_tape) := Dfn.cal T.d_law_tape fun _ _ F => fo_law_tape T F
theorem fo_Store___init__ {P : Program} {w : World} {K : Fg} {mg : Str → Option Value} {base : Heap} (T : Tx K mg) {f : Addr} {fd : FuncData} {dvs : List V} (F : FunD K "__init__" "Store.__init__" (defArgs s_Store___init__) (defBody s_Store___init__) (defScope s_Store___init__) dvs [] f fd) : FnOk P w K mg base (L2N.CX P w) 1 f fd ["self", "fall"] (spD K mg 2 (app2 f_Store___init__)) := by
  refine fn2D (N := ["self", "fall"]) (mk := fun _ : Unit => [none, none]) (lp := fun e : Empty => e.elim) (mc := b_Store___init__) F sc_Store___init__ rfl fun cdv A outer s H E hr self16 fall17 => ?_
  unfold b_Store___init__
  exact (show DS _ _ _ [some self16, some fall17] _ _ _ _ from (ds_fld T.at_ (de_var 1) (de_var 0) (EnvLe.noth rfl) (ds_fld T.at_ de_str (de_var 0) (EnvLe.noth rfl) (ds_fld T.at_ de_int (de_var 0) (EnvLe.noth rfl) (ds_nil (t := ()) (show EnvLe _ _ from (.drop (.drop .nil))))))))
theorem ok_Store___init__ {P : Program} {w : World} {K : Fg} {mg : Str → Option Value} {base : Heap} (T : Tx K mg) : MkD P w K mg base "Store" 1 2 (app2 f_Store___init__) [.non] := DfnID.mkd T.d_Store___init__ fun _ _ _ F => fo_Store___init__ T F
theorem fo_law_cell_at {P : Program} {w : World} {K : Fg} {mg : Str → Option Value} {base : Heap} (T : Tx K mg) {f : Addr} {fd : FuncData} (F : Fun K "_law_cell_at" "_law_cell_at" s_law_cell_at f fd) : FnOk P w K mg base (L2N.CX P w) 1 f fd ["_law_script", "_law_at"] (spD K mg 2 (app2 f_law_cell_at)) := by
  refine fn2 (N := ["_law_script", "_law_at"]) (mk := fun _ : Unit => [none, none]) (lp := fun e : Empty => e.elim) (mc := b_law_cell_at) F sc_law_cell_at rfl fun cdv A outer s H E hr script24 at25 => ?_
  unfold b_law_cell_at
  exact (show DS _ _ _ [some script24, some at25] _ _ _ _ from (ds_ifr (fun e : Empty => e.elim) (dt_cmp op_lt (int2_ok fun _ _ _ _ _ => Rep.bl) (de_var 1) (de_len T.no_len (de_var 0)) (nomark _)) (ds_ret (de_ix (de_var 0) (de_var 1)) (EnvLe.noth rfl)) (EnvLe.noth rfl) (ds_ret de_int (EnvLe.noth rfl)) rfl))
theorem ok_law_cell_at {P : Program} {w : World} {K : Fg} {mg : Str → Option Value} {base : Heap} (T : Tx K mg) : Cal P w K mg base "_law_cell_at" 1 2 (app2 f_law_cell_at) := Dfn.cal T.d_law_cell_at fun _ _ F => fo_law_cell_at T F
theorem ok_Store___init___x {P : Program} {w : World} {K : Fg} {mg : Str → Option Value} {base : Heap} (T : Tx K mg) : MkF P w K mg base "Store" 1 2 (app2 f_Store___init__) := DfnID.mkf T.d_Store___init__ (fun _ _ _ _ _ _ _ us its h1 h2 => match us, h1, its, h2 with | [_, _], _, [_], _ => ⟨_, rfl, rfl⟩) fun _ _ _ F => fo_Store___init__ T F
theorem fo_law_take {P : Program} {w : World} {K : Fg} {mg : Str → Option Value} {base : Heap} (T : Tx K mg) {f : Addr} {fd : FuncData} (F : Fun K "_law_take" "_law_take" s_law_take f fd) : FnOk P w K mg base (L2N.CX P w) 1 f fd ["_law_tape_here", "_law_many"] (spD K mg 2 (app2 f_law_take)) := by
  refine fn2 (N := ["_law_tape_here", "_law_many", "_law_found", "_law_number"]) (mk := fun _ : Unit => [none, none, none, none]) (lp := fun e : Empty => e.elim) (mc := b_law_take) F sc_law_take rfl fun cdv A outer s H E hr tape_here35 many36 => ?_
  unfold b_law_take
  exact (show DS _ _ _ [some tape_here35, some many36, none, none] _ _ _ _ from (ds_ifr (fun e : Empty => e.elim) (dt_cmp op_gt gt_ok (de_ix (de_var 0) de_int) de_int (nomark _)) (ds_set 2 sc_law_take.nd (fun found43 => [some tape_here35, some many36, some found43, none]) (de_mod (de_ix (de_var 0) de_int) (de_var 1)) (EnvLe.noth rfl) (fun found43 => (ds_setix (de_fdiv (de_ix (de_var 0) de_int) (de_var 1)) (de_var 0) de_int (EnvLe.noth rfl) (ds_ret (de_var 2) (EnvLe.noth rfl))))) (EnvLe.noth rfl) (ds_setix (de_add (de_ix (de_var 0) de_int) de_int) (de_var 0) de_int (EnvLe.noth rfl) (ds_set 3 sc_law_take.nd (fun number63 => [some tape_here35, some many36, none, some number63]) (de_mod (de_mul (de_add (de_add (de_ix (de_var 0) de_int) (de_mul de_int (de_ix (de_var 0) de_int))) de_int) de_int) de_int) (EnvLe.noth rfl) (fun number63 => (ds_set 3 sc_law_take.nd (fun number78 => [some tape_here35, some many36, none, some number78]) (de_mod (de_mul (de_var 3) (de_add (de_fdiv (de_var 3) de_int) de_int)) de_int) (EnvLe.noth rfl) (fun number78 => (ds_set 3 sc_law_take.nd (fun number87 => [some tape_here35, some many36, none, some number87]) (de_mod (de_mul (de_var 3) (de_add (de_fdiv (de_var 3) de_int) de_int)) de_int) (EnvLe.noth rfl) (fun number87 => (ds_ret (de_mod (de_fdiv (de_var 3) de_int) (de_var 1)) (EnvLe.noth rfl))))))))) rfl))
theorem ok_law_take {P : Program} {w : World} {K : Fg} {mg : Str → Option Value} {base : Heap} (T : Tx K mg) : Cal P w K mg base "_law_take" 1 2 (app2 f_law_take) := Dfn.cal T.d_law_take fun _ _ F => fo_law_take T F
theorem fo_Store_whole_text {P : Program} {w : World} {K : Fg} {mg : Str → Option Value} {base : Heap} (T : Tx K mg) {f : Addr} {fd : FuncData} (F : Fun K "whole_text" "Store.whole_text" s_Store_whole_text f fd) : FnOk P w K mg base (L2N.CX P w) 1 f fd ["self"] (spD K mg 1 (app1 f_Store_whole_text)) := by
  refine fn1 (N := ["self"]) (mk := fun _ : Unit => [none]) (lp := fun e : Empty => e.elim) (mc := b_Store_whole_text) F sc_Store_whole_text rfl fun cdv A outer s H E hr self101 => ?_
  unfold b_Store_whole_text
  exact (show DS _ _ _ [some self101] _ _ _ _ from (ds_ret (de_fld T.at_ (de_var 0)) (EnvLe.noth rfl)))
theorem ok_Store_whole_text {P : Program} {w : World} {K : Fg} {mg : Str → Option Value} {base : Heap} (T : Tx K mg) : MthF P w K mg base "Store" "whole_text" 1 1 (app1 f_Store_whole_text) := DfnM.mth T.d_Store_whole_text fun _ _ F => fo_Store_whole_text T F
theorem sc_law_fall_i : NScope ["_law_count", "_law_answers", "_law_counts", "_law_seen", "_law_store"] ["_law_count"] ["_law_answers", "_law_counts", "_law_seen", "_law_store"] (C8.fnScope is_law_fall) := nscope_by (by decide +kernel)
theorem ok_law_fall_i {P : Program} {w : World} {K : Fg} {mg : Str → Option Value} {base : Heap} (T : Tx K mg) (c_Store_whole_text : MthF P w K mg base "Store" "whole_text" 1 1 (app1 f_Store_whole_text)) : VF P w K mg base 2 S_law_fall 1 g_law_fall := by
  refine nfn_sim (N := ["_law_count", "_law_answers", "_law_counts", "_law_seen", "_law_store"]) (ps := ["_law_count"]) (mk := fun _ : Unit => [none, none, none, none, none]) (lp := fun e : Empty => e.elim) (mc := fun cs ds => match cs, ds with | [answers105, counts106, seen107, store108], [count104] => b_law_fall_i answers105 counts106 seen107 store108 count104 | _, _ => stuck) sc_law_fall_i (fun _ _ _ _ _ us hl => match us, hl with | [_], _ => rfl) (fun cs ds lc ld => match cs, lc, ds, ld with | [_, _, _, _], _, [_], _ => rfl) fun f cl c A outer s H E hr cs ds lc ld => ?_
  match cs, lc, ds, ld with
  | [answers105, counts106, seen107, store108], _, [count104], _ =>
    show DS _ _ _ _ _ _ _ (b_law_fall_i answers105 counts106 seen107 store108 count104)
    unfold b_law_fall_i
    exact (show DS _ _ _ [some count104, some answers105, some counts106, some seen107, some store108] _ _ _ _ from (ds_expr (de_append (de_var 2) (de_var 0)) (EnvLe.noth rfl) (ds_expr (de_append (de_var 3) (de_mth0 c_Store_whole_text (hr.mono (by decide)) (L2N.takes_of rfl rfl rfl rfl) (de_ix (de_var 4) de_int))) (EnvLe.noth rfl) (ds_ret (de_ix (de_var 1) (de_mod (de_var 0) (de_len T.no_len (de_var 1)))) (EnvLe.noth rfl)))))
theorem ok_fnT {P : Program} {w : World} {K : Fg} {mg : Str → Option Value} {base : Heap} (T : Tx K mg) (c_law_fall_i : VF P w K mg base 2 S_law_fall 1 g_law_fall) : ∀ p ∈ fnT, VF P w K mg base 2 p.1 p.2.1 p.2.2 := by
  intro p hp
  unfold fnT at hp
  simp only [List.mem_cons, List.not_mem_nil, or_false] at hp
  subst hp
  exact c_law_fall_i
theorem ok_law_fall {P : Program} {w : World} {K : Fg} {mg : Str → Option Value} {base : Heap} (T : Tx K mg) (c_tb_law_fall : TbF K mg base "_law_fall") : Cal P w K mg base "_law_fall" 1 4 (app4 f_law_fall) := fac_cal (ist := is_law_fall) (ti := 0) (i := 4) (ix := [0, 1, 2, 3]) (fr := ["_law_answers", "_law_counts", "_law_seen", "_law_store"]) T.d_law_fall c_tb_law_fall rfl sc_law_fall rfl rfl (by decide +kernel) (by decide +kernel) rfl rfl (fun _ => rfl) rfl rfl (by decide +kernel) rfl rfl rfl rfl (fun ds hl => match ds, hl with | [_, _, _, _], _ => rfl)
theorem fo_law_made {P : Program} {w : World} {K : Fg} {mg : Str → Option Value} {base : Heap} (T : Tx K mg) (c_Store___init___x : MkF P w K mg base "Store" 1 2 (app2 f_Store___init__)) (c_law_take : Cal P w K mg base "_law_take" 1 2 (app2 f_law_take)) (c_law_fall : Cal P w K mg base "_law_fall" 1 4 (app4 f_law_fall)) {f : Addr} {fd : FuncData} (F : Fun K "_law_made" "_law_made" s_law_made f fd) : FnOk P w K mg base (L2N.CX P w) 3 f fd ["_law_tape_here"] (spD K mg 1 (app1 f_law_made)) := by
  refine fn1 (N := ["_law_tape_here", "_law_many", "_law_answers", "_law_k", "_law_counts", "_law_seen", "_law_held", "_law_store"]) (mk := fun _ : Unit => [none, none, none, none, none, none, none, none]) (lp := fun e : Empty => e.elim) (mc := b_law_made) F sc_law_made rfl fun cdv A outer s H E hr tape_here126 => ?_
  unfold b_law_made l_law_made_1
  exact (show DS _ _ _ [some tape_here126, none, none, none, none, none, none, none] _ _ _ _ from (ds_set 1 sc_law_made.nd (fun many127 => [some tape_here126, some many127, none, none, none, none, none, none]) (de_add de_int (de_c2 c_law_take (hr.mono (by decide)) (L2N.takes_of rfl rfl rfl rfl) (de_var 0) de_int)) (EnvLe.noth rfl) (fun many127 => (ds_set 2 sc_law_made.nd (fun answers132 => [some tape_here126, some many127, some answers132, none, none, none, none, none]) (de_lstH da_nil) (EnvLe.noth rfl) (fun answers132 => (ds_for (mkL := fun t : Unit => [some tape_here126, some many127, some answers132, none, none, none, none, none]) (t0 := ()) (passes_of rfl) rfl (di_range1 T.no_range (de_var 1)) (dg_name 3 sc_law_made.nd) (EnvLe.refl _) (EnvLe.noth rfl) (fun p139 t134 => (show DS _ _ _ [some tape_here126, some many127, some answers132, some p139, none, none, none, none] _ _ _ _ from (ds_expr (de_append (de_var 2) (de_ix (de_lst (da_cons de_non (da_cons de_non (da_cons de_int (da_cons (de_neg de_int) (da_cons (de_c2 c_law_take (hr.mono (by decide)) (L2N.takes_of rfl rfl rfl rfl) (de_var 0) de_int) (da_two (de_pow de_int de_int) (de_sub de_int (de_pow de_int de_int))))))))) (de_c2 c_law_take (hr.mono (by decide)) (L2N.takes_of rfl rfl rfl rfl) (de_var 0) de_int))) (EnvLe.noth rfl) (ds_nil (t := ()) (show EnvLe _ _ from (.keep (.keep (.keep (.drop (.keep (.keep (.keep (.keep .nil))))))))))))) (fun s135 => (show DS _ _ _ [some tape_here126, some many127, some answers132, none, none, none, none, none] _ _ _ _ from (ds_freeze 2 (fun answers168 => [some tape_here126, some many127, some answers168, none, none, none, none, none]) (fun answers168 => (ds_set 4 sc_law_made.nd (fun counts169 => [some tape_here126, some many127, some answers168, none, some counts169, none, none, none]) (de_lstH da_nil) (EnvLe.noth rfl) (fun counts169 => (ds_set 5 sc_law_made.nd (fun seen171 => [some tape_here126, some many127, some answers168, none, some counts169, some seen171, none, none]) (de_lstH da_nil) (EnvLe.noth rfl) (fun seen171 => (ds_set 6 sc_law_made.nd (fun held173 => [some tape_here126, some many127, some answers168, none, some counts169, some seen171, some held173, none]) (de_lstH da_nil) (EnvLe.noth rfl) (fun held173 => (ds_set 7 sc_law_made.nd (fun store175 => [some tape_here126, some many127, some answers168, none, some counts169, some seen171, some held173, some store175]) (de_make c_Store___init___x (hr.mono (by decide)) (L2N.takes_of rfl rfl rfl rfl) (da_one (de_c4 c_law_fall (hr.mono (by decide)) (L2N.takes_of rfl rfl rfl rfl) (de_var 2) (de_var 4) (de_var 5) (de_var 6))) (alen1)) (EnvLe.noth rfl) (fun store175 => (ds_expr (de_append (de_var 6) (de_var 7)) (EnvLe.noth rfl) (ds_ret (de_disp (dps_cons de_str (de_var 7) (dps_cons de_str (de_var 2) (dps_cons de_str (de_var 4) (dps_cons de_str (de_var 5) (dps_cons de_str de_str (dps_cons de_str de_int dps_nil))))))) (EnvLe.noth rfl)))))))))))))))))))))
theorem ok_law_made {P : Program} {w : World} {K : Fg} {mg : Str → Option Value} {base : Heap} (T : Tx K mg) (c_Store___init___x : MkF P w K mg base "Store" 1 2 (app2 f_Store___init__)) (c_law_take : Cal P w K mg base "_law_take" 1 2 (app2 f_law_take)) (c_law_fall : Cal P w K mg base "_law_fall" 1 4 (app4 f_law_fall)) : Cal P w K mg base "_law_made" 3 1 (app1 f_law_made) := Dfn.cal T.d_law_made fun _ _ F => fo_law_made T c_Store___init___x c_law_take c_law_fall F
theorem fo_law_text {P : Program} {w : World} {K : Fg} {mg : Str → Option Value} {base : Heap} (T : Tx K mg) (c_law_take : Cal P w K mg base "_law_take" 1 2 (app2 f_law_take)) {f : Addr} {fd : FuncData} (F : Fun K "_law_text" "_law_text" s_law_text f fd) : FnOk P w K mg base (L2N.CX P w) 2 f fd ["_law_tape_here"] (spD K mg 1 (app1 f_law_text)) := by
  refine fn1 (N := ["_law_tape_here", "_law_signs", "_law_some", "_law_k"]) (mk := fun _ : Unit => [none, none, none, none]) (lp := fun e : Empty => e.elim) (mc := b_law_text) F sc_law_text rfl fun cdv A outer s H E hr tape_here205 => ?_
  unfold b_law_text c_law_text_1
  exact (show DS _ _ _ [some tape_here205, none, none, none] _ _ _ _ from (ds_set 1 sc_law_text.nd (fun signs206 => [some tape_here205, some signs206, none, none]) de_str (EnvLe.noth rfl) (fun signs206 => (ds_set 1 sc_law_text.nd (fun signs207 => [some tape_here205, some signs207, none, none]) (de_add (de_var 1) de_str) (EnvLe.noth rfl) (fun signs207 => (ds_setLc 2 (own := [("_law_k", 3)]) rfl sc_law_text.nd (di_range1 T.no_range (de_c2 c_law_take (hr.mono (by decide)) (L2N.takes_of rfl rfl rfl rfl) (de_var 0) de_int)) (blkOk_by (by show blkC [("_law_tape_here" : Str), ("_law_signs" : Str), ("_law_some" : Str), ("_law_k" : Str)] (defScope s_law_text) _ _ = true; decide +kernel)) (by decide) (fun _ _ _ _ _ => (dg_name 3 sc_law_text.nd)) (fun _ _ _ _ _ p216 => (show PTs _ _ (TC _ _ W0 RB [some tape_here205, some signs207, none, some p216] _) from dts_nil)) (fun _ _ _ _ _ p216 => (show DE _ W0 [some tape_here205, some signs207, none, some p216] _ _ from (de_ix (de_var 1) (de_c2 c_law_take (hr.mono (by decide)) takes0N (de_var 0) (de_len T.no_len (de_var 1)))))) (fun some210 => [some tape_here205, some signs207, some some210, none]) (EnvLe.noth rfl) (fun some210 => (ds_ret (de_add (de_join de_str (de_var 2)) (de_ix (de_lst (da_two de_str de_str)) (de_c2 c_law_take (hr.mono (by decide)) (L2N.takes_of rfl rfl rfl rfl) (de_var 0) de_int))) (EnvLe.noth rfl)))))))))
theorem ok_law_text {P : Program} {w : World} {K : Fg} {mg : Str → Option Value} {base : Heap} (T : Tx K mg) (c_law_take : Cal P w K mg base "_law_take" 1 2 (app2 f_law_take)) : Cal P w K mg base "_law_text" 2 1 (app1 f_law_text) := Dfn.cal T.d_law_text fun _ _ F => fo_law_text T c_law_take F
theorem fo_Store_asked_for {P : Program} {w : World} {K : Fg} {mg : Str → Option Value} {base : Heap} (T : Tx K mg) {f : Addr} {fd : FuncData} (F : Fun K "asked_for" "Store.asked_for" s_Store_asked_for f fd) : FnOk P w K mg base (L2N.CX P w) 1 f fd ["self"] (spD K mg 1 (app1 f_Store_asked_for)) := by
  refine fn1 (N := ["self"]) (mk := fun _ : Unit => [none]) (lp := fun e : Empty => e.elim) (mc := b_Store_asked_for) F sc_Store_asked_for rfl fun cdv A outer s H E hr self236 => ?_
  unfold b_Store_asked_for
  exact (show DS _ _ _ [some self236] _ _ _ _ from (ds_ret (de_fld T.at_ (de_var 0)) (EnvLe.noth rfl)))
theorem ok_Store_asked_for {P : Program} {w : World} {K : Fg} {mg : Str → Option Value} {base : Heap} (T : Tx K mg) : MthF P w K mg base "Store" "asked_for" 1 1 (app1 f_Store_asked_for) := DfnM.mth T.d_Store_asked_for fun _ _ F => fo_Store_asked_for T F
theorem fo_Store_write {P : Program} {w : World} {K : Fg} {mg : Str → Option Value} {base : Heap} (T : Tx K mg) (c_fnT : ∀ p ∈ fnT, VF P w K mg base 2 p.1 p.2.1 p.2.2) {f : Addr} {fd : FuncData} (F : Fun K "write" "Store.write" s_Store_write f fd) : FnOk P w K mg base (L2N.CX P w) 3 f fd ["self", "text"] (spD K mg 2 (app2 f_Store_write)) := by
  refine fn2 (N := ["self", "text", "count", "signs"]) (mk := fun _ : Unit => [none, none, none, none]) (lp := fun e : Empty => e.elim) (mc := b_Store_write) F sc_Store_write rfl fun cdv A outer s H E hr self239 text240 => ?_
  unfold b_Store_write
  exact (show DS _ _ _ [some self239, some text240, none, none] _ _ _ _ from (ds_set 2 sc_Store_write.nd (fun count241 => [some self239, some text240, some count241, none]) (de_fld T.at_ (de_var 0)) (EnvLe.noth rfl) (fun count241 => (ds_fld T.at_ (de_add (de_var 2) de_int) (de_var 0) (EnvLe.noth rfl) (ds_set 3 sc_Store_write.nd (fun signs247 => [some self239, some text240, some count241, some signs247]) de_non (EnvLe.noth rfl) (fun signs247 => (ds_if (mk' := fun t : D => [some self239, some text240, some count241, some t]) (dt_cmp op_isnotC isM_ok (de_fld T.at_ (de_var 0)) de_non (nomark _)) (ds_set 3 sc_Store_write.nd (fun signs253 => [some self239, some text240, some count241, some signs253]) (de_callv c_fnT T.at_ (hr.mono (by decide)) (de_var 0) (da_one (de_var 2))) (EnvLe.noth rfl) (fun signs253 => (ds_nil (t := signs253) (EnvLe.refl _)))) (ds_nil (t := signs247) (EnvLe.refl _)) (EnvLe.noth rfl) (fun s258 => (show DS _ _ _ [some self239, some text240, some count241, some s258] _ _ _ _ from (ds_ifr (fun e : Empty => e.elim) (dt_cmp op_isC isM_ok (de_var 3) de_non (nomark _)) (ds_fld T.at_ (de_add (de_fld T.at_ (de_var 0)) (de_var 1)) (de_var 0) (EnvLe.noth rfl) ds_retN) (EnvLe.noth rfl) (ds_fld T.at_ (de_add (de_fld T.at_ (de_var 0)) (de_slice (de_var 1) do_none (do_some (de_max2 rfl T.no_max de_int (de_var 3))))) (de_var 0) (EnvLe.noth rfl) (ds_raiseE T.x_Fallen rfl (L2N.takes_of rfl rfl rfl rfl) (EnvLe.noth rfl))) rfl))))))))))
theorem ok_Store_write {P : Program} {w : World} {K : Fg} {mg : Str → Option Value} {base : Heap} (T : Tx K mg) (c_fnT : ∀ p ∈ fnT, VF P w K mg base 2 p.1 p.2.1 p.2.2) : MthF P w K mg base "Store" "write" 3 2 (app2 f_Store_write) := DfnM.mth T.d_Store_write fun _ _ F => fo_Store_write T c_fnT F
theorem fo_law_wrote {P : Program} {w : World} {K : Fg} {mg : Str → Option Value} {base : Heap} (T : Tx K mg) (c_Store_write : MthF P w K mg base "Store" "write" 3 2 (app2 f_Store_write)) {f : Addr} {fd : FuncData} (F : Fun K "_law_wrote" "_law_wrote" s_law_wrote f fd) : FnOk P w K mg base (L2N.CX P w) 4 f fd ["_law_store", "_law_text_here"] (spD K mg 2 (app2 f_law_wrote)) := by
  refine fn2 (N := ["_law_store", "_law_text_here", "_law_word", "e"]) (mk := fun _ : Unit => [none, none, none, none]) (lp := fun e : Empty => e.elim) (mc := b_law_wrote) F sc_law_wrote rfl fun cdv A outer s H E hr store279 text_here280 => ?_
  obtain ⟨a_LentError, c_LentError⟩ := T.x_LentError
  unfold b_law_wrote h_law_wrote_1
  exact (show DS _ _ _ [some store279, some text_here280, none, none] _ _ _ _ from (ds_set 2 sc_law_wrote.nd (fun word281 => [some store279, some text_here280, some word281, none]) de_str (EnvLe.noth rfl) (fun word281 => (ds_tryas 3 (mk' := fun t : D => [some store279, some text_here280, some t, none]) (exB := [some store279, some text_here280, some word281, none]) sc_law_wrote.nd rfl rfl (names_of c_LentError rfl (by decide)) (L2N.takes_of rfl rfl rfl rfl) (cf_of T.ex c_LentError) (EnvLe.noth rfl) (fun z282 a => [some store279, some text_here280, some word281, some (.exn z282 a)]) (fun Wb pn xe tkB hpB => (show DS _ _ _ [some store279, some text_here280, some word281, none] _ _ _ _ from (ds_if (mk' := fun t : D => [some store279, some text_here280, some t, none]) (dt_cmp op_isnotC isM_ok (de_mth c_Store_write (hr.mono (by decide)) tkB (de_var 0) (da_one (de_var 1)) (alen1)) de_non (nomark _)) (ds_set 2 sc_law_wrote.nd (fun word290 => [some store279, some text_here280, some word290, none]) de_str (EnvLe.refl _) (fun word290 => (ds_nil (t := word290) (EnvLe.refl _)))) (ds_nil (t := word281) (EnvLe.refl _)) (EnvLe.refl _) (fun s291 => (show DS _ _ _ [some store279, some text_here280, some s291, none] _ _ _ _ from (ds_nil (t := s291) (EnvLe.refl _))))))) (fun a C oe pn z282 hz hvs hzz => (show DS _ _ _ [some store279, some text_here280, some word281, some (.exn z282 a)] _ _ _ _ from (ds_set 2 sc_law_wrote.nd (fun word292 => [some store279, some text_here280, some word292, some (.exn z282 a)]) (de_ix (de_lst (da_two de_str de_str)) (de_intf T.no_int (de_and (de_isE 3 (T.ex) hz hvs hzz T.no_isinstance) (de_one (de_not (de_isET 3 T.ex hz hvs hzz T.no_isinstance (nms_cons T.ex hzz (nms_cons T.ex hzz nms_nil)) (by decide) (by nofun))))))) (EnvLe.noth rfl) (fun word292 => (ds_nil (t := word292) (show EnvLe _ _ from (.keep (.keep (.keep (.drop .nil)))))))))) (fun s301 => (show DS _ _ _ [some store279, some text_here280, some s301, none] _ _ _ _ from (ds_ret (de_var 2) (EnvLe.noth rfl))))))))
theorem ok_law_wrote {P : Program} {w : World} {K : Fg} {mg : Str → Option Value} {base : Heap} (T : Tx K mg) (c_Store_write : MthF P w K mg base "Store" "write" 3 2 (app2 f_Store_write)) : Cal P w K mg base "_law_wrote" 4 2 (app2 f_law_wrote) := Dfn.cal T.d_law_wrote fun _ _ F => fo_law_wrote T c_Store_write F
theorem fo_law_goes {P : Program} {w : World} {K : Fg} {mg : Str → Option Value} {base : Heap} (T : Tx K mg) (c_law_wrote : Cal P w K mg base "_law_wrote" 4 2 (app2 f_law_wrote)) {f : Addr} {fd : FuncData} (F : Fun K "_law_goes" "_law_goes" s_law_goes f fd) : FnOk P w K mg base (L2N.CX P w) 5 f fd ["_law_one", "_law_text_here"] (spD K mg 2 (app2 f_law_goes)) := by
  refine fn2 (N := ["_law_one", "_law_text_here", "_law_answer", "_law_due", "_law_more"]) (mk := fun _ : Unit => [none, none, none, none, none]) (lp := fun e : Empty => e.elim) (mc := b_law_goes) F sc_law_goes rfl fun cdv A outer s H E hr one303 text_here304 => ?_
  unfold b_law_goes r_law_goes_1
  exact (show DS _ _ _ [some one303, some text_here304, none, none, none] _ _ _ _ from (ds_set 2 sc_law_goes.nd (fun answer305 => [some one303, some text_here304, some answer305, none, none]) (de_ix (de_dget (hu64 hr) (de_var 0) de_str) (de_mod (de_dget (hu64 hr) (de_var 0) de_str) (de_len T.no_len (de_dget (hu64 hr) (de_var 0) de_str)))) (EnvLe.noth rfl) (fun answer305 => (ds_set 3 sc_law_goes.nd (fun due317 => [some one303, some text_here304, some answer305, some due317, none]) de_str (EnvLe.noth rfl) (fun due317 => (ds_set 4 sc_law_goes.nd (fun more318 => [some one303, some text_here304, some answer305, some due317, some more318]) (de_var 1) (EnvLe.noth rfl) (fun more318 => (ds_if (mk' := fun t : D × D => [some one303, some text_here304, some answer305, some t.1, some t.2]) (dt_cmp op_isnotC isM_ok (de_var 2) de_non (nomark _)) (ds_set 3 sc_law_goes.nd (fun due323 => [some one303, some text_here304, some answer305, some due323, some more318]) de_str (EnvLe.noth rfl) (fun due323 => (ds_set 4 sc_law_goes.nd (fun more324 => [some one303, some text_here304, some answer305, some due323, some more324]) (de_slice (de_var 1) do_none (do_some (de_max2 rfl T.no_max de_int (de_var 2)))) (EnvLe.noth rfl) (fun more324 => (ds_nil (t := (due323, more324)) (EnvLe.refl _)))))) (ds_nil (t := (due317, more318)) (EnvLe.refl _)) (EnvLe.noth rfl) (fun s331 => (show DS _ _ _ [some one303, some text_here304, some answer305, some s331.1, some s331.2] _ _ _ _ from (ds_ifr (fun e : Empty => e.elim) (dt_w (dw_or (dt_cmp (op_neX (hu64 hr)) ne_ok (de_c2 c_law_wrote (hr.mono (by decide)) (L2N.takes_of rfl rfl rfl rfl) (de_dget (hu64 hr) (de_var 0) de_str) (de_var 1)) (de_var 3) (nomark _)) (dw_or1 (dt_cmp (op_neX (hu64 hr)) ne_ok (de_dget (hu64 hr) (de_var 0) de_str) (de_listrg1 rfl T.no_list T.no_range (de_add (de_dget (hu64 hr) (de_var 0) de_str) de_int)) (nomark _))))) (ds_ret de_bl (EnvLe.noth rfl)) (EnvLe.noth rfl) (ds_ifr (fun e : Empty => e.elim) (dt_cmp (op_neX (hu64 hr)) ne_ok (de_ix (de_dget (hu64 hr) (de_var 0) de_str) (de_neg de_int)) (de_dget (hu64 hr) (de_var 0) de_str) (nomark _)) (ds_ret de_bl (EnvLe.noth rfl)) (EnvLe.noth rfl) (ds_dput (hu64 hr) (de_add (de_dget (hu64 hr) (de_var 0) de_str) (de_var 4)) (de_var 0) de_str (EnvLe.noth rfl) (ds_dput (hu64 hr) (de_add (de_dget (hu64 hr) (de_var 0) de_str) de_int) (de_var 0) de_str (EnvLe.noth rfl) (ds_ret de_bl (EnvLe.noth rfl)))) rfl) rfl)))))))))))
theorem ok_law_goes {P : Program} {w : World} {K : Fg} {mg : Str → Option Value} {base : Heap} (T : Tx K mg) (c_law_wrote : Cal P w K mg base "_law_wrote" 4 2 (app2 f_law_wrote)) : Cal P w K mg base "_law_goes" 5 2 (app2 f_law_goes) := Dfn.cal T.d_law_goes fun _ _ F => fo_law_goes T c_law_wrote F
theorem fo_law {P : Program} {w : World} {K : Fg} {mg : Str → Option Value} {base : Heap} (T : Tx K mg) (c_law_tape : Cal P w K mg base "_law_tape" 1 1 (app1 f_law_tape)) (c_Store___init__ : MkD P w K mg base "Store" 1 2 (app2 f_Store___init__) [.non]) (c_law_cell_at : Cal P w K mg base "_law_cell_at" 1 2 (app2 f_law_cell_at)) (c_Store___init___x : MkF P w K mg base "Store" 1 2 (app2 f_Store___init__)) (c_law_take : Cal P w K mg base "_law_take" 1 2 (app2 f_law_take)) (c_Store_whole_text : MthF P w K mg base "Store" "whole_text" 1 1 (app1 f_Store_whole_text)) (c_law_made : Cal P w K mg base "_law_made" 3 1 (app1 f_law_made)) (c_law_text : Cal P w K mg base "_law_text" 2 1 (app1 f_law_text)) (c_Store_asked_for : MthF P w K mg base "Store" "asked_for" 1 1 (app1 f_Store_asked_for)) (c_law_wrote : Cal P w K mg base "_law_wrote" 4 2 (app2 f_law_wrote)) (c_law_goes : Cal P w K mg base "_law_goes" 5 2 (app2 f_law_goes)) {f : Addr} {fd : FuncData} (F : Fun K "law" "law" s_law f fd) : FnOk P w K mg base (L2N.CX P w) 6 f fd ["_law_script"] (spD K mg 1 (app1 f_law)) := by
  refine fn1 (N := ["_law_script", "_law_cell", "_law_tape_here", "_law_some", "_law_plain", "_law_text_here", "_law_k", "_law_more", "_law_one", "_law_store", "_law_fresh"]) (mk := fun _ : Unit => [none, none, none, none, none, none, none, none, none, none, none]) (lp := fun e : Empty => e.elim) (mc := b_law) F sc_law rfl fun cdv A outer s H E hr script379 => ?_
  unfold b_law l_law_3 l_law_2 l_law_1
  exact (show DS _ _ _ [some script379, none, none, none, none, none, none, none, none, none, none] _ _ _ _ from (ds_for (mkL := fun t : Unit => [some script379, none, none, none, none, none, none, none, none, none, none]) (t0 := ()) (passes_of rfl) rfl (di_seq (de_add (de_lst (da_one (de_p2 c_law_cell_at (hr.mono (by decide)) (L2N.takes_of rfl rfl rfl rfl) (de_var 0) de_int))) (de_slice (de_var 0) (do_some de_int) (do_some de_int)))) (dg_name 1 sc_law.nd) (EnvLe.refl _) (EnvLe.noth rfl) (fun p396 t380 => (show DS _ _ _ [some script379, some p396, none, none, none, none, none, none, none, none, none] _ _ _ _ from (ds_set 2 sc_law.nd (fun tape_here397 => [some script379, some p396, some tape_here397, none, none, none, none, none, none, none, none]) (de_c1 c_law_tape (hr.mono (by decide)) (L2N.takes_of rfl rfl rfl rfl) (de_var 1)) (EnvLe.noth rfl) (fun tape_here397 => (ds_set 3 sc_law.nd (fun some399 => [some script379, some p396, some tape_here397, some some399, none, none, none, none, none, none, none]) (de_lst (da_two (de_c1 c_law_made (hr.mono (by decide)) (L2N.takes_of rfl rfl rfl rfl) (de_var 2)) (de_c1 c_law_made (hr.mono (by decide)) (L2N.takes_of rfl rfl rfl rfl) (de_var 2)))) (EnvLe.noth rfl) (fun some399 => (ds_set 4 sc_law.nd (fun plain405 => [some script379, some p396, some tape_here397, some some399, some plain405, none, none, none, none, none, none]) (de_ix (de_lst (da_two (de_makeD0 c_Store___init__ (hr.mono (by decide)) (L2N.takes_of rfl rfl rfl rfl) rfl) (de_make c_Store___init___x (hr.mono (by decide)) (L2N.takes_of rfl rfl rfl rfl) (da_one de_non) (alen1)))) (de_c2 c_law_take (hr.mono (by decide)) (L2N.takes_of rfl rfl rfl rfl) (de_var 2) de_int)) (EnvLe.noth rfl) (fun plain405 => (ds_set 5 sc_law.nd (fun text_here415 => [some script379, some p396, some tape_here397, some some399, some plain405, some text_here415, none, none, none, none, none]) de_str (EnvLe.noth rfl) (fun text_here415 => (ds_for (mkL := fun t : D => [some script379, some p396, some tape_here397, some some399, some plain405, some t, none, none, none, none, none]) (t0 := text_here415) (passes_of rfl) rfl (di_range1 T.no_range (de_c2 c_law_take (hr.mono (by decide)) (L2N.takes_of rfl rfl rfl rfl) (de_var 2) de_int)) (dg_name 6 sc_law.nd) (EnvLe.refl _) (EnvLe.noth rfl) (fun p423 t416 => (show DS _ _ _ [some script379, some p396, some tape_here397, some some399, some plain405, some t416, some p423, none, none, none, none] _ _ _ _ from (ds_set 7 sc_law.nd (fun more424 => [some script379, some p396, some tape_here397, some some399, some plain405, some t416, some p423, some more424, none, none, none]) (de_c1 c_law_text (hr.mono (by decide)) (L2N.takes_of rfl rfl rfl rfl) (de_var 2)) (EnvLe.noth rfl) (fun more424 => (ds_ifr (fun e : Empty => e.elim) (dt_w (dw_or (dt_not (dt_tru (de_c2 c_law_goes (hr.mono (by decide)) (L2N.takes_of rfl rfl rfl rfl) (de_ix (de_var 3) (de_c2 c_law_take (hr.mono (by decide)) (L2N.takes_of rfl rfl rfl rfl) (de_var 2) de_int)) (de_var 7)))) (dw_or1 (dt_cmp (op_neX (hu64 hr)) ne_ok (de_c2 c_law_wrote (hr.mono (by decide)) (L2N.takes_of rfl rfl rfl rfl) (de_var 4) (de_var 7)) de_str (nomark _))))) (ds_ret de_bl (EnvLe.noth rfl)) (EnvLe.noth rfl) (ds_set 5 sc_law.nd (fun text_here442 => [some script379, some p396, some tape_here397, some some399, some plain405, some text_here442, some p423, some more424, none, none, none]) (de_add (de_var 5) (de_var 7)) (EnvLe.noth rfl) (fun text_here442 => (ds_for (mkL := fun t : Unit => [some script379, some p396, some tape_here397, some some399, some plain405, some text_here442, some p423, some more424, none, none, none]) (t0 := ()) (passes_of rfl) rfl (di_seq (de_add (de_var 3) (de_lst (da_one (de_disp (dps_cons de_str (de_var 4) (dps_cons de_str (de_var 5) (dps_cons de_str (de_add (de_var 6) de_int) dps_nil)))))))) (dg_name 8 sc_law.nd) (EnvLe.refl _) (EnvLe.noth rfl) (fun p467 t445 => (show DS _ _ _ [some script379, some p396, some tape_here397, some some399, some plain405, some text_here442, some p423, some more424, some p467, none, none] _ _ _ _ from (ds_set 9 sc_law.nd (fun store468 => [some script379, some p396, some tape_here397, some some399, some plain405, some text_here442, some p423, some more424, some p467, some store468, none]) (de_dget (hu64 hr) (de_var 8) de_str) (EnvLe.noth rfl) (fun store468 => (ds_ifr (fun e : Empty => e.elim) (dt_cmp (op_neX (hu64 hr)) ne_ok (de_tup (da_two (de_mth0 c_Store_whole_text (hr.mono (by decide)) (L2N.takes_of rfl rfl rfl rfl) (de_var 9)) (de_mth0 c_Store_asked_for (hr.mono (by decide)) (L2N.takes_of rfl rfl rfl rfl) (de_var 9)))) (de_tup (da_two (de_dget (hu64 hr) (de_var 8) de_str) (de_dget (hu64 hr) (de_var 8) de_str))) (nomark _)) (ds_ret de_bl (EnvLe.noth rfl)) (EnvLe.noth rfl) (ds_nil (t := ()) (show EnvLe _ _ from (.keep (.keep (.keep (.keep (.keep (.keep (.keep (.keep (.drop (.drop (.keep .nil))))))))))))) rfl))))) (fun s446 => (show DS _ _ _ [some script379, some p396, some tape_here397, some some399, some plain405, some text_here442, some p423, some more424, none, none, none] _ _ _ _ from (ds_nil (t := text_here442) (show EnvLe _ _ from (.keep (.keep (.keep (.keep (.keep (.keep (.drop (.drop (.keep (.keep (.keep .nil)))))))))))))))))) rfl))))) (fun s417 => (show DS _ _ _ [some script379, some p396, some tape_here397, some some399, some plain405, some s417, none, none, none, none, none] _ _ _ _ from (ds_set 10 sc_law.nd (fun fresh488 => [some script379, some p396, some tape_here397, some some399, some plain405, some s417, none, none, none, none, some fresh488]) (de_makeD0 c_Store___init__ (hr.mono (by decide)) (L2N.takes_of rfl rfl rfl rfl) rfl) (EnvLe.noth rfl) (fun fresh488 => (ds_ifr (fun e : Empty => e.elim) (dt_cmp (op_neX (hu64 hr)) ne_ok (de_tup (da_two (de_mth0 c_Store_whole_text (hr.mono (by decide)) (L2N.takes_of rfl rfl rfl rfl) (de_var 10)) (de_mth0 c_Store_asked_for (hr.mono (by decide)) (L2N.takes_of rfl rfl rfl rfl) (de_var 10)))) (de_tup (da_two de_str de_int)) (nomark _)) (ds_ret de_bl (EnvLe.noth rfl)) (EnvLe.noth rfl) (ds_nil (t := ()) (show EnvLe _ _ from (.keep (.drop (.drop (.drop (.drop (.drop (.keep (.keep (.keep (.keep (.drop .nil))))))))))))) rfl)))))))))))))))) (fun s381 => (show DS _ _ _ [some script379, none, none, none, none, none, none, none, none, none, none] _ _ _ _ from (ds_ret de_bl (EnvLe.noth rfl))))))
theorem ok_all {P : Program} {w : World} {K : Fg} {mg : Str → Option Value} {base : Heap} (T : Tx K mg) (c_tb_law_fall : TbF K mg base "_law_fall") (f : Addr) (fd : FuncData) (F : Fun K "law" "law" s_law f fd) : FnOk P w K mg base (L2N.CX P w) 6 f fd ["_law_script"] (spD K mg 1 (app1 f_law)) := by
  have c_law_tape := ok_law_tape (P := P) (w := w) (base := base) T
  have c_Store___init__ := ok_Store___init__ (P := P) (w := w) (base := base) T
  have c_law_cell_at := ok_law_cell_at (P := P) (w := w) (base := base) T
  have c_Store___init___x := ok_Store___init___x (P := P) (w := w) (base := base) T
  have c_law_take := ok_law_take (P := P) (w := w) (base := base) T
  have c_Store_whole_text := ok_Store_whole_text (P := P) (w := w) (base := base) T
  have c_law_fall_i := ok_law_fall_i (P := P) (w := w) (base := base) T c_Store_whole_text
  have c_fnT := ok_fnT (P := P) (w := w) (base := base) T c_law_fall_i
  have c_law_fall := ok_law_fall (P := P) (w := w) (base := base) T c_tb_law_fall
  have c_law_made := ok_law_made (P := P) (w := w) (base := base) T c_Store___init___x c_law_take c_law_fall
  have c_law_text := ok_law_text (P := P) (w := w) (base := base) T c_law_take
  have c_Store_asked_for := ok_Store_asked_for (P := P) (w := w) (base := base) T
  have c_Store_write := ok_Store_write (P := P) (w := w) (base := base) T c_fnT
  have c_law_wrote := ok_law_wrote (P := P) (w := w) (base := base) T c_Store_write
  have c_law_goes := ok_law_goes (P := P) (w := w) (base := base) T c_law_wrote
  exact fo_law T c_law_tape c_Store___init__ c_law_cell_at c_Store___init___x c_law_take c_Store_whole_text c_law_made c_law_text c_Store_asked_for c_law_wrote c_law_goes F
end Lw
/-! the end: the top by one run, facts by names -/
noncomputable section
namespace Lw
open PySem PySem.Spec PyProof.Rows L2
abbrev rowH : PySem.W.OpenRow := PySem.W.OpenLaw.row PySem.Challenge.rw_lentwork_k41_stores
abbrev qvH : Program := PySem.W.view rowH.prog [17]
def looseH : List PySem.Str := (["_wall", "LentError", "Fallen", "NoBook", "Down", "Store", "_law_cell_at", "_law_tape", "_law_take", "_law_text", "_law_fall", "_law_wrote", "_law_made", "_law_goes"] : List PySem.Str)
def clsH0 : List Str := ["Fallen", "LentError", "Down", "NoBook"]
def clsH : List Str := clsH0
def tabH0 : Tab := (tabE.drop 0).take 16
def faQ0 : List He.Fa := ([.glo "Store", .cls "Store", .free "max", .free "len", .free "range", .free "int", .free "isinstance", .free "list", .free "ValueError", .noat "Store" "asked", .noat "Store" "kept", .noat "Store" "fall"] : List He.Fa)
def fnQ0 : List He.FnD := ([] : List He.FnD)
def faQ1 : List He.Fa := [] ++ (clsH.map He.Fa.glo ++ clsH.map He.Fa.exc)
def fnQ1 : List He.FnD := ([] : List He.FnD)
def faQ2 : List He.Fa := ([.glo "_law_tape", .keep "_law_tape", .mkr "Store", .glo "_law_cell_at", .keep "_law_cell_at", .glo "_law_take", .keep "_law_take", .meth "Store" "whole_text", .glo "_law_fall", .keep "_law_fall", .glo "_law_made", .keep "_law_made", .glo "_law_text", .keep "_law_text", .meth "Store" "asked_for", .meth "Store" "write", .glo "_law_wrote", .keep "_law_wrote", .glo "_law_goes", .keep "_law_goes", .glo "law", .keep "law"] : List He.Fa)
def fnQ2 : List He.FnD := ([⟨("_law_tape", none), "_law_tape", "_law_tape", defArgs s_law_tape, defBody s_law_tape, defScope s_law_tape⟩, ⟨("_law_cell_at", none), "_law_cell_at", "_law_cell_at", defArgs s_law_cell_at, defBody s_law_cell_at, defScope s_law_cell_at⟩, ⟨("_law_take", none), "_law_take", "_law_take", defArgs s_law_take, defBody s_law_take, defScope s_law_take⟩, ⟨("Store", some "whole_text"), "whole_text", "Store.whole_text", defArgs s_Store_whole_text, defBody s_Store_whole_text, defScope s_Store_whole_text⟩, ⟨("_law_fall", none), "_law_fall", "_law_fall", defArgs s_law_fall, defBody s_law_fall, defScope s_law_fall⟩, ⟨("_law_made", none), "_law_made", "_law_made", defArgs s_law_made, defBody s_law_made, defScope s_law_made⟩, ⟨("_law_text", none), "_law_text", "_law_text", defArgs s_law_text, defBody s_law_text, defScope s_law_text⟩, ⟨("Store", some "asked_for"), "asked_for", "Store.asked_for", defArgs s_Store_asked_for, defBody s_Store_asked_for, defScope s_Store_asked_for⟩, ⟨("Store", some "write"), "write", "Store.write", defArgs s_Store_write, defBody s_Store_write, defScope s_Store_write⟩, ⟨("_law_wrote", none), "_law_wrote", "_law_wrote", defArgs s_law_wrote, defBody s_law_wrote, defScope s_law_wrote⟩, ⟨("_law_goes", none), "_law_goes", "_law_goes", defArgs s_law_goes, defBody s_law_goes, defScope s_law_goes⟩, ⟨("law", none), "law", "law", defArgs s_law, defBody s_law, defScope s_law⟩] : List He.FnD)
def exH0 : Fg → Bool := allB
def exH1 : Fg → Bool := fun K => clsH0.all fun z => clB K z
def exH2 : Fg → Bool := fun K => tabB K tabH0
def partsH : List (List He.Fa × List He.FnD) := [(faQ0, fnQ0), (faQ1, fnQ1), (faQ2, fnQ2)]
def dnH : List He.DefD := ([⟨("Store", some "__init__"), "__init__", "Store.__init__", defArgs s_Store___init__, defBody s_Store___init__, defScope s_Store___init__, [.non], []⟩] : List He.DefD)
def exsH : List (Fg → Bool) := [exH0, exH1, exH2]
def dksH : List (Str × List (Str × Int)) := []
def xsH : List Str := ["_law_fall"]
abbrev hkH : PySem.W.Hook := hookT 910 xsH partsH dnH exsH dksH
def obH (s : PySem.W.SharedT) : AlT := obsT xsH partsH dnH exsH dksH (KS 910 s)
theorem obH_eq (s : PySem.W.SharedT) : obH s = hkH.obs s.abs := obsT_eq s
abbrev xH (w : World) (os : OsState) : Option PySem.W.SharedT := HandSHeadRun.endF (HandSHeadRun.stepQ (HandSHeadRun.denQ HandSHeadRun.tabQ) rowH.prog w) 16000 rowH.prog w os
theorem runA (w : World) (os : OsState) : ((xH w os).map fun s => (HandSHeadRun.looksF rowH.prog (PySem.W.boot_heap w.params) s.abs, HandSHeadRun.seenQ qvH looseH (importedModules rowH.prog.main.body) (fun s => PySem.W.xlAt qvH [] s && PySem.W.recOk rowH.toRowW.records s) s.abs)) = some (true, PySem.W.openGood qvH looseH) := by
  kernel_rfl
theorem runP0 (w : World) (os : OsState) : ((xH w os).map fun s => He.obsE faQ0 fnQ0 (dropT xsH (KS 910 s))) = some (He.valE fnQ0) := by
  refine ks_mapT (xs := xsH) (f := fun K => He.obsE faQ0 fnQ0 K) ?_
  kernel_rfl
theorem runP1 (w : World) (os : OsState) : ((xH w os).map fun s => He.obsE faQ1 fnQ1 (dropT xsH (KS 910 s))) = some (He.valE fnQ1) := by
  refine ks_mapT (xs := xsH) (f := fun K => He.obsE faQ1 fnQ1 K) ?_
  kernel_rfl
theorem runP2 (w : World) (os : OsState) : ((xH w os).map fun s => He.obsE faQ2 fnQ2 (dropT xsH (KS 910 s))) = some (He.valE fnQ2) := by
  refine ks_mapT (xs := xsH) (f := fun K => He.obsE faQ2 fnQ2 K) ?_
  kernel_rfl
theorem runT (w : World) (os : OsState) : ((xH w os).map fun s => tabsB xsH (KS 910 s)) = some true := by
  refine ks_map (f := tabsB xsH) ?_
  kernel_rfl
theorem runD (w : World) (os : OsState) : ((xH w os).map fun s => He.obsD [] dnH (dropT xsH (KS 910 s))) = some (He.valD dnH) := by
  refine ks_mapT (xs := xsH) (f := fun K => He.obsD [] dnH K) ?_
  kernel_rfl
theorem runE0 (w : World) (os : OsState) : ((xH w os).map fun s => exH0 (dropT xsH (KS 910 s))) = some true := by
  refine ks_mapT (xs := xsH) (f := exH0) ?_
  kernel_rfl
theorem runE1 (w : World) (os : OsState) : ((xH w os).map fun s => exH1 (dropT xsH (KS 910 s))) = some true := by
  refine ks_mapT (xs := xsH) (f := exH1) ?_
  kernel_rfl
theorem runE2 (w : World) (os : OsState) : ((xH w os).map fun s => exH2 (dropT xsH (KS 910 s))) = some true := by
  refine ks_mapT (xs := xsH) (f := exH2) ?_
  kernel_rfl
theorem runH (w : World) : HandSHeadRun.RunEq rowH qvH hkH obH 16000 looseH w := fun os => by
  obtain ⟨s, e, hA⟩ := Option.map_eq_some_iff.mp (runA w os)
  have e : xH w os = some s := e
  have h0 : He.obsE faQ0 fnQ0 (dropT xsH (KS 910 s)) = He.valE fnQ0 := map_at e (runP0 w os)
  have h1 : He.obsE faQ1 fnQ1 (dropT xsH (KS 910 s)) = He.valE fnQ1 := map_at e (runP1 w os)
  have h2 : He.obsE faQ2 fnQ2 (dropT xsH (KS 910 s)) = He.valE fnQ2 := map_at e (runP2 w os)
  have e0 : exH0 (dropT xsH (KS 910 s)) = true := map_at e (runE0 w os)
  have e1 : exH1 (dropT xsH (KS 910 s)) = true := map_at e (runE1 w os)
  have e2 : exH2 (dropT xsH (KS 910 s)) = true := map_at e (runE2 w os)
  have hd : He.obsD [] dnH (dropT xsH (KS 910 s)) = He.valD dnH := map_at e (runD w os)
  have hp : (partsH.map fun p => He.obsE p.1 p.2 (dropT xsH (KS 910 s))) = partsH.map fun p => He.valE p.2 := by
    show [He.obsE faQ0 fnQ0 (dropT xsH (KS 910 s)), He.obsE faQ1 fnQ1 (dropT xsH (KS 910 s)), He.obsE faQ2 fnQ2 (dropT xsH (KS 910 s))] = [He.valE fnQ0, He.valE fnQ1, He.valE fnQ2]
    exact (congr (congrArg List.cons h0) (congr (congrArg List.cons h1) (congr (congrArg List.cons h2) rfl)))
  have he : (exsH.map fun e => e (dropT xsH (KS 910 s))) = exsH.map fun _ => true := by
    show [exH0 (dropT xsH (KS 910 s)), exH1 (dropT xsH (KS 910 s)), exH2 (dropT xsH (KS 910 s))] = [true, true, true]
    exact (congr (congrArg List.cons e0) (congr (congrArg List.cons e1) (congr (congrArg List.cons e2) rfl)))
  have hk : (dksH.map fun d => dkW (dropT xsH (KS 910 s)) d.1) = dksH.map fun d => some (itsIn w.params d.2) := rfl
  have ht : tabsB xsH (KS 910 s) = true := map_at e (runT w os)
  have ho : obH s = hkH.val w := congr (congrArg Prod.mk (congr (congrArg Prod.mk hp) (congr (congrArg Prod.mk hd) (congr (congrArg Prod.mk he) hk)))) ht
  obtain ⟨hA1, hA2⟩ := Prod.mk.inj hA
  show (xH w os).map _ = _
  rw [e]
  exact congrArg some (congr (congrArg Prod.mk hA1) (congr (congrArg Prod.mk hA2) ho))
theorem factsH {K : Fg} {h : Heap} {mg : Str → Option Value} {w : World} (X : K.In h) (G : h.Ns mainGlobals mg) (c : obsP partsH dnH exsH dksH K = valP partsH dnH exsH dksH w) : Tx K mg := by
  obtain ⟨cp, cd, ce, ck⟩ := saysP c
  have c0 := cp 0 faQ0 fnQ0 rfl
  have c1 := cp 1 faQ1 fnQ1 rfl
  have c2 := cp 2 faQ2 fnQ2 rfl
  have i_Store := inf_h (c := "Store") X G c0 0 1
  have a1 : allB K = true := ce 0 exH0 rfl
  have a2_0 : (clsH0.all fun z => clB K z) = true := ce 1 exH1 rfl
  have cl := cla_h (cs := clsH) (fp := []) X G rfl c1 a1 a2_0
  have t0 : tabB K tabH0 = true := ce 2 exH2 rfl
  have tb : tabB K tabE = true := by
    have et : tabE = tabH0 := by decide +kernel
    rw [et]
    exact t0
  refine' ⟨?_, ?_, ?_, ?_, ?_, ?_, ?_, ?_, ?_, ?_, ?_, ?_, ?_, ?_, ?_, ?_, ?_, ?_, ?_, ?_, ?_, ?_, ?_⟩
  · exact He.free_ok X G (c0.fact 2 (f := .free "max") rfl)
  · exact He.free_ok X G (c0.fact 3 (f := .free "len") rfl)
  · exact He.free_ok X G (c0.fact 4 (f := .free "range") rfl)
  · exact He.free_ok X G (c0.fact 5 (f := .free "int") rfl)
  · exact He.free_ok X G (c0.fact 6 (f := .free "isinstance") rfl)
  · exact He.free_ok X G (c0.fact 7 (f := .free "list") rfl)
  · exact exf_c tb cl (by decide +kernel) (by decide +kernel) (He.free_ok X G (c0.fact 8 (f := .free "ValueError") rfl))
  · exact atf_of (tf_cons (rf_mk i_Store (nf_cons (He.noat_ok (c0.fact 11 (f := .noat "Store" "fall") rfl)) (nf_cons (He.noat_ok (c0.fact 10 (f := .noat "Store" "kept") rfl)) (nf_cons (He.noat_ok (c0.fact 9 (f := .noat "Store" "asked") rfl)) nf_nil)))) tf_nil)
  · exact ⟨_, cl "Fallen" (by decide +kernel)⟩
  · exact ⟨_, cl "LentError" (by decide +kernel)⟩
  · exact dfn_h (fun _ _ _ _ _ _ us hl => match us, hl with | [_], _ => rfl) X G c2 0 1 0
  · exact dfnid_h (fun _ _ _ _ _ _ _ us its h1 h2 => match us, h1, its, h2 with | [_], _, [_], _ => ⟨_, rfl, rfl⟩) i_Store c2 cd 2 0
  · exact dfn_h (fun _ _ _ _ _ _ us hl => match us, hl with | [_, _], _ => rfl) X G c2 3 4 1
  · exact dfn_h (fun _ _ _ _ _ _ us hl => match us, hl with | [_, _], _ => rfl) X G c2 5 6 2
  · exact dfnm_h (fun _ _ _ _ _ _ us hl => match us, hl with | [_], _ => rfl) i_Store c2 7 3
  · exact dfn_h (fun _ _ _ _ _ _ us hl => match us, hl with | [_, _, _, _], _ => rfl) X G c2 8 9 4
  · exact dfn_h (fun _ _ _ _ _ _ us hl => match us, hl with | [_], _ => rfl) X G c2 10 11 5
  · exact dfn_h (fun _ _ _ _ _ _ us hl => match us, hl with | [_], _ => rfl) X G c2 12 13 6
  · exact dfnm_h (fun _ _ _ _ _ _ us hl => match us, hl with | [_], _ => rfl) i_Store c2 14 7
  · exact dfnm_h (fun _ _ _ _ _ _ us hl => match us, hl with | [_, _], _ => rfl) i_Store c2 15 8
  · exact dfn_h (fun _ _ _ _ _ _ us hl => match us, hl with | [_, _], _ => rfl) X G c2 16 17 9
  · exact dfn_h (fun _ _ _ _ _ _ us hl => match us, hl with | [_, _], _ => rfl) X G c2 18 19 10
  · exact dfn_h (fun _ _ _ _ _ _ us hl => match us, hl with | [_], _ => rfl) X G c2 20 21 11
theorem gloH {K : Fg} {h : Heap} {mg : Str → Option Value} {w : World} (X : K.In h) (G : h.Ns mainGlobals mg) (c : obsP partsH dnH exsH dksH K = valP partsH dnH exsH dksH w) : ∀ x ∈ xsH, mg x = some (.ref (He.ga K x)) := by
  obtain ⟨cp, cd, ce, ck⟩ := saysP c
  have c0 := cp 0 faQ0 fnQ0 rfl
  have c1 := cp 1 faQ1 fnQ1 rfl
  have c2 := cp 2 faQ2 fnQ2 rfl
  intro x hx
  unfold xsH at hx
  simp only [List.mem_cons, List.not_mem_nil, or_false] at hx
  subst hx
  exact He.glo_ok X G (c2.fact 8 (f := .glo "_law_fall") rfl)
end Lw
end
open PySem PySem.W PyProof.Rows in
set_option maxRecDepth 100000 in
set_option maxHeartbeats 0 in
theorem PySem.Challenge.cw_lentwork_k41_stores_holds : PySem.Challenge.rw_lentwork_k41_stores.Holds := by
  w_on; o_law
  refine HandSHeadRun.head_any (r := OpenLaw.row PySem.Challenge.rw_lentwork_k41_stores) (q := Lw.qvH) (H := Lw.hkH) (ob := Lw.obH) (M := 16000) (loose := Lw.looseH) (d := HandSHeadRun.topDef (OpenLaw.row PySem.Challenge.rw_lentwork_k41_stores).prog 17) (kwd := []) Lw.obH_eq (by kernel_rfl) (fun s => by kernel_rfl) Lw.runH (by kernel_rfl) (by kernel_rfl) (by kernel_rfl) (by rfl) (by first | assumption | decide +kernel) (by decide +kernel) ⟨rfl, rfl, rfl, rfl, rfl, by decide +kernel⟩ ?hw ?hc
  case hw => w_witness2
  case hc =>
    refine Lw.walkT (ah0 := Lw.ah0) (l := PySem.Challenge.rw_lentwork_k41_stores) (g := Lw.f_law) (k := 6) (x := "_law_script") (st := Lw.s_law) rfl (by kernel_rfl) ⟨rfl, by decide, by decide⟩ (by kernel_rfl) (fun _ _ _ _ _ _ _ _ => .of_eq rfl) ?F Lw.plain
    intro w mg h Y G
    obtain ⟨K, KX, c⟩ := Y
    obtain ⟨c1, c2⟩ := Lw.saysT c
    have T := Lw.factsH (Lw.dropK_in KX) G c1
    obtain ⟨t1, t2, t3, t4, t5, t6⟩ := Lw.tabs_ok (xs := Lw.xsH) (xq := Lw.xqH) rfl KX (Lw.gloH (Lw.dropK_in KX) G c1) c2
    exact ⟨_, _, Lw.dropK_in KX, t1, t2, t3, t4, t5, T.d_law, fun base f fd TB Fn => Lw.ok_all T (t6 base TB "_law_fall" (by decide)) f fd Fn⟩
#print axioms PySem.Challenge.cw_lentwork_k41_stores_holds
