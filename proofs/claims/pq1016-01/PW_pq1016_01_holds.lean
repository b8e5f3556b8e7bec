import PyProof.Rows.All
import Wide.All
import OpenK.AllK
import Wide.FinOn
import KE.KDictSum
import PyProof.ZipIter
import KE.KItemsList
import PySem.Challenge.RW_pq1016_01
open PySem PySem.W PyProof.Rows
set_option Elab.async false
set_option maxRecDepth 100000
set_option maxHeartbeats 0
open PySem.Calls
set_option linter.unusedVariables false
namespace Mine
/-- values, tokens forgotten -/
inductive V where
  | int (i : Int)
  | bool (b : Bool)
  | none
  | ref (a : Addr)
  deriving DecidableEq
noncomputable def VOk : V → Value → Prop
  | .int i, v => ∃ t, v = .int i t
  | .bool b, v => v = .bool b
  | .none, v => v = .none
  | .ref a, v => v = .ref a
inductive VsOk : List V → List Value → Prop
  | nil : VsOk [] []
  | cons {v : V} {x : Value} {vs : List V} {xs : List Value} : VOk v x → VsOk vs xs → VsOk (v :: vs) (x :: xs)
theorem VsOk.length {vs : List V} {xs : List Value} (h : VsOk vs xs) : xs.length = vs.length := by
  induction h with
  | nil => rfl
  | cons _ _ ih => simp [ih]
theorem VsOk.append {a b : List V} {x y : List Value} (h : VsOk a x) (k : VsOk b y) : VsOk (a ++ b) (x ++ y) := by
  induction h with
  | nil => exact k
  | cons h _ ih => exact .cons h ih
theorem VsOk.get {vs : List V} {xs : List Value} (h : VsOk vs xs) : ∀ {i : Nat} {v : V}, vs[i]? = some v → ∃ x, xs[i]? = some x ∧ VOk v x := by
  induction h with
  | nil => intro i v e; simp at e
  | cons h _ ih =>
    intro i v e
    cases i with
    | zero => simp at e; subst e; exact ⟨_, by simp, h⟩
    | succ j => simp at e; simpa using ih e
theorem VsOk.take {vs : List V} {xs : List Value} (h : VsOk vs xs) : ∀ n, VsOk (vs.take n) (xs.take n) := by
  induction h with
  | nil => intro n; simp; exact .nil
  | cons h _ ih => intro n; cases n with
    | zero => simp; exact .nil
    | succ n => simp; exact .cons h (ih n)
theorem VsOk.drop {vs : List V} {xs : List Value} (h : VsOk vs xs) : ∀ n, VsOk (vs.drop n) (xs.drop n) := by
  induction h with
  | nil => intro n; simp; exact .nil
  | cons h k ih => intro n; cases n with
    | zero => simp; exact .cons h k
    | succ n => simp; exact ih n
theorem VsOk.set {vs : List V} {xs : List Value} (h : VsOk vs xs) {v : V} {x : Value} (hx : VOk v x) : ∀ i, VsOk (vs.set i v) (xs.set i x) := by
  induction h with
  | nil => intro n; simp; exact .nil
  | cons h k ih => intro n; cases n with
    | zero => simp; exact .cons hx k
    | succ n => simp; exact .cons h (ih n)
theorem VsOk.none' {xs : List Value} (h : VsOk [] xs) : xs = [] := by cases h; rfl
theorem VsOk.one {v : V} {xs : List Value} (h : VsOk [v] xs) : ∃ x, xs = [x] ∧ VOk v x := by
  cases h with | cons h k => cases k; exact ⟨_, rfl, h⟩
theorem VsOk.two {v w : V} {xs : List Value} (h : VsOk [v, w] xs) : ∃ x y, xs = [x, y] ∧ VOk v x ∧ VOk w y := by
  cases h with | cons h k => obtain ⟨y, rfl, hy⟩ := k.one; exact ⟨_, _, rfl, h, hy⟩
theorem VsOk.three {v w u : V} {xs : List Value} (h : VsOk [v, w, u] xs) : ∃ x y z, xs = [x, y, z] ∧ VOk v x ∧ VOk w y ∧ VOk u z := by
  cases h with | cons h k => obtain ⟨y, z, rfl, hy, hz⟩ := k.two; exact ⟨_, _, _, rfl, h, hy, hz⟩
theorem VsOk.replicate {v : V} {x : Value} (h : VOk v x) : ∀ n, VsOk (List.replicate n v) (List.replicate n x)
  | 0 => .nil
  | n + 1 => by rw [List.replicate_succ, List.replicate_succ]; exact .cons h (VsOk.replicate h n)
theorem VsOk.ints {ns : List Int} {xs : List Value} (h : VsOk (ns.map V.int) xs) : IntsAre xs ns := by
  induction ns generalizing xs with
  | nil => cases h; exact .nil
  | cons n r ih => cases h with | cons h k => obtain ⟨t, rfl⟩ := h; exact .cons n t (ih k)
theorem VsOk.of_ints {ns : List Int} {xs : List Value} (h : IntsAre xs ns) : VsOk (ns.map V.int) xs := by
  induction h with
  | nil => exact .nil
  | cons n t _ ih => exact .cons ⟨t, rfl⟩ ih
/-- objects, tokens forgotten -/
inductive AObj where
  | list (vs : List V)
  | tup (vs : List V)
  | dict (kvs : List (Int × V))
  | inst (dx : Addr)
  | attrs (fs : List (Str × V))
  | range (a b : Int)
  | dictE (kvs : List (Int × V)) (ep : Nat)
abbrev Mem := Addr → Option AObj
abbrev Loc := List (Str × V)
inductive KvOk : List (Int × V) → List (Int × Value) → Prop
  | nil : KvOk [] []
  | cons {k : Int} {v : V} {x : Value} {vs : List (Int × V)} {xs : List (Int × Value)} : VOk v x → KvOk vs xs → KvOk ((k, v) :: vs) ((k, x) :: xs)
inductive AtOk : List (Str × V) → List DictEntry → Prop
  | nil : AtOk [] []
  | cons {x : Str} {v : V} {h : Int} {t : Tok} {y : Value} {fs : List (Str × V)} {es : List DictEntry} : VOk v y → AtOk fs es → AtOk ((x, v) :: fs) (⟨h, .str x t, y⟩ :: es)
structure Cx where
  prog : Program
  w : World
  K : Frag
  p : Program
  loose : List Str
  mean : ExcName → Option Value
  mg : Str → Option Value
  mb : Str → Option Value
  /-- the script's list, and its ints -/
  sl : Addr
  si : List Int
  /-- the class Heap -/
  hC : Addr
  /-- the defs, by their place in the text -/
  fx : Nat → Addr
noncomputable def OAt (c : Cx) (h : Heap) (a : Addr) : AObj → Prop
  | .list vs => ∃ xs n, IsL h a xs n ∧ VsOk vs xs.toList
  | .tup vs => ∃ xs n, IsT h a xs n ∧ VsOk vs xs.toList
  | .dict kvs => a ≠ sysModules ∧ ∃ kxs, h.DictOf (intKind c.prog c.w) a kxs ∧ KvOk kvs kxs
  | .inst dx => h.get? a = some (instObj c.hC dx)
  | .attrs fs => ∃ es n, h.get? a = some (dictOf es n) ∧ AtOk fs es
  | .range x y => ∃ t u v, IsRange h a x y 1 t u v
  | .dictE kvs ep => a ≠ sysModules ∧ ∃ kxs, h.DictAt (intKind c.prog c.w) a kxs ep ∧ KvOk kvs kxs
/-- a dict, its epoch told or not -/
noncomputable def IsD (mem : Mem) (d : Addr) (kvs : List (Int × V)) : Prop := mem d = some (.dict kvs) ∨ ∃ ep, mem d = some (.dictE kvs ep)
noncomputable def MemAt (c : Cx) (mem : Mem) (h : Heap) : Prop := ∀ a o, mem a = some o → OAt c h a o
theorem OAt.here {c : Cx} {h : Heap} {a : Addr} {o : AObj} (x : OAt c h a o) : ∃ ob, h.get? a = some ob := by
  cases o with
  | list vs => obtain ⟨xs, n, h1, _⟩ := x; exact ⟨_, h1⟩
  | tup vs => obtain ⟨xs, n, h1, _⟩ := x; exact ⟨_, h1⟩
  | dict kvs => obtain ⟨_, _, ⟨ob, _, _, h1, _⟩, _⟩ := x; exact ⟨_, h1⟩
  | inst dx => exact ⟨_, x⟩
  | attrs fs => obtain ⟨es, n, h1, _⟩ := x; exact ⟨_, h1⟩
  | range y z => obtain ⟨t, u, v, h1⟩ := x; exact ⟨_, h1⟩
  | dictE kvs ep => obtain ⟨_, _, ⟨ob, _, h1, _⟩, _⟩ := x; exact ⟨_, h1⟩
theorem OAt.at {c : Cx} {h h' : Heap} {a : Addr} {o : AObj} (x : OAt c h a o) (k : ∀ ob, h.get? a = some ob → h'.get? a = some ob) : OAt c h' a o := by
  cases o with
  | list vs => obtain ⟨xs, n, h1, h2⟩ := x; exact ⟨xs, n, k _ h1, h2⟩
  | tup vs => obtain ⟨xs, n, h1, h2⟩ := x; exact ⟨xs, n, k _ h1, h2⟩
  | dict kvs => obtain ⟨h0, kxs, ⟨ob, es, ep, h1, r⟩, h2⟩ := x; exact ⟨h0, kxs, ⟨ob, es, ep, k _ h1, r⟩, h2⟩
  | inst dx => exact k _ x
  | attrs fs => obtain ⟨es, n, h1, h2⟩ := x; exact ⟨es, n, k _ h1, h2⟩
  | range y z => obtain ⟨t, u, v, h1⟩ := x; exact ⟨t, u, v, k _ h1⟩
  | dictE kvs ep => obtain ⟨h0, kxs, ⟨ob, es, h1, r⟩, h2⟩ := x; exact ⟨h0, kxs, ⟨ob, es, k _ h1, r⟩, h2⟩
theorem IsD.at {c : Cx} {mem : Mem} {d : Addr} {kvs : List (Int × V)} {h : Heap} (x : IsD mem d kvs) (M : MemAt c mem h) : d ≠ sysModules ∧ ∃ kxs, h.DictOf (intKind c.prog c.w) d kxs ∧ KvOk kvs kxs := by
  rcases x with x | ⟨ep, x⟩
  · exact M d _ x
  · obtain ⟨h0, kxs, h1, h2⟩ := M d _ x
    exact ⟨h0, kxs, h1.dictOf, h2⟩
noncomputable def Room (A : Around) (n : Nat) : Prop := A.depth + 3 * n + 3 < recursionLimit ∧ A.units + 16 * n + 16 < cLine
noncomputable def Scr (c : Cx) (h : Heap) : Prop := ∃ vs, h.IsList c.sl vs.toArray ∧ IntsAre vs c.si
theorem Scr.keeps {c : Cx} {h h' : Heap} (x : Scr c h) (k : ∀ b o, h.get? b = some o → h'.get? b = some o) : Scr c h' := by
  obtain ⟨vs, ⟨o, ho, r⟩, hi⟩ := x
  exact ⟨vs, ⟨o, k _ _ ho, r⟩, hi⟩
/-- a call's frame: its scope, the heap that it may lean on, its names' object -/
structure Frm where
  env : Env
  h₀ : Heap
  L : Addr
/-- the ground under a call's frame `env` -/
structure Grd (c : Cx) (A : Around) (env : Frm) (mem : Mem) (s : Shared) : Prop where
  below : ∃ A₀ base outer, Below A₀ base outer env.h₀ ∧ A.frames = some (env.env :: outer)
  fr : ∃ m, Fr env.h₀ env.L s.heap m
  K : c.K.In env.h₀
  top : Top c.p c.loose c.mean c.mg c.mb env.h₀
  scr : Scr c env.h₀
  frame : env.env.frame = some env.L
  off : ∀ b o, env.h₀.get? b = some o → mem b = none
  offL : mem env.L = none
/-- what holds of the state around a call's frame `env` -/
structure Inv0 (c : Cx) (A : Around) (env : Frm) (mem : Mem) (s : Shared) : Prop where
  grd : Grd c A env mem s
  handled : A.handled = none
  kind : env.env.scope.kind = .function
  mem : MemAt c mem s.heap
/-- the step from s to s': everything that mem does not name stands as it stood -/
structure Step0 (mem : Mem) (s : Shared) (mem' : Mem) (s' : Shared) : Prop where
  shape : ∃ h tk, s' = { s with heap := h, toks := tk }
  keep : ∀ b o, mem b = none → s.heap.get? b = some o → s'.heap.get? b = some o ∧ mem' b = none
theorem Step0.refl (mem : Mem) (s : Shared) : Step0 mem s mem s := ⟨⟨s.heap, s.toks, rfl⟩, fun _ _ h e => ⟨e, h⟩⟩
theorem Step0.trans {m₁ m₂ m₃ : Mem} {s₁ s₂ s₃ : Shared} (x : Step0 m₁ s₁ m₂ s₂) (y : Step0 m₂ s₂ m₃ s₃) : Step0 m₁ s₁ m₃ s₃ := by
  obtain ⟨⟨h, tk, rfl⟩, k⟩ := x
  obtain ⟨⟨h', tk', rfl⟩, k'⟩ := y
  exact ⟨⟨h', tk', rfl⟩, fun b o hb e => let ⟨e1, e2⟩ := k b o hb e; k' b o e2 e1⟩
theorem Grd.step {c : Cx} {A : Around} {env : Frm} {mem mem' : Mem} {s s' : Shared} (G : Grd c A env mem s) (k : ∀ b o, (b = env.L ∨ env.h₀.get? b = some o) → mem b = none → s.heap.get? b = some o → s'.heap.get? b = some o ∧ mem' b = none) : Grd c A env mem' s' := by
  obtain ⟨m, F⟩ := G.fr
  obtain ⟨oL, es, ep, eL, r⟩ := F.ns
  have kL := k env.L oL (.inl rfl) G.offL eL
  have kb : ∀ b o, env.h₀.get? b = some o → s'.heap.get? b = some o ∧ mem' b = none := fun b o e => k b o (.inr e) (G.off b o e) (F.keep b o e)
  exact ⟨G.below, ⟨m, ⟨oL, es, ep, kL.1, r⟩, fun b o e => (kb b o e).1, F.above⟩, G.K, G.top, G.scr, G.frame, fun b o e => (kb b o e).2, kL.2⟩
theorem Inv0.step {c : Cx} {A : Around} {env : Frm} {mem mem' : Mem} {s s' : Shared} (I : Inv0 c A env mem s) (S : Step0 mem s mem' s') (M : MemAt c mem' s'.heap) : Inv0 c A env mem' s' :=
  ⟨I.grd.step fun b o _ hb e => S.keep b o hb e, I.handled, I.kind, M⟩
/-- the judgement on trees that touch no local name -/
noncomputable def W0 {α β : Type} (c : Cx) (n : Nat) (env : Frm) (R : β → α → Prop) (t : Sem α) (mem : Mem) (Q : β → Mem → Prop) : Prop :=
  ∀ (A : Around) (s : Shared) (Post : α → Shared → Prop) (E : Value → Shared → Prop), Room A n → Inv0 c A env mem s →
    (∀ b r mem' s', R b r → Inv0 c A env mem' s' → Step0 mem s mem' s' → Q b mem' → Post r s') → wpAny (model c.prog c.w) A t Post E s
theorem Room.mono {A : Around} {n m : Nat} (h : Room A n) (hm : m ≤ n) : Room A m := by
  obtain ⟨h1, h2⟩ := h
  constructor <;> omega
theorem W0.mono {α β : Type} {c : Cx} {n : Nat} {env : Frm} {R : β → α → Prop} {t : Sem α} {mem : Mem} {Q Q' : β → Mem → Prop} (h : W0 c n env R t mem Q) (hq : ∀ b m, Q b m → Q' b m) : W0 c n env R t mem Q' :=
  fun A s Post E hr I k => h A s Post E hr I fun b r mem' s' hR I' S q => k b r mem' s' hR I' S (hq _ _ q)
theorem W0.up {α β : Type} {c : Cx} {n m : Nat} {env : Frm} {R : β → α → Prop} {t : Sem α} {mem : Mem} {Q : β → Mem → Prop} (h : W0 c m env R t mem Q) (hm : m ≤ n) : W0 c n env R t mem Q :=
  fun A s Post E hr I k => h A s Post E (hr.mono hm) I k
theorem W0.pure {α β : Type} {c : Cx} {n : Nat} {env : Frm} {R : β → α → Prop} {a : α} {b : β} {mem : Mem} {Q : β → Mem → Prop} (hR : R b a) (h : Q b mem) : W0 c n env R (Pure.pure a) mem Q :=
  fun _ s _ _ _ I k => wpAny_pure (k b a mem s hR I (Step0.refl _ _) h)
noncomputable def Held (cenv : Env) (h : Heap) (mm : Str → Option Value) (x : Str) (v : V) : Prop :=
  (x == ("__debug__" : Str)) = false ∧
  ((cenv.kindOf x = some .local ∧ ∃ v', mm x = some v' ∧ VOk v v') ∨
   (cenv.kindOf x = some .cell ∧ ∃ ca v', cenv.cells.lookup x = some ca ∧ h.IsCell ca (some v') ∧ VOk v v'))
/-- what holds of the state around a frame `env` while the names of the scope `cenv` are read -/
structure Inv (c : Cx) (A : Around) (env : Frm) (cenv : Env) (loc : Loc) (mem : Mem) (s : Shared) : Prop where
  i0 : Inv0 c A env mem s
  ck : cenv.scope.kind = .function
  cg : cenv.globals = mainGlobals
  cb : cenv.builtins = builtinsNs
  ns : ∃ mm, s.heap.Ns cenv.locals mm ∧ ∀ x v, loc.lookup x = some v → Held cenv s.heap mm x v
  nl : mem cenv.locals = none
  nl0 : env.h₀.get? cenv.locals = none
  cells0 : ∀ x ca, cenv.cells.lookup x = some ca → env.h₀.get? ca = none ∧ ca ≠ env.L
  cells : ∀ x ca, cenv.cells.lookup x = some ca → mem ca = none ∧ (∃ v0, s.heap.IsCell ca v0) ∧ ca ≠ cenv.locals
  cinj : ∀ x y ca, cenv.cells.lookup x = some ca → cenv.cells.lookup y = some ca → x = y
noncomputable def Free (cenv : Env) (b : Addr) : Prop := b ≠ cenv.locals ∧ ∀ x, cenv.cells.lookup x ≠ some b
structure Step (cenv : Env) (mem : Mem) (s : Shared) (mem' : Mem) (s' : Shared) : Prop where
  shape : ∃ h tk, s' = { s with heap := h, toks := tk }
  keep : ∀ b o, mem b = none → Free cenv b → s.heap.get? b = some o → s'.heap.get? b = some o ∧ mem' b = none
theorem Step.refl (cenv : Env) (mem : Mem) (s : Shared) : Step cenv mem s mem s := ⟨⟨s.heap, s.toks, rfl⟩, fun _ _ h _ e => ⟨e, h⟩⟩
theorem Step.trans {cenv : Env} {m₁ m₂ m₃ : Mem} {s₁ s₂ s₃ : Shared} (x : Step cenv m₁ s₁ m₂ s₂) (y : Step cenv m₂ s₂ m₃ s₃) : Step cenv m₁ s₁ m₃ s₃ := by
  obtain ⟨⟨h, tk, rfl⟩, k⟩ := x
  obtain ⟨⟨h', tk', rfl⟩, k'⟩ := y
  exact ⟨⟨h', tk', rfl⟩, fun b o hb hf e => let ⟨e1, e2⟩ := k b o hb hf e; k' b o e2 hf e1⟩
theorem Step.of0 {cenv : Env} {m m' : Mem} {s s' : Shared} (x : Step0 m s m' s') : Step cenv m s m' s' := ⟨x.shape, fun b o hb _ e => x.keep b o hb e⟩
theorem Held.keeps {cenv : Env} {h h' : Heap} {mm : Str → Option Value} {x : Str} {v : V} (H : Held cenv h mm x v) (k : ∀ ca o, cenv.cells.lookup x = some ca → h.get? ca = some o → h'.get? ca = some o) : Held cenv h' mm x v := by
  obtain ⟨hd, H⟩ := H
  refine ⟨hd, H.imp id fun ⟨hk, ca, v', hc, ⟨o, ho, hdt⟩, hv⟩ => ⟨hk, ca, v', hc, ⟨o, k ca o hc ho, hdt⟩, hv⟩⟩
/-- a step that touches no local name -/
theorem Inv.step0 {c : Cx} {A : Around} {env : Frm} {cenv : Env} {loc : Loc} {mem mem' : Mem} {s s' : Shared} (I : Inv c A env cenv loc mem s) (I0 : Inv0 c A env mem' s') (S : Step0 mem s mem' s') : Inv c A env cenv loc mem' s' := by
  obtain ⟨mm, ⟨oL, es, ep, eL, r⟩, hl⟩ := I.ns
  have kc : ∀ x ca o, cenv.cells.lookup x = some ca → s.heap.get? ca = some o → s'.heap.get? ca = some o := fun x ca o hc e => (S.keep _ _ (I.cells x ca hc).1 e).1
  refine ⟨I0, I.ck, I.cg, I.cb, ⟨mm, ⟨oL, es, ep, (S.keep _ _ I.nl eL).1, r⟩, fun x v e => (hl x v e).keeps fun ca o hc ho => kc x ca o hc ho⟩, (S.keep _ _ I.nl eL).2, I.nl0, I.cells0, fun x ca hc => ?_, I.cinj⟩
  · obtain ⟨h1, ⟨v0, o, ho, hd⟩, h3⟩ := I.cells x ca hc
    exact ⟨(S.keep _ _ h1 ho).2, ⟨v0, o, (S.keep _ _ h1 ho).1, hd⟩, h3⟩
noncomputable def W {α β : Type} (c : Cx) (n : Nat) (env : Frm) (cenv : Env) (R : β → α → Prop) (t : Sem α) (loc : Loc) (mem : Mem) (Q : β → Loc → Mem → Prop) : Prop :=
  ∀ (A : Around) (s : Shared) (Post : α → Shared → Prop) (E : Value → Shared → Prop), Room A n → Inv c A env cenv loc mem s →
    (∀ b r loc' mem' s', R b r → Inv c A env cenv loc' mem' s' → Step cenv mem s mem' s' → Q b loc' mem' → Post r s') → wpAny (model c.prog c.w) A t Post E s
section
variable {α β γ δ : Type} {c : Cx} {n : Nat} {env : Frm} {cenv : Env} {R : β → α → Prop} {R' : δ → γ → Prop} {loc : Loc} {mem : Mem}
theorem W.of0 {t : Sem α} {Q : β → Loc → Mem → Prop} (h : W0 c n env R t mem (fun b m => Q b loc m)) : W c n env cenv R t loc mem Q :=
  fun A s Post E hr I k => h A s Post E hr I.i0 fun b r mem' s' hR I' S q => k b r loc mem' s' hR (I.step0 I' S) (Step.of0 S) q
theorem W.mono {t : Sem α} {Q Q' : β → Loc → Mem → Prop} (h : W c n env cenv R t loc mem Q) (hq : ∀ b l m, Q b l m → Q' b l m) : W c n env cenv R t loc mem Q' :=
  fun A s Post E hr I k => h A s Post E hr I fun b r l' mem' s' hR I' S q => k b r l' mem' s' hR I' S (hq _ _ _ q)
theorem W.pure {a : α} {b : β} {Q : β → Loc → Mem → Prop} (hR : R b a) (h : Q b loc mem) : W c n env cenv R (Pure.pure a) loc mem Q :=
  fun _ s _ _ _ I k => wpAny_pure (k b a loc mem s hR I (Step.refl _ _ _) h)
end
noncomputable def FOkV : Option V → Option Value → Prop
  | some v, some x => VOk v x
  | none, none => True
  | _, _ => False
inductive Out where
  | next | brk | cont
  | ret (v : V)
noncomputable def FOk : Out → Flow → Prop
  | .next, f => f = .next
  | .brk, f => f = .brk
  | .cont, f => f = .cont
  | .ret v, f => ∃ x, f = .ret x ∧ VOk v x
theorem vint (i : Int) (t : Tok) : VOk (.int i) (.int i t) := ⟨t, rfl⟩
section
variable {c : Cx} {n : Nat} {env : Frm} {cenv : Env} {loc : Loc} {mem : Mem} {Q : V → Loc → Mem → Prop}
abbrev EV (c : Cx) (n : Nat) (env : Frm) (cenv : Env) (e : Expr) (loc : Loc) (mem : Mem) (Q : V → Loc → Mem → Prop) : Prop := W c n env cenv VOk (eval e cenv) loc mem Q
noncomputable def BOp (c : Cx) (n : Nat) (env : Frm) (cenv : Env) (op : Operator) (a b : V) (loc : Loc) (mem : Mem) (Q : V → Loc → Mem → Prop) : Prop :=
  ∀ a' b', VOk a a' → VOk b b' → W c n env cenv VOk (binaryOp op a' b') loc mem Q
noncomputable def COp (c : Cx) (n : Nat) (env : Frm) (cenv : Env) (op : CmpOp) (a b : V) (loc : Loc) (mem : Mem) (Q : V → Loc → Mem → Prop) : Prop :=
  ∀ a' b', VOk a a' → VOk b b' → W c n env cenv VOk (compareOp op a' b') loc mem Q
noncomputable def Tru (c : Cx) (n : Nat) (env : Frm) (cenv : Env) (a : V) (loc : Loc) (mem : Mem) (Q : Bool → Loc → Mem → Prop) : Prop :=
  ∀ a', VOk a a' → W c n env cenv Eq (truthy a') loc mem Q
abbrev Test (c : Cx) (n : Nat) (env : Frm) (cenv : Env) (e : Expr) (loc : Loc) (mem : Mem) (Q : Bool → Loc → Mem → Prop) : Prop :=
  W c n env cenv Eq (isTrue e cenv (eval e cenv)) loc mem Q
/-- the name's facts, out of the invariant -/
theorem Inv.name {A : Around} {s : Shared} {x : Str} {pos : Pos} {v : V} {E : Value → Shared → Prop} {P : Value → Shared → Prop} (I : Inv c A env cenv loc mem s) (hx : loc.lookup x = some v) (h : ∀ v', VOk v v' → P v' s) :
    wpAny (model c.prog c.w) A (eval (.Name x pos) cenv) P E s := by
  obtain ⟨mm, hns, hl⟩ := I.ns
  obtain ⟨hd, hl⟩ := hl x v hx
  rcases hl with ⟨hk, v', hv, hok⟩ | ⟨hk, ca, v', hc, hcell, hok⟩
  · exact wpAny_Name (wpAny_loadName_local I.ck hk hns hv (h v' hok)) hd
  · exact wpAny_Name (wpAny_loadName_cell I.ck hk hc hcell (h v' hok)) hd
theorem EV.name {x : Str} {pos : Pos} {v : V} (hx : loc.lookup x = some v) (h : Q v loc mem) : EV c n env cenv (.Name x pos) loc mem Q :=
  fun A s Post E hr I k => I.name hx fun v' hv => k v v' loc mem s hv I (Step.refl _ _ _) h
theorem W.NameG {x : Str} {pos : Pos} {x' : Value} {β : Type} {R : β → Value → Prop} {b : β} {Q : β → Loc → Mem → Prop} (hg : nsIn c.K mainGlobals x = some (some x')) (hR : R b x') (h : Q b loc mem) (hk : cenv.kindOf x = some .globalImplicit := by rfl) (hd : (x == ("__debug__" : Str)) = false := by rfl) :
    W c n env cenv R (eval (.Name x pos) cenv) loc mem Q :=
  fun A s Post E hr I k => by
    have G := I.i0.grd
    obtain ⟨m, F⟩ := G.fr
    have X := G.K
    have T := G.top
    exact nameG_K F X (topRead_of T) hg (k b x' loc mem s hR I (Step.refl _ _ _) h) I.cg I.ck hk hd
theorem W.NameB {x : Str} {pos : Pos} {x' : Value} {β : Type} {R : β → Value → Prop} {b : β} {Q : β → Loc → Mem → Prop} (hg : nsIn c.K mainGlobals x = some none) (hb : bootBuiltins x = some x') (hn : x ≠ "__name__") (hR : R b x') (h : Q b loc mem) (hk : cenv.kindOf x = some .globalImplicit := by rfl) (hd : (x == ("__debug__" : Str)) = false := by rfl) :
    W c n env cenv R (eval (.Name x pos) cenv) loc mem Q :=
  fun A s Post E hr I k => by
    have G := I.i0.grd
    obtain ⟨m, F⟩ := G.fr
    have X := G.K
    have T := G.top
    refine Name_function_global I.ck hk (loadGlobal_builtin (mg := c.mg) (mb := c.mb) (by rw [I.cg]; exact T.g.keeps F.keep) (mg_none_of X T.g hg) (by rw [I.cb]; exact T.b.keeps F.keep) ((T.builtins x hn).trans hb) (k b x' loc mem s hR I (Step.refl _ _ _) h)) hd
theorem W.tok {A : Around} {s : Shared} {tk : Nat} (I : Inv c A env cenv loc mem s) : Inv c A env cenv loc mem { s with toks := tk } ∧ Step cenv mem s mem { s with toks := tk } := by
  have S0 : Step0 mem s mem { s with toks := tk } := ⟨⟨s.heap, tk, rfl⟩, fun b o h e => ⟨e, h⟩⟩
  exact ⟨I.step0 (I.i0.step S0 I.i0.mem) S0, Step.of0 S0⟩
theorem EV.int {i : Int} {k : Nat} {pos : Pos} (h : Q (.int i) loc mem) : EV c n env cenv (.Constant (.int i) k pos) loc mem Q :=
  fun A s Post E hr I kk => wpAny_Constant_int (kk (.int i) _ loc mem _ ⟨_, rfl⟩ (W.tok I).1 (W.tok I).2 h)
theorem EV.noneC {k : Nat} {pos : Pos} (h : Q .none loc mem) : EV c n env cenv (.Constant .none k pos) loc mem Q :=
  fun A s Post E hr I kk => wpAny_Constant_none (kk .none _ loc mem _ rfl I (Step.refl _ _ _) h)
theorem EV.boolC {b : Bool} {k : Nat} {pos : Pos} (h : Q (.bool b) loc mem) : EV c n env cenv (.Constant (.bool b) k pos) loc mem Q :=
  fun A s Post E hr I kk => wpAny_Constant_bool (kk (.bool b) _ loc mem _ rfl I (Step.refl _ _ _) h)
theorem EV.binop {l r : Expr} {op : Operator} {pos : Pos} (h : EV c n env cenv l loc mem (fun a l1 m1 => EV c n env cenv r l1 m1 (fun b l2 m2 => BOp c n env cenv op a b l2 m2 Q))) : EV c n env cenv (.BinOp l op r pos) loc mem Q :=
  fun A s Post E hr I k => wpAny_BinOp (h A s _ E hr I fun a a' l1 m1 s1 ha I1 S1 h1 => h1 A s1 _ E hr I1 fun b b' l2 m2 s2 hb I2 S2 h2 => h2 a' b' ha hb A s2 _ E hr I2 fun v v' l3 m3 s3 hv I3 S3 q => k v v' l3 m3 s3 hv I3 ((S1.trans S2).trans S3) q)
theorem EV.compare {l r : Expr} {op : CmpOp} {pos : Pos} (h : EV c n env cenv l loc mem (fun a l1 m1 => EV c n env cenv r l1 m1 (fun b l2 m2 => COp c n env cenv op a b l2 m2 Q))) (hm : behindInMarks op r = false := by with_unfolding_all rfl) : EV c n env cenv (.Compare l [op] [r] pos) loc mem Q :=
  fun A s Post E hr I k => wpAny_Compare1 (h A s _ E hr I fun a a' l1 m1 s1 ha I1 S1 h1 => h1 A s1 _ E hr I1 fun b b' l2 m2 s2 hb I2 S2 h2 => h2 a' b' ha hb A s2 _ E hr I2 fun v v' l3 m3 s3 hv I3 S3 q => k v v' l3 m3 s3 hv I3 ((S1.trans S2).trans S3) q) hm
theorem BOp.add {x y : Int} (h : Q (.int (x + y)) loc mem) : BOp c n env cenv .Add (.int x) (.int y) loc mem Q := by
  rintro _ _ ⟨t, rfl⟩ ⟨u, rfl⟩ A s Post E hr I k
  exact add_int (k _ _ loc mem _ (vint _ _) (W.tok I).1 (W.tok I).2 h)
theorem BOp.sub {x y : Int} (h : Q (.int (x - y)) loc mem) : BOp c n env cenv .Sub (.int x) (.int y) loc mem Q := by
  rintro _ _ ⟨t, rfl⟩ ⟨u, rfl⟩ A s Post E hr I k
  exact sub_int (k _ _ loc mem _ (vint _ _) (W.tok I).1 (W.tok I).2 h)
theorem intBits_small {x : Int} (h : x.natAbs < 2 ^ 60) : ¬ Builtin.Int.intBits x > shortFactorBits := by
  unfold Builtin.Int.intBits shortFactorBits
  split
  · simp
  · rename_i h0
    have h1 : x ≠ 0 := by simpa using h0
    have := (Nat.log2_lt (by omega)).mpr h
    omega
theorem BOp.mul {x y : Int} (h : Q (.int (x * y)) loc mem) (hy : y.natAbs < 2 ^ 60) : BOp c n env cenv .Mult (.int x) (.int y) loc mem Q := by
  rintro _ _ ⟨t, rfl⟩ ⟨u, rfl⟩ A s Post E hr I k
  refine mul_int (k _ _ loc mem _ (vint _ _) (W.tok I).1 (W.tok I).2 h) ?_
  unfold IntMulOk
  simp [intBits_small hy]
theorem BOp.mod {x y : Int} (h : Q (.int (Int.fmod x y)) loc mem) (hy : y ≠ 0) : BOp c n env cenv .Mod (.int x) (.int y) loc mem Q := by
  rintro _ _ ⟨t, rfl⟩ ⟨u, rfl⟩ A s Post E hr I k
  exact mod_int' hy (k _ _ loc mem _ (vint _ _) (W.tok I).1 (W.tok I).2 h)
theorem BOp.fdiv {x y : Int} (h : Q (.int (Int.fdiv x y)) loc mem) (hy : y ≠ 0) (hs : y.natAbs < 2 ^ 60) : BOp c n env cenv .FloorDiv (.int x) (.int y) loc mem Q := by
  rintro _ _ ⟨t, rfl⟩ ⟨u, rfl⟩ A s Post E hr I k
  refine floordiv_int hy (k _ _ loc mem _ (vint _ _) (W.tok I).1 (W.tok I).2 h) (.inl ?_)
  unfold Builtin.divisionGoesByPylong
  have h1 : y.natAbs.log2 < 60 := (Nat.log2_lt (by omega)).mpr hs
  have h0 : (y == 0) = false := by simpa using hy
  simp only [h0]
  rw [Bool.and_eq_false_iff]
  left
  simp
  omega
theorem COp.eqI {x y : Int} (h : Q (.bool (x == y)) loc mem) : COp c n env cenv .Eq (.int x) (.int y) loc mem Q := by
  rintro _ _ ⟨t, rfl⟩ ⟨u, rfl⟩ A s Post E hr I k
  exact eq_int (k (.bool (x == y)) _ loc mem _ rfl I (Step.refl _ _ _) h)
theorem COp.neI {x y : Int} (h : Q (.bool (x != y)) loc mem) : COp c n env cenv .NotEq (.int x) (.int y) loc mem Q := by
  rintro _ _ ⟨t, rfl⟩ ⟨u, rfl⟩ A s Post E hr I k
  exact ne_int (k (.bool (x != y)) _ loc mem _ rfl I (Step.refl _ _ _) h)
theorem COp.ltI {x y : Int} (h : Q (.bool (decide (x < y))) loc mem) : COp c n env cenv .Lt (.int x) (.int y) loc mem Q := by
  rintro _ _ ⟨t, rfl⟩ ⟨u, rfl⟩ A s Post E hr I k
  exact lt_int (k (.bool (decide (x < y))) _ loc mem _ rfl I (Step.refl _ _ _) h)
theorem COp.leI {x y : Int} (h : Q (.bool (decide (x ≤ y))) loc mem) : COp c n env cenv .LtE (.int x) (.int y) loc mem Q := by
  rintro _ _ ⟨t, rfl⟩ ⟨u, rfl⟩ A s Post E hr I k
  exact le_int (k (.bool (decide (x ≤ y))) _ loc mem _ rfl I (Step.refl _ _ _) h)
theorem COp.gtI {x y : Int} (h : Q (.bool (decide (y < x))) loc mem) : COp c n env cenv .Gt (.int x) (.int y) loc mem Q := by
  rintro _ _ ⟨t, rfl⟩ ⟨u, rfl⟩ A s Post E hr I k
  exact gt_int (k (.bool (decide (y < x))) _ loc mem _ rfl I (Step.refl _ _ _) h)
theorem COp.geI {x y : Int} (h : Q (.bool (decide (y ≤ x))) loc mem) : COp c n env cenv .GtE (.int x) (.int y) loc mem Q := by
  rintro _ _ ⟨t, rfl⟩ ⟨u, rfl⟩ A s Post E hr I k
  exact ge_int (k (.bool (decide (y ≤ x))) _ loc mem _ rfl I (Step.refl _ _ _) h)
end
section
variable {c : Cx} {n : Nat} {env : Frm} {cenv : Env} {loc : Loc} {mem : Mem}
/-- truth of values -/
theorem Tru.bool {b : Bool} {Q : Bool → Loc → Mem → Prop} (h : Q b loc mem) : Tru c n env cenv (.bool b) loc mem Q := by
  rintro _ rfl A s Post E hr I k
  exact wpAny_truthy_bool (k b b loc mem s rfl I (Step.refl _ _ _) h)
theorem Test.plain {e : Expr} {Q : Bool → Loc → Mem → Prop} (h : EV c n env cenv e loc mem (fun a l m => Tru c n env cenv a l m Q))
    (he : isTrue e cenv (eval e cenv) = (do let v ← eval e cenv; standAt e.pos; holding [v] (truthy v)) := by rfl) : Test c n env cenv e loc mem Q :=
  fun A s Post E hr I k => wpAny_isTrue_value (h A s _ E hr I fun a a' l1 m1 s1 ha I1 S1 h1 => h1 a' ha A s1 _ E hr I1 fun b r l2 m2 s2 hb I2 S2 q => k b r l2 m2 s2 hb I2 (S1.trans S2) q) he
theorem Test.cmp {l r : Expr} {op : CmpOp} {pos : Pos} {Q : Bool → Loc → Mem → Prop} (h : EV c n env cenv l loc mem (fun a l1 m1 => EV c n env cenv r l1 m1 (fun b l2 m2 => COp c n env cenv op a b l2 m2 (fun v l3 m3 => Tru c n env cenv v l3 m3 Q))))
    (hm : behindInMarks op r = false := by with_unfolding_all rfl) : Test c n env cenv (.Compare l [op] [r] pos) loc mem Q :=
  fun A s Post E hr I k => wpAny_isTrue_Compare1 (h A s _ E hr I fun a a' l1 m1 s1 ha I1 S1 h1 => h1 A s1 _ E hr I1 fun b b' l2 m2 s2 hb I2 S2 h2 => h2 a' b' ha hb A s2 _ E hr I2 fun v v' l3 m3 s3 hv I3 S3 h3 =>
    h3 v' hv A s3 _ E hr I3 fun b r l4 m4 s4 hb I4 S4 q => k b r l4 m4 s4 hb I4 (((S1.trans S2).trans S3).trans S4) q) hm
theorem Test.cmp2 {l r₁ r₂ : Expr} {op₁ op₂ : CmpOp} {pos : Pos} {Q : Bool → Loc → Mem → Prop}
    (h : EV c n env cenv l loc mem (fun a l1 m1 => EV c n env cenv r₁ l1 m1 (fun b l2 m2 => COp c n env cenv op₁ a b l2 m2 (fun v l3 m3 => Tru c n env cenv v l3 m3 (fun t l4 m4 =>
      if t then EV c n env cenv r₂ l4 m4 (fun d l5 m5 => COp c n env cenv op₂ b d l5 m5 (fun v l6 m6 => Tru c n env cenv v l6 m6 Q)) else Q false l4 m4)))))
    (hm : lastMarks [op₁, op₂] [r₁, r₂] = false := by with_unfolding_all rfl) : Test c n env cenv (.Compare l [op₁, op₂] [r₁, r₂] pos) loc mem Q :=
  fun A s Post E hr I k => isTrue_chain (h A s _ E hr I fun a a' l1 m1 s1 ha I1 S1 h1 => test_link (h1 A s1 _ E hr I1 fun b b' l2 m2 s2 hb I2 S2 h2 => h2 a' b' ha hb A s2 _ E hr I2 fun v v' l3 m3 s3 hv I3 S3 h3 =>
    h3 v' hv A s3 _ E hr I3 fun t r l4 m4 s4 ht I4 S4 h4 => by
      subst ht
      cases t
      · exact k false false l4 m4 s4 rfl I4 (((S1.trans S2).trans S3).trans S4) h4
      · exact test_last (h4 A s4 _ E hr I4 fun d d' l5 m5 s5 hd I5 S5 h5 => h5 b' d' hb hd A s5 _ E hr I5 fun v v' l6 m6 s6 hv I6 S6 h6 => h6 v' hv A s6 _ E hr I6 fun b r l7 m7 s7 hb I7 S7 q =>
          k b r l7 m7 s7 hb I7 ((((((S1.trans S2).trans S3).trans S4).trans S5).trans S6).trans S7) q))) hm
theorem Test.not {x : Expr} {pos : Pos} {Q : Bool → Loc → Mem → Prop} (h : Test c n env cenv x loc mem (fun b l m => Q (!b) l m)) : Test c n env cenv (.UnaryOp .Not x pos) loc mem Q :=
  fun A s Post E hr I k => wpAny_isTrue_Not (h A s _ E hr I fun b r l m s' hb I' S q => by subst hb; exact k _ _ l m s' rfl I' S q)
abbrev Alls (c : Cx) (n : Nat) (env : Frm) (cenv : Env) (op : BoolOp) (es : List Expr) (loc : Loc) (mem : Mem) (Q : Bool → Loc → Mem → Prop) : Prop := W c n env cenv Eq (allTrue op es cenv) loc mem Q
theorem Test.boolop {op : BoolOp} {es : List Expr} {pos : Pos} {Q : Bool → Loc → Mem → Prop} (h : Alls c n env cenv op es loc mem Q) : Test c n env cenv (.BoolOp op es pos) loc mem Q :=
  fun A s Post E hr I k => wpAny_isTrue_BoolOp (h A s _ E hr I k)
theorem Alls.andNil {Q : Bool → Loc → Mem → Prop} (h : Q true loc mem) : Alls c n env cenv .And [] loc mem Q :=
  fun A s Post E hr I k => wpAny_allTrue_And_nil (k true true loc mem s rfl I (Step.refl _ _ _) h)
theorem Alls.orNil {Q : Bool → Loc → Mem → Prop} (h : Q false loc mem) : Alls c n env cenv .Or [] loc mem Q :=
  fun A s Post E hr I k => wpAny_allTrue_Or_nil (k false false loc mem s rfl I (Step.refl _ _ _) h)
theorem Alls.and {x : Expr} {rest : List Expr} {Q : Bool → Loc → Mem → Prop} (h : Test c n env cenv x loc mem (fun b l m => if b then Alls c n env cenv .And rest l m Q else Q false l m)) : Alls c n env cenv .And (x :: rest) loc mem Q :=
  fun A s Post E hr I k => wpAny_allTrue_And_cons (h A s _ E hr I fun b r l m s' hb I' S q => by
    subst hb
    cases b
    · exact k false false l m s' rfl I' S q
    · exact q A s' _ E hr I' fun b r l2 m2 s2 hb I2 S2 q2 => k b r l2 m2 s2 hb I2 (S.trans S2) q2)
theorem Alls.or {x : Expr} {rest : List Expr} {Q : Bool → Loc → Mem → Prop} (h : Test c n env cenv x loc mem (fun b l m => if b then Q true l m else Alls c n env cenv .Or rest l m Q)) : Alls c n env cenv .Or (x :: rest) loc mem Q :=
  fun A s Post E hr I k => wpAny_allTrue_Or_cons (h A s _ E hr I fun b r l m s' hb I' S q => by
    subst hb
    cases b
    · exact q A s' _ E hr I' fun b r l2 m2 s2 hb I2 S2 q2 => k b r l2 m2 s2 hb I2 (S.trans S2) q2
    · exact k true true l m s' rfl I' S q)
variable {Q : V → Loc → Mem → Prop}
theorem EV.and2 {x y : Expr} {pos : Pos} (h : EV c n env cenv x loc mem (fun v l m => Tru c n env cenv v l m (fun t l m => if t then EV c n env cenv y l m Q else Q v l m))) : EV c n env cenv (.BoolOp .And [x, y] pos) loc mem Q :=
  fun A s Post E hr I k => wpAny_And2 (h A s _ E hr I fun v v' l m s' hv I' S h1 => h1 v' hv A s' _ E hr I' fun t r l2 m2 s2 ht I2 S2 h2 => by
    subst ht
    cases t
    · exact k v v' l2 m2 s2 hv I2 (S.trans S2) h2
    · exact h2 A s2 _ E hr I2 fun b r l3 m3 s3 hb I3 S3 q => k b r l3 m3 s3 hb I3 ((S.trans S2).trans S3) q)
theorem EV.ifexp {t x y : Expr} {pos : Pos} (h : Test c n env cenv t loc mem (fun b l m => if b then EV c n env cenv x l m Q else EV c n env cenv y l m Q)) : EV c n env cenv (.IfExp t x y pos) loc mem Q :=
  fun A s Post E hr I k => wpAny_IfExp (h A s _ E hr I fun b r l m s' hb I' S q => by
    subst hb
    cases b
    · exact q A s' _ E hr I' fun b r l2 m2 s2 hb I2 S2 q2 => k b r l2 m2 s2 hb I2 (S.trans S2) q2
    · exact q A s' _ E hr I' fun b r l2 m2 s2 hb I2 S2 q2 => k b r l2 m2 s2 hb I2 (S.trans S2) q2)
theorem EV.neg {x : Expr} {pos : Pos} (h : EV c n env cenv x loc mem (fun v l m => ∃ i, v = .int i ∧ Q (.int (-i)) l m)) : EV c n env cenv (.UnaryOp .USub x pos) loc mem Q :=
  fun A s Post E hr I k => wpAny_UnaryOp (h A s _ E hr I fun v v' l m s' hv I' S ⟨i, e, q⟩ => by
    subst e
    obtain ⟨t, rfl⟩ := hv
    exact neg_int (k _ _ l m _ (vint _ _) (W.tok I').1 (S.trans (W.tok I').2) q))
/-- arguments -/
abbrev Args (c : Cx) (n : Nat) (env : Frm) (cenv : Env) (pos : Pos) (es : List Expr) (loc : Loc) (mem : Mem) (Q : List V → Loc → Mem → Prop) : Prop :=
  W c n env cenv VsOk (spliced (backTo pos (starEach es cenv))) loc mem Q
theorem Args.nil {pos : Pos} {Q : List V → Loc → Mem → Prop} (h : Q [] loc mem) : Args c n env cenv pos [] loc mem Q :=
  fun A s Post E hr I k => wpAny_items_nil (k [] [] loc mem s .nil I (Step.refl _ _ _) h)
theorem Args.cons {pos : Pos} {e : Expr} {rest : List Expr} {Q : List V → Loc → Mem → Prop} (h : EV c n env cenv e loc mem (fun v l m => Args c n env cenv pos rest l m (fun vs l m => Q (v :: vs) l m)))
    (he : starEach (e :: rest) cenv = (false, eval e cenv) :: starEach rest cenv := by rfl) : Args c n env cenv pos (e :: rest) loc mem Q :=
  fun A s Post E hr I k => wpAny_items_cons (h A s _ E hr I fun v v' l m s' hv I' S h1 => h1 A s' _ E hr I' fun vs xs l2 m2 s2 hvs I2 S2 q => k (v :: vs) (v' :: xs) l2 m2 s2 (.cons hv hvs) I2 (S.trans S2) q) he
/-- a new object: its address is any that mem does not name -/
noncomputable def set (mem : Mem) (a : Addr) (o : AObj) : Mem := fun b => if b = a then some o else mem b
theorem set_self {mem : Mem} {a : Addr} {o : AObj} : set mem a o a = some o := by simp [set]
theorem set_ne {mem : Mem} {a b : Addr} {o : AObj} (h : b ≠ a) : set mem a o b = mem b := by simp [set, h]
theorem get_none_size {h : Heap} {a : Addr} (ha : h.objs.size ≤ a) : h.get? a = none := by
  cases e : h.get? a with
  | none => rfl
  | some o => exact absurd (Heap.lt_size e) (Nat.not_lt.mpr ha)
theorem Inv0.fresh {A : Around} {s : Shared} (I : Inv0 c A env mem s) {a : Addr} (ha : s.heap.objs.size ≤ a) : mem a = none := by
  cases e : mem a with
  | none => rfl
  | some o => obtain ⟨ob, h⟩ := (I.mem a o e).here; exact absurd (Heap.lt_size h) (Nat.not_lt.mpr ha)
/-- the heap grows by objects that nothing knows of -/
theorem Step0.grow {s : Shared} {h' : Heap} {tk : Nat} (k : ∀ b o, s.heap.get? b = some o → h'.get? b = some o) : Step0 mem s mem { s with heap := h', toks := tk } :=
  ⟨⟨h', tk, rfl⟩, fun b o hb e => ⟨k b o e, hb⟩⟩
theorem Inv0.grow {A : Around} {s : Shared} (I : Inv0 c A env mem s) {h' : Heap} {tk : Nat} (k : ∀ b o, s.heap.get? b = some o → h'.get? b = some o) : Inv0 c A env mem { s with heap := h', toks := tk } :=
  I.step (Step0.grow k) fun a o e => (I.mem a o e).at fun ob h => k a ob h
/-- a new object that mem names from now on -/
theorem Inv0.made {A : Around} {s : Shared} (I : Inv0 c A env mem s) {h' : Heap} {tk : Nat} {a : Addr} {o : AObj} (k : ∀ b o, s.heap.get? b = some o → h'.get? b = some o) (ha : s.heap.objs.size ≤ a) (ho : OAt c h' a o) :
    Inv0 c A env (set mem a o) { s with heap := h', toks := tk } ∧ Step0 mem s (set mem a o) { s with heap := h', toks := tk } := by
  have S : Step0 mem s (set mem a o) { s with heap := h', toks := tk } := ⟨⟨h', tk, rfl⟩, fun b ob hb e => ⟨k b ob e, by
    have hne : b ≠ a := Nat.ne_of_lt (Nat.lt_of_lt_of_le (Heap.lt_size e) ha)
    rw [set_ne hne]; exact hb⟩⟩
  refine ⟨I.step S fun b ob e => ?_, S⟩
  by_cases hb : b = a
  · subst hb
    rw [set_self] at e; cases e; exact ho
  · rw [set_ne hb] at e
    exact (I.mem b ob e).at fun ob h => k b ob h
/-- an object of mem's changes -/
theorem Inv0.upd {A : Around} {s : Shared} (I : Inv0 c A env mem s) {h' : Heap} {tk : Nat} {a : Addr} {o o' : AObj} (hm : mem a = some o) (hs : Heap.SameBut a s.heap h') (ho : OAt c h' a o') :
    Inv0 c A env (set mem a o') { s with heap := h', toks := tk } ∧ Step0 mem s (set mem a o') { s with heap := h', toks := tk } := by
  have S : Step0 mem s (set mem a o') { s with heap := h', toks := tk } := ⟨⟨h', tk, rfl⟩, fun b ob hb e => by
    have hne : b ≠ a := fun q => by rw [q, hm] at hb; cases hb
    exact ⟨(hs.2 b hne).trans e, by rw [set_ne hne]; exact hb⟩⟩
  refine ⟨I.step S fun b ob e => ?_, S⟩
  by_cases hb : b = a
  · subst hb
    rw [set_self] at e; cases e; exact ho
  · rw [set_ne hb] at e
    exact (I.mem b ob e).at fun ob h => (hs.2 b hb).trans h
theorem Inv.grow {A : Around} {s : Shared} (I : Inv c A env cenv loc mem s) {h' : Heap} {tk : Nat} (k : ∀ b o, s.heap.get? b = some o → h'.get? b = some o) :
    Inv c A env cenv loc mem { s with heap := h', toks := tk } ∧ Step cenv mem s mem { s with heap := h', toks := tk } :=
  ⟨I.step0 (I.i0.grow k) (Step0.grow k), Step.of0 (Step0.grow k)⟩
theorem Inv.made {A : Around} {s : Shared} (I : Inv c A env cenv loc mem s) {h' : Heap} {tk : Nat} {a : Addr} {o : AObj} (k : ∀ b o, s.heap.get? b = some o → h'.get? b = some o) (ha : s.heap.objs.size ≤ a) (ho : OAt c h' a o) :
    Inv c A env cenv loc (set mem a o) { s with heap := h', toks := tk } ∧ Step cenv mem s (set mem a o) { s with heap := h', toks := tk } :=
  let ⟨I0, S⟩ := I.i0.made (tk := tk) k ha ho
  ⟨I.step0 I0 S, Step.of0 S⟩
theorem Inv.upd {A : Around} {s : Shared} (I : Inv c A env cenv loc mem s) {h' : Heap} {tk : Nat} {a : Addr} {o o' : AObj} (hm : mem a = some o) (hs : Heap.SameBut a s.heap h') (ho : OAt c h' a o') :
    Inv c A env cenv loc (set mem a o') { s with heap := h', toks := tk } ∧ Step cenv mem s (set mem a o') { s with heap := h', toks := tk } :=
  let ⟨I0, S⟩ := I.i0.upd (tk := tk) hm hs ho
  ⟨I.step0 I0 S, Step.of0 S⟩
theorem EV.tuple {es : List Expr} {k : Nat} {pos : Pos} (h : Args c n env cenv pos es loc mem (fun vs l m => vs.length ≤ 1000 ∧ ∀ a, m a = none → Q (.ref a) l (set m a (.tup vs)))) : EV c n env cenv (.Tuple es k pos) loc mem Q :=
  fun A s Post E hr I kk => wpAny_Tuple (h A s _ E hr I fun vs xs l m s' hvs I' S ⟨hz, q⟩ => by
    have hx := hvs.length
    have hm := I'.made (tk := s'.toks) (h' := s'.heap.push { cls := .type "tuple", data := .seq xs.toArray }) (a := s'.heap.objs.size) (o := .tup vs) (fun b o e => Heap.get?_push_of_some _ e) (Nat.le_refl _) ⟨xs.toArray, 0, IsT.new _ _, by simpa using hvs⟩
    exact ⟨by rw [sizeLine_eq]; omega, kk (.ref s'.heap.objs.size) _ l _ _ rfl hm.1 (S.trans hm.2) (q _ (I'.i0.fresh (Nat.le_refl _)))⟩)
theorem EV.list {es : List Expr} {pos : Pos} (h : Args c n env cenv pos es loc mem (fun vs l m => vs.length ≤ 1000 ∧ ∀ a, m a = none → Q (.ref a) l (set m a (.list vs)))) : EV c n env cenv (.List es pos) loc mem Q :=
  fun A s Post E hr I kk => wpAny_List (h A s _ E hr I fun vs xs l m s' hvs I' S ⟨hz, q⟩ => by
    have hx := hvs.length
    have hm := I'.made (tk := s'.toks) (h' := s'.heap.push { cls := .type "list", data := .seq xs.toArray }) (a := s'.heap.objs.size) (o := .list vs) (fun b o e => Heap.get?_push_of_some _ e) (Nat.le_refl _) ⟨xs.toArray, 0, IsL.new _ _, by simpa using hvs⟩
    exact ⟨by rw [sizeLine_eq]; omega, kk (.ref s'.heap.objs.size) _ l _ _ rfl hm.1 (S.trans hm.2) (q _ (I'.i0.fresh (Nat.le_refl _)))⟩)
end
theorem KvOk.lookup {kvs : List (Int × V)} {kxs : List (Int × Value)} (h : KvOk kvs kxs) (k : Int) : match kvs.lookup k with | some v => ∃ x, valueAt kxs k = some x ∧ VOk v x | none => valueAt kxs k = none := by
  induction h with
  | nil => simp [valueAt]
  | @cons k' v x vs xs hv _ ih =>
    rw [List.lookup_cons]
    by_cases hk : k = k'
    · subst hk; simp [valueAt, hv]
    · rw [beq_eq_false_iff_ne.mpr hk]
      have : valueAt ((k', x) :: xs) k = valueAt xs k := by simp [valueAt, Ne.symm hk]
      rw [this]
      exact ih
theorem KvOk.length {kvs : List (Int × V)} {kxs : List (Int × Value)} (h : KvOk kvs kxs) : kxs.length = kvs.length := by
  induction h with
  | nil => rfl
  | cons _ _ ih => simp [ih]
theorem KvOk.keys {kvs : List (Int × V)} {kxs : List (Int × Value)} (h : KvOk kvs kxs) : kxs.map (·.1) = kvs.map (·.1) := by
  induction h with
  | nil => rfl
  | cons _ _ ih => simp [ih]
/-- a dict with one more pair stored -/
noncomputable def put (kvs : List (Int × V)) (k : Int) (v : V) : List (Int × V) := if kvs.any (fun kv => kv.1 = k) then kvs.map (fun kv => if kv.1 = k then (kv.1, v) else kv) else kvs ++ [(k, v)]
theorem KvOk.append {a b : List (Int × V)} {x y : List (Int × Value)} (h : KvOk a x) (k : KvOk b y) : KvOk (a ++ b) (x ++ y) := by
  induction h with
  | nil => exact k
  | cons h _ ih => exact .cons h ih
theorem KvOk.put {kvs : List (Int × V)} {kxs : List (Int × Value)} (h : KvOk kvs kxs) (k : Int) {v : V} {x : Value} (hv : VOk v x) : KvOk (put kvs k v) (stored kxs k x) := by
  have hany : (kvs.any fun kv => decide (kv.1 = k)) = (kxs.any fun kv => decide (kv.1 = k)) := by
    induction h with
    | nil => rfl
    | cons h _ ih => simp [ih]
  unfold Mine.put stored
  rw [hany]
  split
  · clear hany
    rename_i hc
    clear hc
    induction h with
    | nil => exact .nil
    | @cons k' v' x' vs xs hv' _ ih =>
      simp only [List.map_cons]
      by_cases hk : k' = k
      · simp only [hk, if_true]; exact .cons hv ih
      · simp only [hk, if_false]; exact .cons hv' ih
  · exact h.append (.cons hv .nil)
section
variable {c : Cx} {n : Nat} {env : Frm} {cenv : Env} {loc : Loc} {mem : Mem} {Q : V → Loc → Mem → Prop}
noncomputable def Sub (c : Cx) (n : Nat) (env : Frm) (cenv : Env) (value slice : Expr) (a i : V) (loc : Loc) (mem : Mem) (Q : V → Loc → Mem → Prop) : Prop :=
  ∀ a' i', VOk a a' → VOk i i' → W c n env cenv VOk (subscriptTail value slice a' i') loc mem Q
theorem EV.sub {value slice : Expr} {pos : Pos} (h : EV c n env cenv value loc mem (fun a l1 m1 => EV c n env cenv slice l1 m1 (fun i l2 m2 => Sub c n env cenv value slice a i l2 m2 Q))) : EV c n env cenv (.Subscript value slice pos) loc mem Q :=
  fun A s Post E hr I k => Subscript_ (h A s _ E hr I fun a a' l1 m1 s1 ha I1 S1 h1 => h1 A s1 _ E hr I1 fun b b' l2 m2 s2 hb I2 S2 h2 => h2 a' b' ha hb A s2 _ E hr I2 fun v v' l3 m3 s3 hv I3 S3 q => k v v' l3 m3 s3 hv I3 ((S1.trans S2).trans S3) q)
theorem Sub.list {value slice : Expr} {l : Addr} {vs : List V} {i : Int} {v : V} (hm : mem l = some (.list vs)) (h0 : 0 ≤ i) (hi : i < 2 ^ 63) (hv : vs[i.toNat]? = some v) (h : Q v loc mem)
    (hs : ∀ t, subscripted slice false (.ref l) (.int i t) = operate [.ref l, .int i t] (getItem (.ref l) (.int i t)) := by intro _; with_unfolding_all rfl) : Sub c n env cenv value slice (.ref l) (.int i) loc mem Q := by
  rintro _ _ rfl ⟨t, rfl⟩ A s Post E hr I k
  obtain ⟨xs, nn, hl, hx⟩ := I.i0.mem l _ hm
  obtain ⟨x, hx1, hx2⟩ := hx.get hv
  exact tail_any hl.isList.typeIs slot_list_getitem.lookup (wpAny_getItem_list hl.isList h0 hi (by simpa using hx1) (k v x loc mem s hx2 I (Step.refl _ _ _) h)) (hs t)
theorem Sub.tup {value slice : Expr} {l : Addr} {vs : List V} {i : Int} {v : V} (hm : mem l = some (.tup vs)) (h0 : 0 ≤ i) (hi : i < 2 ^ 63) (hv : vs[i.toNat]? = some v) (h : Q v loc mem)
    (hs : ∀ t, subscripted slice false (.ref l) (.int i t) = operate [.ref l, .int i t] (getItem (.ref l) (.int i t)) := by intro _; with_unfolding_all rfl) : Sub c n env cenv value slice (.ref l) (.int i) loc mem Q := by
  rintro _ _ rfl ⟨t, rfl⟩ A s Post E hr I k
  obtain ⟨xs, nn, hl, hx⟩ := I.i0.mem l _ hm
  obtain ⟨x, hx1, hx2⟩ := hx.get hv
  have hlen : i.toNat < xs.toList.length := (List.getElem?_eq_some_iff.mp hx1).1
  refine item_tupleT (l := xs.toList) ⟨_, hl, rfl, nn, by simp⟩ (by omega) hi (j := i.toNat) ?_ hx1 (k v x loc mem s hx2 I (Step.refl _ _ _) h) (hs t)
  unfold seqIndex?
  simp only [show ¬ i < 0 by omega, if_false]
  rw [if_pos]
  simp only [Bool.and_eq_true, decide_eq_true_eq]
  constructor
  · exact h0
  · omega
theorem Sub.dict {value slice : Expr} {l : Addr} {kvs : List (Int × V)} {i : Int} {v : V} (hm : IsD mem l kvs) (hv : kvs.lookup i = some v) (h : Q v loc mem)
    (hs : ∀ t, subscripted slice false (.ref l) (.int i t) = operate [.ref l, .int i t] (getItem (.ref l) (.int i t)) := by intro _; with_unfolding_all rfl) : Sub c n env cenv value slice (.ref l) (.int i) loc mem Q := by
  rintro _ _ rfl ⟨t, rfl⟩ A s Post E hr I k
  obtain ⟨_, kxs, hd, hk⟩ := hm.at I.i0.mem
  have := hk.lookup i
  rw [hv] at this
  obtain ⟨x, hx1, hx2⟩ := this
  exact tail_any hd.typeIs slot_dict_getitem.lookup (wpAny_getItem_of (intKind_is c.prog c.w i t) hd.mapOf hx1 (k v x loc mem _ hx2 (W.tok I).1 (W.tok I).2 h)) (hs t)
/-- a tuple that stands at the program's top -/
theorem Sub.ktup {value slice : Expr} {l : Addr} {vs : List V} {xs : List Value} {nn : Nat} {dd : Option Addr} {sl : Array (Option Value)} {i : Int} {v : V} (hK : c.K.lookup l = some ⟨.type "tuple", dd, .seq xs.toArray nn, sl⟩) (hxs : VsOk vs xs) (h0 : 0 ≤ i) (hi : i < 2 ^ 63) (hv : vs[i.toNat]? = some v) (h : Q v loc mem)
    (hs : ∀ t, subscripted slice false (.ref l) (.int i t) = operate [.ref l, .int i t] (getItem (.ref l) (.int i t)) := by intro _; with_unfolding_all rfl) : Sub c n env cenv value slice (.ref l) (.int i) loc mem Q := by
  rintro _ _ rfl ⟨t, rfl⟩ A s Post E hr I k
  obtain ⟨x, hx1, hx2⟩ := hxs.get hv
  have G := I.i0.grd
  obtain ⟨m, F⟩ := G.fr
  have hlen : i.toNat < xs.length := (List.getElem?_eq_some_iff.mp hx1).1
  refine topTup_K F G.K hK (by omega) hi (j := i.toNat) ?_ hx1 (k v x loc mem s hx2 I (Step.refl _ _ _) h) (hs t)
  unfold seqIndex?
  simp only [show ¬ i < 0 by omega, if_false]
  rw [if_pos]
  simp only [Bool.and_eq_true, decide_eq_true_eq]
  constructor
  · exact h0
  · omega
/-- slices of lists: both bounds, or the upper one -/
theorem EV.slice2 {value lo hi : Expr} {p pos : Pos} (h : EV c n env cenv value loc mem (fun a l1 m1 => EV c n env cenv lo l1 m1 (fun i l2 m2 => EV c n env cenv hi l2 m2 (fun j l3 m3 =>
      ∃ l vs x y, a = .ref l ∧ m3 l = some (.list vs) ∧ vs.length ≤ 100000 ∧ i = .int x ∧ j = .int y ∧ 0 ≤ x ∧ x ≤ y ∧ y ≤ vs.length ∧ ∀ b, m3 b = none → Q (.ref b) l3 (set m3 b (.list ((vs.drop x.toNat).take (y - x).toNat))))))) :
    EV c n env cenv (.Subscript value (.Slice (some lo) (some hi) none p) pos) loc mem Q :=
  fun A s Post E hr I k => Subscript_ (h A s _ E hr I fun a a' l1 m1 s1 ha I1 S1 h1 => wpAny_Slice (h1 A s1 _ E hr I1 fun i i' l2 m2 s2 hi I2 S2 h2 => h2 A s2 _ E hr I2 fun j j' l3 m3 s3 hj I3 S3 ⟨l, vs, x, y, e1, hm, hz, e2, e3, h0, hxy, hy, q⟩ => by
    subst e1; subst e2; subst e3
    obtain rfl : a' = .ref l := ha
    obtain ⟨t, rfl⟩ := hi
    obtain ⟨u, rfl⟩ := hj
    refine wpAny_pure ?_
    obtain ⟨xs, nn, hl, hx⟩ := I3.i0.mem l _ hm
    have hlen := hx.length
    have hsz : xs.size = vs.length := by simpa using hlen
    obtain ⟨I4, S4⟩ := I3.grow (tk := s3.toks) (h' := s3.heap.push { cls := .type "slice", data := .fields #[.int x t, .int y u, .none] }) (fun b o e => Heap.get?_push_of_some _ e)
    obtain ⟨xs', nn', hl', hx'⟩ := I4.i0.mem l _ hm
    have hl4 : IsL (s3.heap.push { cls := .type "slice", data := .fields #[.int x t, .int y u, .none] }) l xs nn := hl.push _
    refine tail_any hl4.isList.typeIs slot_list_getitem.lookup (wpAny_getItem_list_slice (lo := some x) (hi := some y) (st := none) hl4.isList (Heap.IsSliceOf.new _ _ _ _) (.int _ _) (.int _ _) .none (by simp) ?_ (by rw [sizeLine_eq]; omega)) (by with_unfolding_all rfl)
    have hpick : slicePick xs (some x) (some y) none = ((xs.toList.drop x.toNat).take (y - x).toNat).toArray := by
      have := slicePick_run xs x.toNat y.toNat (by omega) (by omega)
      rw [show ((x.toNat : Nat) : Int) = x by omega, show ((y.toNat : Nat) : Int) = y by omega] at this
      rw [this]; congr 2; omega
    rw [hpick]
    obtain ⟨I5, S5⟩ := I4.made (tk := s3.toks) (h' := (s3.heap.push { cls := .type "slice", data := .fields #[.int x t, .int y u, .none] }).push { cls := .type "list", data := .seq ((xs.toList.drop x.toNat).take (y - x).toNat).toArray }) (a := (s3.heap.push { cls := .type "slice", data := .fields #[.int x t, .int y u, .none] }).objs.size) (o := .list ((vs.drop x.toNat).take (y - x).toNat)) (fun b o e => Heap.get?_push_of_some _ e) (Nat.le_refl _) ⟨_, 0, IsL.new _ _, by simpa using (hx.drop _).take _⟩
    exact k (.ref _) _ l3 _ _ rfl I5 ((((S1.trans S2).trans S3).trans S4).trans S5) (q _ (I4.i0.fresh (Nat.le_refl _)))))
theorem EV.sliceTo {value hi : Expr} {p pos : Pos} (h : EV c n env cenv value loc mem (fun a l1 m1 => EV c n env cenv hi l1 m1 (fun j l3 m3 =>
      ∃ l vs y, a = .ref l ∧ m3 l = some (.list vs) ∧ vs.length ≤ 100000 ∧ j = .int y ∧ 0 ≤ y ∧ y ≤ vs.length ∧ ∀ b, m3 b = none → Q (.ref b) l3 (set m3 b (.list (vs.take y.toNat)))))) :
    EV c n env cenv (.Subscript value (.Slice none (some hi) none p) pos) loc mem Q :=
  fun A s Post E hr I k => Subscript_ (h A s _ E hr I fun a a' l1 m1 s1 ha I1 S1 h1 => wpAny_Slice (wpAny_pure (h1 A s1 _ E hr I1 fun j j' l3 m3 s3 hj I3 S3 ⟨l, vs, y, e1, hm, hz, e3, h0, hy, q⟩ => by
    subst e1; subst e3
    obtain rfl : a' = .ref l := ha
    obtain ⟨u, rfl⟩ := hj
    refine wpAny_pure ?_
    obtain ⟨xs, nn, hl, hx⟩ := I3.i0.mem l _ hm
    have hlen := hx.length
    have hsz : xs.size = vs.length := by simpa using hlen
    obtain ⟨I4, S4⟩ := I3.grow (tk := s3.toks) (h' := s3.heap.push { cls := .type "slice", data := .fields #[.none, .int y u, .none] }) (fun b o e => Heap.get?_push_of_some _ e)
    have hl4 : IsL (s3.heap.push { cls := .type "slice", data := .fields #[.none, .int y u, .none] }) l xs nn := hl.push _
    refine tail_any hl4.isList.typeIs slot_list_getitem.lookup (wpAny_getItem_list_slice (lo := none) (hi := some y) (st := none) hl4.isList (Heap.IsSliceOf.new _ _ _ _) .none (.int _ _) .none (by simp) ?_ (by rw [sizeLine_eq]; omega)) (by with_unfolding_all rfl)
    have hpick : slicePick xs none (some y) none = (xs.toList.take y.toNat).toArray := by
      have := slicePick_upto xs y.toNat (by omega)
      rw [show ((y.toNat : Nat) : Int) = y by omega] at this
      rw [this]
    rw [hpick]
    obtain ⟨I5, S5⟩ := I4.made (tk := s3.toks) (h' := (s3.heap.push { cls := .type "slice", data := .fields #[.none, .int y u, .none] }).push { cls := .type "list", data := .seq (xs.toList.take y.toNat).toArray }) (a := (s3.heap.push { cls := .type "slice", data := .fields #[.none, .int y u, .none] }).objs.size) (o := .list (vs.take y.toNat)) (fun b o e => Heap.get?_push_of_some _ e) (Nat.le_refl _) ⟨_, 0, IsL.new _ _, by simpa using hx.take _⟩
    exact k (.ref _) _ l3 _ _ rfl I5 (((S1.trans S3).trans S4).trans S5) (q _ (I4.i0.fresh (Nat.le_refl _))))))
/-- comparisons with None -/
theorem COp.isNone {v : V} (h : Q (.bool (decide (v = .none))) loc mem) : COp c n env cenv .Is v .none loc mem Q := by
  rintro a' _ ha rfl A s Post E hr I k
  refine is_none ?_
  have : (a' == Value.none) = decide (v = .none) := by
    cases v with
    | int i => obtain ⟨t, rfl⟩ := ha; rfl
    | bool b => obtain rfl : a' = _ := ha; rfl
    | none => obtain rfl : a' = _ := ha; rfl
    | ref a => obtain rfl : a' = _ := ha; rfl
  rw [this]
  exact k (.bool _) _ loc mem s rfl I (Step.refl _ _ _) h
end
section
variable {c : Cx} {n : Nat} {env : Frm} {cenv : Env} {loc : Loc} {mem : Mem} {Q : V → Loc → Mem → Prop}
/-- a call of f, the arguments known -/
noncomputable def CallV (c : Cx) (n : Nat) (env : Frm) (cenv : Env) (f : Value) (vs : List V) (loc : Loc) (mem : Mem) (Q : V → Loc → Mem → Prop) : Prop :=
  ∀ xs, VsOk vs xs → W c n env cenv VOk (call f xs) loc mem Q
theorem EV.callB1 {x : Str} {p pos : Pos} {id : String} {e : Expr} {rest : List Expr} (hg : nsIn c.K mainGlobals x = some none) (hb : bootBuiltins x = some (.builtin id)) (hn : x ≠ "__name__")
    (h : Args c n env cenv pos (e :: rest) loc mem (fun vs l m => CallV c n env cenv (.builtin id) vs l m Q))
    (hk : cenv.kindOf x = some .globalImplicit := by rfl) (hd : (x == ("__debug__" : Str)) = false := by rfl)
    (hs : starEach (e :: rest) cenv = (false, eval e cenv) :: starEach rest cenv := by rfl) (hp : (backTo pos (starEach rest cenv)).any (·.1) = false := by rfl)
    (he : eval (.Call (.Name x p) (e :: rest) [] pos) cenv = (do callWith pos (← eval (.Name x p) cenv) [] (backTo pos (starEach (e :: rest) cenv)) (backToKw pos (keywordEach [] cenv))) := by rfl) :
    EV c n env cenv (.Call (.Name x p) (e :: rest) [] pos) loc mem Q :=
  fun A s Post E hr I k => Call_ (W.NameB (R := Eq) (b := Value.builtin id) (n := n) (env := env) (Q := fun b l m => b = Value.builtin id ∧ l = loc ∧ m = mem) hg hb hn rfl ⟨rfl, rfl, rfl⟩ hk hd A s _ E hr I fun b r l1 m1 s1 hR I1 S1 ⟨e1, e2, e3⟩ => by
    subst hR; subst e1; subst e2; subst e3
    exact callWith_method1 (h A s1 _ E hr I1 fun vs xs l m s' hvs I' S q => by
      have := q xs hvs A s' Post E hr I' fun v v' l2 m2 s2 hv I2 S2 q2 => k v v' l2 m2 s2 hv I2 ((S1.trans S).trans S2) q2
      simpa using this) hs hp) he
theorem EV.callT1 {x : Str} {p pos : Pos} {T : String} {e : Expr} {rest : List Expr} (hg : nsIn c.K mainGlobals x = some none) (hb : bootBuiltins x = some (.type T)) (hn : x ≠ "__name__")
    (h : Args c n env cenv pos (e :: rest) loc mem (fun vs l m => CallV c n env cenv (.type T) vs l m Q))
    (hk : cenv.kindOf x = some .globalImplicit := by rfl) (hd : (x == ("__debug__" : Str)) = false := by rfl)
    (hs : starEach (e :: rest) cenv = (false, eval e cenv) :: starEach rest cenv := by rfl) (hp : (backTo pos (starEach rest cenv)).any (·.1) = false := by rfl)
    (he : eval (.Call (.Name x p) (e :: rest) [] pos) cenv = (do callWith pos (← eval (.Name x p) cenv) [] (backTo pos (starEach (e :: rest) cenv)) (backToKw pos (keywordEach [] cenv))) := by rfl) :
    EV c n env cenv (.Call (.Name x p) (e :: rest) [] pos) loc mem Q :=
  fun A s Post E hr I k => Call_ (W.NameB (R := Eq) (b := Value.type T) (n := n) (env := env) (Q := fun b l m => b = Value.type T ∧ l = loc ∧ m = mem) hg hb hn rfl ⟨rfl, rfl, rfl⟩ hk hd A s _ E hr I fun b r l1 m1 s1 hR I1 S1 ⟨e1, e2, e3⟩ => by
    subst hR; subst e1; subst e2; subst e3
    exact callWith_type1 (h A s1 _ E hr I1 fun vs xs l m s' hvs I' S q => q xs hvs A s' Post E hr I' fun v v' l2 m2 s2 hv I2 S2 q2 => k v v' l2 m2 s2 hv I2 ((S1.trans S).trans S2) q2) hs hp) he
/-- a def, or a class, of the program's top -/
theorem EV.callF1 {x : Str} {p pos : Pos} {f : Value} {e : Expr} {rest : List Expr} (hg : nsIn c.K mainGlobals x = some (some f)) (hkeep : keepIn c.K f = true)
    (h : Args c n env cenv pos (e :: rest) loc mem (fun vs l m => CallV c n env cenv f vs l m Q))
    (hk : cenv.kindOf x = some .globalImplicit := by rfl) (hd : (x == ("__debug__" : Str)) = false := by rfl)
    (hs : starEach (e :: rest) cenv = (false, eval e cenv) :: starEach rest cenv := by rfl) (hp : (backTo pos (starEach rest cenv)).any (·.1) = false := by rfl)
    (he : eval (.Call (.Name x p) (e :: rest) [] pos) cenv = (do callWith pos (← eval (.Name x p) cenv) [] (backTo pos (starEach (e :: rest) cenv)) (backToKw pos (keywordEach [] cenv))) := by rfl) :
    EV c n env cenv (.Call (.Name x p) (e :: rest) [] pos) loc mem Q :=
  fun A s Post E hr I k => Call_ (W.NameG (R := Eq) (b := f) (n := n) (env := env) (Q := fun b l m => b = f ∧ l = loc ∧ m = mem) hg rfl ⟨rfl, rfl, rfl⟩ hk hd A s _ E hr I fun b r l1 m1 s1 hR I1 S1 ⟨e1, e2, e3⟩ => by
    subst hR; subst e1; subst e2; subst e3
    have G := I1.i0.grd
    refine callWith_K G.K hkeep (h A s1 _ E hr I1 fun vs xs l m s' hvs I' S q => ?_) hs hp
    have G' := I'.i0.grd
    obtain ⟨mm, F'⟩ := G'.fr
    refine ⟨G'.K.keeps F'.keep, ?_⟩
    have := q xs hvs A s' Post E hr I' fun v v' l2 m2 s2 hv I2 S2 q2 => k v v' l2 m2 s2 hv I2 ((S1.trans S).trans S2) q2
    simpa using this) he
/-- a method of a list or of a dict -/
noncomputable def MethB (c : Cx) (n : Nat) (env : Frm) (cenv : Env) (id : String) (a : V) (vs : List V) (loc : Loc) (mem : Mem) (Q : V → Loc → Mem → Prop) : Prop :=
  ∀ xs, VsOk vs xs → ∀ x, VOk a x → W c n env cenv VOk (call (.builtin id) (x :: xs)) loc mem Q
theorem EV.lmeth1 {o : Expr} {name : Str} {apos pos : Pos} {e : Expr} {rest : List Expr} {pl : Sem Bool} {id : String} (slot : Slot "list" name id) (hty : typeOf (.builtin id) = pure (.type "method_descriptor"))
    (h : EV c n env cenv o loc mem (fun a l1 m1 => ∃ b vs, a = .ref b ∧ m1 b = some (.list vs) ∧ Args c n env cenv pos (e :: rest) l1 m1 (fun vs l m => MethB c n env cenv id (.ref b) vs l m Q)))
    (he : eval (.Call (.Attribute o name apos) (e :: rest) [] pos) cenv = (do
      let ov ← eval o cenv
      standAt apos.atName
      let (f, first) ← holding [ov] (getMethod ov name pl)
      callWith pos f first (backTo pos (starEach (e :: rest) cenv)) []) := by rfl)
    (hs : starEach (e :: rest) cenv = (false, eval e cenv) :: starEach rest cenv := by rfl) (hp : (backTo pos (starEach rest cenv)).any (·.1) = false := by rfl) :
    EV c n env cenv (.Call (.Attribute o name apos) (e :: rest) [] pos) loc mem Q :=
  fun A s Post E hr I k => MethodCall_ (h A s _ E hr I fun a a' l1 m1 s1 ha I1 S1 ⟨b, vs, e1, hm, q⟩ => by
    subst e1
    obtain rfl : a' = .ref b := ha
    obtain ⟨xs, nn, hl, hx⟩ := I1.i0.mem b _ hm
    refine getMethod_list_of slot hty hl.isList (show s1.heap.NoDictAt (.ref b) from ⟨_, hl, rfl⟩) ?_
    exact callWith_method1 (q A s1 _ E hr I1 fun vs xs l m s' hvs I' S q2 => by
      have := q2 xs hvs (.ref b) rfl A s' Post E hr I' fun v v' l2 m2 s2 hv I2 S2 q3 => k v v' l2 m2 s2 hv I2 ((S1.trans S).trans S2) q3
      simpa using this) hs hp) he
theorem EV.lmeth0 {o : Expr} {name : Str} {apos pos : Pos} {pl : Sem Bool} {id : String} (slot : Slot "list" name id) (hty : typeOf (.builtin id) = pure (.type "method_descriptor"))
    (h : EV c n env cenv o loc mem (fun a l1 m1 => ∃ b vs, a = .ref b ∧ m1 b = some (.list vs) ∧ MethB c n env cenv id (.ref b) [] l1 m1 Q))
    (he : eval (.Call (.Attribute o name apos) [] [] pos) cenv = (do
      let ov ← eval o cenv
      standAt apos.atName
      let (f, first) ← holding [ov] (getMethod ov name pl)
      callWith pos f first (backTo pos (starEach [] cenv)) []) := by rfl) :
    EV c n env cenv (.Call (.Attribute o name apos) [] [] pos) loc mem Q :=
  fun A s Post E hr I k => MethodCall_ (h A s _ E hr I fun a a' l1 m1 s1 ha I1 S1 ⟨b, vs, e1, hm, q⟩ => by
    subst e1
    obtain rfl : a' = .ref b := ha
    obtain ⟨xs, nn, hl, hx⟩ := I1.i0.mem b _ hm
    refine getMethod_list_of slot hty hl.isList (show s1.heap.NoDictAt (.ref b) from ⟨_, hl, rfl⟩) ?_
    exact callWith_method0 (q [] .nil (.ref b) rfl A s1 Post E hr I1 fun v v' l2 m2 s2 hv I2 S2 q3 => k v v' l2 m2 s2 hv I2 (S1.trans S2) q3)) he
theorem EV.dmeth1 {o : Expr} {name : Str} {apos pos : Pos} {e : Expr} {rest : List Expr} {pl : Sem Bool} {id : String} (slot : Slot "dict" name id) (hty : typeOf (.builtin id) = pure (.type "method_descriptor"))
    (h : EV c n env cenv o loc mem (fun a l1 m1 => ∃ b kvs, a = .ref b ∧ IsD m1 b kvs ∧ Args c n env cenv pos (e :: rest) l1 m1 (fun vs l m => MethB c n env cenv id (.ref b) vs l m Q)))
    (he : eval (.Call (.Attribute o name apos) (e :: rest) [] pos) cenv = (do
      let ov ← eval o cenv
      standAt apos.atName
      let (f, first) ← holding [ov] (getMethod ov name pl)
      callWith pos f first (backTo pos (starEach (e :: rest) cenv)) []) := by rfl)
    (hs : starEach (e :: rest) cenv = (false, eval e cenv) :: starEach rest cenv := by rfl) (hp : (backTo pos (starEach rest cenv)).any (·.1) = false := by rfl) :
    EV c n env cenv (.Call (.Attribute o name apos) (e :: rest) [] pos) loc mem Q :=
  fun A s Post E hr I k => MethodCall_ (h A s _ E hr I fun a a' l1 m1 s1 ha I1 S1 ⟨b, kvs, e1, hm, q⟩ => by
    subst e1
    obtain rfl : a' = .ref b := ha
    obtain ⟨_, kxs, hd, hx⟩ := hm.at I1.i0.mem
    refine getMethod_builtin hd.typeIs PySem.F.plainAttrs_dict slot hty (fun a e => by cases e; exact hd.mapOf.noDict _ rfl) ?_
    exact callWith_method1 (q A s1 _ E hr I1 fun vs xs l m s' hvs I' S q2 => by
      have := q2 xs hvs (.ref b) rfl A s' Post E hr I' fun v v' l2 m2 s2 hv I2 S2 q3 => k v v' l2 m2 s2 hv I2 ((S1.trans S).trans S2) q3
      simpa using this) hs hp) he
theorem MethB.append {l : Addr} {vs : List V} {v : V} (hm : mem l = some (.list vs)) (hz : vs.length ≤ 100000) (h : Q .none loc (set mem l (.list (vs ++ [v])))) : MethB c n env cenv "list.append" (.ref l) [v] loc mem Q := by
  rintro xs hxs _ rfl A s Post E hr I k
  obtain ⟨x, rfl, hv⟩ := hxs.one
  obtain ⟨ys, nn, hl, hy⟩ := I.i0.mem l _ hm
  have hlen := hy.length
  refine append_at (hsz := by rw [sizeLine_eq]; simp at hlen; omega) hl fun h' hs hD => ?_
  obtain ⟨I2, S2⟩ := I.upd (tk := s.toks) hm hs (o' := .list (vs ++ [v])) ⟨ys.push x, nn + 1, hD, by rw [Array.toList_push]; exact hy.append (.cons hv .nil)⟩
  exact k .none _ loc _ _ rfl I2 S2 h
theorem MethB.extend {l b : Addr} {vs us : List V} (hm : mem l = some (.list vs)) (hb : mem b = some (.list us)) (hz : vs.length + us.length ≤ 100000) (h : Q .none loc (set mem l (.list (vs ++ us)))) : MethB c n env cenv "list.extend" (.ref l) [.ref b] loc mem Q := by
  rintro xs hxs _ rfl A s Post E hr I k
  obtain ⟨x, rfl, hv⟩ := hxs.one
  obtain rfl : x = .ref b := hv
  obtain ⟨ys, nn, hl, hy⟩ := I.i0.mem l _ hm
  obtain ⟨zs, n2, hl2, hz2⟩ := I.i0.mem b _ hb
  have hlen := hy.length
  have hlen2 := hz2.length
  simp only [Array.length_toList] at hlen hlen2
  have hl' : (s.heap.update l (Obj.mapSeq fun xs => xs ++ zs)).get? l = some (Obj.mapSeq (fun xs => xs ++ zs) { cls := .type "list", data := .seq ys nn }) := Heap.get?_update_self _ hl rfl
  obtain ⟨I2, S2⟩ := I.upd (tk := s.toks) hm (Heap.SameBut.update s.heap l (Obj.mapSeq fun xs => xs ++ zs)) (o' := .list (vs ++ us)) ⟨ys ++ zs, _, hl', by rw [Array.toList_append]; exact hy.append hz2⟩
  refine call_meets PySem.F.slot_list_extend ⟨_, hl, rfl⟩ PySem.F.entry_list_extend (PySem.F.args_list_extend_2 _ _) (AutoSeq1.list_extend_list_list_0 l ys nn b zs n2 ?_ (by rw [sizeLine_eq]; omega) (by rw [sizeLine_eq]; omega)) ⟨hl, hl2, k .none _ loc _ _ rfl I2 S2 h⟩
  unfold Builtin.List.listTooLong
  have hs := sizeLine_eq
  simp
  intro _
  omega
theorem MethB.pop {l : Addr} {vs : List V} {v : V} (hm : mem l = some (.list (vs ++ [v]))) (hz : vs.length ≤ 100000) (h : Q v loc (set mem l (.list vs))) : MethB c n env cenv "list.pop" (.ref l) [] loc mem Q := by
  rintro xs hxs _ rfl A s Post E hr I k
  obtain rfl := hxs.none'
  obtain ⟨ys, nn, hl, hy⟩ := I.i0.mem l _ hm
  have hlen := hy.length
  simp only [Array.length_toList, List.length_append, List.length_singleton] at hlen
  obtain ⟨x, hx1, hx2⟩ := hy.get (i := vs.length) (v := v) (by simp)
  have hx1' : ys[ys.size - 1]? = some x := by rw [hlen, Nat.add_sub_cancel, ← Array.getElem?_toList]; exact hx1
  have hl' : (s.heap.update l (Obj.mapSeq fun xs => xs.eraseIdxIfInBounds (ys.size - 1))).get? l = some (Obj.mapSeq (fun xs => xs.eraseIdxIfInBounds (ys.size - 1)) { cls := .type "list", data := .seq ys nn }) := Heap.get?_update_self _ hl rfl
  obtain ⟨I2, S2⟩ := I.upd (tk := s.toks) hm (Heap.SameBut.update s.heap l (Obj.mapSeq fun xs => xs.eraseIdxIfInBounds (ys.size - 1))) (o' := .list vs) ⟨ys.eraseIdxIfInBounds (ys.size - 1), _, hl', by
    have e : (ys.eraseIdxIfInBounds (ys.size - 1)).toList = ys.toList.take vs.length := by
      rw [hlen, Nat.add_sub_cancel]
      obtain ⟨ls⟩ := ys
      simp only [List.eraseIdxIfInBounds_toArray]
      simp at hlen
      rw [List.eraseIdx_eq_take_drop_succ]
      simp [List.drop_eq_nil_of_le (show ls.length ≤ vs.length + 1 by omega)]
    rw [e]
    have := hy.take vs.length
    simpa using this⟩
  exact call_meets PySem.F.slot_list_pop ⟨_, hl, rfl⟩ PySem.F.entry_list_pop (PySem.F.args_list_pop_1 _) (PySem.MeetsSeq.list_pop_last l ys nn x hx1' (by rw [sizeLine_eq]; omega)) ⟨hl, k v x loc _ _ hx2 I2 S2 h⟩
theorem MethB.get {d : Addr} {kvs : List (Int × V)} {i : Int} {v : V} (hm : IsD mem d kvs) (h : Q ((kvs.lookup i).getD v) loc mem) : MethB c n env cenv "dict.get" (.ref d) [.int i, v] loc mem Q := by
  rintro xs hxs _ rfl A s Post E hr I k
  obtain ⟨_, x, rfl, hi, hv⟩ := hxs.two
  obtain ⟨t, rfl⟩ := hi
  obtain ⟨h0, kxs, hd, hx⟩ := hm.at I.i0.mem
  have hl := hx.lookup i
  refine call_meetsIn PySem.F.slot_dict_get hd.typeIs PySem.F.entry_dict_get (PySem.F.args_dict_get_3 _ _ _) (meets_dict_get_default (intKind c.prog c.w) d (intKind_is c.prog c.w i t) (by simpa using h0) x) ⟨_, hd.mapOf, k ((kvs.lookup i).getD v) _ loc mem _ ?_ (W.tok I).1 (W.tok I).2 h⟩
  cases hlk : kvs.lookup i with
  | none => rw [hlk] at hl; simp only at hl; rw [hl]; exact hv
  | some y => rw [hlk] at hl; obtain ⟨z, e, ok⟩ := hl; rw [e]; exact ok
theorem COp.inD {d : Addr} {kvs : List (Int × V)} {i : Int} (hm : IsD mem d kvs) (h : Q (.bool (kvs.lookup i).isSome) loc mem) : COp c n env cenv .In (.int i) (.ref d) loc mem Q := by
  rintro _ _ ⟨t, rfl⟩ rfl A s Post E hr I k
  obtain ⟨h0, kxs, hd, hx⟩ := hm.at I.i0.mem
  have hl := hx.lookup i
  refine wpAny_in_of (intKind_is c.prog c.w i t) (by simpa using h0) hd.mapOf (k (.bool (kvs.lookup i).isSome) _ loc mem _ ?_ (W.tok I).1 (W.tok I).2 h)
  show Value.bool _ = Value.bool _
  cases hlk : kvs.lookup i with
  | none => rw [hlk] at hl; simp only at hl; rw [hl]; rfl
  | some y => rw [hlk] at hl; obtain ⟨z, e, ok⟩ := hl; rw [e]; rfl
end
section
variable {c : Cx} {n : Nat} {env : Frm} {cenv : Env} {loc : Loc} {mem : Mem} {Q : V → Loc → Mem → Prop}
theorem Room.units {A : Around} {n : Nat} (h : Room A n) : A.units + 16 * n + 16 < cLine := h.2
theorem COp.notInD {d : Addr} {kvs : List (Int × V)} {i : Int} (hm : IsD mem d kvs) (h : Q (.bool (!(kvs.lookup i).isSome)) loc mem) : COp c n env cenv .NotIn (.int i) (.ref d) loc mem Q := by
  rintro _ _ ⟨t, rfl⟩ rfl A s Post E hr I k
  obtain ⟨h0, kxs, hd, hx⟩ := hm.at I.i0.mem
  have hl := hx.lookup i
  refine NotIn_slot hd.typeIs PySem.F.slot_dict_contains (call_meetsIn PySem.F.slot_dict_contains hd.typeIs PySem.F.entry_dict_contains (PySem.F.args_dict_contains_2 _ _) (meets_dict_contains (intKind c.prog c.w) d (intKind_is c.prog c.w i t) (by simpa using h0)) ⟨_, hd.mapOf, wpAny_truthy_bool ?_⟩)
  refine k (.bool (!(kvs.lookup i).isSome)) _ loc mem _ ?_ (W.tok I).1 (W.tok I).2 h
  show Value.bool _ = Value.bool _
  cases hlk : kvs.lookup i with
  | none => rw [hlk] at hl; simp only at hl; rw [hl]; rfl
  | some y => rw [hlk] at hl; obtain ⟨z, e, ok⟩ := hl; rw [e]; rfl
theorem COp.isNotNone {v : V} (h : Q (.bool (!decide (v = .none))) loc mem) : COp c n env cenv .IsNot v .none loc mem Q := by
  rintro a' _ ha rfl A s Post E hr I k
  refine isNot_none ?_
  have : (a' == Value.none) = decide (v = .none) := by
    cases v with
    | int i => obtain ⟨t, rfl⟩ := ha; rfl
    | bool b => obtain rfl : a' = _ := ha; rfl
    | none => obtain rfl : a' = _ := ha; rfl
    | ref a => obtain rfl : a' = _ := ha; rfl
  rw [this]
  exact k (.bool _) _ loc mem s rfl I (Step.refl _ _ _) h
theorem COp.eqInts {a b : Addr} {ns ms : List Int} (ha : mem a = some (.list (ns.map V.int))) (hb : mem b = some (.list (ms.map V.int))) (h : Q (.bool (decide (ns = ms))) loc mem) (hn : 4 ≤ n) : COp c n env cenv .Eq (.ref a) (.ref b) loc mem Q := by
  rintro _ _ rfl rfl A s Post E hr I k
  obtain ⟨xs, n1, hl, hx⟩ := I.i0.mem a _ ha
  obtain ⟨ys, n2, hl2, hy⟩ := I.i0.mem b _ hb
  exact eq_intsK (vs := xs.toList) (us := ys.toList) (by simpa using hl.isList) hx.ints (by simpa using hl2.isList) hy.ints (by have := hr.units; omega) (k (.bool (decide (ns = ms))) _ loc mem s rfl I (Step.refl _ _ _) h)
theorem COp.neNil {a b : Addr} {vs : List V} (ha : mem a = some (.list vs)) (hb : mem b = some (.list [])) (h : Q (.bool (!vs.isEmpty)) loc mem) : COp c n env cenv .NotEq (.ref a) (.ref b) loc mem Q := by
  rintro _ _ rfl rfl A s Post E hr I k
  obtain ⟨xs, n1, hl, hx⟩ := I.i0.mem a _ ha
  obtain ⟨ys, n2, hl2, hy⟩ := I.i0.mem b _ hb
  have h1 := hx.length
  have h2 := hy.length
  simp only [Array.length_toList, List.length_nil] at h1 h2
  have hu : A.units < cLine := by have := hr.units; omega
  refine cmp_ofNotEq ?_
  cases vs with
  | nil =>
    have e : (!(List.range xs.size).all fun _ => true) = false := by simp
    refine SeqAt.RcNeAt.lists (e := fun _ => true) hl.isList hl2.isList (by rw [h1, h2]; rfl) hu (fun j h3 _ => by rw [h1] at h3; exact absurd h3 (Nat.not_lt_zero _)) c.prog c.w E Post ?_
    rw [e]
    exact k (.bool false) _ loc mem s rfl I (Step.refl _ _ _) h
  | cons v r =>
    refine SeqAt.RcNeAt.lists_lengths hl.isList hl2.isList (by rw [h1, h2]; simp) hu c.prog c.w E Post ?_
    exact k (.bool true) _ loc mem s rfl I (Step.refl _ _ _) h
theorem CallV.len {l : Addr} {vs : List V} (hm : mem l = some (.list vs)) (hz : vs.length ≤ 100000) (h : Q (.int vs.length) loc mem) : CallV c n env cenv (.builtin "len") [.ref l] loc mem Q := by
  intro xs hxs A s Post E hr I k
  obtain ⟨x, rfl, rfl⟩ := hxs.one
  obtain ⟨ys, nn, hl, hy⟩ := I.i0.mem l _ hm
  have hlen := hy.length
  simp only [Array.length_toList] at hlen
  refine call_len_list hl.isList (by omega) ?_
  rw [hlen]
  exact k (.int vs.length) _ loc mem _ (vint _ _) (W.tok I).1 (W.tok I).2 h
theorem CallV.lenTup {l : Addr} {vs : List V} {xs : List Value} {nn : Nat} {dd : Option Addr} {sl : Array (Option Value)} (hK : c.K.lookup l = some ⟨.type "tuple", dd, .seq xs.toArray nn, sl⟩) (hz : xs.length ≤ 100000) (h : Q (.int xs.length) loc mem) : CallV c n env cenv (.builtin "len") [.ref l] loc mem Q := by
  intro us hxs A s Post E hr I k
  obtain ⟨x, rfl, rfl⟩ := hxs.one
  have G := I.i0.grd
  obtain ⟨m, F⟩ := G.fr
  refine len_tuple (tupK (G.K.keeps F.keep) hK) (by simp; omega) ?_
  simp only [List.size_toArray]
  exact k (.int xs.length) _ loc mem _ (vint _ _) (W.tok I).1 (W.tok I).2 h
theorem CallV.int {i : Int} (h : Q (.int i) loc mem) : CallV c n env cenv (.type "int") [.int i] loc mem Q := by
  intro xs hxs A s Post E hr I k
  obtain ⟨x, rfl, t, rfl⟩ := hxs.one
  exact call_int_int (k (.int i) _ loc mem _ (vint _ _) I (Step.refl _ _ _) h)
theorem CallV.range1 {i : Int} (h : ∀ r, mem r = none → Q (.ref r) loc (set mem r (.range 0 i))) : CallV c n env cenv (.type "range") [.int i] loc mem Q := by
  intro xs hxs A s Post E hr I k
  obtain ⟨x, rfl, t, rfl⟩ := hxs.one
  refine call_range_1 ?_
  obtain ⟨I2, S2⟩ := I.made (tk := s.toks + 1 + 1) (h' := s.heap.push { cls := .type "range", data := .fields #[.int 0 s.toks, .int i t, .int 1 (s.toks + 1)] }) (a := s.heap.objs.size) (o := .range 0 i) (fun b o e => Heap.get?_push_of_some _ e) (Nat.le_refl _) ⟨_, _, _, IsRange.new _ _ _ _ _ _ _⟩
  exact k (.ref _) _ loc _ _ rfl I2 S2 (h _ (I.i0.fresh (Nat.le_refl _)))
theorem CallV.range2 {i j : Int} (h : ∀ r, mem r = none → Q (.ref r) loc (set mem r (.range i j))) : CallV c n env cenv (.type "range") [.int i, .int j] loc mem Q := by
  intro xs hxs A s Post E hr I k
  obtain ⟨x, y, rfl, ⟨t, rfl⟩, u, rfl⟩ := hxs.two
  refine call_range_2 ?_
  obtain ⟨I2, S2⟩ := I.made (tk := s.toks + 1) (h' := s.heap.push { cls := .type "range", data := .fields #[.int i t, .int j u, .int 1 s.toks] }) (a := s.heap.objs.size) (o := .range i j) (fun b o e => Heap.get?_push_of_some _ e) (Nat.le_refl _) ⟨_, _, _, IsRange.new _ _ _ _ _ _ _⟩
  exact k (.ref _) _ loc _ _ rfl I2 S2 (h _ (I.i0.fresh (Nat.le_refl _)))
theorem CallV.listCopy {l : Addr} {vs : List V} (hm : mem l = some (.list vs)) (hz : vs.length ≤ 100000) (h : ∀ r, mem r = none → Q (.ref r) loc (set mem r (.list vs))) : CallV c n env cenv (.type "list") [.ref l] loc mem Q := by
  intro xs hxs A s Post E hr I k
  obtain ⟨x, rfl, rfl⟩ := hxs.one
  obtain ⟨ys, nn, hl, hy⟩ := I.i0.mem l _ hm
  have hlen := hy.length
  simp only [Array.length_toList] at hlen
  refine call_list_seq l (.inl rfl) hl rfl rfl (fun h' c' hk hnew => ?_) (by rw [sizeLine_eq]; omega)
  obtain ⟨I2, S2⟩ := I.made (tk := s.toks) (h' := h') (a := s.heap.objs.size) (o := .list vs) hk (Nat.le_refl _) ⟨ys, c', hnew, hy⟩
  exact k (.ref _) _ loc _ _ rfl I2 S2 (h _ (I.i0.fresh (Nat.le_refl _)))
theorem repl_toList (items : Array Value) : ∀ k : Nat, (List.foldl (fun x1 x2 => x1 ++ x2) #[] (List.replicate k items)).toList = (List.replicate k items.toList).flatten := by
  have key : ∀ (k : Nat) (acc : Array Value), (List.foldl (fun x1 x2 => x1 ++ x2) acc (List.replicate k items)).toList = acc.toList ++ (List.replicate k items.toList).flatten := by
    intro k
    induction k with
    | zero => intro acc; simp
    | succ k ih => intro acc; rw [List.replicate_succ, List.foldl_cons, ih, Array.toList_append, List.replicate_succ, List.flatten_cons, List.append_assoc]
  intro k
  simpa using key k #[]
theorem flat_one {α : Type} (x : α) : ∀ k : Nat, (List.replicate k [x]).flatten = List.replicate k x
  | 0 => rfl
  | k + 1 => by rw [List.replicate_succ, List.flatten_cons, flat_one x k, List.replicate_succ]; rfl
/-- [v] * i -/
theorem BOp.rep {l : Addr} {v : V} {i : Int} (hm : mem l = some (.list [v])) (h0 : 0 ≤ i) (hi : i ≤ 100000) (h : ∀ r, mem r = none → Q (.ref r) loc (set mem r (.list (List.replicate i.toNat v)))) : BOp c n env cenv .Mult (.ref l) (.int i) loc mem Q := by
  rintro _ _ rfl ⟨u, rfl⟩ A s Post E hr I k
  obtain ⟨ys, nn, hl, hy⟩ := I.i0.mem l _ hm
  obtain ⟨x, hx, hv⟩ := hy.one
  have hys : ys = #[x] := by rw [← Array.toArray_toList (xs := ys), hx]
  subst hys
  have hnew : (List.foldl (fun x1 x2 => x1 ++ x2) #[] (List.replicate (if (#[x] : Array Value).isEmpty = true then 0 else i.toNat) #[x])).toList = List.replicate i.toNat x := by
    rw [repl_toList]
    exact flat_one x _
  obtain ⟨I2, S2⟩ := I.made (tk := s.toks) (h' := s.heap.push { cls := .type "list", data := .seq (List.foldl (fun x1 x2 => x1 ++ x2) #[] (List.replicate (if (#[x] : Array Value).isEmpty = true then 0 else i.toNat) #[x])) }) (a := s.heap.objs.size) (o := .list (List.replicate i.toNat v)) (fun b o e => Heap.get?_push_of_some _ e) (Nat.le_refl _)
    ⟨_, 0, IsL.new _ _, by rw [hnew]; exact VsOk.replicate hv _⟩
  have hs := sizeLine_eq
  exact wpAny_binaryOp_repeat_ref (T := "list") (U := "int") (by decide) ⟨_, hl, rfl⟩ (fun s' => typeIs_int s' i u) noFill_list_mul PySem.F.fills_int_mul PySem.F.slot_int_rmul repeat_list PySem.F.slot_int_index.lookup
    (call_meets PySem.F.slot_int_rmul (typeIs_int s i u) PySem.F.entry_int_rmul (PySem.F.args_int_rmul_2 _ _) (int___rmul___int_list i u l #[x] nn)
      ⟨hl, rfl, ⟨_, hl, rfl⟩, call_meets PySem.F.slot_list_mul ⟨_, hl, rfl⟩ PySem.F.entry_list_mul (PySem.F.args_list_mul_2 _ _)
        (AutoListH.list___mul___list_int_3 l #[x] nn i u (by simp [Builtin.List.listFitsIndex]; omega) (by simp; omega) (by simp [Builtin.List.listTooLong]; omega))
        ⟨hl, k (.ref _) _ loc _ _ rfl I2 S2 (h _ (I.i0.fresh (Nat.le_refl _)))⟩⟩)
end
section
variable {prog : Program} {w : World} {A : Around} {E : Value → Shared → Prop} {s : Shared}
/-- a list's item stored: the object stands as the list's making left it -/
theorem setItem_isL {l : Addr} {items : Array Value} {nn : Nat} {k : Int} {t : Tok} {v : Value} {Q : Unit → Shared → Prop} (hl : IsL s.heap l items nn)
    (h0 : 0 ≤ k) (hfit : k < 2 ^ 63) (hn : k < items.size)
    (hQ : ∀ h' n', IsL h' l (items.setIfInBounds k.toNat v) n' → Heap.SameBut l s.heap h' → Q () { s with heap := h' }) :
    wpAny (model prog w) A (setItem (.ref l) (.int k t) v) Q E s := by
  have hi := hl.isList
  have hd : ({ cls := .type "list", data := .seq items nn } : Obj).data = .seq items nn := rfl
  unfold setItem
  try with_reducible refine wpAny_holding ?_
  first | refine wpAny_bind (wpAny_pure ?_) | skip
  refine wpAny_bind (wpAny_sequenceKey hi.typeIs (by decide) ?_)
  refine wpAny_bind (wpAny_callSpecial?_slot (name := Str.ofString "__setitem__") hi.typeIs slot_list_setitem
    (wpAny_call_entry slot_list_setitem hi.typeIs entry_list_setitem ?_ (args_list_setitem _ _ _)))
  show wpAny _ _ (Builtin.List.listSubscript? (.int k t) >>= _) _ _ s
  refine wpAny_bind (wpAny_listSubscript_int (fitsIndex_of h0 hfit) ?_)
  clear hfit
  obtain ⟨j, rfl⟩ := Int.eq_ofNat_of_zero_le h0
  have hj : j < items.size := by omega
  have hx' : items[j]? = some items[j] := Array.getElem?_eq_getElem hj
  show wpAny _ _ ((seqItemAt l j >>= fun r => pure (r.map (j, ·))) >>= _) _ _ s
  refine wpAny_bind (wpAny_bind (wpAny_seqItemAt hl hd (wpAny_pure ?_)))
  rw [hx']
  show wpAny _ _ (setSeqItemAt l j v >>= _) _ _ s
  have hfin : (s.heap.update l (Obj.mapSeq (·.setIfInBounds j v))).get? l = some (Obj.mapSeq (·.setIfInBounds j v) { cls := .type "list", data := .seq items nn }) := Heap.get?_update_self _ hl rfl
  refine wpAny_bind (wpAny_setSeqItemAt hl hd ?_)
  first
    | exact wpAny_bind (wpAny_pure (wpAny_pure ⟨.none, rfl, wpAny_pure (hQ _ _ hfin (Heap.SameBut.update ..))⟩))
    | exact wpAny_pure ⟨.none, rfl, wpAny_pure (hQ _ _ hfin (Heap.SameBut.update ..))⟩
end
section
variable {c : Cx} {n : Nat} {env : Frm} {cenv : Env} {loc : Loc} {mem : Mem}
/-- fewer names -/
noncomputable def LSub (a b : Loc) : Prop := ∀ x v, a.lookup x = some v → b.lookup x = some v
theorem LSub.nil {b : Loc} : LSub [] b := fun x v h => by simp at h
theorem LSub.cons {x : Str} {v : V} {r b : Loc} (h : b.lookup x = some v) (k : LSub r b) : LSub ((x, v) :: r) b := fun y u e => by
  rw [List.lookup_cons] at e
  cases hy : (y == x) with
  | true => rw [hy] at e; cases e; rw [eq_of_beq hy]; exact h
  | false => rw [hy] at e; exact k y u e
theorem LSub.refl {b : Loc} : LSub b b := fun _ _ h => h
theorem Inv.sub {A : Around} {s : Shared} {loc' : Loc} (I : Inv c A env cenv loc mem s) (h : LSub loc' loc) : Inv c A env cenv loc' mem s := by
  obtain ⟨mm, a, b⟩ := I.ns
  exact ⟨I.i0, I.ck, I.cg, I.cb, ⟨mm, a, fun x v e => b x v (h x v e)⟩, I.nl, I.nl0, I.cells0, I.cells, I.cinj⟩
/-- the frame's own objects change alone -/
theorem Inv.locals {A : Around} {s : Shared} {loc' : Loc} {a : Addr} {h' : Heap} {tk : Nat} (I : Inv c A env cenv loc mem s) (ha : a = cenv.locals ∨ ∃ x, cenv.cells.lookup x = some a) (hs : Heap.SameBut a s.heap h')
    (hns : ∃ mm, h'.Ns cenv.locals mm ∧ ∀ x v, loc'.lookup x = some v → Held cenv h' mm x v) (hL : ∀ m, s.heap.Ns cenv.locals m → ∃ m', h'.Ns cenv.locals m') (hc : ∀ x ca, cenv.cells.lookup x = some ca → ∃ v0, h'.IsCell ca v0) :
    Inv c A env cenv loc' mem { s with heap := h', toks := tk } ∧ Step cenv mem s mem { s with heap := h', toks := tk } := by
  have hma : mem a = none := by
    rcases ha with rfl | ⟨x, hx⟩
    · exact I.nl
    · exact (I.cells x a hx).1
  have S : Step cenv mem s mem { s with heap := h', toks := tk } := ⟨⟨h', tk, rfl⟩, fun b o hb hf e => ⟨(hs.2 b (fun q => by
    subst q
    rcases ha with h | ⟨x, hx⟩
    · exact hf.1 h
    · exact hf.2 x hx)).trans e, hb⟩⟩
  have M : MemAt c mem h' := fun b o e => (I.i0.mem b o e).at fun ob h => (hs.2 b (fun q => by rw [q, hma] at e; cases e)).trans h
  have grd : Grd c A env mem { s with heap := h', toks := tk } := by
    have G := I.i0.grd
    obtain ⟨m, F⟩ := G.fr
    have ha₀ : env.h₀.get? a = none := by
      rcases ha with rfl | ⟨x, hx⟩
      · exact I.nl0
      · exact (I.cells0 x a hx).1
    refine ⟨G.below, ?_, G.K, G.top, G.scr, G.frame, G.off, G.offL⟩
    have kp : ∀ b o, env.h₀.get? b = some o → h'.get? b = some o := fun b o e => (hs.2 b (fun q => by rw [q, ha₀] at e; cases e)).trans (F.keep b o e)
    by_cases hLa : env.L = a
    · rcases ha with h1 | ⟨x, hx⟩
      · have hLc : env.L = cenv.locals := hLa.trans h1
        obtain ⟨m', hm'⟩ := hL m (hLc ▸ F.ns)
        exact ⟨m', ⟨hLc ▸ hm', kp, F.above⟩⟩
      · exact absurd hLa.symm (I.cells0 x a hx).2
    · exact ⟨m, ⟨F.ns.sameBut hs hLa, kp, F.above⟩⟩
  exact ⟨⟨⟨grd, I.i0.handled, I.i0.kind, M⟩, I.ck, I.cg, I.cb, hns, I.nl, I.nl0, I.cells0, fun x ca hx => ⟨(I.cells x ca hx).1, hc x ca hx, (I.cells x ca hx).2.2⟩, I.cinj⟩, S⟩
/-- a name stored -/
noncomputable def Kind (cenv : Env) (x : Str) : Prop := (x == ("__debug__" : Str)) = false ∧ (cenv.kindOf x = some .local ∨ (cenv.kindOf x = some .cell ∧ (cenv.cells.lookup x).isSome = true))
theorem Inv.store {A : Around} {s : Shared} {x : Str} {v : V} {v' : Value} {P : Unit → Shared → Prop} {E : Value → Shared → Prop} (I : Inv c A env cenv loc mem s) (hk : Kind cenv x) (hv : VOk v v')
    (h : ∀ s', Inv c A env cenv ((x, v) :: loc) mem s' → Step cenv mem s mem s' → P () s') : wpAny (model c.prog c.w) A (storeName cenv x v') P E s := by
  obtain ⟨mm, hns, hl⟩ := I.ns
  obtain ⟨hdb, hk⟩ := hk
  rcases hk with hk | ⟨hk, hsome⟩
  · refine wpAny_storeName_local hk hns (fun h' hn' hs' => ?_) (by rw [I.ck]; rfl)
    suffices hns' : ∀ y u, List.lookup y ((x, v) :: loc) = some u → Held cenv h' (fun y => if y = x then some v' else mm y) y u by
      obtain ⟨I', S'⟩ := I.locals (tk := s.toks + 1) (loc' := (x, v) :: loc) (.inl rfl) hs' ⟨_, hn', hns'⟩ (fun m _ => ⟨_, hn'⟩) (fun y ca hy => by
        obtain ⟨_, ⟨v0, o, ho, hd⟩, hne⟩ := I.cells y ca hy
        exact ⟨v0, o, (hs'.2 ca hne).trans ho, hd⟩)
      exact h _ I' S'
    · intro y u e
      rw [List.lookup_cons] at e
      cases hy : (y == x) with
      | true =>
        rw [hy] at e; cases e
        obtain rfl := eq_of_beq hy
        exact ⟨hdb, .inl ⟨hk, v', by simp, hv⟩⟩
      | false =>
        rw [hy] at e
        have hyx : y ≠ x := fun q => by simp [q] at hy
        obtain ⟨hd, H⟩ := hl y u e
        refine ⟨hd, H.imp (fun ⟨a, w', b, d⟩ => ⟨a, w', by simp [hyx, b], d⟩) fun ⟨a, ca, w', b, ⟨o, ho, hdt⟩, d⟩ => ⟨a, ca, w', b, ⟨o, (hs'.2 ca (I.cells y ca b).2.2).trans ho, hdt⟩, d⟩⟩
  · obtain ⟨ca, hca⟩ := Option.isSome_iff_exists.mp hsome
    obtain ⟨hm, ⟨v0, hcell⟩, hne⟩ := I.cells x ca hca
    refine wpAny_storeName_cell I.ck hk hca hcell fun h' hv' hs' => ?_
    suffices hns' : ∀ y u, List.lookup y ((x, v) :: loc) = some u → Held cenv h' mm y u by
      obtain ⟨I', S'⟩ := I.locals (tk := s.toks) (loc' := (x, v) :: loc) (.inr ⟨x, hca⟩) hs' ⟨mm, hns.sameBut hs' (Ne.symm hne), hns'⟩ (fun m hm => ⟨m, hm.sameBut hs' (Ne.symm hne)⟩) (fun y cb hy => by
        by_cases hq : cb = ca
        · subst hq; exact ⟨_, hv'⟩
        · obtain ⟨_, ⟨v0, o, ho, hd⟩, _⟩ := I.cells y cb hy
          exact ⟨v0, o, (hs'.2 cb hq).trans ho, hd⟩)
      exact h _ I' S'
    · intro y u e
      rw [List.lookup_cons] at e
      cases hy : (y == x) with
      | true =>
        rw [hy] at e; cases e
        obtain rfl := eq_of_beq hy
        exact ⟨hdb, .inr ⟨hk, ca, v', hca, hv', hv⟩⟩
      | false =>
        rw [hy] at e
        have hyx : y ≠ x := fun q => by simp [q] at hy
        obtain ⟨hd, H⟩ := hl y u e
        refine ⟨hd, H.imp id fun ⟨a, cb, w', b, ⟨o, ho, hdt⟩, d⟩ => ⟨a, cb, w', b, ⟨o, (hs'.2 cb (fun q => hyx (I.cinj y x ca (q ▸ b) hca))).trans ho, hdt⟩, d⟩⟩
abbrev SS (c : Cx) (n : Nat) (env : Frm) (cenv : Env) (ss : List Stmt) (loc : Loc) (mem : Mem) (Q : Out → Loc → Mem → Prop) : Prop := W c n env cenv FOk (execs ss cenv) loc mem Q
abbrev S1 (c : Cx) (n : Nat) (env : Frm) (cenv : Env) (st : Stmt) (loc : Loc) (mem : Mem) (Q : Out → Loc → Mem → Prop) : Prop := W c n env cenv FOk (exec st cenv) loc mem Q
variable {Q : Out → Loc → Mem → Prop}
theorem SS.nil (h : Q .next loc mem) : SS c n env cenv [] loc mem Q :=
  fun A s Post E hr I k => wpAny_execs_nil (k .next _ loc mem s rfl I (Step.refl _ _ _) h)
noncomputable def Cont (c : Cx) (n : Nat) (env : Frm) (cenv : Env) (rest : List Stmt) (Q : Out → Loc → Mem → Prop) : Out → Loc → Mem → Prop
  | .next, l, m => SS c n env cenv rest l m Q
  | o, l, m => Q o l m
theorem SS.cons {st : Stmt} {rest : List Stmt} (h : S1 c n env cenv st loc mem (Cont c n env cenv rest Q)) : SS c n env cenv (st :: rest) loc mem Q :=
  fun A s Post E hr I k => wpAny_execs_cons (h A s _ E hr I fun o r l m s' hR I' S q => by
    cases o with
    | next =>
      obtain rfl : r = .next := hR
      exact q A s' Post E hr I' fun b r l2 m2 s2 hb I2 S2 q2 => k b r l2 m2 s2 hb I2 (S.trans S2) q2
    | brk => obtain rfl : r = .brk := hR; exact k .brk _ l m s' rfl I' S q
    | cont => obtain rfl : r = .cont := hR; exact k .cont _ l m s' rfl I' S q
    | ret v => obtain ⟨x, rfl, hv⟩ := hR; exact k (.ret v) _ l m s' ⟨x, rfl, hv⟩ I' S q)
theorem S1.ret {e : Expr} {pos : Pos} (h : EV c n env cenv e loc mem (fun v l m => Q (.ret v) l m)) : S1 c n env cenv (.Return (some e) pos) loc mem Q :=
  fun A s Post E hr I k => wpAny_Return_some (h A s _ E hr I fun v x l m s' hv I' S q => k (.ret v) _ l m s' ⟨x, rfl, hv⟩ I' S q)
theorem S1.if {t : Expr} {body orelse : List Stmt} {pos : Pos} (h : Test c n env cenv t loc mem (fun b l m => if b then SS c n env cenv body l m Q else SS c n env cenv orelse l m Q)) : S1 c n env cenv (.If t body orelse pos) loc mem Q :=
  fun A s Post E hr I k => wpAny_If (h A s _ E hr I fun b r l m s' hb I' S q => by
    subst hb
    cases b
    · exact q A s' _ E hr I' fun b r l2 m2 s2 hb I2 S2 q2 => k b r l2 m2 s2 hb I2 (S.trans S2) q2
    · exact q A s' _ E hr I' fun b r l2 m2 s2 hb I2 S2 q2 => k b r l2 m2 s2 hb I2 (S.trans S2) q2)
theorem S1.expr {e : Expr} {pos : Pos} (h : EV c n env cenv e loc mem (fun v l m => v = .none ∧ Q .next l m)) (hi : interactive cenv = false := by rfl) (hs : swapsWith e none pos.line cenv = pure false := by rfl) : S1 c n env cenv (.Expr e pos) loc mem Q :=
  fun A s Post E hr I k => wpAny_Expr (h A s _ E hr I fun v x l m s' hv I' S ⟨e1, q⟩ => by
    subst e1
    obtain rfl : x = .none := hv
    exact k .next _ l m s' rfl I' S q) hi hs
/-- targets -/
noncomputable def AS (c : Cx) (n : Nat) (env : Frm) (cenv : Env) (t : Expr) (v : V) (loc : Loc) (mem : Mem) (Q : Loc → Mem → Prop) : Prop :=
  ∀ x, VOk v x → W c n env cenv (fun (_ : Unit) _ => True) (assign t cenv x) loc mem (fun _ l m => Q l m)
noncomputable def ASs (c : Cx) (n : Nat) (env : Frm) (cenv : Env) : List Expr → List V → Loc → Mem → (Loc → Mem → Prop) → Prop
  | [], _, l, m, Q => Q l m
  | t :: ts, v :: vs, l, m, Q => AS c n env cenv t v l m (fun l m => ASs c n env cenv ts vs l m Q)
  | _ :: _, [], _, _, _ => False
variable {P : Loc → Mem → Prop}
theorem AS.name {x : Str} {pos : Pos} {v : V} (hk : Kind cenv x) (h : P ((x, v) :: loc) mem) : AS c n env cenv (.Name x pos) v loc mem P :=
  fun x' hv A s Post E hr I k => wpAny_assign_Name (I.store hk hv fun s' I' S => k () () _ _ s' trivial I' S h)
noncomputable def SetI (c : Cx) (n : Nat) (env : Frm) (cenv : Env) (a i v : V) (loc : Loc) (mem : Mem) (P : Loc → Mem → Prop) : Prop :=
  ∀ a' i' v', VOk a a' → VOk i i' → VOk v v' → W c n env cenv (fun (_ : Unit) _ => True) (setItem a' i' v') loc mem (fun _ l m => P l m)
theorem SetI.list {l : Addr} {vs : List V} {i : Int} {v : V} (hm : mem l = some (.list vs)) (h0 : 0 ≤ i) (hi : i < 2 ^ 63) (hn : i < vs.length) (h : P loc (set mem l (.list (vs.set i.toNat v)))) : SetI c n env cenv (.ref l) (.int i) v loc mem P := by
  rintro _ _ v' rfl ⟨t, rfl⟩ hv A s Post E hr I k
  obtain ⟨xs, nn, hl, hx⟩ := I.i0.mem l _ hm
  have hlen := hx.length
  simp only [Array.length_toList] at hlen
  refine setItem_isL hl h0 hi (by omega) fun h' n' hl' hs' => ?_
  obtain ⟨I2, S2⟩ := I.upd (tk := s.toks) hm hs' (o' := .list (vs.set i.toNat v)) ⟨_, n', hl', by rw [Array.toList_setIfInBounds]; exact hx.set hv _⟩
  exact k () () _ _ _ trivial I2 S2 h
theorem SetI.dict {d : Addr} {kvs : List (Int × V)} {i : Int} {v : V} (hm : mem d = some (.dict kvs)) (hz : kvs.length ≤ 100000) (h : P loc (set mem d (.dict (put kvs i v)))) : SetI c n env cenv (.ref d) (.int i) v loc mem P := by
  rintro _ _ v' rfl ⟨t, rfl⟩ hv A s Post E hr I k
  obtain ⟨h0, kxs, hd, hx⟩ := I.i0.mem d _ hm
  refine wpAny_setItem_pairs (intKind_is c.prog c.w i t) hd (fun h' hd' hs' => ?_) (by rw [hx.length, sizeLine_eq]; omega)
  obtain ⟨I2, S2⟩ := I.upd (tk := s.toks + 1) hm hs' (o' := .dict (put kvs i v)) ⟨h0, _, hd', hx.put i hv⟩
  exact k () () _ _ _ trivial I2 S2 h
theorem AS.sub {o i : Expr} {pos : Pos} {v : V} (h : EV c n env cenv o loc mem (fun a l1 m1 => EV c n env cenv i l1 m1 (fun j l2 m2 => SetI c n env cenv a j v l2 m2 P)))
    (he : ∀ x, assign (.Subscript o i pos) cenv x = (do
      let ov ← holding [x] (eval o cenv)
      let iv ← holding [x, ov] (eval i cenv)
      standAt pos
      holding [x, ov, iv] (setItem ov iv x)
      release [x, ov, iv] []) := by intro _; rfl) : AS c n env cenv (.Subscript o i pos) v loc mem P :=
  fun x hv A s Post E hr I k => by
    rw [he]
    refine wpAny_bind (wpAny_holding (h A s _ E hr I ?_))
    intro a a' l1 m1 s1 ha I1 S1 h1
    refine wpAny_bind (wpAny_holding (h1 A s1 _ E hr I1 ?_))
    intro j j' l2 m2 s2 hj I2 S2 h2
    refine wpAny_bind (wpAny_standAt (wpAny_bind (wpAny_holding (h2 a' j' x ha hj hv A s2 _ E hr I2 ?_))))
    intro _ _ l3 m3 s3 _ I3 S3 q
    intro Γ p hΓ
    rw [Sem.wp_release]
    exact k () () l3 m3 s3 trivial I3 ((S1.trans S2).trans S3) q
theorem AS.tuple {elts : List Expr} {k1 : Nat} {pos : Pos} {t : Addr} {vs : List V} (hm : mem t = some (.tup vs)) (hn : elts.length = vs.length) (h : ASs c n env cenv elts vs loc mem P)
    (he : (assignEach elts cenv).map (·.2) = elts.map (fun t => assign t cenv) := by rfl) (hf : (assignEach elts cenv).findIdx? (·.1) = none := by rfl) : AS c n env cenv (.Tuple elts k1 pos) (.ref t) loc mem P := by
  rintro _ rfl A s Post E hr I k
  obtain ⟨xs, nn, hl, hx⟩ := I.i0.mem t _ hm
  have hlen := hx.length
  simp only [Array.length_toList] at hlen
  have hal : (assignEach elts cenv).length = elts.length := by rw [← List.length_map (f := (·.2)), he, List.length_map]
  refine assign_Tuple_tuple I.i0.handled ⟨_, hl, rfl, nn, rfl⟩ (by rw [hal, hn, hlen]) hf fun h' hk => ?_
  rw [he]
  have hk' : ∀ b o, s.heap.get? b = some o → h'.get? b = some o := fun b o e => hk b o (Nat.ne_of_lt (Heap.lt_size e)) e
  obtain ⟨I2, S2⟩ := I.grow (tk := s.toks) hk'
  have key : ∀ (es : List Expr) (us : List V) (ys : List Value) (l : Loc) (m : Mem) (s' : Shared), es.length = us.length → VsOk us ys → Inv c A env cenv l m s' → Step cenv mem s m s' → ASs c n env cenv es us l m P → wpAny (model c.prog c.w) A (assignInOrder (es.map fun t => assign t cenv) ys) Post E s' := by
    intro es
    induction es with
    | nil => intro us ys l m s' hl hv I' S' q; exact assignInOrder_nil (k () () l m s' trivial I' S' q)
    | cons e es ih =>
      intro us ys l m s' hl hv I' S' q
      cases hv with
      | nil => simp at hl
      | @cons u y us ys hu hus =>
        exact assignInOrder_cons (q y hu A s' _ E hr I' fun _ _ l2 m2 s2 _ I3 S3 q2 => ih us ys l2 m2 s2 (by simpa using hl) hus I3 (S'.trans S3) q2)
  exact key elts vs xs.toList loc mem _ hn hx I2 S2 h
theorem S1.assign {t value : Expr} {pos : Pos} (h : EV c n env cenv value loc mem (fun v l m => AS c n env cenv t v l m (fun l m => Q .next l m)))
    (hs : swapsWithSole [t] value pos.line cenv = pure false := by rfl) (hw : swappedStores [t] value cenv = pure none := by rfl) (he : (assignEach [t] cenv).map (·.2) = [PySem.assign t cenv] := by rfl) : S1 c n env cenv (.Assign [t] value pos) loc mem Q :=
  fun A s Post E hr I k => wpAny_Assign_stores (h A s _ E hr I fun v x l m s' hv I' S q => by
    rw [he]
    show wpAny _ A (PySem.assign t cenv x) _ _ _
    exact q x hv A s' _ E hr I' fun _ _ l2 m2 s2 _ I2 S2 q2 => k .next _ l2 m2 s2 rfl I2 (S.trans S2) q2) hs hw
/-- two or three plain names, the values a display: the stores go from the right -/
theorem S1.assignSwap2 {elts : List Expr} {k1 : Nat} {tpos pos : Pos} {value : Expr} {x1 x2 : Str} (h : EV c n env cenv value loc mem (fun v l m => ∃ t v1 v2, v = .ref t ∧ m t = some (.tup [v1, v2]) ∧ Q .next ((x1, v1) :: (x2, v2) :: l) m))
    (h1 : Kind cenv x1) (h2 : Kind cenv x2)
    (hs : swapsWithSole [.Tuple elts k1 tpos] value pos.line cenv = pure false := by rfl) (hw : swappedStores [.Tuple elts k1 tpos] value cenv = pure (some [x1, x2]) := by rfl) : S1 c n env cenv (.Assign [.Tuple elts k1 tpos] value pos) loc mem Q :=
  fun A s Post E hr I k => Assign_Tuple_swapped (h A s _ E hr I fun v x l m s' hv I' S ⟨t, v1, v2, e1, hm, q⟩ => by
    subst e1
    obtain rfl : x = .ref t := hv
    obtain ⟨xs, nn, hl, hx⟩ := I'.i0.mem t _ hm
    obtain ⟨y1, y2, e, hy1, hy2⟩ := hx.two
    have hxs : xs = #[y1, y2] := by rw [← Array.toArray_toList (xs := xs), e]
    subst hxs
    refine unpackItems_tuple (items := #[y1, y2]) I'.i0.handled ⟨_, hl, rfl, nn, rfl⟩ fun h' hk => ?_
    have hk' : ∀ b o, s'.heap.get? b = some o → h'.get? b = some o := fun b o e => hk b o (Nat.ne_of_lt (Heap.lt_size e)) e
    obtain ⟨I2, S2⟩ := I'.grow (tk := s'.toks) hk'
    refine assignInOrder_cons (wpAny_bindName (I2.store h2 hy2 fun s3 I3 S3 => assignInOrder_cons (wpAny_bindName (I3.store h1 hy1 fun s4 I4 S4 => assignInOrder_nil ?_))))
    exact k .next _ _ _ _ rfl I4 (((S.trans S2).trans S3).trans S4) q) hs hw
theorem S1.assignSwap3 {elts : List Expr} {k1 : Nat} {tpos pos : Pos} {value : Expr} {x1 x2 x3 : Str} (h : EV c n env cenv value loc mem (fun v l m => ∃ t v1 v2 v3, v = .ref t ∧ m t = some (.tup [v1, v2, v3]) ∧ Q .next ((x1, v1) :: (x2, v2) :: (x3, v3) :: l) m))
    (h1 : Kind cenv x1) (h2 : Kind cenv x2) (h3 : Kind cenv x3)
    (hs : swapsWithSole [.Tuple elts k1 tpos] value pos.line cenv = pure false := by rfl) (hw : swappedStores [.Tuple elts k1 tpos] value cenv = pure (some [x1, x2, x3]) := by rfl) : S1 c n env cenv (.Assign [.Tuple elts k1 tpos] value pos) loc mem Q :=
  fun A s Post E hr I k => Assign_Tuple_swapped (h A s _ E hr I fun v x l m s' hv I' S ⟨t, v1, v2, v3, e1, hm, q⟩ => by
    subst e1
    obtain rfl : x = .ref t := hv
    obtain ⟨xs, nn, hl, hx⟩ := I'.i0.mem t _ hm
    obtain ⟨y1, y2, y3, e, hy1, hy2, hy3⟩ := hx.three
    have hxs : xs = #[y1, y2, y3] := by rw [← Array.toArray_toList (xs := xs), e]
    subst hxs
    refine unpackItems_tuple (items := #[y1, y2, y3]) I'.i0.handled ⟨_, hl, rfl, nn, rfl⟩ fun h' hk => ?_
    have hk' : ∀ b o, s'.heap.get? b = some o → h'.get? b = some o := fun b o e => hk b o (Nat.ne_of_lt (Heap.lt_size e)) e
    obtain ⟨I2, S2⟩ := I'.grow (tk := s'.toks) hk'
    refine assignInOrder_cons (wpAny_bindName (I2.store h3 hy3 fun s3 I3 S3 => assignInOrder_cons (wpAny_bindName (I3.store h2 hy2 fun s4 I4 S4 => assignInOrder_cons (wpAny_bindName (I4.store h1 hy1 fun s5 I5 S5 => assignInOrder_nil ?_))))))
    exact k .next _ _ _ _ rfl I5 ((((S.trans S2).trans S3).trans S4).trans S5) q) hs hw
end
/-- a walk over a thing that OK speaks of; n items, the i-th is item i -/
structure Iter (c : Cx) (n : Nat) (item : Nat → Option V) (OK : Mem → Prop) (St : Addr → Nat → Heap → Prop) : Prop where
  at' : ∀ I i h h', St I i h → (∀ o, h.get? I = some o → h'.get? I = some o) → St I i h'
  here : ∀ I i h, St I i h → ∃ o, h.get? I = some o
  next : ∀ (A : Around) (E : Value → Shared → Prop) (s : Shared) (mem : Mem) (I : Addr) (i : Nat) (v : V) (Q : Option Value → Shared → Prop), MemAt c mem s.heap → OK mem → St I i s.heap → item i = some v →
    (∀ x h' tk, VOk v x → St I (i + 1) h' → Heap.SameBut I s.heap h' → Q (some x) { s with heap := h', toks := tk }) → wpAny (model c.prog c.w) A (pyNext (.ref I)) Q E s
  done : ∀ (A : Around) (E : Value → Shared → Prop) (s : Shared) (mem : Mem) (I : Addr) (Q : Option Value → Shared → Prop), A.handled = none → MemAt c mem s.heap → OK mem → St I n s.heap →
    (∀ h', Heap.ExtBut I s.heap h' → Q none { s with heap := h' }) → wpAny (model c.prog c.w) A (pyNext (.ref I)) Q E s
  some : ∀ i, i < n → ∃ v, item i = Option.some v
  again : ∀ (A : Around) (E : Value → Shared → Prop) (s : Shared) (mem : Mem) (I : Addr) (i : Nat) (Q : Value → Shared → Prop), MemAt c mem s.heap → OK mem → St I i s.heap → Q (.ref I) s → wpAny (model c.prog c.w) A (pyIter (.ref I)) Q E s
  owned : ∀ (A : Around) (E : Value → Shared → Prop) (s : Shared) (I : Addr) (i : Nat) (t : Expr) (v : Value) (Q : Unit → Shared → Prop), St I i s.heap → Q () s → wpAny (model c.prog c.w) A (letOwnedTupleGo t (.ref I) v) Q E s
theorem owned_other {M : Model} {A : Around} {E : Value → Shared → Prop} {s : Shared} {I : Addr} {t : Expr} {v : Value} {Q : Unit → Shared → Prop} {o : Obj} {T : String} (ho : s.heap.get? I = some o) (hc : o.cls = .type T)
    (hT : (["enumerate", "zip", "dict_itemiterator", "dict_reverseitemiterator", "odict_iterator", "itertools.zip_longest", "itertools.pairwise"].contains T) = false) (hQ : Q () s) : wpAny M A (letOwnedTupleGo t (.ref I) v) Q E s := by
  unfold letOwnedTupleGo
  split
  · split
    · rename_i h1
      cases h1
      refine wpAny_bind (wpAny_load ho ?_)
      rw [hc]
      split
      · rename_i n vs e1 e2
        cases e1
        rw [hT]
        exact wpAny_pure hQ
      · exact wpAny_pure hQ
    · exact wpAny_pure hQ
  · split
    · rename_i h1
      cases h1
      refine wpAny_bind (wpAny_load ho ?_)
      rw [hc]
      split
      · rename_i n vs e1 e2
        cases e1
        rw [hT]
        exact wpAny_pure hQ
      · exact wpAny_pure hQ
    · exact wpAny_pure hQ
  · exact wpAny_pure hQ
theorem Iter.list {c : Cx} (ax : Addr) (vs : List V) : Iter c vs.length (fun i => vs[i]?) (fun m => m ax = Option.some (.list vs)) (fun I i h => h.IsListIter I ax i) where
  at' := fun I i h h' ⟨o, ho, r⟩ k => ⟨o, k _ ho, r⟩
  here := fun I i h ⟨o, ho, _⟩ => ⟨o, ho⟩
  next := fun A E s mem I i v Q M hm st hv hQ => by
    obtain ⟨xs, nn, hl, hx⟩ := M ax _ hm
    obtain ⟨x, hx1, hx2⟩ := hx.get hv
    exact wpAny_pyNext_list_item st hl.isList (by rw [← Array.getElem?_toList]; exact hx1) fun h' st' hs => hQ x h' s.toks hx2 st' hs
  done := fun A E s mem I Q hh M hm st hQ => by
    obtain ⟨xs, nn, hl, hx⟩ := M ax _ hm
    have hlen := hx.length
    exact wpAny_pyNext_list_end hh st hl.isList (by rw [← Array.getElem?_toList]; exact List.getElem?_eq_none (by omega)) fun h' hs => hQ h' hs
  some := fun i hi => ⟨vs[i], List.getElem?_eq_getElem hi⟩
  again := fun A E s mem I i Q M hm st hQ => wpAny_pyIter_listiter st hQ
  owned := fun A E s I i t v Q ⟨o, ho, hc, _⟩ hQ => owned_other ho hc (by decide) hQ
theorem Iter.range {c : Cx} (a : Int) (n : Nat) : Iter c n (fun i => if i < n then Option.some (.int (a + (i : Int))) else none) (fun _ => True) (fun I i h => IsRangeIter h I (a + (i : Int)) ((n : Int) - (i : Int)) 1) where
  at' := fun I i h h' st k => k _ st
  here := fun I i h st => ⟨_, st⟩
  next := fun A E s mem I i v Q M hm st hv hQ => by
    have hi : i < n := by
      by_cases h : i < n
      · exact h
      · simp [h] at hv
    simp only [hi, if_true, Option.some.injEq] at hv
    subst hv
    refine wpAny_pyNext_range_item st (by omega) fun h' st' hs => hQ (.int (a + (i : Int)) s.toks) h' (s.toks + 1) (vint _ _) ?_ hs
    have e1 : a + ((i + 1 : Nat) : Int) = a + (i : Int) + 1 := by omega
    have e2 : (n : Int) - ((i + 1 : Nat) : Int) = (n : Int) - (i : Int) - 1 := by omega
    rw [e1, e2]
    exact st'
  done := fun A E s mem I Q hh M hm st hQ => wpAny_pyNext_range_end hh st (by omega) hQ
  some := fun i hi => ⟨_, if_pos hi⟩
  again := fun A E s mem I i Q M hm st hQ => wpAny_pyIter_rangeiter st hQ
  owned := fun A E s I i t v Q st hQ => owned_other st rfl (by decide) hQ
theorem intKind_key {c : Cx} {k : Int} {key : Value} (h : (intKind c.prog c.w).is k key = true) : VOk (.int k) key := Value.isInt_shape h
theorem KvOk.get {kvs : List (Int × V)} {kxs : List (Int × Value)} (h : KvOk kvs kxs) : ∀ {i : Nat} {k : Int} {v : V}, kvs[i]? = some (k, v) → ∃ x, kxs[i]? = some (k, x) ∧ VOk v x := by
  induction h with
  | nil => intro i k v e; simp at e
  | cons h _ ih =>
    intro i k v e
    cases i with
    | zero => simp at e; obtain ⟨rfl, rfl⟩ := e; exact ⟨_, by simp, h⟩
    | succ j => simp at e; simpa using ih e
theorem Iter.dict {c : Cx} (d : Addr) (kvs : List (Int × V)) (ep : Nat) : Iter c kvs.length (fun i => (kvs[i]?).map fun kv => V.int kv.1) (fun m => m d = Option.some (.dictE kvs ep)) (fun I i h => h.IsKeyIter I d i kvs.length ep) where
  at' := fun I i h h' ⟨o, ho, r⟩ k => ⟨o, k _ ho, r⟩
  here := fun I i h ⟨o, ho, _⟩ => ⟨o, ho⟩
  next := fun A E s mem I i v Q M hm st hv hQ => by
    obtain ⟨_, kxs, hd, hk⟩ := M d _ hm
    obtain ⟨⟨k, u⟩, e1, e2⟩ := Option.map_eq_some_iff.mp hv
    subst e2
    obtain ⟨x, hx, _⟩ := hk.get e1
    have hl := hk.length
    refine wpAny_pyNext_dict_item (kvs := kxs) (by rw [hl]; exact st) hd hx fun key h' hkey st' hs => hQ key h' s.toks (intKind_key hkey) ?_ hs
    rw [hl] at st'
    exact st'
  done := fun A E s mem I Q hh M hm st hQ => by
    obtain ⟨_, kxs, hd, hk⟩ := M d _ hm
    have hl := hk.length
    exact wpAny_pyNext_dict_end hh (kvs := kxs) (by rw [hl]; exact st) hd (List.getElem?_eq_none (by omega)) hQ
  some := fun i hi => ⟨.int (kvs[i]).1, by simp [hi]⟩
  again := fun A E s mem I i Q M hm st hQ => wpAny_pyIter_keyiter st hQ
  owned := fun A E s I i t v Q ⟨o, ho, hc, _⟩ hQ => owned_other ho hc (by decide) hQ
/-- a source of a walk: what pyIter makes of it -/
noncomputable def Src (c : Cx) (a : V) (mem : Mem) (n : Nat) (item : Nat → Option V) (OK : Mem → Prop) : Prop :=
  ∃ St, Iter c n item OK St ∧ OK mem ∧ ∀ (A : Around) (E : Value → Shared → Prop) (s : Shared) (a' : Value) (Q : Value → Shared → Prop), MemAt c mem s.heap → VOk a a' →
    (∀ o, St s.heap.objs.size 0 (s.heap.push o) → o.isFreed = false → Q (.ref s.heap.objs.size) { s with heap := s.heap.push o }) → wpAny (model c.prog c.w) A (pyIter a') Q E s
theorem Src.list {c : Cx} {mem : Mem} {ax : Addr} {vs : List V} (hm : mem ax = some (.list vs)) : Src c (.ref ax) mem vs.length (fun i => vs[i]?) (fun m => m ax = some (.list vs)) :=
  ⟨_, Iter.list ax vs, hm, fun A E s a' Q M ha h => by
    obtain rfl : a' = .ref ax := ha
    obtain ⟨xs, nn, hl, hx⟩ := M ax _ hm
    exact wpAny_pyIter_list hl.isList (h _ ⟨_, Heap.get?_push_size _ rfl, rfl, rfl⟩ rfl)⟩
theorem Src.range {c : Cx} {mem : Mem} {r : Addr} {a b : Int} (hm : mem r = some (.range a b)) (ha : -(2 ^ 62) ≤ a) (ha' : a < 2 ^ 62) (hb : -(2 ^ 62) ≤ b) (hb' : b < 2 ^ 62) :
    Src c (.ref r) mem (b - a).toNat (fun i => if i < (b - a).toNat then some (.int (a + (i : Int))) else none) (fun _ => True) :=
  ⟨_, Iter.range a (b - a).toNat, trivial, fun A E s a' Q M hv h => by
    obtain rfl : a' = .ref r := hv
    obtain ⟨t, u, v, hr⟩ := M r _ hm
    refine wpAny_pyIter_range hr (small_one ha ha' hb hb') (h _ ?_ rfl)
    have e : Builtin.Range.rangeSize a b 1 = ((b - a).toNat : Int) := by
      rw [rangeSize_one]
      split <;> omega
    show IsRangeIter _ _ (a + ((0 : Nat) : Int)) (((b - a).toNat : Int) - ((0 : Nat) : Int)) 1
    rw [e]
    have := Heap.get?_push_size s.heap (o := { cls := .type "range_iterator", data := .fields #[rawInt a, rawInt ((b - a).toNat : Int), rawInt 1] }) rfl
    simpa [IsRangeIter] using this⟩
theorem Src.dict {c : Cx} {mem : Mem} {d : Addr} {kvs : List (Int × V)} {ep : Nat} (hm : mem d = some (.dictE kvs ep)) : Src c (.ref d) mem kvs.length (fun i => (kvs[i]?).map fun kv => V.int kv.1) (fun m => m d = some (.dictE kvs ep)) :=
  ⟨_, Iter.dict d kvs ep, hm, fun A E s a' Q M hv h => by
    obtain rfl : a' = .ref d := hv
    obtain ⟨h0, kxs, hd, hk⟩ := M d _ hm
    refine wpAny_pyIter_dict (by simpa using h0) hd (h _ ?_ rfl)
    have hl := hk.length
    refine ⟨_, Heap.get?_push_size _ rfl, rfl, ?_⟩
    simp [hl]⟩
section
variable {c : Cx} {n : Nat} {env : Frm} {cenv : Env} {loc : Loc} {mem : Mem} {Q : Out → Loc → Mem → Prop}
/-- the epoch of a dict may be named -/
theorem W.epoch {α β : Type} {R : β → α → Prop} {t : Sem α} {d : Addr} {kvs : List (Int × V)} {Q : β → Loc → Mem → Prop} (hm : mem d = some (.dict kvs)) (h : ∀ ep, W c n env cenv R t loc (set mem d (.dictE kvs ep)) Q) : W c n env cenv R t loc mem Q :=
  fun A s Post E hr I k => by
    obtain ⟨h0, kxs, hd, hk⟩ := I.i0.mem d _ hm
    obtain ⟨ep, hd'⟩ := hd.dictAt
    obtain ⟨I2, S2⟩ := I.upd (tk := s.toks) hm (Heap.SameBut.refl d s.heap) (o' := .dictE kvs ep) ⟨h0, kxs, hd', hk⟩
    exact h ep A s Post E hr I2 fun b r l m s' hR I' S' q => k b r l m s' hR I' (S2.trans S') q
/-- how a turn ends -/
noncomputable def Turn (Q : Out → Loc → Mem → Prop) (J : Loc → Mem → Prop) : Out → Loc → Mem → Prop
  | .next, l, m => ∃ l', LSub l' l ∧ J l' m
  | .cont, l, m => ∃ l', LSub l' l ∧ J l' m
  | .brk, l, m => Q .next l m
  | .ret v, l, m => Q (.ret v) l m
theorem S1.while {test : Expr} {body : List Stmt} {pos : Pos} (J : Nat → Loc → Mem → Prop) (k0 : Nat) {loc0 : Loc} (hs0 : LSub loc0 loc) (h0 : J k0 loc0 mem)
    (turn : ∀ k l m, J k l m → Test c n env cenv test l m (fun b l m => if b then SS c n env cenv body l m (Turn Q fun l m => ∃ k', k' < k ∧ J k' l m) else Q .next l m)) : S1 c n env cenv (.While test body [] pos) loc mem Q :=
  fun A s Post E hr I kk => by
    refine wpAny_While ?_
    refine codeAny_whileLoop (fun k s' => ∃ l m, Inv c A env cenv l m s' ∧ Step cenv mem s m s' ∧ J k l m) ?_ k0 ⟨loc0, mem, I.sub hs0, Step.refl _ _ _, h0⟩
    rintro k s' ⟨l, m, I', S', hJ⟩
    refine turn k l m hJ A s' _ _ hr I' fun b r l2 m2 s2 hb I2 S2 q => ?_
    subst hb
    cases b
    · exact wpAny_execs_nil (kk .next _ l2 m2 s2 rfl I2 (S'.trans S2) q)
    · refine q A s2 _ _ hr I2 fun o r l3 m3 s3 hR I3 S3 q3 => ?_
      have S03 := (S'.trans S2).trans S3
      cases o with
      | next => obtain rfl : r = .next := hR; obtain ⟨l', hs, k', hk, hJ'⟩ := q3; exact ⟨k', hk, l', m3, I3.sub hs, S03, hJ'⟩
      | cont => obtain rfl : r = .cont := hR; obtain ⟨l', hs, k', hk, hJ'⟩ := q3; exact ⟨k', hk, l', m3, I3.sub hs, S03, hJ'⟩
      | brk => obtain rfl : r = .brk := hR; exact kk .next _ l3 m3 s3 rfl I3 S03 q3
      | ret v => obtain ⟨x, rfl, hv⟩ := hR; exact kk (.ret v) _ l3 m3 s3 ⟨x, rfl, hv⟩ I3 S03 q3
/-- an object of the machine's own -/
noncomputable def Side (env : Frm) (cenv : Env) (mem : Mem) (b : Addr) : Prop := mem b = none ∧ Free cenv b ∧ env.h₀.get? b = none ∧ b ≠ env.L
theorem Inv.side {A : Around} {s : Shared} {b : Addr} {h' : Heap} {tk : Nat} (I : Inv c A env cenv loc mem s) (sd : Side env cenv mem b) (hs : Heap.ExtBut b s.heap h') :
    Inv c A env cenv loc mem { s with heap := h', toks := tk } := by
  obtain ⟨hm, hf, h0, hL⟩ := sd
  have M : MemAt c mem h' := fun a o e => (I.i0.mem a o e).at fun ob h => hs a ob (fun q => by rw [q, hm] at e; cases e) h
  have G : Grd c A env mem { s with heap := h', toks := tk } := I.i0.grd.step fun a o ha hma e => ⟨hs a o (fun q => by
    subst q
    rcases ha with ha | ha
    · exact hL ha
    · rw [h0] at ha; cases ha) e, hma⟩
  obtain ⟨mm, ⟨oL, es, ep, eL, r⟩, hl⟩ := I.ns
  refine ⟨⟨G, I.i0.handled, I.i0.kind, M⟩, I.ck, I.cg, I.cb, ⟨mm, ⟨oL, es, ep, hs _ _ (Ne.symm hf.1) eL, r⟩, fun x v e => (hl x v e).keeps fun ca o hc ho => hs ca o (fun q => hf.2 x (q ▸ hc)) ho⟩, I.nl, I.nl0, I.cells0, fun x ca hc => ?_, I.cinj⟩
  obtain ⟨h1, ⟨v0, o, ho, hd⟩, h3⟩ := I.cells x ca hc
  exact ⟨h1, ⟨v0, o, hs ca o (fun q => hf.2 x (q ▸ hc)) ho, hd⟩, h3⟩
theorem Inv.newSide {A : Around} {s : Shared} (I : Inv c A env cenv loc mem s) {b : Addr} (hb : s.heap.objs.size ≤ b) : Side env cenv mem b := by
  refine ⟨I.i0.fresh hb, ⟨fun e => ?_, fun x e => ?_⟩, ?_, fun e => ?_⟩
  · obtain ⟨mm, hns, _⟩ := I.ns
    have := hns.lt
    rw [← e] at this
    exact absurd this (Nat.not_lt.mpr hb)
  · obtain ⟨_, ⟨v0, ob, ho, _⟩, _⟩ := I.cells x b e
    exact absurd (Heap.lt_size ho) (Nat.not_lt.mpr hb)
  · obtain ⟨m, F⟩ := I.i0.grd.fr
    cases e : env.h₀.get? b with
    | none => rfl
    | some o => exact absurd (Heap.lt_size (F.keep _ _ e)) (Nat.not_lt.mpr hb)
  · obtain ⟨m, F⟩ := I.i0.grd.fr
    have := F.ns.lt
    rw [← e] at this
    exact absurd this (Nat.not_lt.mpr hb)
/-- what a loop keeps of a state that it began from, but for its own object -/
structure StepB (cenv : Env) (II : Addr) (mem : Mem) (s : Shared) (mem' : Mem) (s' : Shared) : Prop where
  shape : ∃ h tk, s' = { s with heap := h, toks := tk }
  keep : ∀ b o, mem b = none → Free cenv b → b ≠ II → s.heap.get? b = some o → s'.heap.get? b = some o ∧ mem' b = none
theorem StepB.of {cenv : Env} {II : Addr} {m m' : Mem} {s s' : Shared} (x : Step cenv m s m' s') : StepB cenv II m s m' s' := ⟨x.shape, fun b o h1 h2 _ e => x.keep b o h1 h2 e⟩
theorem StepB.trans {cenv : Env} {II : Addr} {m₁ m₂ m₃ : Mem} {s₁ s₂ s₃ : Shared} (x : StepB cenv II m₁ s₁ m₂ s₂) (y : StepB cenv II m₂ s₂ m₃ s₃) : StepB cenv II m₁ s₁ m₃ s₃ := by
  obtain ⟨⟨h, tk, rfl⟩, k⟩ := x
  obtain ⟨⟨h', tk', rfl⟩, k'⟩ := y
  exact ⟨⟨h', tk', rfl⟩, fun b o hb hf hi e => let ⟨e1, e2⟩ := k b o hb hf hi e; k' b o e2 hf hi e1⟩
theorem StepB.side {cenv : Env} {II : Addr} {m : Mem} {s : Shared} {h' : Heap} {tk : Nat} (hs : Heap.ExtBut II s.heap h') : StepB cenv II m s m { s with heap := h', toks := tk } :=
  ⟨⟨h', tk, rfl⟩, fun b o hb _ hi e => ⟨hs b o hi e, hb⟩⟩
theorem S1.for {target iter : Expr} {body : List Stmt} {pos : Pos} (h : EV c n env cenv iter loc mem (fun a l m => ∃ (k : Nat) (item : Nat → Option V) (OK : Mem → Prop) (J : Nat → Loc → Mem → Prop) (l0 : Loc), Src c a m k item OK ∧ LSub l0 l ∧ J 0 l0 m ∧ (∀ i l m, J i l m → OK m) ∧
      (∀ i v l m, i < k → item i = some v → J i l m → AS c n env cenv target v l m (fun l m => SS c n env cenv body l m (Turn Q (J (i + 1))))) ∧ (∀ l m, J k l m → Q .next l m)))
    (hs : ∀ x, foldedSetIterable iter cenv x = Pure.pure x := by intro _; rfl) : S1 c n env cenv (.For target iter body [] pos) loc mem Q :=
  fun A s Post E hr I kk => by
    refine wpAny_For (h A s _ E hr I ?_) hs
    rintro a a' l1 m1 s1 ha I1 S1 ⟨k, item, OK, J, l0, ⟨St, It, hok, hiter⟩, hs0, hJ0, hJOK, turn, fin⟩
    refine hiter A E s1 a' _ I1.i0.mem ha fun o hst hfo => ?_
    obtain ⟨I2, S2⟩ := I1.grow (tk := s1.toks) (h' := s1.heap.push o) (fun b o' e => Heap.get?_push_of_some _ e)
    have sd : Side env cenv m1 s1.heap.objs.size := I1.newSide (Nat.le_refl _)
    have hnew : ∀ ob, s1.heap.get? s1.heap.objs.size = some ob → False := fun ob e => absurd (Heap.lt_size e) (Nat.lt_irrefl _)
    generalize s1.heap.objs.size = II at *
    -- what stood before the loop stands behind it
    have back : ∀ m s', StepB cenv II m1 { s1 with heap := s1.heap.push o } m s' → Step cenv mem s m s' := fun m s' SB => by
      obtain ⟨⟨hh, tk, e⟩, kp⟩ := SB
      obtain ⟨⟨hh1, tk1, e1⟩, kp1⟩ := S1
      refine ⟨⟨hh, tk, by rw [e, e1]⟩, fun b ob hb hf hbe => ?_⟩
      obtain ⟨g1, g2⟩ := kp1 b ob hb hf hbe
      exact kp b ob g2 hf (fun q => hnew ob (q ▸ g1)) (Heap.get?_push_of_some _ g1)
    refine codeAny_forLoop_any (fun r s' => ∃ i l m, i ≤ k ∧ r = k - i ∧ Inv c A env cenv l m s' ∧ StepB cenv II m1 { s1 with heap := s1.heap.push o } m s' ∧ J i l m ∧ St II i s'.heap ∧ Side env cenv m II) ?_ k
      ⟨0, l0, m1, Nat.zero_le _, rfl, I2.sub hs0, StepB.of (Step.refl _ _ _), hJ0, hst, sd⟩
    rintro r s' ⟨i, l, m, hi, rfl, I', S', hJ, hst', sd'⟩
    by_cases hlt : i < k
    · obtain ⟨v, hv⟩ := It.some i hlt
      refine It.next A _ s' m II i v _ I'.i0.mem (hJOK i l m hJ) hst' hv fun x h' tk hx hst2 hsb => ?_
      have I3 : Inv c A env cenv l m { s' with heap := h', toks := tk } := I'.side sd' hsb.extBut
      have S3 : StepB cenv II m1 { s1 with heap := s1.heap.push o } m { s' with heap := h', toks := tk } := S'.trans (StepB.side hsb.extBut)
      refine It.owned A _ _ II (i + 1) target x _ hst2 ?_
      refine turn i v l m hlt hv hJ x hx A _ _ _ hr I3 fun _ _ l4 m4 s4 _ I4 S4 q4 => ?_
      refine q4 A s4 _ _ hr I4 fun oo rr l5 m5 s5 hR I5 S5 q5 => ?_
      have S45 := S4.trans S5
      have S6 := S3.trans (StepB.of S45)
      have hst5 : St II (i + 1) s5.heap := It.at' II (i + 1) _ _ hst2 fun ob e => (S45.keep II ob sd'.1 sd'.2.1 e).1
      have sd5 : Side env cenv m5 II := by
        obtain ⟨ob, hob⟩ := It.here _ _ _ hst2
        exact ⟨(S45.keep II ob sd'.1 sd'.2.1 hob).2, sd'.2⟩
      cases oo with
      | next => obtain rfl : rr = .next := hR; obtain ⟨l', hs', hJ'⟩ := q5; exact ⟨k - (i + 1), by omega, i + 1, l', m5, hlt, rfl, I5.sub hs', S6, hJ', hst5, sd5⟩
      | cont => obtain rfl : rr = .cont := hR; obtain ⟨l', hs', hJ'⟩ := q5; exact ⟨k - (i + 1), by omega, i + 1, l', m5, hlt, rfl, I5.sub hs', S6, hJ', hst5, sd5⟩
      | brk => obtain rfl : rr = .brk := hR; exact kk .next _ l5 m5 s5 rfl I5 (back m5 s5 S6) q5
      | ret v => obtain ⟨x, rfl, hv⟩ := hR; exact kk (.ret v) _ l5 m5 s5 ⟨x, rfl, hv⟩ I5 (back m5 s5 S6) q5
    · obtain rfl : i = k := by omega
      refine It.done A _ s' m II _ I'.i0.handled I'.i0.mem (hJOK i l m hJ) hst' fun h' hsb => ?_
      have I3 : Inv c A env cenv l m { s' with heap := h', toks := s'.toks } := I'.side sd' hsb
      exact wpAny_execs_nil (kk .next _ l m _ rfl I3 (back m _ (S'.trans (StepB.side hsb))) (fin l m hJ))
end
/-- a def of the program's -/
noncomputable def FnIs (c : Cx) (qual : Str) (params : Arguments) (body : List Stmt) (scope : Scope) (f : Addr) : Prop :=
  ∃ (name : Str) (oc : Value) (od : Option Addr) (doc pm : Value) (an : Option Addr) (cdv ct : Value) (osl : Array (Option Value)), c.K.lookup f = some ⟨oc, od, .func (fnOf name qual params body scope .none .none doc pm an cdv ct), osl⟩ ∧ codeIn c.K cdv qual = true
/-- the objects that mem names, listed -/
noncomputable def namedL (mem : Mem) (h : Heap) : List (Addr × Obj) := ((List.range h.objs.size).filter fun b => (mem b).isSome).filterMap fun b => (h.get? b).map fun o => (b, o)
theorem namedL_mem {mem : Mem} {h : Heap} {p : Addr × Obj} (hp : p ∈ namedL mem h) : (mem p.1).isSome = true ∧ h.get? p.1 = some p.2 := by
  obtain ⟨b, hb, e⟩ := List.mem_filterMap.mp hp
  obtain ⟨o, ho, rfl⟩ := Option.map_eq_some_iff.mp e
  exact ⟨(List.mem_filter.mp hb).2, ho⟩
theorem namedL_has {mem : Mem} {h : Heap} {b : Addr} {o : Obj} (hm : (mem b).isSome = true) (ho : h.get? b = some o) : (b, o) ∈ namedL mem h :=
  List.mem_filterMap.mpr ⟨b, List.mem_filter.mpr ⟨List.mem_range.mpr (Heap.lt_size ho), hm⟩, by rw [ho]; rfl⟩
theorem bindL_off (kindOf : Str → Option NameKind) : ∀ (binds : List (Str × Value)) (m : Str → Option Value) (x : Str), x ∉ binds.map (·.1) → bindL kindOf binds m x = m x
  | [], _, _, _ => rfl
  | (n, v) :: r, m, x, h => by
    unfold bindL
    simp only [List.map_cons, List.mem_cons, not_or] at h
    rw [bindL_off kindOf r _ x h.2]
    split
    · simp [h.1]
    · rfl
theorem bindC_off (kindOf : Str → Option NameKind) : ∀ (binds : List (Str × Value)) (m : Str → Option Value) (x : Str), x ∉ binds.map (·.1) → bindC kindOf binds m x = m x
  | [], _, _, _ => rfl
  | (n, v) :: r, m, x, h => by
    unfold bindC
    simp only [List.map_cons, List.mem_cons, not_or] at h
    rw [bindC_off kindOf r _ x h.2]
    split
    · rfl
    · simp [h.1]
theorem bindL_at (kindOf : Str → Option NameKind) : ∀ (binds : List (Str × Value)) (m : Str → Option Value) (x : Str) (v : Value), (binds.map (·.1)).Nodup → (x, v) ∈ binds → kindOf x = some .local → bindL kindOf binds m x = some v
  | [], _, _, _, _, h, _ => nomatch h
  | (n, u) :: r, m, x, v, hn, h, hk => by
    unfold bindL
    simp only [List.map_cons, List.nodup_cons] at hn
    rcases List.mem_cons.mp h with e | h
    · cases e
      rw [bindL_off kindOf r _ _ hn.1, if_pos hk]; simp
    · exact bindL_at kindOf r _ x v hn.2 h hk
theorem bindC_at (kindOf : Str → Option NameKind) : ∀ (binds : List (Str × Value)) (m : Str → Option Value) (x : Str) (v : Value), (binds.map (·.1)).Nodup → (x, v) ∈ binds → kindOf x = some .cell → bindC kindOf binds m x = some v
  | [], _, _, _, _, h, _ => nomatch h
  | (n, u) :: r, m, x, v, hn, h, hk => by
    unfold bindC
    simp only [List.map_cons, List.nodup_cons] at hn
    rcases List.mem_cons.mp h with e | h
    · cases e
      rw [bindC_off kindOf r _ _ hn.1, if_neg (by rw [hk]; decide)]; simp
    · exact bindC_at kindOf r _ x v hn.2 h hk
theorem zip_lookup {ns : List Str} {vs : List V} {xs : List Value} (h : VsOk vs xs) : ∀ {x : Str} {v : V}, ns.length = vs.length → (ns.zip vs).lookup x = some v → x ∈ ns ∧ ∃ x', (x, x') ∈ ns.zip xs ∧ VOk v x' := by
  induction h generalizing ns with
  | nil => intro x v _ e; simp at e
  | @cons u y us ys hu _ ih =>
    intro x v hl e
    cases ns with
    | nil => simp at hl
    | cons n ns =>
      rw [List.zip_cons_cons, List.lookup_cons] at e
      cases hb : (x == n) with
      | true =>
        rw [hb] at e
        cases e
        obtain rfl := eq_of_beq hb
        exact ⟨List.mem_cons_self, y, by simp, hu⟩
      | false =>
        rw [hb] at e
        obtain ⟨h1, x', h2, h3⟩ := ih (ns := ns) (by simpa using hl) e
        exact ⟨List.mem_cons_of_mem _ h1, x', by rw [List.zip_cons_cons]; exact List.mem_cons_of_mem _ h2, h3⟩
section
variable {c : Cx} {n : Nat} {env : Frm} {mem : Mem}
/-- the frame of a call -/
noncomputable def frmOf (qual : Str) (scope : Scope) (L f : Addr) (cd : Value) (g : Heap) : Frm := ⟨envOfC qual scope L f cd, g, L⟩
/-- a call's code, from any frame -/
noncomputable def C0 (c : Cx) (n : Nat) (env : Frm) (f : Addr) (xs : List Value) (mem : Mem) (Q : V → Mem → Prop) : Prop :=
  ∀ (A : Around) (s : Shared) (R : Result → Shared → Prop), Room A n → Inv0 c A env mem s → (∀ v r mem' s', VOk v r → Inv0 c A env mem' s' → Step0 mem s mem' s' → Q v mem' → R (.ok (.ret r)) s') →
    codeAny (model c.prog c.w) A (.call (.ref f) ⟨xs, []⟩) R s
theorem C0.w0 {f : Addr} {xs : List Value} {Q : V → Mem → Prop} (h : C0 c n env f xs mem Q) : W0 c n env VOk (call (.ref f) xs) mem Q :=
  fun A s Post E hr I k => wpAny_call (h A s _ hr I fun v r mem' s' hv I' S q => k v r mem' s' hv I' S q)
theorem C0.callee {qual : Str} {params : Arguments} {body : List Stmt} {scope : Scope} {f : Addr} {names : List Str} {vs : List V} {xs : List Value} {Q : V → Mem → Prop} (hf : FnIs c qual params body scope f) (hvs : VsOk vs xs) (hlen : names.length = vs.length)
    (hbind : ∀ (name : Str) (doc pm : Value) (an : Option Addr) (cdv ct : Value), bindArgs (fnOf name qual params body scope .none .none doc pm an cdv ct) ⟨xs, []⟩ = Pure.pure (names.zip xs))
    (hnames : names.Nodup) (hkind : (names.all fun y => (scope.names.lookup y == some .local || scope.names.lookup y == some .cell) && !(y == ("__debug__" : Str))) = true)
    (hnd : ((cellsFrom 0 scope.names []).map (·.1)).Nodup) (hco : scope.isCoroutine = false) (hgen : scope.isGenerator = false) (hk : scope.kind = .function)
    (h : ∀ L cd g, SS c n (frmOf qual scope L f cd g) (envOfC qual scope L f cd) body (names.zip vs) mem (fun o _ m => match o with | .ret v => Q v m | .next => Q .none m | _ => False)) :
    C0 c (n + 1) env f xs mem Q := by
  intro A s R hr I kk
  obtain ⟨name, oc, od, doc, pm, an, cdv, ct, osl, hK, hcode⟩ := hf
  have G := I.grd
  obtain ⟨A₀, base, outer, B, hA⟩ := G.below
  obtain ⟨m, F⟩ := G.fr
  have N : News env.h₀ env.L s.heap (namedL mem s.heap) := fun p hp => by
    obtain ⟨h1, h2⟩ := namedL_mem hp
    refine ⟨h2, fun e => ?_, ?_⟩
    · rw [e, G.offL] at h1; cases h1
    · cases e : env.h₀.get? p.1 with
      | none => rfl
      | some o => rw [G.off _ _ e] at h1; cases h1
  obtain ⟨FG, BG, st, lv⟩ := groundX (R := fun _ _ => True) B F N hA G.frame I.kind
  have X := G.K.keeps F.keep
  have ho := X _ _ hK
  refine codeAny_call_function (fd := fnOf name qual params body scope .none .none doc pm an cdv ct) (body := body) (by have := hr.1; omega) ho rfl hco hgen rfl (codeRec_of X hcode) ?_
  rw [hbind]
  refine wpAny_pure ?_
  have hkd : ∀ n, ∀ x ∈ names.zip xs, scope.names.lookup x.1 = some .local ∨ (scope.names.lookup x.1 = some .cell ∧ ((cellsFrom n scope.names []).lookup x.1).isSome = true) := kindsX (by
    rw [List.all_eq_true]
    intro y hy
    have := List.all_eq_true.mp hkind y.1 (List.of_mem_zip hy).1
    exact (Bool.and_eq_true_iff.mp this).1)
  refine wpAny_newFunctionEnv_cells hk (hkd _) fun env' he s' x => ?_
  subst he
  have hs1 : ∃ h₁ tk, s' = { s with heap := h₁, toks := tk } := let ⟨h₁, tk, e, _⟩ := x.done; ⟨h₁, tk, e⟩
  obtain ⟨h₁, tk, rfl⟩ := hs1
  have hk₁ : ∀ b o, s.heap.get? b = some o → h₁.get? b = some o := x.toInCall.keep
  refine ⟨(G.top.nolimit.keeps F.keep).keeps hk₁, codeAny_func ?_⟩
  generalize hg : hideAll s.heap ((namedL mem s.heap).map (·.1)) = g at FG BG st lv
  have hgs : ∀ b o, g.get? b = some o → s.heap.get? b = some o := fun b o e => by rw [← hg] at e; exact of_hideAll _ e
  have goff : ∀ b o, g.get? b = some o → mem b = none := fun b o e => by
    cases hm : mem b with
    | none => rfl
    | some oo =>
      obtain ⟨ob, hob⟩ := (I.mem b oo hm).here
      have := hideAll_none (h := s.heap) ((namedL mem s.heap).map (·.1)) (b := b) (List.mem_map.mpr ⟨(b, ob), namedL_has (by rw [hm]; rfl) hob, rfl⟩)
      rw [hg, e] at this; cases this
  have gin : ∀ b o, s.heap.get? b = some o → mem b = none → g.get? b = some o := fun b o e hm => by
    rw [← hg]
    refine hideAll_get _ e fun hmem => ?_
    obtain ⟨p, hp, rfl⟩ := List.mem_map.mp hmem
    have := (namedL_mem hp).1
    rw [hm] at this; cases this
  have gsz : g.objs.size = s.heap.objs.size := by rw [← hg]; exact hideAll_size _ _
  have hL : s.heap.objs.size ≤ s.heap.objs.size := Nat.le_refl _
  have memL : ∀ b, s.heap.objs.size ≤ b → mem b = none := fun b hb => I.fresh hb
  -- the callee's frame
  have hcells : ∀ x ca, (envOfC qual scope s.heap.objs.size f cdv).cells.lookup x = some ca → s.heap.objs.size < ca := fun y ca e => x.above y ca (mem_of_lookup e)
  have I1 : Inv c (A.deeper (envOfC qual scope s.heap.objs.size f cdv)) (frmOf qual scope s.heap.objs.size f cdv g) (envOfC qual scope s.heap.objs.size f cdv) (names.zip vs) mem { s with heap := h₁, toks := tk } := by
    refine ⟨⟨⟨⟨A, base, env.env :: outer, BG, Around.frames_deeper BG.stack⟩, ⟨_, x.toInCall.ns, fun b o e => hk₁ b o (hgs b o e), Nat.le_of_eq gsz⟩, G.K.keeps st, G.top.keeps st, G.scr.keeps st, rfl, goff, memL _ hL⟩,
      I.handled, hk, fun b o e => (I.mem b o e).at fun ob h => hk₁ b ob h⟩, hk, rfl, rfl, ⟨_, x.toInCall.ns, fun y v e => ?_⟩, memL _ hL, ?_, fun y ca e => ⟨?_, Nat.ne_of_gt (hcells y ca e)⟩, fun y ca e => ⟨memL _ (Nat.le_of_lt (hcells y ca e)), ⟨_, x.cell y ca e⟩, Nat.ne_of_gt (hcells y ca e)⟩, fun y z ca e1 e2 => ?_⟩
    · obtain ⟨hy, x', hx', hok⟩ := zip_lookup hvs hlen e
      have hkk := List.all_eq_true.mp hkind y hy
      obtain ⟨h1, h2⟩ := Bool.and_eq_true_iff.mp hkk
      have hnz : ((names.zip xs).map (·.1)).Nodup := by
        rw [List.map_fst_zip (by rw [hlen, hvs.length]; exact Nat.le_refl _)]
        exact hnames
      refine ⟨by simpa using h2, ?_⟩
      rcases hkd (s.heap.objs.size + 1) (y, x') hx' with hl | ⟨hl, hs⟩
      · exact .inl ⟨hl, x', bindL_at _ _ _ y x' hnz hx' hl, hok⟩
      · obtain ⟨ca, hca⟩ := Option.isSome_iff_exists.mp hs
        refine .inr ⟨hl, ca, x', hca, ?_, hok⟩
        have := x.cell y ca hca
        rw [bindC_at _ _ _ y x' hnz hx' hl] at this
        exact this
    · exact get_none_size (Nat.le_of_eq gsz)
    · exact get_none_size (by rw [show (frmOf qual scope s.heap.objs.size f cdv g).h₀ = g from rfl, gsz]; exact Nat.le_of_lt (hcells y ca e))
    · exact name_of_addr x.apart (mem_of_lookup e1) (mem_of_lookup e2)
  have hr1 : Room (A.deeper (envOfC qual scope s.heap.objs.size f cdv)) n := by
    obtain ⟨h1, h2⟩ := hr
    constructor
    · show A.depth + 1 + 3 * n + 3 < recursionLimit
      omega
    · show A.units + 3 + 16 * n + 16 < cLine
      omega
  refine h s.heap.objs.size cdv g _ _ _ _ hr1 I1 fun o r l' m' s2 hR I2 S2 q => ?_
  have S0 : Step0 mem s m' s2 := by
    obtain ⟨⟨hh, tk2, e2⟩, kp⟩ := S2
    refine ⟨⟨hh, tk2, by rw [e2]⟩, fun b ob hb hbe => kp b ob hb ⟨Nat.ne_of_lt (Heap.lt_size hbe), fun y e => ?_⟩ (hk₁ b ob hbe)⟩
    exact absurd (Heap.lt_size hbe) (Nat.not_lt.mpr (Nat.le_of_lt (hcells y b e)))
  have I0 : Inv0 c A env m' s2 := I.step S0 I2.i0.mem
  cases o with
  | next => obtain rfl : r = .next := hR; exact kk .none _ m' s2 rfl I0 S0 q
  | brk => exact q.elim
  | cont => exact q.elim
  | ret v => obtain ⟨y, rfl, hv⟩ := hR; exact kk v y m' s2 hv I0 S0 q
/-- a contract of a function: what a call of it does, from any frame -/
noncomputable def Fn (c : Cx) (n : Nat) (f : Addr) (vs : List V) (mem : Mem) (Q : V → Mem → Prop) : Prop := ∀ (env : Frm) xs, VsOk vs xs → C0 c n env f xs mem Q
theorem Fn.call {cenv : Env} {loc : Loc} {f : Addr} {vs : List V} {k : Nat} {Q : V → Loc → Mem → Prop} (h : Fn c k f vs mem (fun v m => Q v loc m)) (hk : k ≤ n) : CallV c n env cenv (.ref f) vs loc mem Q :=
  fun xs hxs => W.of0 ((h env xs hxs).w0.up hk)
theorem Fn.mono {k : Nat} {f : Addr} {vs : List V} {Q Q' : V → Mem → Prop} (h : Fn c k f vs mem Q) (hq : ∀ v m, Q v m → Q' v m) : Fn c k f vs mem Q' :=
  fun env xs hxs A s R hr I kk => h env xs hxs A s R hr I fun v r m s' hv I' S q => kk v r m s' hv I' S (hq v m q)
end
section
variable {prog : Program} {w : World} {A : Around} {R : Result → Shared → Prop} {s : Shared}
/-- a comprehension's turns, any target, any tests -/
theorem compLoop_any {elt target iter : Expr} {ifs : List Expr} {scope : Scope} {pos : Pos} {it acc : Value} {env : Env} (I : Nat → Shared → Prop)
    (turn : ∀ n s, I n s → wpAny (model prog w) A (pyNext it) (fun r s₁ => match r with
      | none => R (.ok .next) s₁
      | some v => wpAny (model prog w) A (letOwnedTupleGo target it v) (fun _ s₁' => wpAny (model prog w) A (assign target env v) (fun _ s₂ =>
          wpAny (model prog w) A (forIn ifs true fun c r => if r = true then do let ok ← isTrue c env (eval c env); pure (ForInStep.yield ok) else pure (ForInStep.yield r)) (fun ok s₃ =>
            if ok = true then wpAny (model prog w) A (eval elt env) (fun x s₄ =>
              wpAny (model prog w) A (call (.builtin "list.append") [acc, x]) (fun _ s₅ => ∃ m, m < n ∧ I m s₅) (notedBy (model prog w) A env fun e s' => R (.error e) s') s₄) (notedBy (model prog w) A env fun e s' => R (.error e) s') s₃
            else ∃ m, m < n ∧ I m s₃) (notedBy (model prog w) A env fun e s' => R (.error e) s') s₂) (notedBy (model prog w) A env fun e s' => R (.error e) s') s₁') (notedBy (model prog w) A env fun e s' => R (.error e) s') s₁)
        (notedBy (model prog w) A env fun e s' => R (.error e) s') s)
    (n : Nat) (h : I n s) :
    codeAny (model prog w) A (.compLoop (.ListComp elt [⟨target, iter, ifs, 0⟩] scope pos) 0 it acc env) R s := by
  refine codeAny_loop rfl I (fun n s hI => ?_) n h
  show wpAny _ A ((compTurn (.ListComp elt [⟨target, iter, ifs, 0⟩] scope pos) 0 it acc env).onRaise (fun x => do noteFrame x env; theTreesLotGoes x)) _ _ s
  refine wpAny_noted ?_
  rw [compTurn_list]
  refine wpAny_bind (wpAny_standAt (wpAny_bind (wpAny_mono (turn n s hI) (fun r s₁ h₁ => ?_) fun _ _ h' => h')))
  cases r with
  | none => exact wpAny_pure h₁
  | some v =>
    refine wpAny_bind (wpAny_mono h₁ (fun _ s₁' h₁' => ?_) fun _ _ h' => h')
    refine wpAny_bind (wpAny_mono h₁' (fun _ s₂ h₂ => wpAny_bind (wpAny_mono h₂ (fun ok s₃ h₃ => ?_) fun _ _ h' => h')) fun _ _ h' => h')
    cases ok with
    | false => exact wpAny_pure ⟨rfl, h₃⟩
    | true =>
      exact wpAny_bind (wpAny_bind (wpAny_mono h₃ (fun x s₄ h₄ => wpAny_bind (wpAny_mono h₄ (fun _ s₅ h₅ => wpAny_pure (wpAny_pure ⟨rfl, h₅⟩)) fun _ _ h' => h')) fun _ _ h' => h'))
end
/-- the names that a comprehension takes from around it -/
noncomputable def restrict (loc : Loc) (cl : List (Str × Addr)) : Loc := loc.filter fun p => (cl.lookup p.1).isSome
theorem restrict_lookup {cl : List (Str × Addr)} {x : Str} : ∀ {loc : Loc}, (restrict loc cl).lookup x = if (cl.lookup x).isSome then loc.lookup x else none
  | [] => by simp [restrict]
  | (y, v) :: r => by
    have ih := restrict_lookup (cl := cl) (x := x) (loc := r)
    unfold restrict at ih ⊢
    rw [List.filter_cons]
    cases hxy : (x == y) with
    | true =>
      obtain rfl := eq_of_beq hxy
      by_cases hc : (cl.lookup x).isSome = true
      · rw [if_pos hc, if_pos hc, List.lookup_cons, List.lookup_cons, hxy]
      · rw [if_neg hc, if_neg hc, ih, if_neg hc]
    | false =>
      by_cases hc : (cl.lookup y).isSome = true
      · rw [if_pos hc, List.lookup_cons, hxy, ih, List.lookup_cons, hxy]
      · rw [if_neg hc, ih, List.lookup_cons, hxy]
noncomputable def ClIn (cells : List (Str × Addr)) : List (Str × Addr) → Prop
  | [] => True
  | (x, a) :: r => cells.lookup x = some a ∧ ClIn cells r
theorem ClIn.look {cells : List (Str × Addr)} : ∀ {cl : List (Str × Addr)}, ClIn cells cl → ∀ {x : Str} {a : Addr}, cl.lookup x = some a → cells.lookup x = some a
  | (y, b) :: r, h, x, a, e => by
    rw [List.lookup_cons] at e
    cases hxy : (x == y) with
    | true => rw [hxy] at e; cases e; rw [eq_of_beq hxy]; exact h.1
    | false => rw [hxy] at e; exact ClIn.look h.2 e
/-- what a comprehension's scope must be -/
structure CompOk (cenv : Env) (scope : Scope) (cl : List (Str × Addr)) : Prop where
  clos : closureFor scope cenv = pure cl
  sub : ClIn cenv.cells cl
  inner : (cl.all fun p => (relabel scope cenv).names.lookup p.1 == some .cell) = true
  outer : (cl.all fun p => cenv.kindOf p.1 == some .cell) = true
  nocell : ∀ y ∈ scope.names, y.2 ≠ .cell
  kind : scope.kind = .function
  names : ∀ y ∈ scope.names, y.2 = .local → scope.names.lookup y.1 = some .local
noncomputable def Tests (c : Cx) (n : Nat) (env : Frm) (ce : Env) (ifs : List Expr) (loc : Loc) (mem : Mem) (Q : Bool → Loc → Mem → Prop) : Prop := match ifs with
  | [] => Q true loc mem
  | [t] => Test c n env ce t loc mem Q
  | _ => False
section
variable {c : Cx} {n : Nat} {env : Frm} {cenv : Env} {loc : Loc} {mem : Mem}
theorem comp_core {A : Around} {s1 : Shared} {E : Value → Shared → Prop} {a : V} {a' : Value} {k : Nat} {item : Nat → Option V} {OK : Mem → Prop} {elt target iter : Expr} {ifs : List Expr} {scope : Scope} {cl : List (Str × Addr)} {pos : Pos} {RR : Value → Addr → Result → Shared → Prop}
    (hr : Room A n) (I1 : Inv c A env cenv loc mem s1) (ha : VOk a a') (src : Src c a mem k item OK) (hz : k ≤ 100000) (ok : CompOk cenv scope cl)
    (J : Nat → List V → Mem → Prop) (hJ0 : J 0 [] mem) (hOK : ∀ i ys m, J i ys m → OK m)
    (turn : ∀ C i v ys m, i < k → item i = some v → J i ys m → AS c n env (compEnvC scope cl C cenv) target v (restrict loc cl) m (fun l m => Tests c n env (compEnvC scope cl C cenv) ifs l m (fun b l m =>
      if b then EV c n env (compEnvC scope cl C cenv) elt l m (fun y l m => LSub (restrict loc cl) l ∧ J (i + 1) (ys ++ [y]) m) else LSub (restrict loc cl) l ∧ J (i + 1) ys m)))
    (fin : ∀ D C ys m s', Inv c A env cenv loc (set m D (.list ys)) s' → Step cenv mem s1 (set m D (.list ys)) s' → m D = none → J k ys m → Side env cenv (set m D (.list ys)) C → (∃ mm, s'.heap.Ns C mm) → (∀ o, s1.heap.get? C = some o → False) → RR (.ref D) C (.ok .next) s') :
    wpAny (model c.prog c.w) A (pyIter a') (fun it s2 => wpAny (model c.prog c.w) A (newList []) (fun acc s3 => wpAny (model c.prog c.w) A (newFunctionEnv scope cenv.globals cl [] cenv.qual none .none (some cenv)) (fun cenv' s4 =>
      codeAny (model c.prog c.w) A (.compStart (.ListComp elt [⟨target, iter, ifs, 0⟩] scope pos) 0 it acc { cenv' with scope := relabel scope cenv }) (RR acc cenv'.locals) s4) E s3) E s2) E s1 := by
  obtain ⟨St, It, hok, hiter⟩ := src
  refine hiter A E s1 a' _ I1.i0.mem ha fun o hst hfo => ?_
  refine wpAny_newObj_type (wpAny_newFunctionEnv ok.nocell (by intro y hy; simp at hy) (fun h₁ hns₁ hsb₁ => ?_) ok.kind)
  dsimp only at hns₁ hsb₁ ⊢
  -- three objects of the machine's own: the iterator, the list, the names
  generalize hII : s1.heap.objs.size = II at *
  generalize hH2 : s1.heap.push o = H2 at *
  have sz2 : H2.objs.size = II + 1 := by rw [← hH2, Heap.size_push, hII]
  generalize hH3 : H2.push { cls := .type "list", dict := none, data := .seq ([] : List Value).toArray } = H3 at *
  have sz3 : H3.objs.size = II + 2 := by rw [← hH3, Heap.size_push, sz2]
  have up : ∀ b oo, s1.heap.get? b = some oo → h₁.get? b = some oo := fun b oo e => by
    have hb : @LT.lt Nat instLTNat b II := by rw [← hII]; exact Heap.lt_size e
    refine hsb₁.extBut b oo (by rw [sz3]; exact neN (by omega)) (Heap.get?_push_of_some _ ?_)
    rw [← hH3]; refine Heap.get?_push_of_some _ ?_
    rw [← hH2]; exact Heap.get?_push_of_some _ e
  have hI : ∀ oo, H2.get? II = some oo → h₁.get? II = some oo := fun oo e => hsb₁.extBut II oo (by rw [sz3]; exact neN (by omega)) (Heap.get?_push_of_some _ (by rw [← hH3]; exact Heap.get?_push_of_some _ e))
  have hD : h₁.get? (II + 1) = some { cls := .type "list", data := .seq (#[] : Array Value) 0 } := hsb₁.extBut (II + 1) _ (by rw [sz3]; exact neN (by omega)) (Heap.get?_push_of_some _ (by rw [← hH3, ← sz2]; exact Heap.get?_push_size _ rfl))
  obtain ⟨I2, S2⟩ := I1.grow (tk := s1.toks + ([] : List (Str × Value)).length) up
  have sdI : Side env cenv mem II := I1.newSide (by rw [hII]; exact Nat.le_refl _)
  have sdD : Side env cenv mem (II + 1) := I1.newSide (by rw [hII]; omega)
  have sdC : Side env cenv mem (II + 2) := I1.newSide (by rw [hII]; omega)
  rw [sz3] at hns₁ ⊢
  rw [sz2]
  have hnew : ∀ (b : Addr) oo, @LE.le Nat instLENat II b → s1.heap.get? b = some oo → False := fun b oo hb e => by
    have h9 : @LT.lt Nat instLTNat b II := by have := Heap.lt_size e; rw [hII] at this; exact this
    exact absurd h9 (Nat.not_lt.mpr hb)
  -- the scope of the turns
  have hcl : ∀ x ca, cl.lookup x = some ca → cenv.cells.lookup x = some ca := fun x ca e => ok.sub.look e
  have hin : ∀ x ca, cl.lookup x = some ca → (relabel scope cenv).names.lookup x = some .cell := fun x ca e => by
    have := List.all_eq_true.mp ok.inner _ (mem_of_lookup e)
    simpa using this
  have hout : ∀ x ca, cl.lookup x = some ca → cenv.kindOf x = some .cell := fun x ca e => by
    have := List.all_eq_true.mp ok.outer _ (mem_of_lookup e)
    simpa using this
  have hheld : ∀ (h : Heap) (mm mm' : Str → Option Value) (x : Str) (v : V), (restrict loc cl).lookup x = some v → Held cenv h mm x v → Held (compEnvC scope cl (II + 2) cenv) h mm' x v := by
    intro h mm mm' x v e ⟨hd, hh⟩
    rw [restrict_lookup] at e
    split at e
    · rename_i hc
      obtain ⟨ca, hca⟩ := Option.isSome_iff_exists.mp hc
      refine ⟨hd, ?_⟩
      rcases hh with ⟨hk, _⟩ | ⟨hk, cb, v', hcb, hcell, hv⟩
      · rw [hout x ca hca] at hk; cases hk
      · rw [hcl x ca hca] at hcb
        cases hcb
        exact .inr ⟨hin x ca hca, ca, v', hca, hcell, hv⟩
    · cases e
  have IC : Inv c A env (compEnvC scope cl (II + 2) cenv) (restrict loc cl) mem { s1 with heap := h₁, toks := s1.toks + ([] : List (Str × Value)).length } := by
    obtain ⟨mm, hns, hl⟩ := I2.ns
    refine ⟨I2.i0, ok.kind, I2.cg, I2.cb, ⟨_, hns₁, fun x v e => hheld _ mm _ x v e (hl x v ?_)⟩, sdC.1, sdC.2.2.1, fun x ca e => I2.cells0 x ca (hcl x ca e), fun x ca e => ⟨(I2.cells x ca (hcl x ca e)).1, (I2.cells x ca (hcl x ca e)).2.1, fun q => sdC.2.1.2 x (by have := hcl x ca e; rw [q] at this; exact this)⟩, fun x y ca e1 e2 => I2.cinj x y ca (hcl x ca e1) (hcl y ca e2)⟩
    rw [restrict_lookup] at e
    split at e
    · exact e
    · cases e
  have sdIC : Side env (compEnvC scope cl (II + 2) cenv) mem II := ⟨sdI.1, ⟨by show II ≠ II + 2; omega, fun x e => sdI.2.1.2 x (hcl x II e)⟩, sdI.2.2⟩
  have sdDC : Side env (compEnvC scope cl (II + 2) cenv) mem (II + 1) := ⟨sdD.1, ⟨by show II + 1 ≠ II + 2; omega, fun x e => sdD.2.1.2 x (hcl x (II + 1) e)⟩, sdD.2.2⟩
  have hst₁ : St II 0 h₁ := It.at' II 0 _ _ hst hI
  -- what stood before the turns stands behind them
  have stepOut : ∀ m s', (∃ h tk, s' = { s1 with heap := h, toks := tk }) → (∀ b oo, mem b = none → Free (compEnvC scope cl (II + 2) cenv) b → b ≠ II → b ≠ II + 1 → h₁.get? b = some oo → s'.heap.get? b = some oo ∧ m b = none) → ∀ ys,
      Step cenv mem s1 (set m (II + 1) (.list ys)) s' := fun m s' sh kp ys => ⟨sh, fun b oo hb hf e => by
    have h0 : @LT.lt Nat instLTNat b II := by have := Heap.lt_size e; rw [hII] at this; exact this
    obtain ⟨g1, g2⟩ := kp b oo hb ⟨neN (a := b) (b := II + 2) (by omega), fun x q => hf.2 x (hcl x b q)⟩ (neN (by omega)) (neN (by omega)) (up b oo e)
    exact ⟨g1, by rw [set_ne (neN (a := b) (b := II + 1) (by omega))]; exact g2⟩⟩
  have loop : codeAny (model c.prog c.w) A (.compLoop (.ListComp elt [⟨target, iter, ifs, 0⟩] scope pos) 0 (.ref II) (.ref (II + 1)) (compEnvC scope cl (II + 2) cenv)) (RR (.ref (II + 1)) (II + 2)) { s1 with heap := h₁, toks := s1.toks + ([] : List (Str × Value)).length } := by
    refine compLoop_any (fun r s' => ∃ i ys m xs nn, i ≤ k ∧ r = k - i ∧ ys.length ≤ i ∧ Inv c A env (compEnvC scope cl (II + 2) cenv) (restrict loc cl) m s' ∧ (∃ h tk, s' = { s1 with heap := h, toks := tk }) ∧
        (∀ b oo, mem b = none → Free (compEnvC scope cl (II + 2) cenv) b → b ≠ II → b ≠ II + 1 → h₁.get? b = some oo → s'.heap.get? b = some oo ∧ m b = none) ∧ J i ys m ∧ St II i s'.heap ∧
        Side env (compEnvC scope cl (II + 2) cenv) m II ∧ Side env (compEnvC scope cl (II + 2) cenv) m (II + 1) ∧ m (II + 2) = none ∧ IsL s'.heap (II + 1) xs nn ∧ VsOk ys xs.toList) ?_ k
      ⟨0, [], mem, #[], 0, Nat.zero_le _, rfl, Nat.zero_le _, IC, ⟨_, _, rfl⟩, fun b oo hb _ _ _ e => ⟨e, hb⟩, hJ0, hst₁, sdIC, sdDC, sdC.1, hD, .nil⟩
    rintro r s' ⟨i, ys, m, xs, nn, hi, rfl, hyl, I', hsh, kp, hJ, hst', sdI', sdD', hmC, hD', hys⟩
    by_cases hlt : i < k
    · obtain ⟨v, hv⟩ := It.some i hlt
      refine It.next A _ s' m II i v _ I'.i0.mem (hOK i ys m hJ) hst' hv fun x h' tk hx hst2 hsb => ?_
      have I3 := I'.side (tk := tk) sdI' hsb.extBut
      have hD3 : IsL h' (II + 1) xs nn := hsb.extBut _ _ (neN (a := II + 1) (b := II) (by omega)) hD'
      refine It.owned A _ _ II (i + 1) target x _ hst2 ?_
      refine turn (II + 2) i v ys m hlt hv hJ x hx A _ _ _ hr I3 fun _ _ l4 m4 s4 _ I4 S4 q4 => ?_
      -- the rest of a turn, from s4 on, the state known by a step
      have rest : ∀ b l5 m5 s5, Inv c A env (compEnvC scope cl (II + 2) cenv) l5 m5 s5 → Step (compEnvC scope cl (II + 2) cenv) m { s' with heap := h', toks := tk } m5 s5 →
          (if b = true then EV c n env (compEnvC scope cl (II + 2) cenv) elt l5 m5 (fun y l m => LSub (restrict loc cl) l ∧ J (i + 1) (ys ++ [y]) m) else LSub (restrict loc cl) l5 ∧ J (i + 1) ys m5) →
          if b = true then wpAny (model c.prog c.w) A (eval elt (compEnvC scope cl (II + 2) cenv)) (fun x s₄ => wpAny (model c.prog c.w) A (call (.builtin "list.append") [.ref (II + 1), x])
              (fun _ s₅ => ∃ r, r < k - i ∧ ∃ i ys m xs nn, i ≤ k ∧ r = k - i ∧ ys.length ≤ i ∧ Inv c A env (compEnvC scope cl (II + 2) cenv) (restrict loc cl) m s₅ ∧ (∃ h tk, s₅ = { s1 with heap := h, toks := tk }) ∧
                (∀ b oo, mem b = none → Free (compEnvC scope cl (II + 2) cenv) b → b ≠ II → b ≠ II + 1 → h₁.get? b = some oo → s₅.heap.get? b = some oo ∧ m b = none) ∧ J i ys m ∧ St II i s₅.heap ∧
                Side env (compEnvC scope cl (II + 2) cenv) m II ∧ Side env (compEnvC scope cl (II + 2) cenv) m (II + 1) ∧ m (II + 2) = none ∧ IsL s₅.heap (II + 1) xs nn ∧ VsOk ys xs.toList)
              (notedBy (model c.prog c.w) A (compEnvC scope cl (II + 2) cenv) fun e s' => RR (.ref (II + 1)) (II + 2) (.error e) s') s₄) (notedBy (model c.prog c.w) A (compEnvC scope cl (II + 2) cenv) fun e s' => RR (.ref (II + 1)) (II + 2) (.error e) s') s5
          else ∃ r, r < k - i ∧ ∃ i ys m xs nn, i ≤ k ∧ r = k - i ∧ ys.length ≤ i ∧ Inv c A env (compEnvC scope cl (II + 2) cenv) (restrict loc cl) m s5 ∧ (∃ h tk, s5 = { s1 with heap := h, toks := tk }) ∧
                (∀ b oo, mem b = none → Free (compEnvC scope cl (II + 2) cenv) b → b ≠ II → b ≠ II + 1 → h₁.get? b = some oo → s5.heap.get? b = some oo ∧ m b = none) ∧ J i ys m ∧ St II i s5.heap ∧
                Side env (compEnvC scope cl (II + 2) cenv) m II ∧ Side env (compEnvC scope cl (II + 2) cenv) m (II + 1) ∧ m (II + 2) = none ∧ IsL s5.heap (II + 1) xs nn ∧ VsOk ys xs.toList := by
        have pass : ∀ l6 m6 s6, Inv c A env (compEnvC scope cl (II + 2) cenv) l6 m6 s6 → Step (compEnvC scope cl (II + 2) cenv) m { s' with heap := h', toks := tk } m6 s6 → (∃ h tk, s6 = { s1 with heap := h, toks := tk }) ∧
            (∀ b oo, mem b = none → Free (compEnvC scope cl (II + 2) cenv) b → b ≠ II → b ≠ II + 1 → h₁.get? b = some oo → s6.heap.get? b = some oo ∧ m6 b = none) ∧ St II (i + 1) s6.heap ∧
            Side env (compEnvC scope cl (II + 2) cenv) m6 II ∧ Side env (compEnvC scope cl (II + 2) cenv) m6 (II + 1) ∧ m6 (II + 2) = none ∧ IsL s6.heap (II + 1) xs nn := by
          intro l6 m6 s6 I6 S6
          obtain ⟨ob, hob⟩ := It.here _ _ _ hst2
          have kI := S6.keep II ob sdI'.1 sdI'.2.1 hob
          have kD := S6.keep (II + 1) _ sdD'.1 sdD'.2.1 hD3
          refine ⟨?_, fun b oo h1 h2 h3 h4 h5 => ?_, It.at' II (i + 1) _ _ hst2 fun ob e => (S6.keep II ob sdI'.1 sdI'.2.1 e).1, ⟨kI.2, sdI'.2⟩, ⟨kD.2, sdD'.2⟩, I6.nl, kD.1⟩
          · obtain ⟨hh, tt, e⟩ := hsh
            obtain ⟨hh2, tt2, e2⟩ := S6.shape
            exact ⟨hh2, tt2, by rw [e2, e]⟩
          · obtain ⟨g1, g2⟩ := kp b oo h1 h2 h3 h4 h5
            exact S6.keep b oo g2 h2 ((hsb.2 b h3).trans g1)
        intro b l5 m5 s5 I5 S5 q5
        cases b with
        | false =>
          simp only [Bool.false_eq_true, if_false] at q5 ⊢
          obtain ⟨p1, p2, p3, p4, p5, p6, p7⟩ := pass l5 m5 s5 I5 S5
          exact ⟨k - (i + 1), by omega, i + 1, ys, m5, xs, nn, hlt, rfl, Nat.le_succ_of_le hyl, I5.sub q5.1, p1, p2, q5.2, p3, p4, p5, p6, p7, hys⟩
        | true =>
          simp only [if_true] at q5 ⊢
          refine q5 A s5 _ _ hr I5 fun y y' l6 m6 s6 hy I6 S6 q6 => ?_
          obtain ⟨p1, p2, p3, p4, p5, p6, p7⟩ := pass l6 m6 s6 I6 (S5.trans S6)
          have hxl := hys.length
          simp only [Array.length_toList] at hxl
          refine append_at (hsz := by rw [sizeLine_eq]; omega) p7 fun h7 hs7 hD7 => ?_
          obtain ⟨hh, tt, e6⟩ := p1
          refine ⟨k - (i + 1), by omega, i + 1, ys ++ [y], m6, xs.push y', nn + 1, hlt, rfl, by rw [List.length_append, List.length_singleton]; omega, (I6.side (tk := s6.toks) p5 hs7.extBut).sub q6.1, ⟨h7, s6.toks, by rw [e6]⟩,
            fun b oo h1 h2 h3 h4 h5 => ⟨(hs7.2 b h4).trans (p2 b oo h1 h2 h3 h4 h5).1, (p2 b oo h1 h2 h3 h4 h5).2⟩, q6.2, It.at' II (i + 1) _ _ p3 fun ob e => (hs7.2 II (neN (a := II) (b := II + 1) (by omega))).trans e, p4, p5, p6, hD7, by rw [Array.toList_push]; exact hys.append (.cons hy .nil)⟩
      unfold Tests at q4
      split at q4
      · exact wpAny_tests_nil (rest true l4 m4 s4 I4 S4 q4)
      · refine wpAny_tests_one ?_
        exact q4 A s4 _ _ hr I4 fun b r l5 m5 s5 hb I5 S5 q5 => by
          subst hb
          exact rest b l5 m5 s5 I5 (S4.trans S5) q5
      · exact q4.elim
    · obtain rfl : i = k := by omega
      refine It.done A _ s' m II _ I'.i0.handled I'.i0.mem (hOK i ys m hJ) hst' fun h' hsb => ?_
      have I3 := I'.side (tk := s'.toks) sdI' hsb
      obtain ⟨hh, tt, e'⟩ := hsh
      have hC : ∃ mm, h'.Ns (II + 2) mm := by
        obtain ⟨mm, hns, _⟩ := I3.ns
        exact ⟨mm, hns⟩
      have kp3 : ∀ b oo, mem b = none → Free (compEnvC scope cl (II + 2) cenv) b → b ≠ II → b ≠ II + 1 → h₁.get? b = some oo → h'.get? b = some oo ∧ m b = none := fun b oo h1 h2 h3 h4 h5 => ⟨hsb b oo h3 (kp b oo h1 h2 h3 h4 h5).1, (kp b oo h1 h2 h3 h4 h5).2⟩
      have hS := stepOut m { s' with heap := h', toks := s'.toks } ⟨h', s'.toks, by rw [e']⟩ kp3 ys
      refine fin (II + 1) (II + 2) ys m { s' with heap := h' } ?_ hS sdD'.1 hJ ?_ hC (fun o => hnew _ o (Nat.le_add_right _ _))
      · -- the frame around stands as it stood
        have M : MemAt c (set m (II + 1) (.list ys)) h' := fun b oo e => by
          by_cases hb : b = II + 1
          · subst hb; rw [set_self] at e; cases e
            exact ⟨xs, nn, hsb _ _ (neN (a := II + 1) (b := II) (by omega)) hD', hys⟩
          · rw [set_ne hb] at e; exact I3.i0.mem b oo e
        obtain ⟨mm, hns, hl⟩ := I1.ns
        have g3 := I3.i0.grd
        have G : Grd c A env (set m (II + 1) (.list ys)) { s' with heap := h', toks := s'.toks } := g3.step fun b oo hb hmb e => ⟨e, by
          rw [set_ne]
          · exact hmb
          · intro q
            subst q
            rcases hb with hb | hb
            · exact sdD'.2.2.2 hb
            · rw [sdD'.2.2.1] at hb; cases hb⟩
        have old : ∀ b oo, s1.heap.get? b = some oo → mem b = none → (∀ x, cl.lookup x ≠ some b) → h'.get? b = some oo ∧ m b = none := fun b oo e hb hx => by
          have h0 : @LT.lt Nat instLTNat b II := by have := Heap.lt_size e; rw [hII] at this; exact this
          exact kp3 b oo hb ⟨neN (a := b) (b := II + 2) (by omega), hx⟩ (neN (by omega)) (neN (by omega)) (up b oo e)
        have nlC : ∀ x, cl.lookup x ≠ some cenv.locals := fun x q => (I1.cells x _ (hcl x _ q)).2.2 rfl
        obtain ⟨oL, es, ep, eL, r⟩ := hns
        have kL := old cenv.locals oL eL I1.nl nlC
        have hmm : ∀ b, m b = none → b ≠ II + 1 → (set m (II + 1) (.list ys)) b = none := fun b hb hne => by rw [set_ne hne]; exact hb
        have hcellm : ∀ x ca, cenv.cells.lookup x = some ca → m ca = none ∧ ca ≠ II + 1 ∧ ∃ v0, h'.IsCell ca v0 := fun x ca e => by
          obtain ⟨g1, ⟨v0, ob, ho, hd⟩, g3⟩ := I1.cells x ca e
          have hlt : @LT.lt Nat instLTNat ca II := by have := Heap.lt_size ho; rw [hII] at this; exact this
          by_cases hx : ∃ y, cl.lookup y = some ca
          · obtain ⟨y, hy⟩ := hx
            obtain ⟨q1, q2, q3⟩ := I3.cells y ca hy
            exact ⟨q1, neN (a := ca) (b := II + 1) (by omega), q2⟩
          · have := old ca ob ho g1 (fun y q => hx ⟨y, q⟩)
            exact ⟨this.2, neN (a := ca) (b := II + 1) (by omega), v0, ob, this.1, hd⟩
        refine ⟨⟨G, I3.i0.handled, I3.i0.kind, M⟩, I1.ck, I1.cg, I1.cb, ⟨mm, ⟨oL, es, ep, kL.1, r⟩, fun x v e => ?_⟩, hmm _ kL.2 (fun q => hnew _ _ (by rw [q]; omega) eL), I1.nl0, I1.cells0, fun x ca e => ⟨hmm _ (hcellm x ca e).1 (hcellm x ca e).2.1, (hcellm x ca e).2.2, (I1.cells x ca e).2.2⟩, I1.cinj⟩
        obtain ⟨hd, hh⟩ := hl x v e
        refine ⟨hd, hh.imp id fun ⟨hk, ca, v', hca, ⟨ob, ho, hdt⟩, hv⟩ => ?_⟩
        by_cases hx : ∃ y, cl.lookup y = some ca
        · obtain ⟨y, hy⟩ := hx
          obtain rfl : y = x := I1.cinj y x ca (hcl y ca hy) hca
          obtain ⟨mm3, _, hl3⟩ := I3.ns
          obtain ⟨_, h3⟩ := hl3 y v (by rw [restrict_lookup, hy]; exact e)
          rcases h3 with ⟨hk3, _⟩ | ⟨hk3, cb, v3, hcb, hcell, hv3⟩
          · have := hin y ca hy
            have hk3' : (relabel scope cenv).names.lookup y = some .local := hk3
            rw [this] at hk3'; cases hk3'
          · have hcb' : cl.lookup y = some cb := hcb
            rw [hy] at hcb'; cases hcb'
            exact ⟨hk, ca, v3, hca, hcell, hv3⟩
        · obtain ⟨g1, _, _⟩ := I1.cells x ca hca
          exact ⟨hk, ca, v', hca, ⟨ob, (old ca ob ho g1 (fun y q => hx ⟨y, q⟩)).1, hdt⟩, hv⟩
      · refine ⟨?_, sdC.2⟩
        rw [set_ne (neN (a := II + 2) (b := II + 1) (by omega))]; exact hmC
  exact codeAny_compStart_list loop (It.again A _ _ mem II 0 _ IC.i0.mem (hOK 0 [] mem hJ0) hst₁ loop)
end
section
variable {c : Cx} {n : Nat} {env : Frm} {cenv : Env} {loc : Loc} {mem : Mem}
/-- what a comprehension over a source does -/
noncomputable def CompR (c : Cx) (n : Nat) (env : Frm) (cenv : Env) (elt target : Expr) (ifs : List Expr) (scope : Scope) (cl : List (Str × Addr)) (a : V) (l : Loc) (m : Mem) (Q : V → Loc → Mem → Prop) : Prop :=
  ∃ (k : Nat) (item : Nat → Option V) (OK : Mem → Prop) (J : Nat → List V → Mem → Prop), Src c a m k item OK ∧ k ≤ 100000 ∧ J 0 [] m ∧ (∀ i ys m, J i ys m → OK m) ∧
    (∀ C i v ys m, i < k → item i = some v → J i ys m → AS c n env (compEnvC scope cl C cenv) target v (restrict l cl) m (fun l' m => Tests c n env (compEnvC scope cl C cenv) ifs l' m (fun b l' m =>
      if b then EV c n env (compEnvC scope cl C cenv) elt l' m (fun y l' m => LSub (restrict l cl) l' ∧ J (i + 1) (ys ++ [y]) m) else LSub (restrict l cl) l' ∧ J (i + 1) ys m))) ∧
    (∀ ys m D, J k ys m → m D = none → Q (.ref D) l (set m D (.list ys)))
theorem Step.letGo {s1 s' : Shared} {m m' : Mem} {C : Addr} {h' : Heap} (S : Step cenv m s1 m' s') (hC : ∀ o, s1.heap.get? C = some o → False) (hs : Heap.SameBut C s'.heap h') : Step cenv m s1 m' { s' with heap := h' } := by
  obtain ⟨⟨hh, tk, e⟩, kp⟩ := S
  refine ⟨⟨h', tk, by rw [e]⟩, fun b o hb hf hbe => ?_⟩
  obtain ⟨g1, g2⟩ := kp b o hb hf hbe
  exact ⟨(hs.2 b (fun q => hC o (q ▸ hbe))).trans g1, g2⟩
theorem EV.listComp {elt target iter : Expr} {ifs : List Expr} {scope : Scope} {cl : List (Str × Addr)} {pos : Pos} {Q : V → Loc → Mem → Prop} (ok : CompOk cenv scope cl)
    (h : EV c n env cenv iter loc mem (fun a l m => CompR c n env cenv elt target ifs scope cl a l m Q))
    (hs : ∀ x, foldedSetIterable iter cenv x = Pure.pure x := by intro _; rfl) : EV c n env cenv (.ListComp elt [⟨target, iter, ifs, 0⟩] scope pos) loc mem Q := by
  intro A s Post E hr I kk
  rw [eval_ListComp]
  refine wpAny_comprehension_free (use := none) rfl hs ok.clos ok.kind ok.names (h A s _ E hr I fun a a' l1 m1 s1 ha I1 S1 ⟨k, item, OK, J, src, hz, hJ0, hOK, turn, fin⟩ => ?_)
  refine comp_core (RR := fun acc C r s' => compPost (model c.prog c.w) A E none Post acc C r s') hr I1 ha src hz ok J hJ0 hOK turn ?_
  intro D C ys m s' I' S' hD hJ sd hns hC
  obtain ⟨mm, hns⟩ := hns
  refine ⟨mm, hns, fun h' hs' => ?_⟩
  exact kk (.ref D) _ l1 _ _ rfl (I'.side (tk := s'.toks) sd hs'.extBut) (S1.trans (S'.letGo hC hs')) (fin ys m D hJ hD)
theorem S1.assignComp {elt target iter : Expr} {ifs : List Expr} {scope : Scope} {cl : List (Str × Addr)} {pos spos py : Pos} {y : Str} {Q : Out → Loc → Mem → Prop} (ok : CompOk cenv scope cl) (hy : Kind cenv y)
    (h : EV c n env cenv iter loc mem (fun a l m => CompR c n env cenv elt target ifs scope cl a l m (fun v l m => Q .next ((y, v) :: l) m)))
    (hsw : swapsWith (.ListComp elt [⟨target, iter, ifs, 0⟩] scope pos) (some (.Name y py)) spos.line cenv = pure true := by rfl)
    (hs : ∀ x, foldedSetIterable iter cenv x = Pure.pure x := by intro _; rfl) : S1 c n env cenv (.Assign [.Name y py] (.ListComp elt [⟨target, iter, ifs, 0⟩] scope pos) spos) loc mem Q := by
  intro A s Post E hr I kk
  rw [exec_Assign_Name_used _ _ _ _ hsw]
  refine wpAny_bind (wpAny_standAt (wpAny_bind ?_))
  show wpAny _ A (do let _ ← comprehension (.ListComp elt [⟨target, iter, ifs, 0⟩] scope pos) scope cenv _ (newList []) false (eval iter cenv) (some (PySem.assign (.Name y py) cenv))) _ _ s
  refine wpAny_bind (wpAny_mono (wpAny_comprehension_free (use := some (PySem.assign (.Name y py) cenv)) (Q := fun _ s' => Post .next s') rfl hs ok.clos ok.kind ok.names
    (h A s _ E hr I fun a a' l1 m1 s1 ha I1 S1 ⟨k, item, OK, J, src, hz, hJ0, hOK, turn, fin⟩ => ?_)) (fun _ s' hq => wpAny_pure (wpAny_pure hq)) fun _ _ e => e)
  refine comp_core (RR := fun acc C r s' => compPost (model c.prog c.w) A E (some (PySem.assign (.Name y py) cenv)) (fun _ s' => Post .next s') acc C r s') hr I1 ha src hz ok J hJ0 hOK turn ?_
  intro D C ys m s' I' S' hD hJ sd hns hC
  obtain ⟨mm, hns⟩ := hns
  show wpAny _ A (PySem.assign (.Name y py) cenv (.ref D)) _ _ _
  refine wpAny_assign_Name (I'.store hy (v := .ref D) rfl fun s2 I2 S2 => ?_)
  obtain ⟨oC, es, ep, eC, r⟩ := hns
  have kC := S2.keep C oC sd.1 sd.2.1 eC
  refine ⟨mm, ⟨oC, es, ep, kC.1, r⟩, fun h' hs' => ?_⟩
  exact kk .next _ _ _ _ rfl (I2.side (tk := s2.toks) sd hs'.extBut) (S1.trans ((S'.trans S2).letGo hC hs')) (fin ys m D hJ hD)
end
theorem AtOk.get {fs : List (Str × V)} {es : List DictEntry} (h : AtOk fs es) (x : Str) : match fs.lookup x with | some v => ∃ y, getL x es = some (some y) ∧ VOk v y | none => getL x es = some none := by
  induction h with
  | nil => rfl
  | @cons z v hh t y fs es hv _ ih =>
    rw [List.lookup_cons]
    have hs : (Value.str z t).isStr x = (z == x) := rfl
    unfold getL at ih ⊢
    rw [List.find?_cons, List.any_cons]
    simp only [hs]
    by_cases hx : x = z
    · subst hx
      simp only [beq_self_eq_true]
      exact ⟨y, rfl, hv⟩
    · rw [beq_eq_false_iff_ne.mpr hx, beq_eq_false_iff_ne.mpr (Ne.symm hx)]
      exact ih
theorem AtOk.length {fs : List (Str × V)} {es : List DictEntry} (h : AtOk fs es) : es.length = fs.length := by
  induction h with
  | nil => rfl
  | cons _ _ ih => simp [ih]
/-- a name that was not there -/
theorem AtOk.put {fs : List (Str × V)} {es : List DictEntry} (h : AtOk fs es) {x : Str} {v : V} {y : Value} (hx : fs.lookup x = none) (hv : VOk v y) (hh : Int) (t : Tok) : AtOk (fs ++ [(x, v)]) (putL x hh (.str x t) y es) := by
  induction h with
  | nil => exact .cons hv .nil
  | @cons z u h' t' w fs es hu _ ih =>
    rw [List.lookup_cons] at hx
    unfold putL
    have hs : (Value.str z t').isStr x = (z == x) := rfl
    simp only [hs]
    by_cases he : x = z
    · subst he; simp at hx
    · rw [beq_eq_false_iff_ne.mpr he] at hx
      rw [beq_eq_false_iff_ne.mpr (Ne.symm he)]
      exact .cons hu (ih hx)
theorem VOk.handed {v : V} {x : Value} (h : VOk v x) : handedIn x = true := by
  cases v with
  | int i => obtain ⟨t, rfl⟩ := h; rfl
  | bool b => obtain rfl : x = _ := h; rfl
  | none => obtain rfl : x = _ := h; rfl
  | ref a => obtain rfl : x = _ := h; rfl
/-- the class Heap -/
structure HeapK (c : Cx) : Prop where
  makes : makesIn c.K c.hC = true
  keep : keepIn c.K (.ref c.hC) = true
  get : plainGet c.K c.hC "limit" = true
  dict : hasDictIn c.K c.hC = true
  setA : findIn c.K (.ref c.hC) "__setattr__" = some (some (.builtin "object.__setattr__"))
  over : plainOver c.K c.hC = true
  limit : findIn c.K (.ref c.hC) "limit" = some none
  cells : findIn c.K (.ref c.hC) "cells" = some none
section
variable {prog : Program} {w : World} {A : Around} {E : Value → Shared → Prop} {s : Shared} {K : Frag} {x C dx L : Addr} {ox : Obj} {es : List DictEntry} {n : Nat} {name : Str} {v : Value}
theorem set_attr {Q : Unit → Shared → Prop} (X : K.In s.heap) (I : InstAt s.heap x ox C (some (dictOf es n))) (hd : ox.dict = some dx)
    (hs : findIn K (.ref C) "__setattr__" = some (some (.builtin "object.__setattr__"))) (hp : plainOver K C = true) (ht : takerIn K C name = some none) (hh : hasDictIn K C = true) (hl : (getL name es).isSome = true)
    (hz : (putL name (PyData.keyHash w.params name) (.str name (s.toks + 1)) v es).length ≤ 1000)
    (h : ∀ h', Heap.SameBut dx s.heap h' → h'.get? dx = some (dictOf (putL name (PyData.keyHash w.params name) (.str name (s.toks + 1)) v es) (putN name es n)) → Q () { s with heap := h', toks := s.toks + 2 }) :
    wpAny (model prog w) A (setAttr (.ref x) name v) Q E s := by
  refine set_plain X I hs ?_
  refine osa_open (s := { s with toks := s.toks + 1 }) X I hp ht fun b => ?_
  obtain ⟨cd, hc, hd'⟩ := any_some hh
  have hdict := I.dict
  rw [hd] at hdict
  have D : s.heap.get? dx = some (dictOf es n) := hdict
  have D' : (s.heap.update dx (Obj.putName name (PyData.keyHash w.params name) (.str name (s.toks + 1)) v)).get? dx = some (dictOf (putL name (PyData.keyHash w.params name) (.str name (s.toks + 1)) v es) (putN name es n)) := by
    rw [← putName_dict]
    exact Heap.get?_update_self _ D (by rw [putName_dict]; rfl)
  have SB := Heap.SameBut.update s.heap dx (Obj.putName name (PyData.keyHash w.params name) (.str name (s.toks + 1)) v)
  obtain ⟨hx, hcl, hn, -⟩ := I
  obtain ⟨oc, odi, oda, osl⟩ := ox
  dsimp only at hcl hd
  subst hcl hd
  refine wpAny_bind (wpAny_pure (wpAny_bind (wpAny_bind (wpAny_loadPart hx (wpAny_bind (Looks.here (s := { s with toks := s.toks + 1 }) (looks_clsIn X hc) ?_))))))
  rw [hd']
  refine wpAny_pure (a := some dx) (wpAny_bind (wpAny_pure (wpAny_bind ?_)))
  unfold nsSet
  refine wpAny_bind (wpAny_bind (wpAny_askSetting (wpAny_pure (wpAny_bind (wpAny_mkText (wpAny_bind (wpAny_loadPart D ?_)))))))
  dsimp only
  have c : (!es.toArray.any (·.key.isStr name) && es.toArray.any (·.refKey)) = false := by
    rw [← Array.any_toList, ← Array.any_toList]
    unfold getL at hl
    split at hl
    · rename_i en he
      rw [show es.toArray.toList = es from rfl, List.any_eq_true.mpr ⟨en, List.mem_of_find?_eq_some he, List.find?_some he⟩]; rfl
    · split at hl
      · cases hl
      · rename_i z; rw [Bool.not_eq_true] at z; rw [show es.toArray.toList = es from rfl, z, Bool.and_false]
  rw [aRefKeyMayBeTheName_at, c]
  refine wpAny_updatePart D ?_
  refine wpAny_bind (wpAny_lookBehind D' (pastItsLine_dict (by rw [List.size_toArray, sizeLine_eq]; omega)) ?_)
  exact wpAny_pure (h _ SB D')
end
section
variable {c : Cx} {n : Nat} {env : Frm} {cenv : Env} {loc : Loc} {mem : Mem} {Q : V → Loc → Mem → Prop}
/-- a Heap: its two addresses, its names -/
noncomputable def IsH (mem : Mem) (x dx : Addr) (fs : List (Str × V)) : Prop := mem x = some (.inst dx) ∧ mem dx = some (.attrs fs)
theorem IsH.inst {h : Heap} {x dx : Addr} {fs : List (Str × V)} (H : IsH mem x dx fs) (M : MemAt c mem h) : ∃ es k, AtOk fs es ∧ InstAt h x (instObj c.hC dx) c.hC (some (dictOf es k)) := by
  have h1 := M _ _ H.1
  obtain ⟨es, k, h2, h3⟩ := M _ _ H.2
  exact ⟨es, k, h3, ⟨h1, rfl, rfl, h2⟩⟩
theorem EV.attr {x attr : Str} {xp pos : Pos} (HK : HeapK c) (hn : findIn c.K (.ref c.hC) attr = some none)
    (h : EV c n env cenv (.Name x xp) loc mem (fun a l m => ∃ o dx fs v, a = .ref o ∧ IsH m o dx fs ∧ fs.lookup attr = some v ∧ Q v l m)) : EV c n env cenv (.Attribute (.Name x xp) attr pos) loc mem Q :=
  fun A s Post E hr I kk => Attribute_name (h A s _ E hr I fun a a' l m s1 ha I1 S1 ⟨o, dx, fs, v, e, H, hv, q⟩ => by
    subst e
    obtain rfl : a' = .ref o := ha
    obtain ⟨es, k, ho, II⟩ := H.inst I1.i0.mem
    have := ho.get attr
    rw [hv] at this
    obtain ⟨y, hy, hok⟩ := this
    have G := I1.i0.grd
    obtain ⟨mm, F⟩ := G.fr
    exact get_own (name := attr) F G.K II HK.get HK.dict hn rfl hy hok.handed (kk v y l m _ hok (W.tok I1).1 (S1.trans (W.tok I1).2) q))
/-- a method of Heap's -/
theorem EV.hmeth1 {o : Expr} {name : Str} {apos pos : Pos} {e : Expr} {rest : List Expr} {pl : Sem Bool} {f : Addr} (HK : HeapK c) (hf : findIn c.K (.ref c.hC) name = some (some (.ref f))) (hfn : isFn c.K (.ref f) = true) (hkeep : keepIn c.K (.ref f) = true)
    (h : EV c n env cenv o loc mem (fun a l1 m1 => ∃ b dx fs, a = .ref b ∧ IsH m1 b dx fs ∧ fs.lookup name = none ∧ Args c n env cenv pos (e :: rest) l1 m1 (fun vs l m => CallV c n env cenv (.ref f) (.ref b :: vs) l m Q)))
    (he : eval (.Call (.Attribute o name apos) (e :: rest) [] pos) cenv = (do
      let ov ← eval o cenv
      standAt apos.atName
      let (f, first) ← holding [ov] (getMethod ov name pl)
      callWith pos f first (backTo pos (starEach (e :: rest) cenv)) []) := by rfl)
    (hs : starEach (e :: rest) cenv = (false, eval e cenv) :: starEach rest cenv := by rfl) (hp : (backTo pos (starEach rest cenv)).any (·.1) = false := by rfl) :
    EV c n env cenv (.Call (.Attribute o name apos) (e :: rest) [] pos) loc mem Q :=
  fun A s Post E hr I k => MethodCall_ (h A s _ E hr I fun a a' l1 m1 s1 ha I1 S1 ⟨b, dx, fs, e1, H, hno, q⟩ => by
    subst e1
    obtain rfl : a' = .ref b := ha
    obtain ⟨es, kk, ho, II⟩ := H.inst I1.i0.mem
    have hl := ho.get name
    rw [hno] at hl
    have G := I1.i0.grd
    obtain ⟨mm, F⟩ := G.fr
    refine method_inst F G.K II HK.get hf hfn hl ?_
    refine callWith_K G.K hkeep (q A s1 _ E hr I1 fun vs xs l m s' hvs I' S q => ?_) hs hp
    have G' := I'.i0.grd
    obtain ⟨mm, F'⟩ := G'.fr
    refine ⟨G'.K.keeps F'.keep, ?_⟩
    exact q (.ref b :: xs) (.cons rfl hvs) A s' Post E hr I' fun v v' l2 m2 s2 hv I2 S2 q2 => k v v' l2 m2 s2 hv I2 ((S1.trans S).trans S2) q2) he
theorem EV.hmeth0 {o : Expr} {name : Str} {apos pos : Pos} {pl : Sem Bool} {f : Addr} (HK : HeapK c) (hf : findIn c.K (.ref c.hC) name = some (some (.ref f))) (hfn : isFn c.K (.ref f) = true) (hkeep : keepIn c.K (.ref f) = true)
    (h : EV c n env cenv o loc mem (fun a l1 m1 => ∃ b dx fs, a = .ref b ∧ IsH m1 b dx fs ∧ fs.lookup name = none ∧ CallV c n env cenv (.ref f) [.ref b] l1 m1 Q))
    (he : eval (.Call (.Attribute o name apos) [] [] pos) cenv = (do
      let ov ← eval o cenv
      standAt apos.atName
      let (f, first) ← holding [ov] (getMethod ov name pl)
      callWith pos f first (backTo pos (starEach [] cenv)) []) := by rfl) :
    EV c n env cenv (.Call (.Attribute o name apos) [] [] pos) loc mem Q :=
  fun A s Post E hr I k => MethodCall_ (h A s _ E hr I fun a a' l1 m1 s1 ha I1 S1 ⟨b, dx, fs, e1, H, hno, q⟩ => by
    subst e1
    obtain rfl : a' = .ref b := ha
    obtain ⟨es, kk, ho, II⟩ := H.inst I1.i0.mem
    have hl := ho.get name
    rw [hno] at hl
    have G := I1.i0.grd
    obtain ⟨mm, F⟩ := G.fr
    refine method_inst F G.K II HK.get hf hfn hl ?_
    refine callWith_K0 (G.K.keeps F.keep) hkeep ?_
    exact q [.ref b] (.cons rfl .nil) A s1 Post E hr I1 fun v v' l2 m2 s2 hv I2 S2 q2 => k v v' l2 m2 s2 hv I2 (S1.trans S2) q2) he
theorem AS.attr {o : Expr} {attr : Str} {pos : Pos} {v : V} {P : Loc → Mem → Prop} (HK : HeapK c) (hn : findIn c.K (.ref c.hC) attr = some none)
    (h : EV c n env cenv o loc mem (fun a l m => ∃ x dx fs, a = .ref x ∧ IsH m x dx fs ∧ fs.lookup attr = none ∧ fs.length ≤ 10 ∧ P l (set m dx (.attrs (fs ++ [(attr, v)]))))) : AS c n env cenv (.Attribute o attr pos) v loc mem P :=
  fun x hv A s Post E hr I k => by
    rw [assign_Attribute]
    refine wpAny_bind (wpAny_holding (h A s _ E hr I ?_))
    rintro a a' l1 m1 s1 ha I1 S1 ⟨b, dx, fs, e, H, hno, hz, q⟩
    subst e
    obtain rfl : a' = .ref b := ha
    obtain ⟨es, kk, ho, II⟩ := H.inst I1.i0.mem
    have G := I1.i0.grd
    obtain ⟨mm, F⟩ := G.fr
    have hl := ho.get attr
    rw [hno] at hl
    have hlen := ho.length
    have hput := ho.put hno hv (PyData.keyHash c.w.params attr) (s1.toks + 1)
    have hlen2 := hput.length
    rw [List.length_append, List.length_singleton] at hlen2
    refine wpAny_bind (wpAny_standAt (wpAny_bind (wpAny_holding ?_)))
    refine set_attr (dx := dx) (G.K.keeps F.keep) II rfl HK.setA HK.over (by unfold takerIn; rw [hn]; rfl) HK.dict (by rw [hl]; rfl) (by omega) fun h' hs' hd' => ?_
    obtain ⟨I2, S2⟩ := I1.upd (tk := s1.toks + 2) H.2 hs' (o' := .attrs (fs ++ [(attr, v)])) ⟨_, _, hd', hput⟩
    intro Γ p hΓ
    rw [Sem.wp_release]
    exact k () () l1 _ _ trivial I2 (S1.trans S2) q
/-- a class call -/
theorem CallV.make {vs : List V} {fI : Addr} (HK : HeapK c) (hi : findIn c.K (.ref c.hC) "__init__" = some (some (.ref fI))) (hf : isFn c.K (.ref fI) = true) {k : Nat} (hk : k + 1 ≤ n)
    (h : ∀ x dx, mem x = none → mem dx = none → x ≠ dx → Fn c k fI (.ref x :: vs) (set (set mem dx (.attrs [])) x (.inst dx)) (fun v m => v = .none ∧ Q (.ref x) loc m)) : CallV c n env cenv (.ref c.hC) vs loc mem Q := by
  intro xs hxs
  refine W.of0 ?_
  intro A s Post E hr I kk
  have G := I.grd
  obtain ⟨mm, F⟩ := G.fr
  have X := G.K.keeps F.keep
  obtain ⟨hh, g, d, t, os⟩ := s
  refine wpAny_call (make_core (makes_of X HK.makes) (looks_findIn X hi) (fun self => bind_fn X self (beq_iff_eq.mp hf)) (.inl rfl) ?_)
  have hsz : (hh.push emptyDict).objs.size = hh.objs.size + 1 := Heap.size_push _ _
  obtain ⟨I1, S1⟩ := I.made (tk := t) (h' := hh.push emptyDict) (a := hh.objs.size) (o := .attrs []) (fun b o e => Heap.get?_push_of_some _ e) (Nat.le_refl _) ⟨[], 0, Heap.get?_push_size _ rfl, .nil⟩
  obtain ⟨I2, S2⟩ := I1.made (tk := t) (h' := (hh.push emptyDict).push (instObj c.hC hh.objs.size)) (a := hh.objs.size + 1) (o := .inst hh.objs.size) (fun b o e => Heap.get?_push_of_some _ e) (Nat.le_of_eq hsz) (by
    show Heap.get? _ _ = _
    rw [← hsz]; exact Heap.get?_push_size _ rfl)
  have hr1 : Room (A.under (.builtin "type.__call__" ⟨.ref c.hC :: xs, []⟩)) k := by
    obtain ⟨h1, h2⟩ := hr
    constructor
    · show A.depth + 1 + 3 * k + 3 < recursionLimit
      omega
    · show A.units + _ + 16 * k + 16 < cLine
      have : (Code.builtin "type.__call__" ⟨.ref c.hC :: xs, []⟩).cUnits ≤ 4 := by first | exact (show (4 : Nat) ≤ 4 from Nat.le_refl _) | exact (show (1 : Nat) ≤ 4 from by decide)
      omega
  have I3 : Inv0 c (A.under (.builtin "type.__call__" ⟨.ref c.hC :: xs, []⟩)) env (set (set mem hh.objs.size (.attrs [])) (hh.objs.size + 1) (.inst hh.objs.size)) ⟨(hh.push emptyDict).push (instObj c.hC hh.objs.size), g, d, t, os⟩ := by
    obtain ⟨G2, h2, h3, h4⟩ := I2
    exact ⟨⟨G2.below, G2.fr, G2.K, G2.top, G2.scr, G2.frame, G2.off, G2.offL⟩, h2, h3, h4⟩
  refine h (hh.objs.size + 1) hh.objs.size (I.fresh (Nat.le_succ _)) (I.fresh (Nat.le_refl _)) (neN (a := hh.objs.size + 1) (b := hh.objs.size) (by omega)) env _ (.cons rfl hxs) _ _ _ hr1 I3 fun v r m' s' hv I' S q => ?_
  obtain ⟨rfl, q⟩ := q
  obtain rfl : r = .none := hv
  refine ⟨rfl, ?_⟩
  have I4 : Inv0 c A env m' s' := by
    obtain ⟨G2, h2, h3, h4⟩ := I'
    exact ⟨⟨G2.below, G2.fr, G2.K, G2.top, G2.scr, G2.frame, G2.off, G2.offL⟩, h2, h3, h4⟩
  exact kk (.ref (hh.objs.size + 1)) _ m' s' rfl I4 ((S1.trans S2).trans S) q
/-- {} -/
theorem EV.dict0 {pos : Pos} (h : ∀ d, mem d = none → Q (.ref d) loc (set mem d (.dict []))) : EV c n env cenv (.Dict [] [] pos) loc mem Q :=
  fun A s Post E hr I k => wpAny_Dict_empty (by
    have G := I.i0.grd
    obtain ⟨mm, F⟩ := G.fr
    have hbig : sysModules < s.heap.objs.size := by
      have hg := G.top.g.keeps F.keep
      exact Nat.lt_of_lt_of_le (by decide) hg.lt
    have hns : s.heap.objs.size ≠ sysModules := Nat.ne_of_gt hbig
    obtain ⟨I2, S2⟩ := I.made (tk := s.toks) (h' := s.heap.push { cls := .type "dict", data := .dict #[] }) (a := s.heap.objs.size) (o := .dict []) (fun b o e => Heap.get?_push_of_some _ e) (Nat.le_refl _)
      ⟨hns, [], Heap.DictOf.new (knd := intKind c.prog c.w) s.heap, .nil⟩
    exact k (.ref _) _ loc _ _ rfl I2 S2 (h _ (I.i0.fresh (Nat.le_refl _))))
end
theorem ints_of_at : ∀ {vs : List Value} {ks : List Int}, vs.length = ks.length → (∀ (j : Nat) (v : Value), vs[j]? = some v → ∃ (k : Int) (t : Tok), ks[j]? = some k ∧ v = Value.int k t) → IntsAre vs ks
  | [], [], _, _ => .nil
  | [], _ :: _, h, _ => by simp at h
  | _ :: _, [], h, _ => by simp at h
  | v :: vs, k :: ks, h, g => by
    obtain ⟨k', t, h1, h2⟩ := g 0 v rfl
    simp at h1
    subst h1; subst h2
    exact .cons _ t (ints_of_at (by simpa using h) fun j u e => by simpa using g (j + 1) u (by simpa using e))
section
variable {c : Cx} {n : Nat} {env : Frm} {cenv : Env} {loc : Loc} {mem : Mem}
theorem Inv0.fresh' {A : Around} {s : Shared} (I : Inv0 c A env mem s) {a : Addr} (ha : s.heap.get? a = none) : mem a = none := by
  cases e : mem a with
  | none => rfl
  | some o => obtain ⟨ob, h⟩ := (I.mem a o e).here; rw [ha] at h; cases h
theorem Inv.made' {A : Around} {s : Shared} (I : Inv c A env cenv loc mem s) {h' : Heap} {tk : Nat} {a : Addr} {o : AObj} (k : ∀ b o, s.heap.get? b = some o → h'.get? b = some o) (ha : s.heap.get? a = none) (ho : OAt c h' a o) :
    Inv c A env cenv loc (set mem a o) { s with heap := h', toks := tk } ∧ Step cenv mem s (set mem a o) { s with heap := h', toks := tk } := by
  have S : Step0 mem s (set mem a o) { s with heap := h', toks := tk } := ⟨⟨h', tk, rfl⟩, fun b ob hb e => ⟨k b ob e, by
    have hne : b ≠ a := fun q => by rw [q, ha] at e; cases e
    rw [set_ne hne]; exact hb⟩⟩
  have I0 : Inv0 c A env (set mem a o) { s with heap := h', toks := tk } := I.i0.step S fun b ob e => by
    by_cases hb : b = a
    · subst hb
      rw [set_self] at e; cases e; exact ho
    · rw [set_ne hb] at e
      exact (I.i0.mem b ob e).at fun ob h => k b ob h
  exact ⟨I.step0 I0 S, Step.of0 S⟩
end
section
variable {c : Cx} {n : Nat} {env : Frm} {cenv : Env} {loc : Loc} {mem : Mem} {Q : V → Loc → Mem → Prop}
theorem CallV.sortedD {d : Addr} {kvs : List (Int × V)} (hm : mem d = some (.dict kvs)) (hz : kvs.length < 64)
    (h : ∀ (r : Addr) (ks : List Int), ks.Perm (kvs.map (·.1)) → ks.Pairwise (· ≤ ·) → mem r = none → Q (.ref r) loc (set mem r (.list (ks.map .int)))) : CallV c n env cenv (.builtin "sorted") [.ref d] loc mem Q := by
  intro xs hxs A s Post E hr I k
  obtain ⟨x, rfl, rfl⟩ := hxs.one
  obtain ⟨h0, kxs, hd, hk⟩ := I.i0.mem d _ hm
  obtain ⟨ep, hat⟩ := hd.dictAt
  have hlen := hk.length
  have hkeys := hk.keys
  refine call_function_entry kind_sorted plain_sorted entry_sorted (args_sorted1 _) ?_
  unfold Builtin.«sorted»
  refine wpAny_bind (m := checkCount "sorted" 1 1 _) (wpAny_pure ?_)
  refine wpAny_bind (kdu_collect (A := A.in1) (kdl_dict (knd := intKind c.prog c.w) (kvs := kxs) (ep := ep) (by simpa using h0)) I.i0.handled hat (by rw [hlen, sizeLine_eq]; omega) fun h' tk acc hkp hacc => ?_)
  have hl : acc.toList.length = kxs.length := by rw [Array.length_toList]; exact hacc.1
  have hI : IntsAre acc.toList (kxs.map (·.1)) := ints_of_at (by simpa using hl) fun j v e => by
    obtain ⟨kk, y, e1, e2⟩ := hacc.2 j v (by rw [← Array.getElem?_toList]; exact e)
    obtain ⟨t, rfl⟩ := Value.isInt_shape e2
    exact ⟨kk, t, by rw [List.getElem?_map, e1]; rfl, rfl⟩
  refine wpAny_bind (wpAny_newList ?_ (by rw [hl, hlen, sizeLine_eq]; omega))
  have hoL : (h'.push { cls := .type "list", data := .seq acc.toList.toArray }).get? h'.objs.size = some (seqObj "list" acc.toList.toArray 0) := Heap.get?_push_size _ rfl
  refine wpAny_bind (wpAny_holding (wpAny_call_entry slot_list_sort ⟨_, hoL, rfl⟩ entry_list_sort (list_sort_tree hoL hI (by omega) fun out ks a1 a2 a3 => ⟨_, rfl, ?_⟩) (args_list_sort _)))
  obtain ⟨e, hout⟩ := sortedHeap_at (out := out) hoL
  have hfree : s.heap.get? h'.objs.size = none := by
    cases e : s.heap.get? h'.objs.size with
    | none => rfl
    | some o => exact absurd (Heap.lt_size (hkp _ _ e)) (Nat.lt_irrefl _)
  have hkeep : ∀ b o, s.heap.get? b = some o → (sortedHeap (h'.push { cls := .type "list", data := .seq acc.toList.toArray }) h'.objs.size acc.toList out).get? b = some o := fun b o eb => by
    have h1 := hkp b o eb
    have h2 := Heap.lt_size h1
    rw [sortedHeap_old (Nat.ne_of_lt h2) (by rw [Heap.size_push]; exact Nat.lt_succ_of_lt h2)]
    exact Heap.get?_push_of_some _ h1
  obtain ⟨I2, S2⟩ := I.made' (tk := tk) hkeep hfree (o := .list (ks.map .int)) ⟨out, e, hout, VsOk.of_ints a1⟩
  exact wpAny_pure ⟨_, rfl, k (.ref h'.objs.size) _ loc _ _ rfl I2 S2 (h _ ks (by rw [← hkeys]; exact a2) a3 (I.i0.fresh' hfree))⟩
theorem CallV.sum {l : Addr} {ns : List Int} (hm : mem l = some (.list (ns.map .int))) (h : Q (.int ns.sum) loc mem) : CallV c n env cenv (.builtin "sum") [.ref l] loc mem Q := by
  intro xs hxs A s Post E hr I k
  obtain ⟨x, rfl, rfl⟩ := hxs.one
  obtain ⟨ys, nn, hl, hy⟩ := I.i0.mem l _ hm
  have hI := hy.ints
  obtain ⟨zs, hzs⟩ := (hI.allInts).items
  have hnums : numsOf ys.toList = ns := hI.numsOf
  simp only [Array.toArray_toList] at hzs
  subst hzs
  rw [nums_intItems] at hnums
  refine sum_intListG I.i0.handled hl.isList fun h' tk t' hk => ?_
  obtain ⟨I2, S2⟩ := I.grow (tk := tk) hk
  rw [preSum_eq, List.take_of_length_le (by simp), hnums]
  exact k (.int ns.sum) _ loc mem _ (vint _ _) I2 S2 h
end
abbrev IsZipF (h : Heap) (z TI TO : Addr) (f0 f1 : Value) : Prop :=
  h.get? z = some { cls := .type "zip", dict := none, data := .fields #[f0, f1, .bool false, .ref TI, .ref TO], slots := #[] }
section
variable {prog : Program} {w : World} {A : Around} {E : Value → Shared → Prop} {s : Shared}
/-- a zip's next, its last pair alive -/
theorem zip_out {z TI TO i1 i2 T : Addr} {f : Bool} {oT : Obj} {Q : PySem.Fin → Shared → Prop} (hz : IsZipF s.heap z TI TO (rawInt T) (.bool f)) (hTI : IsPair s.heap TI (.ref i1) (.ref i2)) (hT : s.heap.get? T = some oT)
    (h : ∀ h₁, IsZipF h₁ z TI TO (rawInt T) (.bool true) → Heap.SameBut z s.heap h₁ → wpAny (model prog w) A (Builtin.SmallTypes.nextOf (.ref i1)) (fun x s₂ => wpAny (model prog w) A (Builtin.SmallTypes.nextOf (.ref i2)) (fun y s₃ =>
      wpAny (model prog w) A (newTuple [x, y]) (fun r s₄ => Q (.done (.ret r)) s₄) E s₃) E s₂) E { s with heap := h₁ }) :
    wpAny (model prog w) A (Builtin.«zip.__next__» ⟨[.ref z], []⟩) Q E s := by
  show wpAny _ _ (field (.ref z) 2 >>= _) _ _ _
  refine wpAny_bind (wpAny_field hz rfl (x := .bool false) rfl ?_)
  show wpAny _ _ (field (.ref z) 3 >>= _) _ _ _
  refine wpAny_bind (wpAny_field hz rfl (x := .ref TI) rfl ?_)
  refine wpAny_bind (wpAny_seqItems hTI rfl ?_)
  show wpAny _ _ (Builtin.SmallTypes.ownedTupleIsFree (.ref z) >>= _) _ _ _
  refine wpAny_bind ?_
  unfold Builtin.SmallTypes.ownedTupleIsFree
  refine wpAny_bind (wpAny_field hz rfl (x := rawInt T) rfl ?_)
  show wpAny _ _ (loadIfAlive ((T : Int).toNat) >>= _) _ _ _
  rw [Int.toNat_natCast]
  refine wpAny_bind (kdx_alive hT ?_)
  simp only [Option.isNone_some, Bool.false_eq_true, if_false]
  refine wpAny_bind (wpAny_field hz rfl (x := .bool f) rfl ?_)
  cases f with
  | true =>
    rw [if_neg (show ¬ ((Value.bool true != Value.bool true) = true) from Bool.false_ne_true)]
    refine wpAny_pure ?_
    have h := h s.heap hz (Heap.SameBut.refl _ _)
    simp only [Bool.false_eq_true, if_false, List.forIn_toArray, List.forIn_cons, List.forIn_nil]
    refine wpAny_bind (wpAny_bind (wpAny_bind (wpAny_holding ?_)))
    show wpAny _ _ (Builtin.SmallTypes.nextOf (.ref i1) >>= _) _ _ _
    refine wpAny_bind (wpAny_mono h (fun x s₂ h₂ => wpAny_pure (wpAny_pure ?_)) fun _ _ e => e)
    dsimp only
    refine wpAny_bind (wpAny_bind (wpAny_holding ?_))
    show wpAny _ _ (Builtin.SmallTypes.nextOf (.ref i2) >>= _) _ _ _
    refine wpAny_bind (wpAny_mono h₂ (fun y s₃ h₃ => wpAny_pure (wpAny_pure ?_)) fun _ _ e => e)
    refine wpAny_pure ?_
    dsimp only
    exact wpAny_bind (wpAny_mono h₃ (fun r s₄ h₄ => wpAny_pure h₄) fun _ _ e => e)
  | false =>
    rw [if_pos (show (Value.bool false != Value.bool true) = true from rfl)]
    refine wpAny_bind (wpAny_setField_rec hz (by simp) fun h₁ hz₁ hs₁ => ?_)
    replace hz₁ : IsZipF h₁ z TI TO (rawInt T) (.bool true) := hz₁
    have h := h h₁ hz₁ hs₁
    refine wpAny_pure ?_
    simp only [Bool.false_eq_true, if_false, List.forIn_toArray, List.forIn_cons, List.forIn_nil]
    refine wpAny_bind (wpAny_bind (wpAny_bind (wpAny_holding ?_)))
    show wpAny _ _ (Builtin.SmallTypes.nextOf (.ref i1) >>= _) _ _ _
    refine wpAny_bind (wpAny_mono h (fun x s₂ h₂ => wpAny_pure (wpAny_pure ?_)) fun _ _ e => e)
    dsimp only
    refine wpAny_bind (wpAny_bind (wpAny_holding ?_))
    show wpAny _ _ (Builtin.SmallTypes.nextOf (.ref i2) >>= _) _ _ _
    refine wpAny_bind (wpAny_mono h₂ (fun y s₃ h₃ => wpAny_pure (wpAny_pure ?_)) fun _ _ e => e)
    refine wpAny_pure ?_
    dsimp only
    exact wpAny_bind (wpAny_mono h₃ (fun r s₄ h₄ => wpAny_pure h₄) fun _ _ e => e)
/-- a zip that hands out, between its turns -/
structure ZSt (h : Heap) (z TI TO i1 i2 l1 l2 : Addr) (xs ys : Array Value) (S : Addr) (i : Nat) : Prop where
  z : (i = 0 ∧ IsZip h z TI TO .none ∧ IsPair h TO .none .none) ∨ ∃ (T : Addr) (f : Bool) (oT : Obj), IsZipF h z TI TO (rawInt T) (.bool f) ∧ h.get? T = some oT ∧ T ≠ z ∧ T ≠ i1 ∧ T ≠ i2 ∧ T ≠ S
  pr : IsPair h TI (.ref i1) (.ref i2)
  a : h.IsListIter i1 l1 i
  b : h.IsListIter i2 l2 i
  la : h.IsList l1 xs
  lb : h.IsList l2 ys
theorem zip_item {z TI TO i1 i2 l1 l2 S : Addr} {xs ys : Array Value} {i : Nat} {x y : Value} {Q : Option Value → Shared → Prop} (D : ZipApart z TI TO i1 i2 l1 l2) (st : ZSt s.heap z TI TO i1 i2 l1 l2 xs ys S i) (hS : S < s.heap.objs.size) (hx : xs[i]? = some x) (hy : ys[i]? = some y)
    (hQ : ∀ h', ZSt h' z TI TO i1 i2 l1 l2 xs ys S (i + 1) → IsPair h' s.heap.objs.size x y → (∀ c o, c ≠ z → c ≠ TO → c ≠ i1 → c ≠ i2 → s.heap.get? c = some o → h'.get? c = some o) → Q (some (.ref s.heap.objs.size)) { s with heap := h' }) :
    wpAny (model prog w) A (pyNext (.ref z)) Q E s := by
  obtain ⟨hz, hpr, ha, hb, hla, hlb⟩ := st
  have i1lt : i1 < s.heap.objs.size := by obtain ⟨_, e, _⟩ := ha; exact Heap.lt_size e
  have i2lt : i2 < s.heap.objs.size := by obtain ⟨_, e, _⟩ := hb; exact Heap.lt_size e
  rcases hz with ⟨rfl, hz, hTO⟩ | ⟨T, f, oT, hz, hT, T1, T2, T3, T4⟩
  · refine wpAny_pyNext_zip_item D hz hpr hTO ha hb hla hlb hx hy fun h' a1 a2 a3 a4 a5 a6 hk => hQ h' ⟨.inr ⟨_, false, _, a1, a5, ?_, ?_, ?_, ?_⟩, hk _ _ D.TIz D.TITO D.TIi1 D.TIi2 hpr, a3, a4, ?_, ?_⟩ a5 hk
    · exact Nat.ne_of_gt (Heap.lt_size hz)
    · exact Nat.ne_of_gt i1lt
    · exact Nat.ne_of_gt i2lt
    · exact Nat.ne_of_gt hS
    · exact hla.at fun o e => hk _ o D.l1z D.l1TO D.l1i1 D.l1i2 e
    · exact hlb.at fun o e => hk _ o D.l2z D.l2TO D.l2i1 D.l2i2 e
  · have hTy : s.TypeIs (.ref z) "zip" := ⟨_, hz, rfl⟩
    unfold pyNext
    refine wpAny_bind (wpAny_attempt (wpAny_callSpecial?_slot (name := Str.ofString "__next__") hTy F.slot_zip_next (wpAny_call_entry F.slot_zip_next hTy F.entry_zip_next
      (zip_out hz hpr hT fun h₁ hz₁ hs₁ => ?_) (F.args_zip_next_1 _))))
    refine wpAny_nextOf_list_item (ha.extBut hs₁.extBut D.i1z) (hla.extBut hs₁.extBut D.l1z) hx fun h₂ ha₂ hs₂ => ?_
    refine wpAny_nextOf_list_item ((hb.extBut hs₁.extBut D.i2z).extBut hs₂.extBut D.i12.symm) ((hlb.extBut hs₁.extBut D.l2z).extBut hs₂.extBut D.l2i1) hy fun h₃ hb₃ hs₃ => ?_
    have k3 : ∀ c o, c ≠ z → c ≠ i1 → c ≠ i2 → s.heap.get? c = some o → h₃.get? c = some o := fun c o c1 c2 c3 e => hs₃.extBut _ _ c3 (hs₂.extBut _ _ c2 (hs₁.extBut _ _ c1 e))
    have sz : h₃.objs.size = s.heap.objs.size := by rw [hs₃.1, hs₂.1, hs₁.1]
    refine wpAny_newTuple ?_
    show ∃ v, _ = _ ∧ _
    refine ⟨_, rfl, wpAny_pure ?_⟩
    rw [show (Value.ref h₃.objs.size) = Value.ref s.heap.objs.size by rw [sz]]
    have up : ∀ c o, h₃.get? c = some o → (h₃.push { cls := .type "tuple", data := .seq [x, y].toArray }).get? c = some o := fun c o e => Heap.get?_push_of_some _ e
    have hz₃ : IsZipF h₃ z TI TO (rawInt T) (.bool true) := hs₃.extBut _ _ D.i2z.symm (hs₂.extBut _ _ D.i1z.symm hz₁)
    refine hQ _ ⟨.inr ⟨T, true, oT, up _ _ hz₃, up _ _ (k3 _ _ T1 T2 T3 hT), T1, T2, T3, T4⟩, up _ _ (k3 _ _ D.TIz D.TIi1 D.TIi2 hpr), (ha₂.extBut hs₃.extBut D.i12).at fun o e => up _ o e, hb₃.at fun o e => up _ o e, hla.at fun o e => up _ o (k3 _ o D.l1z D.l1i1 D.l1i2 e), hlb.at fun o e => up _ o (k3 _ o D.l2z D.l2i1 D.l2i2 e)⟩ ?_
      fun c o c1 _ c3 c4 e => up _ _ (k3 _ _ c1 c3 c4 e)
    rw [← sz]; exact Heap.get?_push_size _ rfl
theorem zip_done {z TI TO i1 i2 l1 l2 S : Addr} {xs ys : Array Value} {i : Nat} {Q : Option Value → Shared → Prop} (hh : A.handled = none) (D : ZipApart z TI TO i1 i2 l1 l2) (st : ZSt s.heap z TI TO i1 i2 l1 l2 xs ys S i) (hx : xs[i]? = none) (hi : xs.size = ys.size)
    (hQ : ∀ h', (∀ c o, c ≠ z → c ≠ TO → c ≠ i1 → c ≠ i2 → s.heap.get? c = some o → h'.get? c = some o) → Q none { s with heap := h' }) :
    wpAny (model prog w) A (pyNext (.ref z)) Q E s := by
  obtain ⟨hz, hpr, ha, hb, hla, hlb⟩ := st
  rcases hz with ⟨rfl, hz, hTO⟩ | ⟨T, f, oT, hz, hT, T1, T2, T3, T4⟩
  · exact wpAny_pyNext_zip_end hh D hz hpr hTO ha hb hla hlb (.inl hx) hQ
  · have hTy : s.TypeIs (.ref z) "zip" := ⟨_, hz, rfl⟩
    unfold pyNext
    refine wpAny_bind (wpAny_attempt (wpAny_callSpecial?_slot (name := Str.ofString "__next__") hTy F.slot_zip_next (wpAny_call_entry F.slot_zip_next hTy F.entry_zip_next
      (zip_out hz hpr hT fun h₁ hz₁ hs₁ => ?_) (F.args_zip_next_1 _))))
    refine wpAny_nextOf_list_end hh (ha.extBut hs₁.extBut D.i1z) (hla.extBut hs₁.extBut D.l1z) hx fun h₂ e hs₂ he => ?_
    obtain ⟨o, ho, hc⟩ := he
    refine wpAny_bind (wpAny_isInstance (T := "StopIteration") (b := true) ⟨o, ho, hc⟩ isSubtype_stop ?_)
    exact wpAny_pure (hQ _ fun c o c1 _ c3 _ e => hs₂ _ _ c3 (hs₁.extBut _ _ c1 e))
end
theorem zlen : typeLookup (.type "zip") "__len__" = pure none := by rw [typeLookup_type, builtinLookup_eq_fast]; kernel_rfl
theorem zhint : typeLookup (.type "zip") "__length_hint__" = pure none := by rw [typeLookup_type, builtinLookup_eq_fast]; kernel_rfl
theorem ZSt.keep {h h' : Heap} {z TI TO i1 i2 l1 l2 S : Addr} {xs ys : Array Value} {i : Nat} (x : ZSt h z TI TO i1 i2 l1 l2 xs ys S i) (hk : ∀ b o, b ≠ S → h.get? b = some o → h'.get? b = some o)
    (n1 : z ≠ S) (n2 : TI ≠ S) (n3 : TO ≠ S) (n4 : i1 ≠ S) (n5 : i2 ≠ S) (n6 : l1 ≠ S) (n7 : l2 ≠ S) : ZSt h' z TI TO i1 i2 l1 l2 xs ys S i := by
  obtain ⟨hz, hpr, ha, hb, hla, hlb⟩ := x
  refine ⟨?_, hk _ _ n2 hpr, ha.at fun o e => hk _ o n4 e, hb.at fun o e => hk _ o n5 e, hla.at fun o e => hk _ o n6 e, hlb.at fun o e => hk _ o n7 e⟩
  rcases hz with ⟨e, hz, hTO⟩ | ⟨T, f, oT, hz, hT, T1, T2, T3, T4⟩
  · exact .inl ⟨e, hk _ _ n1 hz, hk _ _ n3 hTO⟩
  · exact .inr ⟨T, f, oT, hk _ _ n1 hz, hk _ _ T4 hT, T1, T2, T3, T4⟩
structure ZG (xs ys : Array Value) (lo : Addr) (h : Heap) (as : List Addr) : Prop where
  rise : as.Pairwise (· < ·)
  above : ∀ a ∈ as, lo < a
  pairs : ∀ (j : Nat) (a : Addr), as[j]? = some a → ∃ x y, xs[j]? = some x ∧ ys[j]? = some y ∧ IsPair h a x y
theorem ZG.there {xs ys : Array Value} {lo : Addr} {h : Heap} {as : List Addr} (g : ZG xs ys lo h as) {a : Addr} (ha : a ∈ as) : a < h.objs.size := by
  obtain ⟨j, hj⟩ := List.mem_iff_getElem?.mp ha
  obtain ⟨_, _, _, _, e⟩ := g.pairs j a hj
  exact Heap.lt_size e
section
variable {prog : Program} {w : World} {A : Around} {E : Value → Shared → Prop} {s : Shared} {z TI TO i1 i2 l1 l2 S : Addr} {xs ys : Array Value}
theorem zip_loop {R : Result → Shared → Prop} (hh : A.handled = none) (D : ZipApart z TI TO i1 i2 l1 l2) (n1 : z < S) (n2 : TI < S) (n3 : TO < S) (n4 : i1 < S) (n5 : i2 < S) (n6 : l1 < S) (n7 : l2 < S) (hi : xs.size = ys.size) (hn : xs.size ≤ 100000) (res : Value) {h₁ : Heap}
    (hR : ∀ h' tk acc c as, (∀ b o, b ≠ S → b ≠ z → b ≠ TO → b ≠ i1 → b ≠ i2 → h₁.get? b = some o → h'.get? b = some o) → h'.get? S = some { cls := .type "list", dict := none, data := .seq acc c, slots := #[] } → as.length = xs.size → ZG xs ys S h' as →
      acc.toList = as.map Value.ref → R (.ok (.ret res)) { s with heap := h', toks := tk }) :
    ∀ (k i : Nat) (h : Heap) (tk c : Nat) (acc : Array Value) (as : List Addr), xs.size - i = k → i ≤ xs.size → ZSt h z TI TO i1 i2 l1 l2 xs ys S i → (∀ b o, b ≠ S → b ≠ z → b ≠ TO → b ≠ i1 → b ≠ i2 → h₁.get? b = some o → h.get? b = some o) →
      h.get? S = some { cls := .type "list", dict := none, data := .seq acc c, slots := #[] } → acc.toList = as.map Value.ref → as.length = i → ZG xs ys S h as →
      codeAny (model prog w) A (.builtin "list.extend.loop" ⟨[.ref S, .ref z, res], []⟩) R { s with heap := h, toks := tk } := by
  have m1 : S ≠ z := Nat.ne_of_gt n1
  have m3 : S ≠ TO := Nat.ne_of_gt n3
  have m4 : S ≠ i1 := Nat.ne_of_gt n4
  have m5 : S ≠ i2 := Nat.ne_of_gt n5
  have gt : ∀ {a b : Addr}, S < a → b < S → a ≠ b := fun h1 h2 => Nat.ne_of_gt (Nat.lt_trans h2 h1)
  intro k
  induction k with
  | zero =>
    intro i h tk c acc as hk hi2 hst hkeep hS hacc hal hG
    refine codeAny_builtin PySem.F.entry_extend_loop ?_
    rw [Around.under_plainId PySem.F.plain_extend_loop _]
    show wpAny _ A.in1 (pyNext (.ref z) >>= _) _ _ _
    refine wpAny_bind (zip_done (s := { s with heap := h, toks := tk }) (A := A.in1) hh D hst (Array.getElem?_eq_none (by omega)) hi fun h' he => ?_)
    refine wpAny_pure (hR h' tk acc c as (fun b o b1 b2 b3 b4 b5 e => he b o b2 b3 b4 b5 (hkeep b o b1 b2 b3 b4 b5 e)) (he S _ m1 m3 m4 m5 hS) (by omega) ⟨hG.rise, hG.above, fun j a hj => ?_⟩ hacc)
    obtain ⟨x, y, e1, e2, e3⟩ := hG.pairs j a hj
    have ha := hG.above a (List.mem_of_getElem? hj)
    exact ⟨x, y, e1, e2, he a _ (gt ha n1) (gt ha n3) (gt ha n4) (gt ha n5) e3⟩
  | succ k ih =>
    intro i h tk c acc as hk hi2 hst hkeep hS hacc hal hG
    have hlt : i < xs.size := by omega
    have hlt2 : i < ys.size := by omega
    have hsz : acc.size = i := by rw [← Array.length_toList, hacc, List.length_map, hal]
    refine codeAny_builtin PySem.F.entry_extend_loop ?_
    rw [Around.under_plainId PySem.F.plain_extend_loop _]
    show wpAny _ A.in1 (pyNext (.ref z) >>= _) _ _ _
    have hSl : S < h.objs.size := Heap.lt_size hS
    refine wpAny_bind (zip_item (s := { s with heap := h, toks := tk }) D hst hSl (Array.getElem?_eq_getElem hlt) (Array.getElem?_eq_getElem hlt2) fun h' hst' ht hkp => ?_)
    dsimp only at ht hkp ⊢
    have hS' := hkp S _ m1 m3 m4 m5 hS
    have up : ∀ b o, b ≠ S → h'.get? b = some o → (h'.update S (Obj.mapSeq (·.push (Value.ref h.objs.size)))).get? b = some o := fun b o hb e => (Heap.get?_update_other _ _ (Ne.symm hb)).trans e
    show wpAny _ A.in1 (updateSeq S (·.push (Value.ref h.objs.size)) >>= _) _ _ _
    refine wpAny_bind ?_
    refine wpAny_updateSeq hS' rfl (wpAny_pure ⟨plainId_quiet PySem.F.plain_extend_loop _, ih (i + 1) _ tk _ (acc.push (Value.ref h.objs.size)) (as ++ [h.objs.size]) (by omega) hlt (hst'.keep up (Ne.symm m1) (Nat.ne_of_lt n2) (Ne.symm m3) (Ne.symm m4) (Ne.symm m5) (Nat.ne_of_lt n6) (Nat.ne_of_lt n7))
      (fun b o b1 b2 b3 b4 b5 e => up b o b1 (hkp b o b2 b3 b4 b5 (hkeep b o b1 b2 b3 b4 b5 e))) (Heap.get?_update_self _ hS' rfl) (by rw [Array.toList_push, hacc, List.map_append]; rfl) (by rw [List.length_append, hal]; rfl) ⟨?_, ?_, ?_⟩⟩) (by rw [hsz, sizeLine_eq]; omega) (by show (acc.push (Value.ref h.objs.size)).size ≤ sizeLine + 1; rw [Array.size_push, hsz, sizeLine_eq]; omega)
    · refine List.pairwise_append.mpr ⟨hG.rise, List.pairwise_singleton _ _, fun a ha b hb => ?_⟩
      rw [List.mem_singleton.mp hb]
      exact hG.there ha
    · intro a ha
      rcases List.mem_append.mp ha with ha | ha
      · exact hG.above a ha
      · rw [List.mem_singleton.mp ha]; exact hSl
    · intro j b hj
      rcases Nat.lt_trichotomy j as.length with h1 | h1 | h1
      · rw [List.getElem?_append_left h1] at hj
        obtain ⟨x, y, e1, e2, e3⟩ := hG.pairs j b hj
        have hb := hG.above b (List.mem_of_getElem? hj)
        exact ⟨x, y, e1, e2, up b _ (Nat.ne_of_gt hb) (hkp b _ (gt hb n1) (gt hb n3) (gt hb n4) (gt hb n5) e3)⟩
      · subst h1
        have hb : h.objs.size = b := by simpa using hj
        subst hb
        exact ⟨_, _, by rw [hal]; exact Array.getElem?_eq_getElem hlt, by rw [hal]; exact Array.getElem?_eq_getElem hlt2, up _ _ (Nat.ne_of_gt hSl) ht⟩
      · have hnone : (as ++ [h.objs.size])[j]? = none := List.getElem?_eq_none (by rw [List.length_append, List.length_singleton]; omega)
        rw [hnone] at hj; cases hj
theorem zip_hint (hT : s.TypeIs (.ref z) "zip") {Q : Bool → Shared → Prop} (h : Q true s) : wpAny (model prog w) A (Builtin.List.listLengthHint (.ref z)) Q E s := by
  unfold Builtin.List.listLengthHint
  refine wpAny_bind (wpAny_specialOf hT zlen ?_)
  show wpAny _ _ (specialOf (.ref z) (Str.ofString "__length_hint__") >>= _) _ _ _
  refine wpAny_bind (wpAny_specialOf hT zhint ?_)
  exact wpAny_pure h
theorem zip_call {Q : Value → Shared → Prop} (hh : A.handled = none) (D : ZipApart z TI TO i1 i2 l1 l2) (hz : IsZip s.heap z TI TO .none) (hpr : IsPair s.heap TI (.ref i1) (.ref i2)) (hTO0 : IsPair s.heap TO .none .none) (ha : s.heap.IsListIter i1 l1 0) (hb : s.heap.IsListIter i2 l2 0) (hla : s.heap.IsList l1 xs) (hlb : s.heap.IsList l2 ys) (hi : xs.size = ys.size) (hn : xs.size ≤ 100000)
    (hQ : ∀ h' tk acc c as, (∀ b o, b ≠ z → b ≠ TO → b ≠ i1 → b ≠ i2 → s.heap.get? b = some o → h'.get? b = some o) → h'.get? s.heap.objs.size = some { cls := .type "list", dict := none, data := .seq acc c, slots := #[] } → as.length = xs.size → ZG xs ys s.heap.objs.size h' as →
      acc.toList = as.map Value.ref → Q (.ref s.heap.objs.size) { s with heap := h', toks := tk }) :
    wpAny (model prog w) A (call (.type "list") [.ref z]) Q E s := by
  refine callType_codes (Q₁ := fun obj s₁ => obj = .ref s.heap.objs.size ∧ s₁ = { s with heap := s.heap.push { cls := .type "list", data := .seq #[] } }) PySem.F.called_list (PySem.F.typeCall_list_1 _) PySem.F.entry_list_init
    (code_list_new _ ⟨rfl, rfl⟩) fun obj s₁ h₁ => ?_
  obtain ⟨rfl, rfl⟩ := h₁
  have hS : (s.heap.push { cls := .type "list", data := .seq #[] }).get? s.heap.objs.size = some { cls := .type "list", data := .seq #[] } := Heap.get?_push_size _ rfl
  have hzlt : z < s.heap.objs.size := Heap.lt_size hz
  have hTO : TO < s.heap.objs.size := Heap.lt_size hTO0
  have st0 : ZSt s.heap z TI TO i1 i2 l1 l2 xs ys s.heap.objs.size 0 := ⟨.inl ⟨rfl, hz, hTO0⟩, hpr, ha, hb, hla, hlb⟩
  have g2 : TI < s.heap.objs.size := Heap.lt_size hpr
  have g4 : i1 < s.heap.objs.size := by obtain ⟨_, e, _⟩ := st0.a; exact Heap.lt_size e
  have g5 : i2 < s.heap.objs.size := by obtain ⟨_, e, _⟩ := st0.b; exact Heap.lt_size e
  have g6 : l1 < s.heap.objs.size := by obtain ⟨_, e, _⟩ := st0.la; exact Heap.lt_size e
  have g7 : l2 < s.heap.objs.size := by obtain ⟨_, e, _⟩ := st0.lb; exact Heap.lt_size e
  refine ⟨⟨_, hS, rfl⟩, PySem.F.args_list_init_2 _ _, ?_⟩
  generalize hSS : s.heap.objs.size = S at *
  generalize hH1 : s.heap.push { cls := .type "list", data := .seq #[] } = H1 at *
  have k1 : ∀ b o, s.heap.get? b = some o → H1.get? b = some o := fun b o e => by rw [← hH1]; exact Heap.get?_push_of_some _ e
  show wpAny _ _ (do let old ← Builtin.List.listItems (.ref S); Builtin.List.listUpdate (.ref S) (fun _ => #[]); letGo old.toList.reverse; Builtin.List.listExtendWith (.ref S) (.ref z) .none) _ _ _
  refine wpAny_bind ?_
  unfold Builtin.List.listItems
  refine wpAny_bind (wpAny_seqItems hS rfl (wpAny_pure ?_))
  show wpAny _ _ (updateSeq S (fun _ => #[]) >>= fun _ => letGo (#[] : Array Value).toList.reverse >>= fun _ => Builtin.List.listExtendWith (.ref S) (.ref z) .none) _ _ _
  refine wpAny_bind (wpAny_updateSeq hS rfl ?_)
  have hS₂ := Heap.get?_update_self (Obj.mapSeq (fun _ => (#[] : Array Value))) hS rfl
  have oth : ∀ b o, b ≠ S → H1.get? b = some o → (H1.update S (Obj.mapSeq (fun _ => (#[] : Array Value)))).get? b = some o :=
    fun b o hb e => (Heap.get?_update_other _ _ (Ne.symm hb)).trans e
  refine wpAny_bind (wpAny_letGo ?_)
  dsimp only
  generalize H1.update S (Obj.mapSeq (fun _ => (#[] : Array Value))) = H2 at hS₂ oth ⊢
  have kS : ∀ b o, b ≠ S → s.heap.get? b = some o → H2.get? b = some o := fun b o hb e => oth b o hb (k1 b o e)
  have key : ∀ (h : Heap) (c₁ tk : Nat), (∀ b o, b ≠ S → H2.get? b = some o → h.get? b = some o) → h.get? S = some { cls := .type "list", dict := none, data := .seq #[] c₁, slots := #[] } →
      codeAny (model prog w) A.in1 (.builtin "list.extend.loop" ⟨[.ref S, .ref z, .none], []⟩) (wants (fun r s₂ => r = .none ∧ Q (.ref S) s₂) E) { s with heap := h, toks := tk } := by
    intro h c₁ tk hk hS₁
    refine zip_loop (s := s) (h₁ := s.heap) (A := A.in1) hh D hzlt g2 hTO g4 g5 g6 g7 hi hn .none (fun h' tk' acc c as hk' hS' hl hG hacc => ?_) xs.size 0 h tk c₁ #[] [] (Nat.sub_zero _) (Nat.zero_le _)
      (st0.keep (fun b o hb e => hk b o hb (kS b o hb e)) (Nat.ne_of_lt hzlt) (Nat.ne_of_lt g2) (Nat.ne_of_lt hTO) (Nat.ne_of_lt g4) (Nat.ne_of_lt g5) (Nat.ne_of_lt g6) (Nat.ne_of_lt g7))
      (fun b o b1 _ _ _ _ e => hk b o b1 (kS b o b1 e)) hS₁ rfl rfl ⟨List.Pairwise.nil, (fun _ ha => nomatch ha), (fun j a hj => by simp at hj)⟩
    exact ⟨rfl, hQ h' tk' acc c as (fun b o b2 b3 b4 b5 e => hk' b o (fun q => by subst q; exact absurd (Heap.lt_size e) (by rw [hSS]; exact Nat.lt_irrefl _)) b2 b3 b4 b5 e) hS' hl hG hacc⟩
  have hzT : Shared.TypeIs { s with heap := H2 } (.ref z) "zip" := by
    exact ⟨_, kS _ _ (Nat.ne_of_lt hzlt) hz, rfl⟩
  unfold Builtin.List.listExtendWith
  refine wpAny_bind (wpAny_typeOf (T := "zip") hzT ?_)
  have h1 : Builtin.List.listSameRef (.ref S) (.ref z) = false := by simp [Builtin.List.listSameRef, Nat.ne_of_gt hzlt]
  have h2 : (Value.type "zip" == Value.type "list") = false := by decide
  have h3 : (Value.type "zip" == Value.type "tuple") = false := by decide
  simp only [h1, h2, h3, Bool.or_false, Bool.false_eq_true, if_false]
  have hIter : ∀ (P : Value → Shared → Prop) (E' : Value → Shared → Prop), P (.ref z) { s with heap := H2 } → wpAny (model prog w) A.in1.in1 (pyIter (.ref z)) P E' { s with heap := H2 } := fun P E' hP => by
    exact wpAny_pyIter_zip (kS _ _ (Nat.ne_of_lt hzlt) hz) hP
  refine wpAny_bind (hIter _ _ ?_)
  refine wpAny_bind (wpAny_holding (zip_hint hzT ?_))
  refine wpAny_ite_split (fun _ => ?_) (fun _ => wpAny_pure ⟨plainId_quiet PySem.F.plain_extend_loop _, key _ _ _ (fun b o _ e => e) hS₂⟩)
  refine wpAny_bind (wpAny_rule ?_)
  refine wpAny_bind ?_
  show wpAny _ _ (updateSeq S (·.push .none) >>= fun _ => updateSeq S (·.pop)) _ _ _
  refine wpAny_bind (wpAny_updateSeq hS₂ rfl ?_)
  have hS₃ := Heap.get?_update_self (Obj.mapSeq (·.push Value.none)) hS₂ rfl
  refine wpAny_updateSeq (hz := by seq_fits) hS₃ rfl ?_
  have hS₄ := Heap.get?_update_self (Obj.mapSeq (·.pop)) hS₃ rfl
  refine wpAny_pure ⟨plainId_quiet PySem.F.plain_extend_loop _, key _ _ _ (fun b o hb e => ?_) hS₄⟩
  exact (Heap.get?_update_other _ _ (Ne.symm hb)).trans ((Heap.get?_update_other _ _ (Ne.symm hb)).trans e)
end
/-- pairs named -/
noncomputable def setTups (m : Mem) : List Addr → List V → List V → Mem
  | a :: as, u :: us, w :: ws => set (setTups m as us ws) a (.tup [u, w])
  | _, _, _ => m
theorem setTups_off {m : Mem} {b : Addr} : ∀ {as : List Addr} {us ws : List V}, b ∉ as → setTups m as us ws b = m b
  | [], _, _, _ => rfl
  | a :: as, [], _, _ => rfl
  | a :: as, _ :: _, [], _ => rfl
  | a :: as, u :: us, w :: ws, h => by
    simp only [List.mem_cons, not_or] at h
    rw [setTups, set_ne h.1]
    exact setTups_off h.2
theorem setTups_at {m : Mem} : ∀ {as : List Addr} {us ws : List V} {j : Nat} {a : Addr} {u w : V}, as.Nodup → as[j]? = some a → us[j]? = some u → ws[j]? = some w → setTups m as us ws a = some (.tup [u, w])
  | [], _, _, _, _, _, _, _, h, _, _ => by simp at h
  | a :: as, [], _, _, _, _, _, _, _, h, _ => by simp at h
  | a :: as, _ :: _, [], _, _, _, _, _, _, _, h => by simp at h
  | a :: as, u :: us, w :: ws, 0, _, _, _, hn, h1, h2, h3 => by
    simp at h1 h2 h3; subst h1; subst h2; subst h3
    rw [setTups, set_self]
  | a :: as, u :: us, w :: ws, j + 1, b, _, _, hn, h1, h2, h3 => by
    simp at h1 h2 h3
    have hb : b ∈ as := List.mem_of_getElem? h1
    have hne : b ≠ a := fun e => (List.nodup_cons.mp hn).1 (e ▸ hb)
    rw [setTups, set_ne hne]
    exact setTups_at (List.nodup_cons.mp hn).2 h1 h2 h3
theorem setTups_cases {m : Mem} {b : Addr} {o : AObj} : ∀ {as : List Addr} {us ws : List V}, as.Nodup → setTups m as us ws b = some o → m b = some o ∨ ∃ (j : Nat) (u w : V), as[j]? = some b ∧ us[j]? = some u ∧ ws[j]? = some w ∧ o = .tup [u, w]
  | [], _, _, _, h => .inl h
  | a :: as, [], _, _, h => .inl h
  | a :: as, _ :: _, [], _, h => .inl h
  | a :: as, u :: us, w :: ws, hn, h => by
    rw [setTups] at h
    by_cases hb : b = a
    · subst hb
      rw [set_self] at h
      exact .inr ⟨0, u, w, rfl, rfl, rfl, (Option.some.inj h).symm⟩
    · rw [set_ne hb] at h
      rcases setTups_cases (List.nodup_cons.mp hn).2 h with h | ⟨j, u', w', h1, h2, h3, h4⟩
      · exact .inl h
      · exact .inr ⟨j + 1, u', w', by simpa using h1, by simpa using h2, by simpa using h3, h4⟩
section
variable {c : Cx} {n : Nat} {env : Frm} {cenv : Env} {loc : Loc} {mem : Mem}
theorem Inv.news {A : Around} {s : Shared} (I : Inv c A env cenv loc mem s) {h' : Heap} {tk : Nat} {mem' : Mem} (k : ∀ b o, s.heap.get? b = some o → h'.get? b = some o) (hm : ∀ b, mem' b = mem b ∨ s.heap.get? b = none) (M : MemAt c mem' h') :
    Inv c A env cenv loc mem' { s with heap := h', toks := tk } ∧ Step cenv mem s mem' { s with heap := h', toks := tk } := by
  have S : Step0 mem s mem' { s with heap := h', toks := tk } := ⟨⟨h', tk, rfl⟩, fun b ob hb e => ⟨k b ob e, by
    rcases hm b with h | h
    · rw [h]; exact hb
    · rw [h] at e; cases e⟩⟩
  exact ⟨I.step0 (I.i0.step S M) S, Step.of0 S⟩
/-- list(zip(..)) of two lists -/
theorem EV.listZip {x y : Str} {p1 p2 q1 q2 : Pos} {e1 e2 : Expr} {Q : V → Loc → Mem → Prop} (hx : nsIn c.K mainGlobals x = some none) (hy : nsIn c.K mainGlobals y = some none) (bx : bootBuiltins x = some (.type "list")) (by' : bootBuiltins y = some (.type "zip")) (nx : x ≠ "__name__") (ny : y ≠ "__name__")
    (h : Args c n env cenv q1 [e1, e2] loc mem (fun vs l m => ∃ l1 l2 us ws, vs = [.ref l1, .ref l2] ∧ m l1 = some (.list us) ∧ m l2 = some (.list ws) ∧ us.length = ws.length ∧ us.length ≤ 1000 ∧
      ∀ (r : Addr) (as : List Addr) m', as.length = us.length → m r = none → (∀ a ∈ as, m a = none) → as.Nodup → r ∉ as → m' = set (setTups m as us ws) r (.list (as.map V.ref)) → Q (.ref r) l m'))
    (kx : cenv.kindOf x = some .globalImplicit := by rfl) (ky : cenv.kindOf y = some .globalImplicit := by rfl) (dx : (x == ("__debug__" : Str)) = false := by rfl) (dy : (y == ("__debug__" : Str)) = false := by rfl)
    (s1 : starEach [.Call (.Name y q2) [e1, e2] [] q1] cenv = (false, eval (.Call (.Name y q2) [e1, e2] [] q1) cenv) :: starEach [] cenv := by rfl)
    (s2 : starEach [e1, e2] cenv = (false, eval e1 cenv) :: starEach [e2] cenv := by rfl) (hp : (backTo q1 (starEach [e2] cenv)).any (·.1) = false := by rfl)
    (he1 : eval (.Call (.Name x p2) [.Call (.Name y q2) [e1, e2] [] q1] [] p1) cenv = (do callWith p1 (← eval (.Name x p2) cenv) [] (backTo p1 (starEach [.Call (.Name y q2) [e1, e2] [] q1] cenv)) (backToKw p1 (keywordEach [] cenv))) := by rfl)
    (he2 : eval (.Call (.Name y q2) [e1, e2] [] q1) cenv = (do callWith q1 (← eval (.Name y q2) cenv) [] (backTo q1 (starEach [e1, e2] cenv)) (backToKw q1 (keywordEach [] cenv))) := by rfl) :
    EV c n env cenv (.Call (.Name x p2) [.Call (.Name y q2) [e1, e2] [] q1] [] p1) loc mem Q := by
  intro A s Post E hr I kk
  refine Call_ (W.NameB (R := Eq) (b := Value.type "list") (n := n) (env := env) (Q := fun b l m => b = Value.type "list" ∧ l = loc ∧ m = mem) hx bx nx rfl ⟨rfl, rfl, rfl⟩ kx dx A s _ E hr I fun b r l0 m0 s0 hR I0 S0 ⟨z1, z2, z3⟩ => ?_) he1
  subst hR; subst z1; subst z2; subst z3
  refine callWith_type1 (wpAny_items_cons ?_ s1) s1 rfl
  refine Call_ (W.NameB (R := Eq) (b := Value.type "zip") (n := n) (env := env) (Q := fun b l m => b = Value.type "zip" ∧ l = l0 ∧ m = m0) hy by' ny rfl ⟨rfl, rfl, rfl⟩ ky dy A s0 _ E hr I0 fun b r l1' m1 s2' hR I1 S1 ⟨z1, z2, z3⟩ => ?_) he2
  subst hR; subst z1; subst z2; subst z3
  refine callWith_type1 (h A s2' _ E hr I1 fun vs vals l m s3 hvs I3 S3 ⟨l1, l2, us, ws, e1, hm1, hm2, hlen, hz, q⟩ => ?_) s2 hp
  subst e1
  obtain ⟨v1, v2, rfl, hv1, hv2⟩ := hvs.two
  obtain rfl : v1 = .ref l1 := hv1
  obtain rfl : v2 = .ref l2 := hv2
  obtain ⟨xs, nn1, hl1, hx1⟩ := I3.i0.mem l1 _ hm1
  obtain ⟨ys, nn2, hl2, hy1⟩ := I3.i0.mem l2 _ hm2
  have c1 := hx1.length
  have c2 := hy1.length
  simp only [Array.length_toList] at c1 c2
  have lt1 : @LT.lt Nat instLTNat l1 s3.heap.objs.size := Heap.lt_size hl1
  have lt2 : @LT.lt Nat instLTNat l2 s3.heap.objs.size := Heap.lt_size hl2
  refine call_zip_2 hl1.isList hl2.isList fun h4 a1 a2 a3 a4 a5 a6 k4 => ?_
  have old : ∀ b o, s3.heap.get? b = some o → @LT.lt Nat instLTNat b s3.heap.objs.size := fun b o e => Heap.lt_size e
  have new : ∀ b, @LE.le Nat instLENat s3.heap.objs.size b → s3.heap.get? b = none := fun b hb => get_none_size hb
  generalize s3.heap.objs.size = N at *
  refine wpAny_items_nil ?_
  have D : ZipApart (N + 4) (N + 2) (N + 3) N (N + 1) l1 l2 := by
    constructor <;> first | exact Nat.ne_of_lt (by omega) | exact Nat.ne_of_gt (by omega)
  refine zip_call (s := { s3 with heap := h4 }) (xs := xs) (ys := ys) I3.i0.handled D a1 a2 a3 a4 a5 (hl1.isList.at fun o e => k4 _ o e) (hl2.isList.at fun o e => k4 _ o e) (by omega) (by omega) fun h5 tk acc cc as k5 hS has hG hacc => ?_
  dsimp only at hS hG k5 ⊢
  rw [a6] at hS hG ⊢
  have kall : ∀ b o, s3.heap.get? b = some o → h5.get? b = some o := fun b o e => by
    have hb := old b o e
    exact k5 b o (neN (a := b) (b := N + 4) (by omega)) (neN (a := b) (b := N + 3) (by omega)) (neN (a := b) (b := N) (by omega)) (neN (a := b) (b := N + 1) (by omega)) (k4 b o e)
  have hab : ∀ a ∈ as, @LT.lt Nat instLTNat (N + 5) a := fun a ha => hG.above a ha
  have hnd : as.Nodup := hG.rise.imp fun h => Nat.ne_of_lt h
  have hr5 : N + 5 ∉ as := fun hm => by have := hab _ hm; omega
  have hr0 : m (N + 5) = none := I3.i0.fresh' (new _ (by omega))
  have ha0 : ∀ a ∈ as, m a = none := fun a ha => I3.i0.fresh' (new _ (by have := hab a ha; omega))
  have hlen2 : as.length = us.length := by omega
  obtain ⟨I4, S4⟩ := I3.news (tk := tk) (mem' := set (setTups m as us ws) (N + 5) (.list (as.map V.ref))) kall (fun b => by
    by_cases hb : b = N + 5
    · exact .inr (hb ▸ new _ (by omega))
    · rw [set_ne hb]
      by_cases hba : b ∈ as
      · exact .inr (new _ (by have := hab b hba; omega))
      · exact .inl (setTups_off hba)) (fun b o e => by
    by_cases hb : b = N + 5
    · subst hb
      rw [set_self] at e; cases e
      refine ⟨acc, cc, hS, ?_⟩
      rw [hacc]
      clear hab hnd hr5 hr0 ha0 hlen2 has hG hacc
      induction as with
      | nil => exact .nil
      | cons a r ih => exact .cons rfl ih
    · rw [set_ne hb] at e
      rcases setTups_cases hnd e with e | ⟨j, u, w, e1, e2, e3, rfl⟩
      · exact (I3.i0.mem b o e).at fun ob h => kall b ob h
      · obtain ⟨x, y, g1, g2, g3⟩ := hG.pairs j b e1
        obtain ⟨x', f1, f2⟩ := hx1.get e2
        obtain ⟨y', f3, f4⟩ := hy1.get e3
        rw [Array.getElem?_toList, g1] at f1
        rw [Array.getElem?_toList, g2] at f3
        cases f1; cases f3
        exact ⟨#[x, y], 0, g3, .cons f2 (.cons f4 .nil)⟩)
  exact kk (.ref (N + 5)) _ l _ _ rfl I4 ((((S0.trans S1).trans S3)).trans S4) (q (N + 5) as _ hlen2 hr0 ha0 hnd hr5 rfl)
end
section
variable {c : Cx} {n : Nat} {env : Frm} {cenv : Env} {loc : Loc} {mem : Mem} {Q : V → Loc → Mem → Prop}
/-- the script's list, cut -/
theorem EV.sliceScr {value hi : Expr} {p pos : Pos} {y : Int} (hy : c.si.length ≤ y) (hz : c.si.length ≤ 1000) (h : EV c n env cenv value loc mem (fun a l1 m1 => EV c n env cenv hi l1 m1 (fun j l3 m3 =>
      a = .ref c.sl ∧ j = .int y ∧ ∀ b, m3 b = none → Q (.ref b) l3 (set m3 b (.list (c.si.map V.int)))))) :
    EV c n env cenv (.Subscript value (.Slice none (some hi) none p) pos) loc mem Q :=
  fun A s Post E hr I k => Subscript_ (h A s _ E hr I fun a a' l1 m1 s1 ha I1 S1 h1 => wpAny_Slice (wpAny_pure (h1 A s1 _ E hr I1 fun j j' l3 m3 s3 hj I3 S3 ⟨e1, e3, q⟩ => by
    subst e1; subst e3
    obtain rfl : a' = .ref c.sl := ha
    obtain ⟨u, rfl⟩ := hj
    refine wpAny_pure ?_
    have G := I3.i0.grd
    obtain ⟨mm, F⟩ := G.fr
    obtain ⟨vs, hl0, hI⟩ := G.scr
    have hl : s3.heap.IsList c.sl vs.toArray := hl0.at fun o e => F.keep _ _ e
    have hlen : vs.length = c.si.length := hI.length
    obtain ⟨I4, S4⟩ := I3.grow (tk := s3.toks) (h' := s3.heap.push { cls := .type "slice", data := .fields #[.none, .int y u, .none] }) (fun b o e => Heap.get?_push_of_some _ e)
    have hl4 : (s3.heap.push { cls := .type "slice", data := .fields #[.none, .int y u, .none] }).IsList c.sl vs.toArray := hl.push _
    refine tail_any hl4.typeIs slot_list_getitem.lookup (wpAny_getItem_list_slice (lo := none) (hi := some y) (st := none) hl4 (Heap.IsSliceOf.new _ _ _ _) .none (.int _ _) .none (by simp) ?_ (by rw [List.size_toArray, sizeLine_eq]; omega)) (by with_unfolding_all rfl)
    have hpick : slicePick vs.toArray none (some y) none = vs.toArray := by
      have := slicePick_upto' vs.toArray y.toNat
      rw [show ((y.toNat : Nat) : Int) = y by omega] at this
      rw [this, show vs.toArray.toList = vs from rfl, List.take_of_length_le (by omega)]
    rw [hpick]
    obtain ⟨I5, S5⟩ := I4.made (tk := s3.toks) (h' := (s3.heap.push { cls := .type "slice", data := .fields #[.none, .int y u, .none] }).push { cls := .type "list", data := .seq vs.toArray }) (a := (s3.heap.push { cls := .type "slice", data := .fields #[.none, .int y u, .none] }).objs.size) (o := .list (c.si.map V.int)) (fun b o e => Heap.get?_push_of_some _ e) (Nat.le_refl _) ⟨_, 0, IsL.new _ _, VsOk.of_ints hI⟩
    exact k (.ref _) _ l3 _ _ rfl I5 (((S1.trans S3).trans S4).trans S5) (q _ (I4.i0.fresh (Nat.le_refl _))))))
end
section
variable {prog : Program} {w : World} {A : Around} {E : Value → Shared → Prop} {s : Shared}
theorem draw_list {it t : Addr} {items : Array Value} (hne : t ≠ it) : ∀ (n i : Nat) (s : Shared) (Q : List Value → Shared → Prop), s.heap.IsListIter it t i → s.heap.IsList t items → i + n ≤ items.size →
    (∀ h', h'.IsListIter it t (i + n) → Heap.SameBut it s.heap h' → Q ((items.toList.drop i).take n) { s with heap := h' }) → wpAny (model prog w) A (draw (.ref it) n) Q E s
  | 0, i, s, Q, hit, _, _, hQ => by
    show wpAny _ _ (pure []) Q E s
    exact wpAny_pure (by simpa using hQ s.heap hit (Heap.SameBut.refl ..))
  | n + 1, i, s, Q, hit, ht, hle, hQ => by
    have hlt : i < items.size := by omega
    show wpAny _ _ (pyNext (.ref it) >>= _) Q E s
    refine wpAny_bind (wpAny_pyNext_list_item hit ht (x := items[i]) (by simp [hlt]) fun h₁ hit₁ hs₁ => ?_)
    refine wpAny_bind (wpAny_holding (draw_list hne n (i + 1) _ _ hit₁ (ht.extBut hs₁.extBut hne) (by omega) fun h₂ hit₂ hs₂ => wpAny_pure ?_))
    have hd : items.toList.drop i = items[i] :: items.toList.drop (i + 1) := by simp [List.drop_eq_getElem_cons, hlt]
    have := hQ h₂ (by rw [show i + (n + 1) = i + 1 + n by omega]; exact hit₂) (hs₁.trans hs₂)
    rw [hd, List.take_succ_cons] at this
    exact this
theorem unpackItems_list {t : Addr} {items : Array Value} {Q : List Value → Shared → Prop} (hh : A.handled = none) (ht : s.heap.IsList t items)
    (hQ : ∀ h', Heap.ExtBut s.heap.objs.size s.heap h' → Q items.toList { s with heap := h' }) : wpAny (model prog w) A (unpackItems (.ref t) items.size none) Q E s := by
  have hlt : t ≠ s.heap.objs.size := by obtain ⟨o, ho, _⟩ := ht; exact Nat.ne_of_lt (Heap.lt_size ho)
  unfold unpackItems
  refine wpAny_bind ?_
  · unfold notIterableAtAll
    refine wpAny_bind (wpAny_specialOf ht.typeIs PySem.F.slot_list_iter.lookup ?_)
    refine wpAny_pure ?_
    simp only [Bool.false_eq_true, if_false]
    refine wpAny_bind (wpAny_holding (wpAny_pyIter_list ht ?_))
    refine wpAny_bind (wpAny_holding (draw_list hlt items.size 0 _ _ ⟨_, Heap.get?_push_size _ rfl, rfl, rfl⟩ (ht.push _) (by omega) fun h₁ hit₁ hs₁ => ?_))
    have hall : List.take items.size (List.drop 0 items.toList) = items.toList := by
      rw [List.drop_zero]; exact List.take_of_length_le (by simp)
    rw [hall]
    rw [if_neg (by simp)]
    have ht₁ : h₁.IsList t items := (ht.push _).extBut hs₁.extBut hlt
    refine wpAny_bind (wpAny_holding (wpAny_pyNext_list_end hh hit₁ ht₁ (by simp) fun h₂ he₂ => ?_))
    simp only [Option.isSome_none, Bool.false_eq_true, if_false]
    refine wpAny_pure (hQ h₂ fun b o hb e => he₂ b o hb (hs₁.extBut b o hb (Heap.get?_push_of_some _ e)))
theorem assign_Tuple_list {env : Env} {elts : List Expr} {x1} {pos : Pos} {t : Addr} {items : Array Value} {Q : Unit → Shared → Prop} (hh : A.handled = none) (ht : s.heap.IsList t items)
    (hn : (assignEach elts env).length = items.size) (hstar : (assignEach elts env).findIdx? (·.1) = none)
    (h : ∀ h', Heap.ExtBut s.heap.objs.size s.heap h' → wpAny (model prog w) A (assignInOrder ((assignEach elts env).map (·.2)) items.toList) Q E { s with heap := h' }) :
    wpAny (model prog w) A (assign (.Tuple elts x1 pos) env (.ref t)) Q E s := by
  rw [assign_Tuple]
  refine wpAny_bind (wpAny_standAt ?_)
  unfold unpack
  rw [hn, hstar]
  exact wpAny_bind (wpAny_holding (unpackItems_list hh ht h))
end
section
variable {c : Cx} {n : Nat} {env : Frm} {cenv : Env} {loc : Loc} {mem : Mem} {P : Loc → Mem → Prop}
/-- a list taken apart -/
theorem AS.tupleL {elts : List Expr} {k1 : Nat} {pos : Pos} {t : Addr} {vs : List V} (hm : mem t = some (.list vs)) (hn : elts.length = vs.length) (h : ASs c n env cenv elts vs loc mem P)
    (he : (assignEach elts cenv).map (·.2) = elts.map (fun t => assign t cenv) := by rfl) (hf : (assignEach elts cenv).findIdx? (·.1) = none := by rfl) : AS c n env cenv (.Tuple elts k1 pos) (.ref t) loc mem P := by
  rintro _ rfl A s Post E hr I k
  obtain ⟨xs, nn, hl, hx⟩ := I.i0.mem t _ hm
  have hlen := hx.length
  simp only [Array.length_toList] at hlen
  have hal : (assignEach elts cenv).length = elts.length := by rw [← List.length_map (f := (·.2)), he, List.length_map]
  refine assign_Tuple_list I.i0.handled hl.isList (by rw [hal, hn, hlen]) hf fun h' hk => ?_
  rw [he]
  have hk' : ∀ b o, s.heap.get? b = some o → h'.get? b = some o := fun b o e => hk b o (Nat.ne_of_lt (Heap.lt_size e)) e
  obtain ⟨I2, S2⟩ := I.grow (tk := s.toks) hk'
  have key : ∀ (es : List Expr) (us : List V) (ys : List Value) (l : Loc) (m : Mem) (s' : Shared), es.length = us.length → VsOk us ys → Inv c A env cenv l m s' → Step cenv mem s m s' → ASs c n env cenv es us l m P → wpAny (model c.prog c.w) A (assignInOrder (es.map fun t => assign t cenv) ys) Post E s' := by
    intro es
    induction es with
    | nil => intro us ys l m s' hl hv I' S' q; exact assignInOrder_nil (k () () l m s' trivial I' S' q)
    | cons e es ih =>
      intro us ys l m s' hl hv I' S' q
      cases hv with
      | nil => simp at hl
      | @cons u y us ys hu hus =>
        exact assignInOrder_cons (q y hu A s' _ E hr I' fun _ _ l2 m2 s2 _ I3 S3 q2 => ih us ys l2 m2 s2 (by simpa using hl) hus I3 (S'.trans S3) q2)
  exact key elts vs xs.toList loc mem _ hn hx I2 S2 h
end
noncomputable def pNo : Pos := ⟨0, 0, 0, 0⟩
noncomputable def stmtAt (k : Nat) : Stmt := PySem.Challenge.pw_pq1016_01.main.body.getD k (.Pass pNo)
noncomputable def methAt (k : Nat) : Stmt := match stmtAt 28 with
  | .ClassDef _ _ _ b _ _ _ _ _ _ _ => b.getD k (.Pass pNo)
  | _ => .Pass pNo
noncomputable def fnBody : Stmt → List Stmt
  | .FunctionDef _ _ b _ _ _ _ _ _ _ => b
  | _ => []
noncomputable def fnArgs : Stmt → Arguments
  | .FunctionDef _ a _ _ _ _ _ _ _ _ => a
  | _ => ⟨[], [], none, [], [], none, []⟩
noncomputable def fnScope : Stmt → Scope
  | .FunctionDef _ _ _ _ _ _ s _ _ _ => s
  | _ => PySem.Challenge.pw_pq1016_01.main.scope
/-- a def of the top -/
structure DefOk (c : Cx) (k : Nat) (name : Str) : Prop where
  g : nsIn c.K mainGlobals name = some (some (.ref (c.fx k)))
  keep : keepIn c.K (.ref (c.fx k)) = true
  is : FnIs c name (fnArgs (stmtAt k)) (fnBody (stmtAt k)) (fnScope (stmtAt k)) (c.fx k)
/-- a method of Heap's -/
structure MethOk (c : Cx) (k : Nat) (name qual : Str) : Prop where
  f : findIn c.K (.ref c.hC) name = some (some (.ref (c.fx (100 + k))))
  fn : isFn c.K (.ref (c.fx (100 + k))) = true
  keep : keepIn c.K (.ref (c.fx (100 + k))) = true
  is : FnIs c qual (fnArgs (methAt k)) (fnBody (methAt k)) (fnScope (methAt k)) (c.fx (100 + k))
structure Facts (c : Cx) : Prop where
  HK : HeapK c
  gHeap : nsIn c.K mainGlobals (Str.ofString "Heap") = some (some (.ref c.hC))
  gKS : ∃ l xs nn dd sl, nsIn c.K mainGlobals (Str.ofString "KIND_SIZES") = some (some (.ref l)) ∧ c.K.lookup l = some ⟨.type "tuple", dd, .seq xs.toArray nn, sl⟩ ∧ VsOk [.int 2, .int (-1), .int (-1), .int (-1), .int 1, .int 2, .int 2, .int 2] xs
  gFIX : ∃ t, nsIn c.K mainGlobals (Str.ofString "FIX") = some (some (.int 0 t))
  gREF : ∃ t, nsIn c.K mainGlobals (Str.ofString "REF") = some (some (.int 1 t))
  gCONSTANT : ∃ t, nsIn c.K mainGlobals (Str.ofString "CONSTANT") = some (some (.int 4 t))
  gHEADER : ∃ t, nsIn c.K mainGlobals (Str.ofString "HEADER") = some (some (.int 5 t))
  gFORWARD : ∃ t, nsIn c.K mainGlobals (Str.ofString "FORWARD") = some (some (.int 6 t))
  gTAGS : ∃ t, nsIn c.K mainGlobals (Str.ofString "TAGS") = some (some (.int 8 t))
  gEMPTY_LIST : ∃ t, nsIn c.K mainGlobals (Str.ofString "EMPTY_LIST") = some (some (.int 20 t))
  gPAIR : ∃ t, nsIn c.K mainGlobals (Str.ofString "PAIR") = some (some (.int 0 t))
  gVECTOR : ∃ t, nsIn c.K mainGlobals (Str.ofString "VECTOR") = some (some (.int 1 t))
  gBOX : ∃ t, nsIn c.K mainGlobals (Str.ofString "BOX") = some (some (.int 4 t))
  gKINDS : ∃ t, nsIn c.K mainGlobals (Str.ofString "KINDS") = some (some (.int 16 t))
  blen : nsIn c.K mainGlobals (Str.ofString "len") = some none
  bint : nsIn c.K mainGlobals (Str.ofString "int") = some none
  blist : nsIn c.K mainGlobals (Str.ofString "list") = some none
  brange : nsIn c.K mainGlobals (Str.ofString "range") = some none
  bsorted : nsIn c.K mainGlobals (Str.ofString "sorted") = some none
  bsum : nsIn c.K mainGlobals (Str.ofString "sum") = some none
  bzip : nsIn c.K mainGlobals (Str.ofString "zip") = some none
  d16 : DefOk c 16 (Str.ofString "payload_of")
  d17 : DefOk c 17 (Str.ofString "fix")
  d18 : DefOk c 18 (Str.ofString "ref")
  d19 : DefOk c 19 (Str.ofString "header_word")
  d20 : DefOk c 20 (Str.ofString "forward_word")
  d21 : DefOk c 21 (Str.ofString "is_ref")
  d22 : DefOk c 22 (Str.ofString "is_header")
  d23 : DefOk c 23 (Str.ofString "is_forward")
  d24 : DefOk c 24 (Str.ofString "header_kind")
  d25 : DefOk c 25 (Str.ofString "header_length")
  d26 : DefOk c 26 (Str.ofString "is_value_word")
  d29 : DefOk c 29 (Str.ofString "wrong_block")
  d30 : DefOk c 30 (Str.ofString "heap_error")
  d32 : DefOk c 32 (Str.ofString "moved_word")
  d33 : DefOk c 33 (Str.ofString "collect")
  d34 : DefOk c 34 (Str.ofString "marked")
  d35 : DefOk c 35 (Str.ofString "new_places")
  d36 : DefOk c 36 (Str.ofString "slid_word")
  d37 : DefOk c 37 (Str.ofString "slide")
  d39 : DefOk c 39 (Str.ofString "_law_pot")
  d40 : DefOk c 40 (Str.ofString "_law_dip")
  d41 : DefOk c 41 (Str.ofString "_law_made")
  d42 : DefOk c 42 (Str.ofString "_law_reached")
  d43 : DefOk c 43 (Str.ofString "_law_is_like")
  d44 : DefOk c 44 (Str.ofString "_law_collected")
  d45 : DefOk c 45 (Str.ofString "_law_deed")
  m0 : MethOk c 0 (Str.ofString "__init__") (Str.ofString "Heap.__init__")
  m1 : MethOk c 1 (Str.ofString "used") (Str.ofString "Heap.used")
  m3 : MethOk c 3 (Str.ofString "allocate") (Str.ofString "Heap.allocate")
  m4 : MethOk c 4 (Str.ofString "header_at") (Str.ofString "Heap.header_at")
  m5 : MethOk c 5 (Str.ofString "kind_of") (Str.ofString "Heap.kind_of")
  m6 : MethOk c 6 (Str.ofString "length_of") (Str.ofString "Heap.length_of")
  m8 : MethOk c 8 (Str.ofString "place_of") (Str.ofString "Heap.place_of")
  m9 : MethOk c 9 (Str.ofString "field") (Str.ofString "Heap.field")
  m10 : MethOk c 10 (Str.ofString "set_field") (Str.ofString "Heap.set_field")
  m12 : MethOk c 12 (Str.ofString "cons") (Str.ofString "Heap.cons")
/-- the run of the top, over a tree -/
noncomputable def topT (stp : SharedT → Thread → Option (SharedT × Thread)) (ok : Thread → Bool) : Nat → SharedT → Thread → Option SharedT
  | 0, _, _ => none
  | n + 1, s, t => match through t with
    | true => some s
    | false => match ok t with
      | false => none
      | true => match stp s t with
        | some (s', t') => topT stp ok n s' t'
        | none => none
theorem topT_spec {tb : String → Option Builtin} {p : Program} {w : World} {n₀ : Nat} {ann : Option Value} : ∀ {n : Nat} {s s' : SharedT} {t : Thread}, topT (stepT (denote tb) p w) (stepOk n₀ ann) n s t = some s' → topRun tb p w n₀ ann n s.abs t = some s'.abs
  | 0, _, _, _, h => by cases h
  | n + 1, s, s', t, h => by
    unfold topT at h
    unfold topRun
    cases he : through t with
    | true => rw [he] at h; cases h; rfl
    | false =>
      rw [he] at h
      cases hk : stepOk n₀ ann t with
      | false => rw [hk] at h; cases h
      | true =>
        rw [hk] at h
        cases hs : stepT (denote tb) p w s t with
        | none => rw [hs] at h; cases h
        | some r => obtain ⟨s₂, t₂⟩ := r; rw [hs] at h; rw [stepT_spec hs]; exact topT_spec h
noncomputable def keepT : List Nat := [46]
noncomputable def looseT : List Str := ["_wall", "MachineFault", "FIX", "REF", "CONSTANT", "HEADER", "FORWARD", "TAGS", "EMPTY_LIST", "PAIR", "VECTOR", "BOX", "KINDS", "KIND_SIZES", "payload_of", "fix", "ref", "header_word", "forward_word", "is_ref", "is_header", "is_forward", "header_kind", "header_length", "is_value_word", "Heap", "wrong_block", "heap_error", "moved_word", "collect", "marked", "new_places", "slid_word", "slide", "_law_pot", "_law_dip", "_law_made", "_law_reached", "_law_is_like", "_law_collected", "_law_deed"].map Str.ofString
noncomputable def viewT : Program := view PySem.Challenge.pw_pq1016_01 keepT
noncomputable def annT : Option Value := some (.ref 6)
noncomputable def treeFrom : BT → Nat → List Obj → BT
  | t, _, [] => t
  | t, n, o :: r => treeFrom (t.ins n o) (n + 1) r
noncomputable def startT (w : World) (os : OsState) : SharedT := ⟨treeFrom .nil 0 (boot_heap w.params).objs.toList, 11, (boot_heap w.params).life, #[], boot_drawn, boot_toks, os⟩
/-- the words of the library that have a quick twin -/
structure Lib where
  tb : String → Option Builtin
  den : type_of% @denote
  step : type_of% @stepT
  ok : type_of% @stepOk
  seen : type_of% @openSeen
  imp : type_of% @importedModules
noncomputable def lib0 : Lib := ⟨treeTable, @denote, @stepT, @stepOk, @openSeen, @importedModules⟩
noncomputable def lib1 : Lib := ⟨PySem.W.Fast.tw14364793385576792824, @PySem.W.Fast.tw11892475500146522536, @PySem.W.Fast.tw10156331382660048174, @PySem.W.Fast.tw6613529449190102663, @PySem.W.Fast.tw4187177175401517315, @PySem.W.Fast.tw5923862056798008813⟩
theorem lib_eq : lib0 = lib1 := by
  unfold lib0 lib1
  rw [PySem.W.Fast.te14364793385576792824, PySem.W.Fast.te11892475500146522536, PySem.W.Fast.te10156331382660048174, PySem.W.Fast.te6613529449190102663, PySem.W.Fast.te4187177175401517315, PySem.W.Fast.te5923862056798008813]
noncomputable def fnO (name qual : String) (s : Stmt) (mod : String) (tok code : Nat) : Obj := Obj.mk (Value.type "function") none (Data.func (FuncData.mk (Str.ofString name) (Str.ofString qual) (fnArgs s) (.stmts (fnBody s)) (fnScope s) 3 [] Value.none Value.none Value.none (Value.str (Str.ofString mod) tok) none (Value.ref code) Value.none 0)) #[]
noncomputable def cdO (name qual : String) (t : Nat) (line argc : Int) (v8 v11 v13 v14 v15 : Value) (i16 : Int) (t18 : Nat) : Obj := Obj.mk (Value.type "code") none (Data.fields #[Value.str (Str.ofString name) t, Value.str (Str.ofString qual) (t + 1), Value.str (Str.ofString "/claim/cut.py") (t + 2), Value.int line 0, Value.int argc 0, Value.int 0 0, Value.int 0 0, Value.int 3 0, v8, Value.bool true, Value.int 181 0, v11, Value.none, v13, v14, v15, Value.int i16 0, Value.int line 0, Value.str (Str.ofString "/claim/cut.py") t18]) #[]
noncomputable def enO (P : Params) (k : String) (t : Nat) (v : Value) : DictEntry := DictEntry.mk (PyData.keyHash P (Str.ofString k)) (Value.str (Str.ofString k) t) v
noncomputable def KT (P : Params) : Frag := [
  (nat_lit 3, ⟨.type "dict", none, .dict #[enO P "__name__" 165 (Value.str (Str.ofString "law_pq1016_01") 561), enO P "__doc__" 166 Value.none, enO P "__package__" 167 Value.none, enO P "__loader__" 168 (Value.builtin "__main__.__loader__#opaque"), enO P "__spec__" 169 Value.none, enO P "__annotations__" 170 (Value.ref 6), enO P "__builtins__" 171 (Value.ref 4), enO P "__file__" 173 (Value.str (Str.ofString "/claim/cut.py") 172), enO P "__cached__" 174 Value.none, enO P "_wall" 193 (Value.ref 21), enO P "MachineFault" 224 (Value.ref 38), enO P "FIX" 228 (Value.int 0 227), enO P "REF" 230 (Value.int 1 229), enO P "CONSTANT" 232 (Value.int 4 231), enO P "HEADER" 234 (Value.int 5 233), enO P "FORWARD" 236 (Value.int 6 235), enO P "TAGS" 238 (Value.int 8 237), enO P "EMPTY_LIST" 242 (Value.int 20 241), enO P "PAIR" 244 (Value.int 0 243), enO P "VECTOR" 246 (Value.int 1 245), enO P "BOX" 248 (Value.int 4 247), enO P "KINDS" 250 (Value.int 16 249), enO P "KIND_SIZES" 262 (Value.ref 42), enO P "payload_of" 269 (Value.ref 49), enO P "fix" 276 (Value.ref 56), enO P "ref" 283 (Value.ref 63), enO P "header_word" 291 (Value.ref 70), enO P "forward_word" 298 (Value.ref 77), enO P "is_ref" 305 (Value.ref 84), enO P "is_header" 312 (Value.ref 91), enO P "is_forward" 319 (Value.ref 98), enO P "header_kind" 326 (Value.ref 105), enO P "header_length" 333 (Value.ref 112), enO P "is_value_word" 341 (Value.ref 119), enO P "Heap" 477 (Value.ref 220), enO P "wrong_block" 491 (Value.ref 231), enO P "heap_error" 502 (Value.ref 238), enO P "moved_word" 516 (Value.ref 245), enO P "collect" 522 (Value.ref 250), enO P "marked" 535 (Value.ref 257), enO P "new_places" 546 (Value.ref 264), enO P "slid_word" 554 (Value.ref 271), enO P "slide" 560 (Value.ref 276), enO P "_law_pot" 568 (Value.ref 281), enO P "_law_dip" 577 (Value.ref 288), enO P "_law_made" 586 (Value.ref 295), enO P "_law_reached" 592 (Value.ref 300), enO P "_law_is_like" 598 (Value.ref 305), enO P "_law_collected" 604 (Value.ref 310), enO P "_law_deed" 610 (Value.ref 315), enO P "law" 616 (Value.ref 320)] 51, #[]⟩),
  (nat_lit 42, Obj.mk (Value.type "tuple") none (Data.seq #[Value.int 2 251, Value.int (-1) 253, Value.int (-1) 255, Value.int (-1) 257, Value.int 1 258, Value.int 2 259, Value.int 2 260, Value.int 2 261]) #[]),
  (nat_lit 48, cdO "payload_of" "payload_of" 263 22 1 (.ref 43) (.ref 44) (.ref 45) (.ref 46) (.ref 47) 267 268),
  (nat_lit 49, fnO "payload_of" "payload_of" (stmtAt 16) "scheme.words" 225 48),
  (nat_lit 55, cdO "fix" "fix" 270 24 1 (.ref 50) (.ref 51) (.ref 52) (.ref 53) (.ref 54) 274 275),
  (nat_lit 56, fnO "fix" "fix" (stmtAt 17) "scheme.words" 225 55),
  (nat_lit 62, cdO "ref" "ref" 277 26 1 (.ref 57) (.ref 58) (.ref 59) (.ref 60) (.ref 61) 281 282),
  (nat_lit 63, fnO "ref" "ref" (stmtAt 18) "scheme.words" 225 62),
  (nat_lit 69, cdO "header_word" "header_word" 284 28 2 (.ref 64) (.ref 65) (.ref 66) (.ref 67) (.ref 68) 289 290),
  (nat_lit 70, fnO "header_word" "header_word" (stmtAt 19) "scheme.words" 225 69),
  (nat_lit 76, cdO "forward_word" "forward_word" 292 30 1 (.ref 71) (.ref 72) (.ref 73) (.ref 74) (.ref 75) 296 297),
  (nat_lit 77, fnO "forward_word" "forward_word" (stmtAt 20) "scheme.words" 225 76),
  (nat_lit 83, cdO "is_ref" "is_ref" 299 32 1 (.ref 78) (.ref 79) (.ref 80) (.ref 81) (.ref 82) 303 304),
  (nat_lit 84, fnO "is_ref" "is_ref" (stmtAt 21) "scheme.words" 225 83),
  (nat_lit 90, cdO "is_header" "is_header" 306 34 1 (.ref 85) (.ref 86) (.ref 87) (.ref 88) (.ref 89) 310 311),
  (nat_lit 91, fnO "is_header" "is_header" (stmtAt 22) "scheme.words" 225 90),
  (nat_lit 97, cdO "is_forward" "is_forward" 313 36 1 (.ref 92) (.ref 93) (.ref 94) (.ref 95) (.ref 96) 317 318),
  (nat_lit 98, fnO "is_forward" "is_forward" (stmtAt 23) "scheme.words" 225 97),
  (nat_lit 104, cdO "header_kind" "header_kind" 320 38 1 (.ref 99) (.ref 100) (.ref 101) (.ref 102) (.ref 103) 324 325),
  (nat_lit 105, fnO "header_kind" "header_kind" (stmtAt 24) "scheme.words" 225 104),
  (nat_lit 111, cdO "header_length" "header_length" 327 40 1 (.ref 106) (.ref 107) (.ref 108) (.ref 109) (.ref 110) 331 332),
  (nat_lit 112, fnO "header_length" "header_length" (stmtAt 25) "scheme.words" 225 111),
  (nat_lit 118, cdO "is_value_word" "is_value_word" 334 42 1 (.ref 113) (.ref 114) (.ref 115) (.ref 116) (.ref 117) 339 340),
  (nat_lit 119, fnO "is_value_word" "is_value_word" (stmtAt 26) "scheme.words" 225 118),
  (nat_lit 132, cdO "__init__" "Heap.__init__" 356 48 2 (.ref 127) (.ref 128) (.ref 129) (.ref 130) (.ref 131) 361 362),
  (nat_lit 133, fnO "__init__" "Heap.__init__" (methAt 0) "scheme.heap" 342 132),
  (nat_lit 139, cdO "used" "Heap.used" 364 52 1 (.ref 134) (.ref 135) (.ref 136) (.ref 137) (.ref 138) 368 369),
  (nat_lit 140, fnO "used" "Heap.used" (methAt 1) "scheme.heap" 342 139),
  (nat_lit 153, cdO "allocate" "Heap.allocate" 378 58 3 (.ref 148) (.ref 149) (.ref 150) (.ref 151) (.ref 152) 385 386),
  (nat_lit 154, fnO "allocate" "Heap.allocate" (methAt 3) "scheme.heap" 342 153),
  (nat_lit 160, cdO "header_at" "Heap.header_at" 388 64 2 (.ref 155) (.ref 156) (.ref 157) (.ref 158) (.ref 159) 394 395),
  (nat_lit 161, fnO "header_at" "Heap.header_at" (methAt 4) "scheme.heap" 342 160),
  (nat_lit 167, cdO "kind_of" "Heap.kind_of" 397 72 2 (.ref 162) (.ref 163) (.ref 164) (.ref 165) (.ref 166) 402 403),
  (nat_lit 168, fnO "kind_of" "Heap.kind_of" (methAt 5) "scheme.heap" 342 167),
  (nat_lit 174, cdO "length_of" "Heap.length_of" 405 75 2 (.ref 169) (.ref 170) (.ref 171) (.ref 172) (.ref 173) 410 411),
  (nat_lit 175, fnO "length_of" "Heap.length_of" (methAt 6) "scheme.heap" 342 174),
  (nat_lit 188, cdO "place_of" "Heap.place_of" 422 81 3 (.ref 183) (.ref 184) (.ref 185) (.ref 186) (.ref 187) 428 429),
  (nat_lit 189, fnO "place_of" "Heap.place_of" (methAt 8) "scheme.heap" 342 188),
  (nat_lit 195, cdO "field" "Heap.field" 431 86 3 (.ref 190) (.ref 191) (.ref 192) (.ref 193) (.ref 194) 437 438),
  (nat_lit 196, fnO "field" "Heap.field" (methAt 9) "scheme.heap" 342 195),
  (nat_lit 202, cdO "set_field" "Heap.set_field" 440 89 4 (.ref 197) (.ref 198) (.ref 199) (.ref 200) (.ref 201) 447 448),
  (nat_lit 203, fnO "set_field" "Heap.set_field" (methAt 10) "scheme.heap" 342 202),
  (nat_lit 216, cdO "cons" "Heap.cons" 459 96 3 (.ref 211) (.ref 212) (.ref 213) (.ref 214) (.ref 215) 465 466),
  (nat_lit 217, fnO "cons" "Heap.cons" (methAt 12) "scheme.heap" 342 216),
  (nat_lit 219, ⟨.type "dict", none, .dict #[enO P "__module__" 351 (Value.str (Str.ofString "scheme.heap") 342), enO P "__firstlineno__" 355 (Value.int 46 354), enO P "__init__" 363 (Value.ref 133), enO P "used" 370 (Value.ref 140), enO P "is_over" 377 (Value.ref 147), enO P "allocate" 387 (Value.ref 154), enO P "header_at" 396 (Value.ref 161), enO P "kind_of" 404 (Value.ref 168), enO P "length_of" 412 (Value.ref 175), enO P "is_kind" 421 (Value.ref 182), enO P "place_of" 430 (Value.ref 189), enO P "field" 439 (Value.ref 196), enO P "set_field" 449 (Value.ref 203), enO P "fields" 458 (Value.ref 210), enO P "cons" 467 (Value.ref 217), enO P "__static_attributes__" 470 (Value.ref 218), enO P "__dict__" 472 (Value.ref 221), enO P "__weakref__" 474 (Value.ref 222), enO P "__doc__" 475 Value.none] 4, #[]⟩),
  (nat_lit 220, Obj.mk (Value.type "type") none (Data.cls (ClassData.mk (Str.ofString "Heap") [Value.type "object"] [Value.ref 220, Value.type "object"] 219 (Str.ofString "Heap") true [] [] false none false)) #[none, none, some (Value.str (Str.ofString "Heap") 344), some (Value.str (Str.ofString "Heap") 352), some (Value.builtin "object.__new__"), some (Value.bool true)]),
  (nat_lit 230, cdO "wrong_block" "wrong_block" 478 98 3 (.ref 225) (.ref 226) (.ref 227) (.ref 228) (.ref 229) 489 490),
  (nat_lit 231, fnO "wrong_block" "wrong_block" (stmtAt 29) "scheme.heap" 342 230),
  (nat_lit 237, cdO "heap_error" "heap_error" 492 114 1 (.ref 232) (.ref 233) (.ref 234) (.ref 235) (.ref 236) 500 501),
  (nat_lit 238, fnO "heap_error" "heap_error" (stmtAt 30) "scheme.heap" 342 237),
  (nat_lit 244, cdO "moved_word" "moved_word" 505 128 3 (.ref 239) (.ref 240) (.ref 241) (.ref 242) (.ref 243) 514 515),
  (nat_lit 245, fnO "moved_word" "moved_word" (stmtAt 32) "scheme.collect" 503 244),
  (nat_lit 249, cdO "collect" "collect" 517 139 2 (.ref 246) (.ref 247) Value.none Value.none (.ref 248) 520 521),
  (nat_lit 250, fnO "collect" "collect" (stmtAt 33) "scheme.collect" 503 249),
  (nat_lit 256, cdO "marked" "marked" 523 149 2 (.ref 251) (.ref 252) (.ref 253) (.ref 254) (.ref 255) 533 534),
  (nat_lit 257, fnO "marked" "marked" (stmtAt 34) "scheme.collect" 503 256),
  (nat_lit 263, cdO "new_places" "new_places" 536 164 2 (.ref 258) (.ref 259) (.ref 260) (.ref 261) (.ref 262) 544 545),
  (nat_lit 264, fnO "new_places" "new_places" (stmtAt 35) "scheme.collect" 503 263),
  (nat_lit 270, cdO "slid_word" "slid_word" 547 171 2 (.ref 265) (.ref 266) (.ref 267) (.ref 268) (.ref 269) 552 553),
  (nat_lit 271, fnO "slid_word" "slid_word" (stmtAt 36) "scheme.collect" 503 270),
  (nat_lit 275, cdO "slide" "slide" 555 173 2 (.ref 272) (.ref 273) Value.none Value.none (.ref 274) 558 559),
  (nat_lit 276, fnO "slide" "slide" (stmtAt 37) "scheme.collect" 503 275),
  (nat_lit 280, cdO "_law_pot" "_law_pot" 563 183 1 (.ref 277) (.ref 278) Value.none Value.none (.ref 279) 566 567),
  (nat_lit 281, fnO "_law_pot" "_law_pot" (stmtAt 39) "law_pq1016_01" 561 280),
  (nat_lit 287, cdO "_law_dip" "_law_dip" 569 185 2 (.ref 282) (.ref 283) (.ref 284) (.ref 285) (.ref 286) 575 576),
  (nat_lit 288, fnO "_law_dip" "_law_dip" (stmtAt 40) "law_pq1016_01" 561 287),
  (nat_lit 294, cdO "_law_made" "_law_made" 578 192 3 (.ref 289) (.ref 290) (.ref 291) (.ref 292) (.ref 293) 584 585),
  (nat_lit 295, fnO "_law_made" "_law_made" (stmtAt 41) "law_pq1016_01" 561 294),
  (nat_lit 299, cdO "_law_reached" "_law_reached" 587 195 2 (.ref 296) (.ref 297) Value.none Value.none (.ref 298) 590 591),
  (nat_lit 300, fnO "_law_reached" "_law_reached" (stmtAt 42) "law_pq1016_01" 561 299),
  (nat_lit 304, cdO "_law_is_like" "_law_is_like" 593 204 4 (.ref 301) (.ref 302) Value.none Value.none (.ref 303) 596 597),
  (nat_lit 305, fnO "_law_is_like" "_law_is_like" (stmtAt 43) "law_pq1016_01" 561 304),
  (nat_lit 309, cdO "_law_collected" "_law_collected" 599 222 5 (.ref 306) (.ref 307) Value.none Value.none (.ref 308) 602 603),
  (nat_lit 310, fnO "_law_collected" "_law_collected" (stmtAt 44) "law_pq1016_01" 561 309),
  (nat_lit 314, cdO "_law_deed" "_law_deed" 605 232 5 (.ref 311) (.ref 312) Value.none Value.none (.ref 313) 608 609),
  (nat_lit 315, fnO "_law_deed" "_law_deed" (stmtAt 45) "law_pq1016_01" 561 314),
  (nat_lit 319, cdO "law" "law" 611 254 1 (.ref 316) (.ref 317) Value.none Value.none (.ref 318) 614 615),
  (nat_lit 320, fnO "law" "law" (stmtAt 46) "law_pq1016_01" 561 319)]
noncomputable def asT : List Addr := [3, 42, 48, 49, 55, 56, 62, 63, 69, 70, 76, 77, 83, 84, 90, 91, 97, 98, 104, 105, 111, 112, 118, 119, 132, 133, 139, 140, 153, 154, 160, 161, 167, 168, 174, 175, 188, 189, 195, 196, 202, 203, 216, 217, 219, 220, 230, 231, 237, 238, 244, 245, 249, 250, 256, 257, 263, 264, 270, 271, 275, 276, 280, 281, 287, 288, 294, 295, 299, 300, 304, 305, 309, 310, 314, 315, 319, 320]
noncomputable def xtT (s : Shared) : Bool := xlAt viewT [] s && recOk PySem.Challenge.rw_pq1016_01.row.records s
noncomputable def yfT (s : Shared) : List (Option Obj) := asT.map s.heap.get?
noncomputable def yaT (w : World) : List (Option Obj) := (KT w.params).map fun p => some p.2
theorem asT_eq (P : Params) : asT = (KT P).map (·.1) := by rfl
noncomputable def Looks (L : Lib) : Prop := ∀ (w : World) (os : OsState),
  (topT (L.step (L.den L.tb) PySem.Challenge.pw_pq1016_01 w) (L.ok 11 annT) 1900 (startT w os) (topStub PySem.Challenge.pw_pq1016_01)).map (fun s =>
    ((staticsOk (L.imp PySem.Challenge.pw_pq1016_01.main.body) (boot_heap w.params) s.abs.heap && namesBound PySem.Challenge.pw_pq1016_01 s.abs.heap && gensDone s.abs && laidKept (boot_heap w.params) s.abs.heap),
      L.seen viewT looseT (L.imp PySem.Challenge.pw_pq1016_01.main.body) xtT true s.abs, yfT s.abs)) =
  some (true, openGood viewT looseT, yaT w)
theorem looks1 : Looks lib1 := by
  intro w os
  kernel_rfl
theorem looks0 : Looks lib0 := lib_eq ▸ looks1
theorem startT_abs (w : World) (os : OsState) : (startT w os).abs = ⟨boot_heap w.params, Array.mk [], boot_drawn, boot_toks, os⟩ := by kernel_rfl
theorem openingT : opening PySem.Challenge.pw_pq1016_01 = plainProg PySem.Challenge.pw_pq1016_01.main.scope.names := by kernel_rfl
theorem fenceT (s : Shared) : fenceModules? PySem.Challenge.pw_pq1016_01 s = some s := by kernel_rfl
theorem boot1 (w : World) : (boot_heap w.params).isNs mainGlobals = true := by kernel_rfl
theorem boot2 (w : World) : (boot_heap w.params).objs.size = 11 := by kernel_rfl
theorem boot3 (w : World) : (boot_heap w.params).nsMap mainGlobals "__annotations__" = annT := by kernel_rfl
theorem left_of {p q : Program} {loose : List Str} {Xt : Shared → Bool} {α : Type} {Yf : Shared → α} {Ya : World → α} {N M k : Nat}
    (ho : opening p = plainProg p.main.scope.names) (hf : ∀ s, fenceModules? p s = some s) (hb : Nat.ble 600 N = true) (hN : N = M + k)
    (hl : ∀ (w : World) (os : OsState), (topT (stepT (denote treeTable) p w) (stepOk 11 annT) M (startT w os) (topStub p)).map (fun s =>
        ((staticsOk (importedModules p.main.body) (boot_heap w.params) s.abs.heap && namesBound p s.abs.heap && gensDone s.abs && laidKept (boot_heap w.params) s.abs.heap),
          openSeen q loose (importedModules p.main.body) Xt true s.abs, Yf s.abs)) = some (true, openGood q loose, Ya w)) : LeftO p q loose Xt Yf Ya N := fun w => by
  obtain ⟨⟨h, gs, d, k', os⟩, e, e'⟩ := Option.map_eq_some_iff.mp (boot_open (p := p) (N := N) ho hb hf w)
  obtain ⟨rfl, rfl, rfl, rfl⟩ : h = boot_heap w.params ∧ gs = Array.mk [] ∧ d = boot_drawn ∧ k' = boot_toks := by simpa using e'
  obtain ⟨s', hs, hl⟩ := Option.map_eq_some_iff.mp (hl w os)
  have r := topRun_mono k _ _ _ _ (topT_spec hs)
  rw [startT_abs, ← hN] at r
  obtain ⟨l1, l2, l3⟩ : _ ∧ _ ∧ _ := by simpa only [Prod.mk.injEq] using hl
  have t : topFrom treeTable p w N ⟨boot_heap w.params, Array.mk [], boot_drawn, boot_toks, os⟩ = some s'.abs := by
    unfold topFrom
    dsimp only
    rw [boot1, boot2, boot3]
    show (topRun treeTable _ w 11 annT _ _ _).bind _ = _
    rw [r]
    show (match staticsOk _ _ _ && namesBound _ _ && gensDone _ && laidKept _ _ with | true => _ | false => _) = _
    rw [l1]
  unfold openEnds
  rw [e]
  show (topFrom treeTable _ w _ _).map _ = _
  rw [t]
  exact congrArg some (Prod.ext l2 l3)
theorem leftT : LeftO PySem.Challenge.pw_pq1016_01 viewT looseT xtT yfT yaT 3836 := left_of (M := 1900) (k := 1936) openingT fenceT rfl rfl looks0
theorem okR : PySem.Challenge.rw_pq1016_01.row.wellSaid = true := by
  rw [PySem.W.Fast.te17960256430627541270]
  kernel_rfl
theorem okT : PySem.Challenge.rw_pq1016_01.wellSaid = true := by
  unfold OpenLaw.wellSaid
  rw [okR]
  kernel_rfl
theorem okO : (chainsOk viewT && opensWell PySem.Challenge.rw_pq1016_01.row.prog && (frees PySem.Challenge.rw_pq1016_01.row.toRowW && PySem.Challenge.rw_pq1016_01.row.within.isEmpty)) = true := by kernel_rfl
theorem bareT : PySem.Challenge.rw_pq1016_01.row.prog.bare := ⟨rfl, rfl, rfl, rfl, rfl, by decide +kernel⟩
theorem promT : PySem.Challenge.rw_pq1016_01.row.toRowW.promised := by w_witness2
theorem ar1 {P : List Value → Prop} (h : ∀ a, P [a]) : ∀ xs : List Value, xs.length = 1 → P xs
  | [a], _ => h a
theorem ar2 {P : List Value → Prop} (h : ∀ a b, P [a, b]) : ∀ xs : List Value, xs.length = 2 → P xs
  | [a, b], _ => h a b
theorem ar3 {P : List Value → Prop} (h : ∀ a b d, P [a, b, d]) : ∀ xs : List Value, xs.length = 3 → P xs
  | [a, b, d], _ => h a b d
theorem ar4 {P : List Value → Prop} (h : ∀ a b d e, P [a, b, d, e]) : ∀ xs : List Value, xs.length = 4 → P xs
  | [a, b, d, e], _ => h a b d e
theorem ar5 {P : List Value → Prop} (h : ∀ a b d e f, P [a, b, d, e, f]) : ∀ xs : List Value, xs.length = 5 → P xs
  | [a, b, d, e, f], _ => h a b d e f
/-- how a def's body ends -/
noncomputable def FinQ (Q : V → Mem → Prop) : Out → Loc → Mem → Prop
  | .ret v, _, m => Q v m
  | .next, _, m => Q .none m
  | _, _, _ => False
theorem FinQ.ret {Q : V → Mem → Prop} {v : V} {l : Loc} {m : Mem} (h : Q v m) : FinQ Q (.ret v) l m := h
theorem FinQ.next {Q : V → Mem → Prop} {l : Loc} {m : Mem} (h : Q .none m) : FinQ Q .next l m := h
theorem set_old {m : Mem} {a b : Addr} {o x : AObj} (hb : m b = some x) (ha : m a = none) : set m a o b = some x := by
  rw [set_ne]
  · exact hb
  · intro e; rw [e, ha] at hb; cases hb
theorem set_other {m : Mem} {a b : Addr} {o x : AObj} (hb : m b = some x) (ha : b ≠ a) : set m a o b = some x := by rw [set_ne ha]; exact hb
/-- a Heap: its two addresses, its list's, its limit, its cells -/
structure HP (m : Mem) (h dx cl : Addr) (lim : Int) (cs : List Int) : Prop where
  i : m h = some (.inst dx)
  d : m dx = some (.attrs [(Str.ofString "limit", .int lim), (Str.ofString "cells", .ref cl)])
  c : m cl = some (.list (cs.map .int))
  z : cs.length ≤ 10000
theorem HP.fresh {m : Mem} {h dx cl a : Addr} {lim : Int} {cs : List Int} {o : AObj} (H : HP m h dx cl lim cs) (ha : m a = none) : HP (set m a o) h dx cl lim cs := ⟨set_old H.i ha, set_old H.d ha, set_old H.c ha, H.z⟩
theorem HP.other {m : Mem} {h dx cl a : Addr} {lim : Int} {cs : List Int} {o : AObj} (H : HP m h dx cl lim cs) (h1 : h ≠ a) (h2 : dx ≠ a) (h3 : cl ≠ a) : HP (set m a o) h dx cl lim cs := ⟨set_other H.i h1, set_other H.d h2, set_other H.c h3, H.z⟩
theorem HP.put {m : Mem} {h dx cl : Addr} {lim : Int} {cs cs' : List Int} (H : HP m h dx cl lim cs) (hz : cs'.length ≤ 10000) : HP (set m cl (.list (cs'.map .int))) h dx cl lim cs' :=
  ⟨set_other H.i (fun e => by have := H.i; rw [e, H.c] at this; cases this), set_other H.d (fun e => by have := H.d; rw [e, H.c] at this; cases this), set_self, hz⟩
/-- what stood, but for some -/
noncomputable def Ext (md : List Addr) (m m' : Mem) : Prop := ∀ b o, m b = some o → b ∉ md → m' b = some o
theorem Ext.refl {md : List Addr} {m : Mem} : Ext md m m := fun _ _ h _ => h
theorem Ext.trans {md : List Addr} {m₁ m₂ m₃ : Mem} (x : Ext md m₁ m₂) (y : Ext md m₂ m₃) : Ext md m₁ m₃ := fun b o h hb => y b o (x b o h hb) hb
theorem Ext.more {md md' : List Addr} {m m' : Mem} (x : Ext md m m') (h : ∀ b, b ∈ md → b ∈ md') : Ext md' m m' := fun b o e hb => x b o e fun q => hb (h b q)
theorem Ext.fresh {md : List Addr} {m m' : Mem} {a : Addr} {o : AObj} (x : Ext md m m') (ha : m' a = none) : Ext md m (set m' a o) := fun b o e hb => set_old (x b o e hb) ha
theorem Ext.put {md : List Addr} {m m' : Mem} {a : Addr} {o : AObj} (x : Ext md m m') (ha : a ∈ md) : Ext md m (set m' a o) := fun b o e hb => set_other (x b o e hb) fun q => hb (q ▸ ha)
theorem HP.ext {m m' : Mem} {md : List Addr} {h dx cl : Addr} {lim : Int} {cs : List Int} (H : HP m h dx cl lim cs) (E : Ext md m m') (h1 : h ∉ md) (h2 : dx ∉ md) (h3 : cl ∉ md) : HP m' h dx cl lim cs :=
  ⟨E _ _ H.i h1, E _ _ H.d h2, E _ _ H.c h3, H.z⟩
section
variable {c : Cx} {n : Nat} {env : Frm} {cenv : Env} {loc : Loc} {mem : Mem} {Q : V → Loc → Mem → Prop}
theorem Cont.next {rest : List Stmt} {Q : Out → Loc → Mem → Prop} (h : SS c n env cenv rest loc mem Q) : Cont c n env cenv rest Q .next loc mem := h
theorem Cont.ret {rest : List Stmt} {Q : Out → Loc → Mem → Prop} {v : V} (h : Q (.ret v) loc mem) : Cont c n env cenv rest Q (.ret v) loc mem := h
theorem EV.gint {x : Str} {pos : Pos} {i : Int} (h : ∃ t, nsIn c.K mainGlobals x = some (some (.int i t))) (hq : Q (.int i) loc mem) (hk : cenv.kindOf x = some .globalImplicit) (hd : (x == ("__debug__" : Str)) = false) :
    EV c n env cenv (.Name x pos) loc mem Q := by
  obtain ⟨t, h⟩ := h
  exact W.NameG h (vint i t) hq hk hd
/-- a call of a def of the program's -/
theorem EV.def' {x : Str} {p pos : Pos} {k : Nat} {e : Expr} {rest : List Expr} (D : DefOk c k x)
    (h : Args c n env cenv pos (e :: rest) loc mem (fun vs l m => CallV c n env cenv (.ref (c.fx k)) vs l m Q))
    (hk : cenv.kindOf x = some .globalImplicit) (hd : (x == ("__debug__" : Str)) = false)
    (hs : starEach (e :: rest) cenv = (false, eval e cenv) :: starEach rest cenv) (hp : (backTo pos (starEach rest cenv)).any (·.1) = false)
    (he : eval (.Call (.Name x p) (e :: rest) [] pos) cenv = (do callWith pos (← eval (.Name x p) cenv) [] (backTo pos (starEach (e :: rest) cenv)) (backToKw pos (keywordEach [] cenv)))) :
    EV c n env cenv (.Call (.Name x p) (e :: rest) [] pos) loc mem Q := EV.callF1 D.g D.keep h hk hd hs hp he
theorem IsH.of {m : Mem} {h dx cl : Addr} {lim : Int} {cs : List Int} (H : HP m h dx cl lim cs) : IsH m h dx [(Str.ofString "limit", .int lim), (Str.ofString "cells", .ref cl)] := ⟨H.i, H.d⟩
theorem EV.hm1 {o : Expr} {name qual : Str} {k : Nat} {apos pos : Pos} {e : Expr} {rest : List Expr} {pl : Sem Bool} (D : MethOk c k name qual) (HK : HeapK c)
    (h : EV c n env cenv o loc mem (fun a l1 m1 => ∃ b dx fs, a = .ref b ∧ IsH m1 b dx fs ∧ fs.lookup name = none ∧ Args c n env cenv pos (e :: rest) l1 m1 (fun vs l m => CallV c n env cenv (.ref (c.fx (100 + k))) (.ref b :: vs) l m Q)))
    (he : eval (.Call (.Attribute o name apos) (e :: rest) [] pos) cenv = (do
      let ov ← eval o cenv
      standAt apos.atName
      let (f, first) ← holding [ov] (getMethod ov name pl)
      callWith pos f first (backTo pos (starEach (e :: rest) cenv)) []))
    (hs : starEach (e :: rest) cenv = (false, eval e cenv) :: starEach rest cenv) (hp : (backTo pos (starEach rest cenv)).any (·.1) = false) :
    EV c n env cenv (.Call (.Attribute o name apos) (e :: rest) [] pos) loc mem Q := EV.hmeth1 HK D.f D.fn D.keep h he hs hp
theorem EV.hm0 {o : Expr} {name qual : Str} {k : Nat} {apos pos : Pos} {pl : Sem Bool} (D : MethOk c k name qual) (HK : HeapK c)
    (h : EV c n env cenv o loc mem (fun a l1 m1 => ∃ b dx fs, a = .ref b ∧ IsH m1 b dx fs ∧ fs.lookup name = none ∧ CallV c n env cenv (.ref (c.fx (100 + k))) [.ref b] l1 m1 Q))
    (he : eval (.Call (.Attribute o name apos) [] [] pos) cenv = (do
      let ov ← eval o cenv
      standAt apos.atName
      let (f, first) ← holding [ov] (getMethod ov name pl)
      callWith pos f first (backTo pos (starEach [] cenv)) [])) :
    EV c n env cenv (.Call (.Attribute o name apos) [] [] pos) loc mem Q := EV.hmeth0 HK D.f D.fn D.keep h he
theorem EV.hcells {x : Str} {xp pos : Pos} {h dx cl : Addr} {lim : Int} {cs : List Int} (F : Facts c) (hx : loc.lookup x = some (.ref h)) (H : HP mem h dx cl lim cs) (hq : Q (.ref cl) loc mem) :
    EV c n env cenv (.Attribute (.Name x xp) (Str.ofString "cells") pos) loc mem Q :=
  EV.attr F.HK F.HK.cells (EV.name hx ⟨h, dx, _, _, rfl, .of H, rfl, hq⟩)
theorem EV.hlimit {x : Str} {xp pos : Pos} {h dx cl : Addr} {lim : Int} {cs : List Int} (F : Facts c) (hx : loc.lookup x = some (.ref h)) (H : HP mem h dx cl lim cs) (hq : Q (.int lim) loc mem) :
    EV c n env cenv (.Attribute (.Name x xp) (Str.ofString "limit") pos) loc mem Q :=
  EV.attr F.HK F.HK.limit (EV.name hx ⟨h, dx, _, _, rfl, .of H, rfl, hq⟩)
theorem Fn.of {f : Addr} {qual : Str} {S : Stmt} {names : List Str} {vs : List V} {Q : V → Mem → Prop} (hf : FnIs c qual (fnArgs S) (fnBody S) (fnScope S) f) (hlen : names.length = vs.length)
    (hbind : ∀ xs : List Value, xs.length = vs.length → ∀ (name : Str) (doc pm : Value) (an : Option Addr) (cdv ct : Value), bindArgs (fnOf name qual (fnArgs S) (fnBody S) (fnScope S) .none .none doc pm an cdv ct) ⟨xs, []⟩ = Pure.pure (names.zip xs))
    (hnames : names.Nodup) (hkind : (names.all fun y => ((fnScope S).names.lookup y == some .local || (fnScope S).names.lookup y == some .cell) && !(y == ("__debug__" : Str))) = true)
    (hnd : ((cellsFrom 0 (fnScope S).names []).map (·.1)).Nodup) (hco : (fnScope S).isCoroutine = false) (hgen : (fnScope S).isGenerator = false) (hk : (fnScope S).kind = .function)
    (h : ∀ L cd g, SS c n (frmOf qual (fnScope S) L f cd g) (envOfC qual (fnScope S) L f cd) (fnBody S) (names.zip vs) mem (FinQ Q)) :
    Fn c (n + 1) f vs mem Q := fun env xs hxs => C0.callee hf hxs hlen (hbind xs hxs.length) hnames hkind hnd hco hgen hk fun L cd g => (h L cd g).mono fun b l m q => by cases b <;> exact q
/-- a def that computes a value alone -/
theorem CallV.pure {f : Addr} {vs : List V} {k : Nat} {r : V} (h : Fn c k f vs mem (fun v m => v = r ∧ m = mem)) (hk : k ≤ n) (hq : Q r loc mem) : CallV c n env cenv (.ref f) vs loc mem Q :=
  (h.mono (fun v m e => by obtain ⟨rfl, rfl⟩ := e; exact hq)).call hk
end
/-- an expression that is read without a step in memory -/
structure PE (c : Cx) (n : Nat) (cenv : Env) (loc : Loc) (e : Expr) (v : V) : Prop where
  ev : ∀ {env : Frm} {mem : Mem} {Q : V → Loc → Mem → Prop}, Q v loc mem → EV c n env cenv e loc mem Q
  st : ∀ rest, starEach (e :: rest) cenv = (false, eval e cenv) :: starEach rest cenv
section
variable {c : Cx} {n : Nat} {env : Frm} {cenv : Env} {loc : Loc} {mem : Mem}
theorem PE.name {x : Str} {pos : Pos} {v : V} (hx : loc.lookup x = some v) : PE c n cenv loc (.Name x pos) v := ⟨EV.name hx, fun _ => rfl⟩
theorem PE.int {i : Int} {k : Nat} {pos : Pos} : PE c n cenv loc (.Constant (.int i) k pos) (.int i) := ⟨EV.int, fun _ => rfl⟩
theorem PE.noneC {k : Nat} {pos : Pos} : PE c n cenv loc (.Constant .none k pos) .none := ⟨EV.noneC, fun _ => rfl⟩
theorem PE.boolC {b : Bool} {k : Nat} {pos : Pos} : PE c n cenv loc (.Constant (.bool b) k pos) (.bool b) := ⟨EV.boolC, fun _ => rfl⟩
theorem PE.gint {x : Str} {pos : Pos} {i : Int} (h : ∃ t, nsIn c.K mainGlobals x = some (some (.int i t))) (hk : cenv.kindOf x = some .globalImplicit) (hd : (x == ("__debug__" : Str)) = false) : PE c n cenv loc (.Name x pos) (.int i) := ⟨fun q => EV.gint h q hk hd, fun _ => rfl⟩
theorem PE.add {l r : Expr} {x y : Int} {pos : Pos} (a : PE c n cenv loc l (.int x)) (b : PE c n cenv loc r (.int y)) : PE c n cenv loc (.BinOp l .Add r pos) (.int (x + y)) := ⟨fun q => EV.binop (a.ev (b.ev (BOp.add q))), fun _ => rfl⟩
theorem PE.sub {l r : Expr} {x y : Int} {pos : Pos} (a : PE c n cenv loc l (.int x)) (b : PE c n cenv loc r (.int y)) : PE c n cenv loc (.BinOp l .Sub r pos) (.int (x - y)) := ⟨fun q => EV.binop (a.ev (b.ev (BOp.sub q))), fun _ => rfl⟩
theorem PE.mul {l r : Expr} {x y : Int} {pos : Pos} (a : PE c n cenv loc l (.int x)) (b : PE c n cenv loc r (.int y)) (hy : y.natAbs < 2 ^ 60) : PE c n cenv loc (.BinOp l .Mult r pos) (.int (x * y)) := ⟨fun q => EV.binop (a.ev (b.ev (BOp.mul q hy))), fun _ => rfl⟩
theorem PE.mod {l r : Expr} {x y : Int} {pos : Pos} (a : PE c n cenv loc l (.int x)) (b : PE c n cenv loc r (.int y)) (hy : y ≠ 0) : PE c n cenv loc (.BinOp l .Mod r pos) (.int (Int.fmod x y)) := ⟨fun q => EV.binop (a.ev (b.ev (BOp.mod q hy))), fun _ => rfl⟩
theorem PE.fdiv {l r : Expr} {x y : Int} {pos : Pos} (a : PE c n cenv loc l (.int x)) (b : PE c n cenv loc r (.int y)) (hy : y ≠ 0) (hs : y.natAbs < 2 ^ 60) : PE c n cenv loc (.BinOp l .FloorDiv r pos) (.int (Int.fdiv x y)) := ⟨fun q => EV.binop (a.ev (b.ev (BOp.fdiv q hy hs))), fun _ => rfl⟩
theorem PE.def1 {x : Str} {p pos : Pos} {k : Nat} {e : Expr} {v r : V} (D : DefOk c k x) (f : ∀ mem, Fn c 1 (c.fx k) [v] mem (fun w m => w = r ∧ m = mem)) (hn : 1 ≤ n) (a : PE c n cenv loc e v)
    (hk : cenv.kindOf x = some .globalImplicit) (hd : (x == ("__debug__" : Str)) = false) (hp : (backTo pos (starEach [] cenv)).any (·.1) = false)
    (he : eval (.Call (.Name x p) [e] [] pos) cenv = (do callWith pos (← eval (.Name x p) cenv) [] (backTo pos (starEach [e] cenv)) (backToKw pos (keywordEach [] cenv)))) : PE c n cenv loc (.Call (.Name x p) [e] [] pos) r :=
  ⟨fun q => EV.def' D (Args.cons (a.ev (Args.nil (CallV.pure (f _) hn q))) (a.st _)) hk hd (a.st _) hp he, fun _ => rfl⟩
theorem PE.def2 {x : Str} {p pos : Pos} {k : Nat} {e e2 : Expr} {v v2 r : V} (D : DefOk c k x) (f : ∀ mem, Fn c 1 (c.fx k) [v, v2] mem (fun w m => w = r ∧ m = mem)) (hn : 1 ≤ n) (a : PE c n cenv loc e v) (a2 : PE c n cenv loc e2 v2)
    (hk : cenv.kindOf x = some .globalImplicit) (hd : (x == ("__debug__" : Str)) = false) (hp : (backTo pos (starEach [e2] cenv)).any (·.1) = false)
    (he : eval (.Call (.Name x p) [e, e2] [] pos) cenv = (do callWith pos (← eval (.Name x p) cenv) [] (backTo pos (starEach [e, e2] cenv)) (backToKw pos (keywordEach [] cenv)))) : PE c n cenv loc (.Call (.Name x p) [e, e2] [] pos) r :=
  ⟨fun q => EV.def' D (Args.cons (a.ev (Args.cons (a2.ev (Args.nil (CallV.pure (f _) hn q))) (a2.st _))) (a.st _)) hk hd (a.st _) hp he, fun _ => rfl⟩
section
variable {pos : Pos} {Q : List V → Loc → Mem → Prop} {e1 e2 e3 e4 e5 e6 : Expr} {v1 v2 v3 v4 v5 v6 : V}
theorem Args.p1 (a1 : PE c n cenv loc e1 v1) (q : Q [v1] loc mem) : Args c n env cenv pos [e1] loc mem Q := Args.cons (a1.ev (Args.nil q)) (a1.st _)
theorem Args.p2 (a1 : PE c n cenv loc e1 v1) (a2 : PE c n cenv loc e2 v2) (q : Q [v1, v2] loc mem) : Args c n env cenv pos [e1, e2] loc mem Q := Args.cons (a1.ev (Args.p1 a2 q)) (a1.st _)
theorem Args.p3 (a1 : PE c n cenv loc e1 v1) (a2 : PE c n cenv loc e2 v2) (a3 : PE c n cenv loc e3 v3) (q : Q [v1, v2, v3] loc mem) : Args c n env cenv pos [e1, e2, e3] loc mem Q := Args.cons (a1.ev (Args.p2 a2 a3 q)) (a1.st _)
theorem Args.p4 (a1 : PE c n cenv loc e1 v1) (a2 : PE c n cenv loc e2 v2) (a3 : PE c n cenv loc e3 v3) (a4 : PE c n cenv loc e4 v4) (q : Q [v1, v2, v3, v4] loc mem) : Args c n env cenv pos [e1, e2, e3, e4] loc mem Q := Args.cons (a1.ev (Args.p3 a2 a3 a4 q)) (a1.st _)
theorem Args.p5 (a1 : PE c n cenv loc e1 v1) (a2 : PE c n cenv loc e2 v2) (a3 : PE c n cenv loc e3 v3) (a4 : PE c n cenv loc e4 v4) (a5 : PE c n cenv loc e5 v5) (q : Q [v1, v2, v3, v4, v5] loc mem) : Args c n env cenv pos [e1, e2, e3, e4, e5] loc mem Q := Args.cons (a1.ev (Args.p4 a2 a3 a4 a5 q)) (a1.st _)
theorem Args.p6 (a1 : PE c n cenv loc e1 v1) (a2 : PE c n cenv loc e2 v2) (a3 : PE c n cenv loc e3 v3) (a4 : PE c n cenv loc e4 v4) (a5 : PE c n cenv loc e5 v5) (a6 : PE c n cenv loc e6 v6) (q : Q [v1, v2, v3, v4, v5, v6] loc mem) : Args c n env cenv pos [e1, e2, e3, e4, e5, e6] loc mem Q := Args.cons (a1.ev (Args.p5 a2 a3 a4 a5 a6 q)) (a1.st _)
end
section
variable {l r : Expr} {x y : Int} {pos : Pos} {Q : Bool → Loc → Mem → Prop} (a : PE c n cenv loc l (.int x)) (b : PE c n cenv loc r (.int y))
include a b
theorem Test.eqI (hm : behindInMarks .Eq r = false) (q : Q (x == y) loc mem) : Test c n env cenv (.Compare l [.Eq] [r] pos) loc mem Q := Test.cmp (a.ev (b.ev (COp.eqI (Tru.bool q)))) hm
theorem Test.neI (hm : behindInMarks .NotEq r = false) (q : Q (x != y) loc mem) : Test c n env cenv (.Compare l [.NotEq] [r] pos) loc mem Q := Test.cmp (a.ev (b.ev (COp.neI (Tru.bool q)))) hm
theorem Test.ltI (hm : behindInMarks .Lt r = false) (q : Q (decide (x < y)) loc mem) : Test c n env cenv (.Compare l [.Lt] [r] pos) loc mem Q := Test.cmp (a.ev (b.ev (COp.ltI (Tru.bool q)))) hm
theorem Test.leI (hm : behindInMarks .LtE r = false) (q : Q (decide (x ≤ y)) loc mem) : Test c n env cenv (.Compare l [.LtE] [r] pos) loc mem Q := Test.cmp (a.ev (b.ev (COp.leI (Tru.bool q)))) hm
theorem Test.gtI (hm : behindInMarks .Gt r = false) (q : Q (decide (y < x)) loc mem) : Test c n env cenv (.Compare l [.Gt] [r] pos) loc mem Q := Test.cmp (a.ev (b.ev (COp.gtI (Tru.bool q)))) hm
theorem Test.geI (hm : behindInMarks .GtE r = false) (q : Q (decide (y ≤ x)) loc mem) : Test c n env cenv (.Compare l [.GtE] [r] pos) loc mem Q := Test.cmp (a.ev (b.ev (COp.geI (Tru.bool q)))) hm
end
theorem Test.pe {e : Expr} {b : Bool} {Q : Bool → Loc → Mem → Prop} (a : PE c n cenv loc e (.bool b)) (he : isTrue e cenv (eval e cenv) = (do let v ← eval e cenv; standAt e.pos; holding [v] (truthy v))) (q : Q b loc mem) : Test c n env cenv e loc mem Q := Test.plain (a.ev (Tru.bool q)) he
section
variable {Q : Out → Loc → Mem → Prop} {rest : List Stmt} {x : Str} {p pos : Pos} {value : Expr}
theorem SS.let (hk : Kind cenv x) (h : EV c n env cenv value loc mem (fun v l m => SS c n env cenv rest ((x, v) :: l) m Q))
    (hs : swapsWithSole [.Name x p] value pos.line cenv = pure false) (hw : swappedStores [.Name x p] value cenv = pure none) (he : (assignEach [.Name x p] cenv).map (·.2) = [PySem.assign (.Name x p) cenv]) : SS c n env cenv (.Assign [.Name x p] value pos :: rest) loc mem Q :=
  SS.cons (S1.assign (W.mono h fun _ _ _ q => AS.name hk (Cont.next q)) hs hw he)
theorem SS.ret (h : EV c n env cenv value loc mem (fun v l m => Q (.ret v) l m)) : SS c n env cenv (.Return (some value) pos :: rest) loc mem Q := SS.cons (S1.ret (W.mono h fun _ _ _ q => Cont.ret q))
end
theorem EV.subP {value slice : Expr} {pos : Pos} {a i : V} {Q : V → Loc → Mem → Prop} (ha : PE c n cenv loc value a) (hi : PE c n cenv loc slice i) (q : Sub c n env cenv value slice a i loc mem Q) : EV c n env cenv (.Subscript value slice pos) loc mem Q := EV.sub (ha.ev (hi.ev q))
end
local macro_rules | `(tactic| walk_at "m_look") => `(tactic| first
  | assumption
  | exact HP.c (by assumption)
  | exact set_self
  | (refine HP.fresh ?_ (by assumption); walk_at "m_look")
  | (refine set_old ?_ (by assumption); walk_at "m_look")
  | (refine HP.other ?_ (by assumption) (by assumption) (by assumption); walk_at "m_look")
  | (refine set_other ?_ (by assumption); walk_at "m_look"))
local macro_rules | `(tactic| walk_at "m_lsub") => `(tactic| first
  | exact LSub.refl
  | (repeat (first | exact LSub.nil | refine LSub.cons rfl ?_)))
local macro_rules | `(tactic| walk_at "m_clin") => `(tactic| (repeat (first | exact trivial | refine ⟨rfl, ?_⟩)))
theorem ite_intro {b : Bool} {P Q : Prop} (h1 : b = true → P) (h2 : b = false → Q) : if b = true then P else Q := by
  cases b
  · exact h2 rfl
  · exact h1 rfl
theorem f16 {c : Cx} (F : Facts c) {mem : Mem} {x : Int} : Fn c 1 (c.fx 16) [.int x] mem (fun v m => v = .int (Int.fdiv x 8) ∧ m = mem) := by
  refine Fn.of (n := 0) (names := [Str.ofString "word"]) F.d16.is rfl (ar1 fun _ _ _ _ _ _ _ => rfl) (by decide) rfl (by with_unfolding_all decide) rfl rfl rfl fun L cd g => ?_
  refine SS.ret ?_
  refine PE.ev (.fdiv (.name rfl) (.gint F.gTAGS rfl rfl) (by decide) (by decide)) ?_
  exact ⟨rfl, rfl⟩
theorem f17 {c : Cx} (F : Facts c) {mem : Mem} {x : Int} : Fn c 1 (c.fx 17) [.int x] mem (fun v m => v = .int (x * 8 + 0) ∧ m = mem) := by
  refine Fn.of (n := 0) (names := [Str.ofString "number"]) F.d17.is rfl (ar1 fun _ _ _ _ _ _ _ => rfl) (by decide) rfl (by with_unfolding_all decide) rfl rfl rfl fun L cd g => ?_
  refine SS.ret ?_
  refine PE.ev (.add (.mul (.name rfl) (.gint F.gTAGS rfl rfl) (by decide)) (.gint F.gFIX rfl rfl)) ?_
  exact ⟨rfl, rfl⟩
theorem f18 {c : Cx} (F : Facts c) {mem : Mem} {x : Int} : Fn c 1 (c.fx 18) [.int x] mem (fun v m => v = .int (x * 8 + 1) ∧ m = mem) := by
  refine Fn.of (n := 0) (names := [Str.ofString "address"]) F.d18.is rfl (ar1 fun _ _ _ _ _ _ _ => rfl) (by decide) rfl (by with_unfolding_all decide) rfl rfl rfl fun L cd g => ?_
  refine SS.ret ?_
  refine PE.ev (.add (.mul (.name rfl) (.gint F.gTAGS rfl rfl) (by decide)) (.gint F.gREF rfl rfl)) ?_
  exact ⟨rfl, rfl⟩
theorem f19 {c : Cx} (F : Facts c) {mem : Mem} {x y : Int} : Fn c 1 (c.fx 19) [.int x, .int y] mem (fun v m => v = .int ((y * 16 + x) * 8 + 5) ∧ m = mem) := by
  refine Fn.of (n := 0) (names := [Str.ofString "kind", Str.ofString "length"]) F.d19.is rfl (ar2 fun _ _ _ _ _ _ _ _ => rfl) (by decide) rfl (by with_unfolding_all decide) rfl rfl rfl fun L cd g => ?_
  refine SS.ret ?_
  refine PE.ev (.add (.mul (.add (.mul (.name rfl) (.gint F.gKINDS rfl rfl) (by decide)) (.name rfl)) (.gint F.gTAGS rfl rfl) (by decide)) (.gint F.gHEADER rfl rfl)) ?_
  exact ⟨rfl, rfl⟩
theorem f20 {c : Cx} (F : Facts c) {mem : Mem} {x : Int} : Fn c 1 (c.fx 20) [.int x] mem (fun v m => v = .int (x * 8 + 6) ∧ m = mem) := by
  refine Fn.of (n := 0) (names := [Str.ofString "address"]) F.d20.is rfl (ar1 fun _ _ _ _ _ _ _ => rfl) (by decide) rfl (by with_unfolding_all decide) rfl rfl rfl fun L cd g => ?_
  refine SS.ret ?_
  refine PE.ev (.add (.mul (.name rfl) (.gint F.gTAGS rfl rfl) (by decide)) (.gint F.gFORWARD rfl rfl)) ?_
  exact ⟨rfl, rfl⟩
theorem f21 {c : Cx} (F : Facts c) {mem : Mem} {x : Int} : Fn c 1 (c.fx 21) [.int x] mem (fun v m => v = .bool (Int.fmod x 8 == 1) ∧ m = mem) := by
  refine Fn.of (n := 0) (names := [Str.ofString "word"]) F.d21.is rfl (ar1 fun _ _ _ _ _ _ _ => rfl) (by decide) rfl (by with_unfolding_all decide) rfl rfl rfl fun L cd g => ?_
  refine SS.ret ?_
  refine EV.compare ?_ (by with_unfolding_all rfl)
  refine PE.ev (.mod (.name rfl) (.gint F.gTAGS rfl rfl) (by decide)) ?_
  refine PE.ev (.gint F.gREF rfl rfl) ?_
  refine COp.eqI ?_
  exact ⟨rfl, rfl⟩
theorem f22 {c : Cx} (F : Facts c) {mem : Mem} {x : Int} : Fn c 1 (c.fx 22) [.int x] mem (fun v m => v = .bool (Int.fmod x 8 == 5) ∧ m = mem) := by
  refine Fn.of (n := 0) (names := [Str.ofString "word"]) F.d22.is rfl (ar1 fun _ _ _ _ _ _ _ => rfl) (by decide) rfl (by with_unfolding_all decide) rfl rfl rfl fun L cd g => ?_
  refine SS.ret ?_
  refine EV.compare ?_ (by with_unfolding_all rfl)
  refine PE.ev (.mod (.name rfl) (.gint F.gTAGS rfl rfl) (by decide)) ?_
  refine PE.ev (.gint F.gHEADER rfl rfl) ?_
  refine COp.eqI ?_
  exact ⟨rfl, rfl⟩
theorem f23 {c : Cx} (F : Facts c) {mem : Mem} {x : Int} : Fn c 1 (c.fx 23) [.int x] mem (fun v m => v = .bool (Int.fmod x 8 == 6) ∧ m = mem) := by
  refine Fn.of (n := 0) (names := [Str.ofString "word"]) F.d23.is rfl (ar1 fun _ _ _ _ _ _ _ => rfl) (by decide) rfl (by with_unfolding_all decide) rfl rfl rfl fun L cd g => ?_
  refine SS.ret ?_
  refine EV.compare ?_ (by with_unfolding_all rfl)
  refine PE.ev (.mod (.name rfl) (.gint F.gTAGS rfl rfl) (by decide)) ?_
  refine PE.ev (.gint F.gFORWARD rfl rfl) ?_
  refine COp.eqI ?_
  exact ⟨rfl, rfl⟩
theorem f24 {c : Cx} (F : Facts c) {mem : Mem} {x : Int} : Fn c 1 (c.fx 24) [.int x] mem (fun v m => v = .int (Int.fmod (Int.fdiv x 8) 16) ∧ m = mem) := by
  refine Fn.of (n := 0) (names := [Str.ofString "header"]) F.d24.is rfl (ar1 fun _ _ _ _ _ _ _ => rfl) (by decide) rfl (by with_unfolding_all decide) rfl rfl rfl fun L cd g => ?_
  refine SS.ret ?_
  refine PE.ev (.mod (.fdiv (.name rfl) (.gint F.gTAGS rfl rfl) (by decide) (by decide)) (.gint F.gKINDS rfl rfl) (by decide)) ?_
  exact ⟨rfl, rfl⟩
theorem f25 {c : Cx} (F : Facts c) {mem : Mem} {x : Int} : Fn c 1 (c.fx 25) [.int x] mem (fun v m => v = .int (Int.fdiv (Int.fdiv x 8) 16) ∧ m = mem) := by
  refine Fn.of (n := 0) (names := [Str.ofString "header"]) F.d25.is rfl (ar1 fun _ _ _ _ _ _ _ => rfl) (by decide) rfl (by with_unfolding_all decide) rfl rfl rfl fun L cd g => ?_
  refine SS.ret ?_
  refine PE.ev (.fdiv (.fdiv (.name rfl) (.gint F.gTAGS rfl rfl) (by decide) (by decide)) (.gint F.gKINDS rfl rfl) (by decide) (by decide)) ?_
  exact ⟨rfl, rfl⟩
theorem f26 {c : Cx} (F : Facts c) {mem : Mem} {x : Int} : Fn c 1 (c.fx 26) [.int x] mem (fun v m => v = .bool (Int.fmod x 8 != 5 && Int.fmod x 8 != 6) ∧ m = mem) := by
  refine Fn.of (n := 0) (names := [Str.ofString "word"]) F.d26.is rfl (ar1 fun _ _ _ _ _ _ _ => rfl) (by decide) rfl (by with_unfolding_all decide) rfl rfl rfl fun L cd g => ?_
  refine SS.let (by first | exact ⟨rfl, Or.inl rfl⟩ | exact ⟨rfl, Or.inr ⟨rfl, rfl⟩⟩) ?_ rfl rfl rfl
  refine PE.ev (.mod (.name rfl) (.gint F.gTAGS rfl rfl) (by decide)) ?_
  refine SS.ret ?_
  refine EV.and2 ?_
  refine EV.compare ?_ (by with_unfolding_all rfl)
  refine PE.ev (.name rfl) ?_
  refine PE.ev (.gint F.gHEADER rfl rfl) ?_
  refine COp.neI ?_
  refine Tru.bool ?_
  refine ite_intro (fun hb => ?_) (fun hb => ?_)
  · refine EV.compare ?_ (by with_unfolding_all rfl)
    refine PE.ev (.name rfl) ?_
    refine PE.ev (.gint F.gFORWARD rfl rfl) ?_
    refine COp.neI ?_
    exact ⟨by rw [hb]; rfl, rfl⟩
  · exact ⟨by rw [hb]; rfl, rfl⟩
section
variable {c : Cx} {n : Nat} {env : Frm} {cenv : Env} {loc : Loc} {mem : Mem} {Q : V → Loc → Mem → Prop} {h dx cl : Addr} {lim : Int} {cs : List Int}
theorem HP.upd {o : AObj} (H : HP mem h dx cl lim cs) {cs' : List Int} (ho : o = .list (cs'.map .int)) (hz : cs'.length ≤ 10000) : HP (set mem cl o) h dx cl lim cs' := by
  subst ho; exact H.put hz
theorem MethB.appendH {i : Int} (H : HP mem h dx cl lim cs) (hz : cs.length + 1 ≤ 10000) (k : ∀ m', HP m' h dx cl lim (cs ++ [i]) → Ext [cl] mem m' → (∃ o, m' = set mem cl o) → Q .none loc m') : MethB c n env cenv "list.append" (.ref cl) [.int i] loc mem Q :=
  MethB.append H.c (by have := H.z; simp; omega) (k _ (H.upd (by simp) (by simp; omega)) (Ext.refl.put (by simp)) ⟨_, rfl⟩)
theorem MethB.extendH {b : Addr} {is : List Int} (H : HP mem h dx cl lim cs) (hb : mem b = some (.list (is.map .int))) (hz : cs.length + is.length ≤ 10000) (k : ∀ m', HP m' h dx cl lim (cs ++ is) → Ext [cl] mem m' → (∃ o, m' = set mem cl o) → Q .none loc m') : MethB c n env cenv "list.extend" (.ref cl) [.ref b] loc mem Q :=
  MethB.extend H.c hb (by have := H.z; simp; omega) (k _ (H.upd (by simp) (by simp; omega)) (Ext.refl.put (by simp)) ⟨_, rfl⟩)
theorem SetI.cells {i x : Int} {P : Loc → Mem → Prop} (H : HP mem h dx cl lim cs) (h0 : 0 ≤ i) (hn : i < cs.length) (k : ∀ m', HP m' h dx cl lim (cs.set i.toNat x) → Ext [cl] mem m' → (∃ o, m' = set mem cl o) → P loc m') : SetI c n env cenv (.ref cl) (.int i) (.int x) loc mem P :=
  SetI.list H.c h0 (by have := H.z; omega) (by simpa using hn) (k _ (H.upd (by rw [List.map_set]) (by rw [List.length_set]; exact H.z)) (Ext.refl.put (by simp)) ⟨_, rfl⟩)
theorem Sub.cells {value slice : Expr} {i x : Int} (H : HP mem h dx cl lim cs) (h0 : 0 ≤ i) (hv : cs[i.toNat]? = some x) (k : Q (.int x) loc mem)
    (hs : ∀ t, subscripted slice false (.ref cl) (.int i t) = operate [.ref cl, .int i t] (getItem (.ref cl) (.int i t)) := by intro _; with_unfolding_all rfl) : Sub c n env cenv value slice (.ref cl) (.int i) loc mem Q :=
  Sub.list H.c h0 (by have := H.z; have := (List.getElem?_eq_some_iff.mp hv).1; omega) (by rw [List.getElem?_map, hv]; rfl) k hs
theorem CallV.lenH (H : HP mem h dx cl lim cs) (k : Q (.int cs.length) loc mem) : CallV c n env cenv (.builtin "len") [.ref cl] loc mem Q :=
  CallV.len H.c (by have := H.z; simp; omega) (by simpa using k)
end
section
variable {c : Cx} (F : Facts c) {mem : Mem} {h dx cl : Addr} {lim : Int} {cs : List Int}
include F
/-- __init__ -/
theorem g0 {x : Addr} (hx : mem x = some (.inst dx)) (hd : mem dx = some (.attrs [])) : Fn c 1 (c.fx 100) [.ref x, .int lim] mem (fun v m => v = .none ∧ ∃ cl, mem cl = none ∧ HP m x dx cl lim [] ∧ Ext [dx] mem m) := by
  refine Fn.of (n := 0) (names := [Str.ofString "self", Str.ofString "limit"]) F.m0.is rfl (ar2 fun _ _ _ _ _ _ _ _ => rfl) (by decide) rfl (by with_unfolding_all decide) rfl rfl rfl fun L cd g => ?_
  refine SS.cons ?_
  refine S1.assign ?_ rfl rfl rfl
  refine PE.ev (.name rfl) ?_
  refine AS.attr F.HK F.HK.limit ?_
  refine PE.ev (.name rfl) ?_
  refine ⟨_, _, _, rfl, ⟨hx, hd⟩, rfl, by decide, ?_⟩
  refine Cont.next ?_
  generalize hm1 : set mem dx (.attrs ([] ++ [(Str.ofString "limit", V.int lim)])) = m1
  have h1 : m1 dx = some (.attrs [(Str.ofString "limit", V.int lim)]) := by rw [← hm1]; exact set_self
  have hne : x ≠ dx := fun e => by rw [e, hd] at hx; cases hx
  have h2 : m1 x = some (.inst dx) := by rw [← hm1]; exact set_other hx hne
  have e1 : Ext [dx] mem m1 := by rw [← hm1]; exact Ext.refl.put (by simp)
  refine SS.cons ?_
  refine S1.assign ?_ rfl rfl rfl
  refine EV.list ?_
  refine Args.nil ?_
  refine ⟨by simp, fun a ha => ?_⟩
  refine AS.attr F.HK F.HK.cells ?_
  refine PE.ev (.name rfl) ?_
  have h3 : set m1 a (.list []) dx = some (.attrs [(Str.ofString "limit", V.int lim)]) := set_old h1 ha
  have h4 : set m1 a (.list []) x = some (.inst dx) := set_old h2 ha
  refine ⟨_, _, _, rfl, ⟨h4, h3⟩, rfl, by simp, ?_⟩
  refine Cont.next (SS.nil ?_)
  have hax : a ≠ dx := fun e => by rw [e, h1] at ha; cases ha
  have ha0 : mem a = none := by
    rw [← hm1, set_ne hax] at ha; exact ha
  refine ⟨rfl, a, ha0, ⟨set_other h4 hne, set_self, set_other set_self hax, by simp⟩, (e1.fresh ha).put (by simp)⟩
/-- used -/
theorem g1 (H : HP mem h dx cl lim cs) : Fn c 1 (c.fx 101) [.ref h] mem (fun v m => v = .int cs.length ∧ m = mem) := by
  refine Fn.of (n := 0) (names := [Str.ofString "self"]) F.m1.is rfl (ar1 fun _ _ _ _ _ _ _ => rfl) (by decide) rfl (by with_unfolding_all decide) rfl rfl rfl fun L cd g => ?_
  refine SS.ret ?_
  refine EV.callB1 F.blen rfl (by decide) ?_ rfl rfl rfl rfl rfl
  refine Args.cons ?_ rfl
  refine EV.hcells F rfl (by walk_at "m_look") ?_
  refine Args.nil ?_
  refine CallV.lenH H ?_
  exact ⟨rfl, rfl⟩
/-- allocate -/
theorem g3 {k : Int} {fl : Addr} {fs : List Int} (H : HP mem h dx cl lim cs) (hf : mem fl = some (.list (fs.map .int))) (hne : fl ≠ cl) (hz : cs.length + fs.length + 1 ≤ 10000) :
    Fn c 2 (c.fx 103) [.ref h, .int k, .ref fl] mem (fun v m => v = .int (cs.length * 8 + 1) ∧ HP m h dx cl lim (cs ++ (((fs.length : Int) * 16 + k) * 8 + 5) :: fs) ∧ Ext [cl] mem m) := by
  refine Fn.of (n := 1) (names := [Str.ofString "self", Str.ofString "kind", Str.ofString "fields"]) F.m3.is rfl (ar3 fun _ _ _ _ _ _ _ _ _ => rfl) (by decide) rfl (by with_unfolding_all decide) rfl rfl rfl fun L cd g => ?_
  refine SS.let (by first | exact ⟨rfl, Or.inl rfl⟩ | exact ⟨rfl, Or.inr ⟨rfl, rfl⟩⟩) ?_ rfl rfl rfl
  refine EV.callB1 F.blen rfl (by decide) ?_ rfl rfl rfl rfl rfl
  refine Args.cons ?_ rfl
  refine EV.hcells F rfl (by walk_at "m_look") ?_
  refine Args.nil ?_
  refine CallV.lenH H ?_
  refine SS.cons ?_
  refine S1.expr ?_ rfl rfl
  refine EV.lmeth1 PySem.F.slot_list_append rfl ?_ rfl rfl rfl
  refine EV.hcells F rfl (by walk_at "m_look") ?_
  refine ⟨_, _, rfl, by walk_at "m_look", ?_⟩
  refine Args.cons ?_ rfl
  refine EV.def' F.d19 ?_ rfl rfl rfl rfl rfl
  refine Args.cons ?_ rfl
  refine PE.ev (.name rfl) ?_
  refine Args.cons ?_ rfl
  refine EV.callB1 F.blen rfl (by decide) ?_ rfl rfl rfl rfl rfl
  refine Args.p1 (.name rfl) ?_
  refine CallV.len hf (by simp; omega) ?_
  refine Args.nil ?_
  refine CallV.pure (f19 F) (by decide) ?_
  refine Args.nil ?_
  refine MethB.appendH H (by omega) fun m1 H1 E1 _ => ?_
  refine ⟨rfl, Cont.next ?_⟩
  rw [List.length_map] at H1
  have hf1 := E1 _ _ hf (by simpa using hne)
  refine SS.cons ?_
  refine S1.expr ?_ rfl rfl
  refine EV.lmeth1 PySem.F.slot_list_extend rfl ?_ rfl rfl rfl
  refine EV.hcells F rfl (by walk_at "m_look") ?_
  refine ⟨_, _, rfl, by walk_at "m_look", ?_⟩
  refine Args.p1 (.name rfl) ?_
  refine MethB.extendH H1 hf1 (by simp; omega) fun m2 H2 E2 _ => ?_
  refine ⟨rfl, Cont.next ?_⟩
  refine SS.ret ?_
  refine PE.ev (.def1 F.d18 (fun _ => f18 F) (by decide) (.name rfl) rfl rfl rfl rfl) ?_
  exact ⟨rfl, by simpa using H2, E1.trans E2⟩
/-- header_at -/
theorem g4 {w a x : Int} (H : HP mem h dx cl lim cs) (hw : (Int.fmod w 8 == 1) = true) (ha : Int.fdiv w 8 = a) (h0 : 0 ≤ a) (hx : cs[a.toNat]? = some x) (hh : (Int.fmod x 8 == 5) = true) :
    Fn c 2 (c.fx 104) [.ref h, .int w] mem (fun v m => v = .int x ∧ m = mem) := by
  subst ha
  have hlt := (List.getElem?_eq_some_iff.mp hx).1
  refine Fn.of (n := 1) (names := [Str.ofString "self", Str.ofString "word"]) F.m4.is rfl (ar2 fun _ _ _ _ _ _ _ _ => rfl) (by decide) rfl (by with_unfolding_all decide) rfl rfl rfl fun L cd g => ?_
  refine SS.cons ?_
  refine S1.if ?_
  refine Test.not ?_
  refine Test.plain ?_ rfl
  refine PE.ev (.def1 F.d21 (fun _ => f21 F) (by decide) (.name rfl) rfl rfl rfl rfl) ?_
  refine Tru.bool ?_
  refine ite_intro (fun hb => ?_) (fun hb => ?_)
  · rw [hw] at hb; cases hb
  refine SS.nil ?_
  refine Cont.next ?_
  refine SS.let (by first | exact ⟨rfl, Or.inl rfl⟩ | exact ⟨rfl, Or.inr ⟨rfl, rfl⟩⟩) ?_ rfl rfl rfl
  refine PE.ev (.def1 F.d16 (fun _ => f16 F) (by decide) (.name rfl) rfl rfl rfl rfl) ?_
  refine SS.cons ?_
  refine S1.if ?_
  refine Test.boolop ?_
  refine Alls.or ?_
  refine Test.not ?_
  refine Test.cmp2 ?_ (by with_unfolding_all rfl)
  refine PE.ev .int ?_
  refine PE.ev (.name rfl) ?_
  refine COp.leI ?_
  refine Tru.bool ?_
  refine ite_intro (fun hb => ?_) (fun hb => ?_)
  · refine EV.callB1 F.blen rfl (by decide) ?_ rfl rfl rfl rfl rfl
    refine Args.cons ?_ rfl
    refine EV.hcells F rfl (by walk_at "m_look") ?_
    refine Args.nil ?_
    refine CallV.lenH H ?_
    refine COp.ltI ?_
    refine Tru.bool ?_
    refine ite_intro (fun hb => ?_) (fun hb => ?_)
    · exfalso; simp at hb; omega
    refine Alls.or ?_
    refine Test.not ?_
    refine Test.plain ?_ rfl
    refine EV.def' F.d22 ?_ rfl rfl rfl rfl rfl
    refine Args.cons ?_ rfl
    refine EV.sub ?_
    refine EV.hcells F rfl (by walk_at "m_look") ?_
    refine PE.ev (.name rfl) ?_
    refine Sub.cells H h0 hx ?_
    refine Args.nil ?_
    refine CallV.pure (f22 F) (by decide) ?_
    refine Tru.bool ?_
    refine ite_intro (fun hb => ?_) (fun hb => ?_)
    · rw [hh] at hb; cases hb
    refine Alls.orNil ?_
    refine ite_intro (fun hb => ?_) (fun hb => ?_)
    · cases hb
    refine SS.nil ?_
    refine Cont.next ?_
    refine SS.ret ?_
    refine EV.sub ?_
    refine EV.hcells F rfl (by walk_at "m_look") ?_
    refine PE.ev (.name rfl) ?_
    refine Sub.cells H h0 hx ?_
    exact ⟨rfl, rfl⟩
  · exfalso; simp at hb; omega
/-- kind_of, length_of -/
theorem g5 {w a x : Int} (H : HP mem h dx cl lim cs) (hw : (Int.fmod w 8 == 1) = true) (ha : Int.fdiv w 8 = a) (h0 : 0 ≤ a) (hx : cs[a.toNat]? = some x) (hh : (Int.fmod x 8 == 5) = true) :
    Fn c 3 (c.fx 105) [.ref h, .int w] mem (fun v m => v = .int (Int.fmod (Int.fdiv x 8) 16) ∧ m = mem) := by
  refine Fn.of (n := 2) (names := [Str.ofString "self", Str.ofString "word"]) F.m5.is rfl (ar2 fun _ _ _ _ _ _ _ _ => rfl) (by decide) rfl (by with_unfolding_all decide) rfl rfl rfl fun L cd g => ?_
  refine SS.ret ?_
  refine EV.def' F.d24 ?_ rfl rfl rfl rfl rfl
  refine Args.cons ?_ rfl
  refine EV.hm1 F.m4 F.HK ?_ rfl rfl rfl
  refine PE.ev (.name rfl) ?_
  refine ⟨_, _, _, rfl, .of (by walk_at "m_look"), rfl, ?_⟩
  refine Args.p1 (.name rfl) ?_
  refine CallV.pure (g4 F H hw ha h0 hx hh) (by decide) ?_
  refine Args.nil ?_
  refine CallV.pure (f24 F) (by decide) ?_
  exact ⟨rfl, rfl⟩
theorem g6 {w a x : Int} (H : HP mem h dx cl lim cs) (hw : (Int.fmod w 8 == 1) = true) (ha : Int.fdiv w 8 = a) (h0 : 0 ≤ a) (hx : cs[a.toNat]? = some x) (hh : (Int.fmod x 8 == 5) = true) :
    Fn c 3 (c.fx 106) [.ref h, .int w] mem (fun v m => v = .int (Int.fdiv (Int.fdiv x 8) 16) ∧ m = mem) := by
  refine Fn.of (n := 2) (names := [Str.ofString "self", Str.ofString "word"]) F.m6.is rfl (ar2 fun _ _ _ _ _ _ _ _ => rfl) (by decide) rfl (by with_unfolding_all decide) rfl rfl rfl fun L cd g => ?_
  refine SS.ret ?_
  refine EV.def' F.d25 ?_ rfl rfl rfl rfl rfl
  refine Args.cons ?_ rfl
  refine EV.hm1 F.m4 F.HK ?_ rfl rfl rfl
  refine PE.ev (.name rfl) ?_
  refine ⟨_, _, _, rfl, .of (by walk_at "m_look"), rfl, ?_⟩
  refine Args.p1 (.name rfl) ?_
  refine CallV.pure (g4 F H hw ha h0 hx hh) (by decide) ?_
  refine Args.nil ?_
  refine CallV.pure (f25 F) (by decide) ?_
  exact ⟨rfl, rfl⟩
/-- place_of, field, set_field -/
theorem g8 {w a x i : Int} (H : HP mem h dx cl lim cs) (hw : (Int.fmod w 8 == 1) = true) (ha : Int.fdiv w 8 = a) (h0 : 0 ≤ a) (hx : cs[a.toNat]? = some x) (hh : (Int.fmod x 8 == 5) = true) (hi0 : 0 ≤ i) (hi : i < Int.fdiv (Int.fdiv x 8) 16) :
    Fn c 3 (c.fx 108) [.ref h, .int w, .int i] mem (fun v m => v = .int (a + 1 + i) ∧ m = mem) := by
  subst ha
  refine Fn.of (n := 2) (names := [Str.ofString "self", Str.ofString "word", Str.ofString "at"]) F.m8.is rfl (ar3 fun _ _ _ _ _ _ _ _ _ => rfl) (by decide) rfl (by with_unfolding_all decide) rfl rfl rfl fun L cd g => ?_
  refine SS.cons ?_
  refine S1.if ?_
  refine Test.not ?_
  refine Test.cmp2 ?_ (by with_unfolding_all rfl)
  refine PE.ev .int ?_
  refine PE.ev (.name rfl) ?_
  refine COp.leI ?_
  refine Tru.bool ?_
  refine ite_intro (fun hb => ?_) (fun hb => ?_)
  · refine EV.def' F.d25 ?_ rfl rfl rfl rfl rfl
    refine Args.cons ?_ rfl
    refine EV.hm1 F.m4 F.HK ?_ rfl rfl rfl
    refine PE.ev (.name rfl) ?_
    refine ⟨_, _, _, rfl, .of (by walk_at "m_look"), rfl, ?_⟩
    refine Args.p1 (.name rfl) ?_
    refine CallV.pure (g4 F H hw rfl h0 hx hh) (by decide) ?_
    refine Args.nil ?_
    refine CallV.pure (f25 F) (by decide) ?_
    refine COp.ltI ?_
    refine Tru.bool ?_
    refine ite_intro (fun hb => ?_) (fun hb => ?_)
    · exfalso; simp at hb; omega
    refine SS.nil ?_
    refine Cont.next ?_
    refine SS.ret ?_
    refine PE.ev (.add (.add (.def1 F.d16 (fun _ => f16 F) (by decide) (.name rfl) rfl rfl rfl rfl) .int) (.name rfl)) ?_
    exact ⟨rfl, rfl⟩
  · exfalso; simp at hb; omega
theorem g9 {w a x i y : Int} (H : HP mem h dx cl lim cs) (hw : (Int.fmod w 8 == 1) = true) (ha : Int.fdiv w 8 = a) (h0 : 0 ≤ a) (hx : cs[a.toNat]? = some x) (hh : (Int.fmod x 8 == 5) = true) (hi0 : 0 ≤ i) (hi : i < Int.fdiv (Int.fdiv x 8) 16)
    (hy : cs[(a + 1 + i).toNat]? = some y) : Fn c 4 (c.fx 109) [.ref h, .int w, .int i] mem (fun v m => v = .int y ∧ m = mem) := by
  refine Fn.of (n := 3) (names := [Str.ofString "self", Str.ofString "word", Str.ofString "at"]) F.m9.is rfl (ar3 fun _ _ _ _ _ _ _ _ _ => rfl) (by decide) rfl (by with_unfolding_all decide) rfl rfl rfl fun L cd g => ?_
  refine SS.ret ?_
  refine EV.sub ?_
  refine EV.hcells F rfl (by walk_at "m_look") ?_
  refine EV.hm1 F.m8 F.HK ?_ rfl rfl rfl
  refine PE.ev (.name rfl) ?_
  refine ⟨_, _, _, rfl, .of (by walk_at "m_look"), rfl, ?_⟩
  refine Args.p2 (.name rfl) (.name rfl) ?_
  refine CallV.pure (g8 F H hw ha h0 hx hh hi0 hi) (by decide) ?_
  refine Sub.cells H (by omega) hy ?_
  exact ⟨rfl, rfl⟩
theorem g10 {w a x i y : Int} (H : HP mem h dx cl lim cs) (hw : (Int.fmod w 8 == 1) = true) (ha : Int.fdiv w 8 = a) (h0 : 0 ≤ a) (hx : cs[a.toNat]? = some x) (hh : (Int.fmod x 8 == 5) = true) (hi0 : 0 ≤ i) (hi : i < Int.fdiv (Int.fdiv x 8) 16)
    (hlt : a + 1 + i < cs.length) : Fn c 4 (c.fx 110) [.ref h, .int w, .int i, .int y] mem (fun v m => v = .none ∧ HP m h dx cl lim (cs.set (a + 1 + i).toNat y) ∧ Ext [cl] mem m) := by
  refine Fn.of (n := 3) (names := [Str.ofString "self", Str.ofString "word", Str.ofString "at", Str.ofString "new"]) F.m10.is rfl (ar4 fun _ _ _ _ _ _ _ _ _ _ => rfl) (by decide) rfl (by with_unfolding_all decide) rfl rfl rfl fun L cd g => ?_
  refine SS.cons ?_
  refine S1.assign ?_ rfl rfl rfl
  refine PE.ev (.name rfl) ?_
  refine AS.sub ?_ (by intro _; rfl)
  refine EV.hcells F rfl (by walk_at "m_look") ?_
  refine EV.hm1 F.m8 F.HK ?_ rfl rfl rfl
  refine PE.ev (.name rfl) ?_
  refine ⟨_, _, _, rfl, .of (by walk_at "m_look"), rfl, ?_⟩
  refine Args.p2 (.name rfl) (.name rfl) ?_
  refine CallV.pure (g8 F H hw ha h0 hx hh hi0 hi) (by decide) ?_
  refine SetI.cells H (by omega) hlt fun m1 H1 E1 _ => ?_
  refine Cont.next ?_
  refine SS.nil ?_
  exact ⟨rfl, H1, E1⟩
/-- cons -/
theorem g12 {x y : Int} (H : HP mem h dx cl lim cs) (hz : cs.length + 3 ≤ 10000) :
    Fn c 3 (c.fx 112) [.ref h, .int x, .int y] mem (fun v m => v = .int (cs.length * 8 + 1) ∧ HP m h dx cl lim (cs ++ [(2 * 16 + 0) * 8 + 5, x, y]) ∧ Ext [cl] mem m) := by
  refine Fn.of (n := 2) (names := [Str.ofString "self", Str.ofString "car", Str.ofString "cdr"]) F.m12.is rfl (ar3 fun _ _ _ _ _ _ _ _ _ => rfl) (by decide) rfl (by with_unfolding_all decide) rfl rfl rfl fun L cd g => ?_
  refine SS.ret ?_
  refine EV.hm1 F.m3 F.HK ?_ rfl rfl rfl
  refine PE.ev (.name rfl) ?_
  refine ⟨_, _, _, rfl, .of (by walk_at "m_look"), rfl, ?_⟩
  refine Args.cons ?_ rfl
  refine PE.ev (.gint F.gPAIR rfl rfl) ?_
  refine Args.cons ?_ rfl
  refine EV.list ?_
  refine Args.p2 (.name rfl) (.name rfl) ?_
  refine ⟨by simp, fun a ha => ?_⟩
  refine Args.nil ?_
  refine Fn.call (k := 2) ?_ (by decide)
  refine (g3 F (fs := [x, y]) (H.fresh ha) set_self (fun e => by rw [e, H.c] at ha; cases ha) (by simpa using hz)).mono fun v m q => ?_
  obtain ⟨rfl, H1, E1⟩ := q
  exact ⟨rfl, by simpa using H1, (Ext.refl.fresh ha).trans E1⟩
end
/-- what moved_word does, on cells -/
inductive MW (o n : List Int) (w : Int) : List Int → List Int → Int → Prop
  | flat : (Int.fmod w 8 == 1) = false → MW o n w o n w
  | there {a : Nat} {hd : Int} : (Int.fmod w 8 == 1) = true → Int.fdiv w 8 = a → o[a]? = some hd → (Int.fmod hd 8 == 6) = true → MW o n w o n (Int.fdiv hd 8 * 8 + 1)
  | move {a hl : Nat} {hd : Int} : (Int.fmod w 8 == 1) = true → Int.fdiv w 8 = a → o[a]? = some hd → (Int.fmod hd 8 == 6) = false → Int.fdiv (Int.fdiv hd 8) 16 = hl → a + 1 + hl ≤ o.length → n.length + 1 + hl ≤ 10000 →
      MW o n w (o.set a ((n.length : Int) * 8 + 6)) (n ++ (o.drop a).take (1 + hl)) ((n.length : Int) * 8 + 1)
theorem HP.beside {m m1 : Mem} {h dx cl h2 dx2 cl2 : Addr} {lim lim2 : Int} {cs cs2 : List Int} (H : HP m h dx cl lim cs) (H2 : HP m h2 dx2 cl2 lim2 cs2) (hne : cl ≠ cl2) (E : Ext [cl2] m m1) : HP m1 h dx cl lim cs :=
  H.ext E (by simp only [List.mem_singleton]; intro e; have := H.i; rw [e, H2.c] at this; cases this) (by simp only [List.mem_singleton]; intro e; have := H.d; rw [e, H2.c] at this; cases this) (by simpa using hne)
section
variable {c : Cx} (F : Facts c) {mem : Mem} {ho dxo clo hn dxn cln : Addr} {limo limn : Int}
include F
theorem f32 {o n o' n' : List Int} {w r : Int} (M : MW o n w o' n' r) (Ho : HP mem ho dxo clo limo o) (Hn : HP mem hn dxn cln limn n) (hne : clo ≠ cln) :
    Fn c 2 (c.fx 32) [.ref ho, .ref hn, .int w] mem (fun v m => v = .int r ∧ HP m ho dxo clo limo o' ∧ HP m hn dxn cln limn n' ∧ Ext [clo, cln] mem m) := by
  refine Fn.of (n := 1) (names := [Str.ofString "old", Str.ofString "new", Str.ofString "word"]) F.d32.is rfl (ar3 fun _ _ _ _ _ _ _ _ _ => rfl) (by decide) rfl (by with_unfolding_all decide) rfl rfl rfl fun L cd g => ?_
  refine SS.cons ?_
  refine S1.if ?_
  refine Test.not ?_
  refine Test.plain ?_ rfl
  refine PE.ev (.def1 F.d21 (fun _ => f21 F) (by decide) (.name rfl) rfl rfl rfl rfl) ?_
  refine Tru.bool ?_
  refine ite_intro (fun hb => ?_) (fun hb => ?_)
  · refine SS.ret ?_
    refine PE.ev (.name rfl) ?_
    cases M with
    | flat _ => exact ⟨rfl, Ho, Hn, .refl⟩
    | there h1 => rw [h1] at hb; cases hb
    | move h1 => rw [h1] at hb; cases hb
  refine SS.nil ?_
  refine Cont.next ?_
  refine SS.let (by first | exact ⟨rfl, Or.inl rfl⟩ | exact ⟨rfl, Or.inr ⟨rfl, rfl⟩⟩) ?_ rfl rfl rfl
  refine PE.ev (.def1 F.d16 (fun _ => f16 F) (by decide) (.name rfl) rfl rfl rfl rfl) ?_
  cases M with
  | flat h1 => rw [h1] at hb; cases hb
  | @there a hd h1 ha hx h6 =>
    refine SS.let (by first | exact ⟨rfl, Or.inl rfl⟩ | exact ⟨rfl, Or.inr ⟨rfl, rfl⟩⟩) ?_ rfl rfl rfl
    refine EV.sub ?_
    refine EV.hcells F rfl (by walk_at "m_look") ?_
    refine PE.ev (.name rfl) ?_
    refine Sub.cells Ho (by omega) (by rw [ha]; exact hx) ?_
    refine SS.cons ?_
    refine S1.if ?_
    refine Test.plain ?_ rfl
    refine PE.ev (.def1 F.d23 (fun _ => f23 F) (by decide) (.name rfl) rfl rfl rfl rfl) ?_
    refine Tru.bool ?_
    refine ite_intro (fun hb => ?_) (fun hb => ?_)
    · refine SS.ret ?_
      refine PE.ev (.def1 F.d18 (fun _ => f18 F) (by decide) (.def1 F.d16 (fun _ => f16 F) (by decide) (.name rfl) rfl rfl rfl rfl) rfl rfl rfl rfl) ?_
      exact ⟨rfl, Ho, Hn, .refl⟩
    rw [h6] at hb; cases hb
  | @move a hl hd h1 ha hx h6 hh hz hz2 =>
    rw [ha]
    refine SS.let (by first | exact ⟨rfl, Or.inl rfl⟩ | exact ⟨rfl, Or.inr ⟨rfl, rfl⟩⟩) ?_ rfl rfl rfl
    refine EV.sub ?_
    refine EV.hcells F rfl (by walk_at "m_look") ?_
    refine PE.ev (.name rfl) ?_
    refine Sub.cells Ho (by omega) (by simpa using hx) ?_
    refine SS.cons ?_
    refine S1.if ?_
    refine Test.plain ?_ rfl
    refine PE.ev (.def1 F.d23 (fun _ => f23 F) (by decide) (.name rfl) rfl rfl rfl rfl) ?_
    refine Tru.bool ?_
    refine ite_intro (fun hb => ?_) (fun hb => ?_)
    · rw [h6] at hb; cases hb
    refine SS.nil ?_
    refine Cont.next ?_
    refine SS.let (by first | exact ⟨rfl, Or.inl rfl⟩ | exact ⟨rfl, Or.inr ⟨rfl, rfl⟩⟩) ?_ rfl rfl rfl
    refine EV.callB1 F.blen rfl (by decide) ?_ rfl rfl rfl rfl rfl
    refine Args.cons ?_ rfl
    refine EV.hcells F rfl (by walk_at "m_look") ?_
    refine Args.nil ?_
    refine CallV.lenH Hn ?_
    refine SS.cons ?_
    refine S1.expr ?_ rfl rfl
    refine EV.lmeth1 PySem.F.slot_list_extend rfl ?_ rfl rfl rfl
    refine EV.hcells F rfl (by walk_at "m_look") ?_
    refine ⟨_, _, rfl, by walk_at "m_look", ?_⟩
    refine Args.cons ?_ rfl
    refine EV.slice2 ?_
    refine EV.hcells F rfl (by walk_at "m_look") ?_
    refine PE.ev (.name rfl) ?_
    refine PE.ev (.add (.add (.name rfl) .int) (.def1 F.d25 (fun _ => f25 F) (by decide) (.name rfl) rfl rfl rfl rfl)) ?_
    have hzo := Ho.z
    refine ⟨clo, _, (a : Int), (a : Int) + 1 + Int.fdiv (Int.fdiv hd 8) 16, rfl, Ho.c, (by simp; omega), rfl, rfl, (by omega), (by omega), (by simp; omega), fun b hb2 => ?_⟩
    refine Args.nil ?_
    refine MethB.extendH (is := (o.drop a).take (1 + hl)) (Hn.fresh hb2) (by rw [set_self, hh, ← List.map_drop, ← List.map_take, show ((a : Int) + 1 + (hl : Int) - (a : Int)).toNat = 1 + hl by omega, Int.toNat_natCast]) (by simp; omega) fun m1 H1 E1 _ => ?_
    refine ⟨rfl, Cont.next ?_⟩
    have E0 : Ext [cln] mem m1 := (Ext.refl.fresh hb2).trans E1
    have Ho1 := Ho.beside Hn hne E0
    refine SS.cons ?_
    refine S1.assign ?_ rfl rfl rfl
    refine PE.ev (.def1 F.d20 (fun _ => f20 F) (by decide) (.name rfl) rfl rfl rfl rfl) ?_
    refine AS.sub ?_ (by intro _; rfl)
    refine EV.hcells F rfl (by walk_at "m_look") ?_
    refine PE.ev (.name rfl) ?_
    refine SetI.cells Ho1 (by omega) (by omega) fun m2 H2 E2 _ => ?_
    refine Cont.next ?_
    have Hn2 := H1.beside Ho1 (Ne.symm hne) E2
    refine SS.ret ?_
    refine PE.ev (.def1 F.d18 (fun _ => f18 F) (by decide) (.name rfl) rfl rfl rfl rfl) ?_
    exact ⟨rfl, by simpa using H2, Hn2, (E0.more (by simp)).trans (E2.more (by simp))⟩
/-- a call of the class Heap -/
theorem CallV.heap {k : Nat} {env : Frm} {cenv : Env} {loc : Loc} {Q : V → Loc → Mem → Prop} (hk : 2 ≤ k)
    (h : ∀ x dx cl m, mem x = none → mem dx = none → mem cl = none → HP m x dx cl limo [] → Ext [] mem m → Q (.ref x) loc m) : CallV c k env cenv (.ref c.hC) [.int limo] loc mem Q := by
  refine CallV.make F.HK F.m0.f F.m0.fn (k := 1) hk fun x dx hx hd hne => ?_
  refine (g0 F (dx := dx) set_self (set_other set_self (Ne.symm hne))).mono fun v m q => ?_
  obtain ⟨rfl, cl, hcl, H, E⟩ := q
  have hcl2 : mem cl = none := by
    have hcx : cl ≠ x := fun e => by rw [e, set_self] at hcl; cases hcl
    rw [set_ne hcx] at hcl
    have hcd : cl ≠ dx := fun e => by rw [e, set_self] at hcl; cases hcl
    rw [set_ne hcd] at hcl
    exact hcl
  refine ⟨rfl, h x dx cl m hx hd hcl2 H fun b o e _ => ?_⟩
  have hbd : b ≠ dx := fun q => by rw [q, hd] at e; cases e
  have hbx : b ≠ x := fun q => by rw [q, hx] at e; cases e
  exact E b o (set_other (set_other e hbd) hbx) (by simpa using hbd)
end
inductive MWs : List Int → List Int → List Int → List Int → List Int → List Int → Prop
  | nil {o n : List Int} : MWs o n [] o n []
  | cons {o n o1 n1 o2 n2 ws rs : List Int} {w r : Int} : MW o n w o1 n1 r → MWs o1 n1 ws o2 n2 rs → MWs o n (w :: ws) o2 n2 (r :: rs)
inductive Scn : Nat → List Int → List Int → Nat → List Int → List Int → Prop
  | nil {o n : List Int} {a : Nat} : Scn 0 o n a o n
  | cons {k a : Nat} {o n o1 n1 o2 n2 : List Int} {w r : Int} : n[a]? = some w → MW o n w o1 n1 r → Scn k o1 (n1.set a r) (a + 1) o2 n2 → Scn (k + 1) o n a o2 n2
inductive Cln : Nat → List Int → List Int → Nat → List Int → List Int → Prop
  | done {o n : List Int} {a : Nat} : n.length ≤ a → Cln 0 o n a o n
  | step {k a hl : Nat} {hd : Int} {o n o1 n1 o2 n2 : List Int} : n[a]? = some hd → Int.fdiv (Int.fdiv hd 8) 16 = hl → hl ≤ 1000 → Scn hl o n (a + 1) o1 n1 → Cln k o1 n1 (a + 1 + hl) o2 n2 → Cln (k + 1) o n a o2 n2
theorem MW.length {o n o' n' : List Int} {w r : Int} (h : MW o n w o' n' r) : n.length ≤ n'.length := by
  cases h with
  | flat => exact Nat.le_refl _
  | there => exact Nat.le_refl _
  | move => simp
theorem map_get {ws : List Int} {i : Nat} {v : V} (h : (ws.map V.int)[i]? = some v) : ∃ w, ws[i]? = some w ∧ v = .int w := by
  rw [List.getElem?_map] at h
  obtain ⟨w, h1, h2⟩ := Option.map_eq_some_iff.mp h
  exact ⟨w, h1, h2.symm⟩
theorem drop_cons {α : Type} {ws : List α} {i : Nat} {w : α} (h : ws[i]? = some w) : ws.drop i = w :: ws.drop (i + 1) := by
  obtain ⟨h1, h2⟩ := List.getElem?_eq_some_iff.mp h
  rw [List.drop_eq_getElem_cons h1, h2]
theorem ite_t {P Q : Prop} (h : P) : if true = true then P else Q := h
theorem ite_f {P Q : Prop} (h : Q) : if false = true then P else Q := h
section
variable {c : Cx} {n : Nat} {env : Frm} {cenv : Env} {loc : Loc} {mem : Mem}
theorem Tests.nil {Q : Bool → Loc → Mem → Prop} (h : Q true loc mem) : Tests c n env cenv [] loc mem Q := h
theorem Tests.one {t : Expr} {Q : Bool → Loc → Mem → Prop} (h : Test c n env cenv t loc mem Q) : Tests c n env cenv [t] loc mem Q := h
theorem Turn.next {Q : Out → Loc → Mem → Prop} {J : Loc → Mem → Prop} (l' : Loc) (hl : LSub l' loc) (h : J l' mem) : Turn Q J .next loc mem := ⟨l', hl, h⟩
theorem Turn.ret {Q : Out → Loc → Mem → Prop} {J : Loc → Mem → Prop} {v : V} (h : Q (.ret v) loc mem) : Turn Q J (.ret v) loc mem := h
theorem Src.rangeN {r : Addr} {a b : Int} {k : Nat} (hm : mem r = some (.range a b)) (hk : b = a + k) (ha : 0 ≤ a) (ha' : a ≤ 100000) (hk' : k ≤ 100000) :
    Src c (.ref r) mem k (fun i => if i < k then some (.int (a + (i : Int))) else none) (fun _ => True) := by
  have := Src.range (c := c) hm (by omega) (by omega) (by omega) (by omega)
  rw [show (b - a).toNat = k by omega] at this
  exact this
theorem range_item {a : Int} {i k : Nat} {v : V} (hi : i < k) (h : (if i < k then some (V.int (a + (i : Int))) else none) = some v) : v = .int (a + (i : Int)) := by
  rw [if_pos hi] at h; exact (Option.some.inj h).symm
end
section
variable {c : Cx} (F : Facts c) {mem : Mem} {ho dxo clo hn dxn cln : Addr} {limo limn : Int}
include F
theorem f33 {o o1 o' n1 n' ws rs : List Int} {ra : Addr} {k : Nat} (M1 : MWs o [] ws o1 n1 rs) (M2 : Cln k o1 n1 0 o' n') (Ho : HP mem ho dxo clo limo o) (hra : mem ra = some (.list (ws.map .int))) (hne : ra ≠ clo) (hwz : ws.length ≤ 1000) :
    Fn c 4 (c.fx 33) [.ref ho, .ref ra] mem (fun v m => ∃ t hn dxn cln fa, v = .ref t ∧ m t = some (.tup [.ref hn, .ref fa]) ∧ HP m hn dxn cln limo n' ∧ m fa = some (.list (rs.map .int)) ∧ mem hn = none ∧ mem dxn = none ∧ mem cln = none ∧ mem fa = none ∧ cln ≠ fa ∧ HP m ho dxo clo limo o' ∧ Ext [clo] mem m) := by
  refine Fn.of (n := 3) (names := [Str.ofString "heap", Str.ofString "roots"]) F.d33.is rfl (ar2 fun _ _ _ _ _ _ _ _ => rfl) (by decide) rfl (by with_unfolding_all decide) rfl rfl rfl fun L cd g => ?_
  refine SS.let (by first | exact ⟨rfl, Or.inl rfl⟩ | exact ⟨rfl, Or.inr ⟨rfl, rfl⟩⟩) ?_ rfl rfl rfl
  refine EV.callF1 F.gHeap F.HK.keep ?_ rfl rfl rfl rfl rfl
  refine Args.cons ?_ rfl
  refine EV.hlimit F rfl Ho ?_
  refine Args.nil ?_
  refine CallV.heap F (by decide) fun hn dxn cln m0 f1 f2 f3 Hn E0 => ?_
  have Ho1 := Ho.ext E0 (by simp) (by simp) (by simp)
  refine SS.cons ?_
  refine S1.assignComp (cl := _) ⟨rfl, ?h2, rfl, rfl, by decide, rfl, by decide⟩ ⟨rfl, Or.inl rfl⟩ ?_ rfl
  case h2 => walk_at "m_clin"
  refine PE.ev (.name rfl) ?_
  have hra0 := E0 _ _ hra (by simp)
  have hra2 : ra ≠ cln := fun e => by rw [e, f3] at hra; cases hra
  have hcc : clo ≠ cln := fun e => by have := Ho.c; rw [e, f3] at this; cases this
  refine ⟨_, _, _, fun i ys m => ∃ o2 n2 R ys0, ys = ys0.map V.int ∧ HP m ho dxo clo limo o2 ∧ HP m hn dxn cln limo n2 ∧ MWs o2 n2 (ws.drop i) o1 n1 R ∧ ys0 ++ R = rs ∧ Ext [clo, cln] m0 m, Src.list hra0, by simp; omega,
    ⟨o, [], rs, [], rfl, Ho1, Hn, M1, rfl, .refl⟩, fun i ys m ⟨_, _, _, _, _, _, _, _, _, E⟩ => E _ _ hra0 (by simp [hne, hra2]), ?_, ?_⟩
  · rintro C i v ys m hi hv ⟨o2, n2, R, ys0, rfl, H1, H2, M, hR, E⟩
    obtain ⟨w, hw, rfl⟩ := map_get hv
    rw [drop_cons hw] at M
    cases M with
    | @cons _ _ o3 n3 _ _ _ R' _ r Mw Mr =>
    refine AS.name (by first | exact ⟨rfl, Or.inl rfl⟩ | exact ⟨rfl, Or.inr ⟨rfl, rfl⟩⟩) ?_
    refine Tests.nil (ite_t ?_)
    refine EV.def' F.d32 ?_ rfl rfl rfl rfl rfl
    refine Args.p3 (.name rfl) (.name rfl) (.name rfl) ?_
    refine Fn.call (k := 2) ((f32 F Mw H1 H2 hcc).mono fun v m' q => ?_) (by decide)
    obtain ⟨rfl, H3, H4, E3⟩ := q
    exact ⟨by walk_at "m_lsub", o3, n3, R', ys0 ++ [r], by simp, H3, H4, Mr, by simpa using hR, E.trans E3⟩
  rintro ys m fa ⟨o2, n2, R, ys0, rfl, H1, H2, M, hR, E⟩ hfa
  rw [List.drop_eq_nil_of_le (by simp)] at M
  cases M with
  | nil =>
  have hR' : ys0 = rs := by simpa using hR
  subst hR'
  refine Cont.next ?_
  have hfm : mem fa = none := by
    cases e : mem fa with
    | none => rfl
    | some x =>
      have := E0 _ _ e (by simp)
      by_cases hq : fa ∈ [clo, cln]
      · simp only [List.mem_cons, List.not_mem_nil, or_false] at hq
        rcases hq with rfl | rfl
        · rw [H1.c] at hfa; cases hfa
        · rw [H2.c] at hfa; cases hfa
      · rw [E _ _ this hq] at hfa; cases hfa
  have H1' := H1.fresh (o := .list (ys0.map V.int)) hfa
  have H2' := H2.fresh (o := .list (ys0.map V.int)) hfa
  have E' := E.fresh (o := .list (ys0.map V.int)) hfa
  have hfc : cln ≠ fa := fun e => by rw [← e, H2.c] at hfa; cases hfa
  have hfo : clo ≠ fa := fun e => by rw [← e, H1.c] at hfa; cases hfa
  have hf' : set m fa (.list (ys0.map V.int)) fa = some (.list (ys0.map V.int)) := set_self
  generalize set m fa (.list (ys0.map V.int)) = m1 at H1' H2' E' hf'
  refine SS.let (by first | exact ⟨rfl, Or.inl rfl⟩ | exact ⟨rfl, Or.inr ⟨rfl, rfl⟩⟩) ?_ rfl rfl rfl
  refine PE.ev .int ?_
  refine SS.cons ?_
  refine S1.while (loc0 := [(Str.ofString "heap", .ref ho), (Str.ofString "new", .ref hn), (Str.ofString "found", .ref fa), (Str.ofString "scan", .int 0)])
    (fun k l m => ∃ (scan : Nat) (o2 n2 : List Int), l = [(Str.ofString "heap", .ref ho), (Str.ofString "new", .ref hn), (Str.ofString "found", .ref fa), (Str.ofString "scan", .int scan)] ∧ HP m ho dxo clo limo o2 ∧ HP m hn dxn cln limo n2 ∧ Cln k o2 n2 scan o' n' ∧ m fa = some (.list (ys0.map V.int)) ∧ Ext [clo, cln] m0 m)
    k (by walk_at "m_lsub") ⟨0, o1, n1, rfl, H1', H2', M2, hf', E'⟩ ?_
  clear H1 H2 H1' H2' E hfa E' hf' M1 M2
  rintro k l m ⟨scan, o2, n2, rfl, H1, H2, M2, hf, E⟩
  refine Test.cmp ?_ (by with_unfolding_all rfl)
  refine PE.ev (.name rfl) ?_
  refine EV.callB1 F.blen rfl (by decide) ?_ rfl rfl rfl rfl rfl
  refine Args.cons ?_ rfl
  refine EV.hcells F rfl (by walk_at "m_look") ?_
  refine Args.nil ?_
  refine CallV.lenH H2 ?_
  refine COp.ltI ?_
  refine Tru.bool ?_
  refine ite_intro (fun hb => ?_) (fun hb => ?_)
  · have hlt : scan < n2.length := by simpa using hb
    cases M2 with
    | done h => omega
    | @step k _ hl hd _ _ o3 n3 _ _ hx hh hz Ms Mc =>
    refine SS.let (by first | exact ⟨rfl, Or.inl rfl⟩ | exact ⟨rfl, Or.inr ⟨rfl, rfl⟩⟩) ?_ rfl rfl rfl
    refine EV.def' F.d25 ?_ rfl rfl rfl rfl rfl
    refine Args.cons ?_ rfl
    refine EV.sub ?_
    refine EV.hcells F rfl (by walk_at "m_look") ?_
    refine PE.ev (.name rfl) ?_
    refine Sub.cells H2 (by omega) (by simpa using hx) ?_
    refine Args.nil ?_
    refine CallV.pure (f25 F) (by decide) ?_
    rw [hh]
    refine SS.cons ?_
    refine S1.for ?_
    refine EV.callT1 F.brange rfl (by decide) ?_ rfl rfl rfl rfl rfl
    refine Args.p2 (.add (.name rfl) .int) (.add (.add (.name rfl) .int) (.name rfl)) ?_
    refine CallV.range2 fun r hr => ?_
    have hz2 := H2.z
    have H1' := H1.fresh (o := .range ((scan : Int) + 1) ((scan : Int) + 1 + (hl : Int))) hr
    have H2' := H2.fresh (o := .range ((scan : Int) + 1) ((scan : Int) + 1 + (hl : Int))) hr
    have E' := E.fresh (o := .range ((scan : Int) + 1) ((scan : Int) + 1 + (hl : Int))) hr
    have hf' : set m r (.range ((scan : Int) + 1) ((scan : Int) + 1 + (hl : Int))) fa = _ := set_old hf hr
    refine ⟨hl, _, fun _ => True, fun i l m => ∃ (o4 n4 : List Int), l = [(Str.ofString "heap", .ref ho), (Str.ofString "new", .ref hn), (Str.ofString "found", .ref fa), (Str.ofString "scan", .int scan), (Str.ofString "length", .int hl)] ∧ HP m ho dxo clo limo o4 ∧ HP m hn dxn cln limo n4 ∧ Scn (hl - i) o4 n4 (scan + 1 + i) o3 n3 ∧ m fa = some (.list (ys0.map V.int)) ∧ Ext [clo, cln] m0 m, _,
      Src.rangeN set_self rfl (by omega) (by omega) (by omega), by walk_at "m_lsub", ⟨o2, n2, rfl, H1', H2', by simpa using Ms, hf', E'⟩, fun _ _ _ _ => trivial, ?_, ?_⟩
    · clear H1 H2 H1' H2' hr E hf E' hf'
      rintro i v l m hi hv ⟨o4, n4, rfl, H1, H2, Ms, hf, E⟩
      obtain rfl := range_item hi hv
      rw [show hl - i = (hl - (i + 1)) + 1 by omega] at Ms
      cases Ms with
      | @cons _ _ _ _ o5 n5 _ _ w r hw Mw Mr =>
      have hl5 := Mw.length
      have hlt4 := (List.getElem?_eq_some_iff.mp hw).1
      have ei : ((scan : Int) + 1 + (i : Int)).toNat = scan + 1 + i := by omega
      refine AS.name (by first | exact ⟨rfl, Or.inl rfl⟩ | exact ⟨rfl, Or.inr ⟨rfl, rfl⟩⟩) ?_
      refine SS.cons ?_
      refine S1.assign ?_ rfl rfl rfl
      refine EV.def' F.d32 ?_ rfl rfl rfl rfl rfl
      refine Args.cons ?_ rfl
      refine PE.ev (.name rfl) ?_
      refine Args.cons ?_ rfl
      refine PE.ev (.name rfl) ?_
      refine Args.cons ?_ rfl
      refine EV.sub ?_
      refine EV.hcells F rfl (by walk_at "m_look") ?_
      refine PE.ev (.name rfl) ?_
      refine Sub.cells H2 (by omega) (by rw [ei]; exact hw) ?_
      refine Args.nil ?_
      refine Fn.call (k := 2) ((f32 F Mw H1 H2 hcc).mono fun v m' q => ?_) (by decide)
      obtain ⟨rfl, H3, H4, E3⟩ := q
      refine AS.sub ?_ (by intro _; rfl)
      refine EV.hcells F rfl (by walk_at "m_look") ?_
      refine PE.ev (.name rfl) ?_
      refine SetI.cells H4 (by omega) (by omega) fun m2 H5 E5 _ => ?_
      refine Cont.next ?_
      rw [ei] at H5
      have H6 := H3.beside H4 hcc E5
      have E6 := E3.trans (E5.more (by simp))
      have hfn : fa ∉ [clo, cln] := by simp [Ne.symm hfc, Ne.symm hfo]
      exact SS.nil (Turn.next _ (by walk_at "m_lsub") ⟨o5, _, rfl, H6, H5, by rw [show scan + 1 + (i + 1) = scan + 1 + i + 1 by omega]; exact Mr, E6 _ _ hf hfn, E.trans E6⟩)
    · clear H1 H2 H1' H2' hr E hf E' hf'
      rintro l m ⟨o4, n4, rfl, H1, H2, Ms, hf, E⟩
      rw [Nat.sub_self] at Ms
      cases Ms with
      | nil =>
      refine Cont.next ?_
      refine SS.let (by first | exact ⟨rfl, Or.inl rfl⟩ | exact ⟨rfl, Or.inr ⟨rfl, rfl⟩⟩) ?_ rfl rfl rfl
      refine PE.ev (.add (.add (.name rfl) .int) (.name rfl)) ?_
      rw [show (scan : Int) + 1 + (hl : Int) = ((scan + 1 + hl : Nat) : Int) by omega]
      exact SS.nil (Turn.next _ (by walk_at "m_lsub") ⟨k, by omega, scan + 1 + hl, _, _, rfl, H1, H2, Mc, hf, E⟩)
  · have hlt : n2.length ≤ scan := by simpa using hb
    cases M2 with
    | step h => have := (List.getElem?_eq_some_iff.mp h).1; omega
    | done h =>
    refine Cont.next ?_
    refine SS.ret ?_
    refine EV.tuple ?_
    refine Args.p2 (.name rfl) (.name rfl) ?_
    refine ⟨by simp, fun t ht => ?_⟩
    refine ⟨t, hn, dxn, cln, fa, rfl, set_self, H2.fresh ht, set_old hf ht, f1, f2, f3, hfm, hfc, H1.fresh ht, fun b x e hbn => ?_⟩
    have := E b x (E0 b x e (by simp)) (by
      simp only [List.mem_cons, List.not_mem_nil, or_false, not_or]
      exact ⟨by simpa using hbn, fun q => by rw [q, f3] at e; cases e⟩)
    exact set_old this ht
end
noncomputable def kvT (f : List Int) : List (Int × V) := f.map fun a => (a, V.bool true)
theorem kvT_lookup (f : List Int) (a : Int) : ((kvT f).lookup a).isSome = f.contains a := by
  induction f with
  | nil => rfl
  | cons b r ih =>
    unfold kvT at ih ⊢
    rw [List.map_cons, List.lookup_cons, List.contains_cons]
    cases hb : (a == b) with
    | true => rfl
    | false => simpa using ih
theorem kvT_put {f : List Int} {a : Int} (h : f.contains a = false) : put (kvT f) a (.bool true) = kvT (f ++ [a]) := by
  unfold put
  have : ((kvT f).any fun kv => decide (kv.1 = a)) = false := by
    rw [List.any_eq_false]
    intro kv hkv
    obtain ⟨b, hb, rfl⟩ := List.mem_map.mp hkv
    simp only [decide_eq_true_eq]
    intro e
    subst e
    rw [List.contains_iff_mem.mpr hb] at h; cases h
  rw [this, if_neg (by decide)]
  simp [kvT]
theorem kvT_len (f : List Int) : (kvT f).length = f.length := by simp [kvT]
noncomputable def pushW (st : List Int × List Int) (w : Int) : List Int × List Int :=
  if (Int.fmod w 8 == 1) && !(st.1.contains (Int.fdiv w 8)) then (st.1 ++ [Int.fdiv w 8], st.2 ++ [Int.fdiv w 8]) else st
theorem pushW_len (st : List Int × List Int) (w : Int) : (pushW st w).1.length ≤ st.1.length + 1 ∧ (pushW st w).2.length ≤ st.2.length + 1 := by
  unfold pushW
  split <;> simp
/-- marked's second loop -/
inductive MkL (cs : List Int) : Nat → List Int → List Int → List Int → Prop
  | done {f : List Int} : MkL cs 0 f [] f
  | step {k a hl : Nat} {hd : Int} {f wt f' : List Int} : cs[a]? = some hd → Int.fdiv (Int.fdiv hd 8) 16 = hl → a + 1 + hl ≤ cs.length → f.length + hl ≤ 10000 → wt.length + hl ≤ 10000 →
      MkL cs k (((cs.drop (a + 1)).take hl).foldl pushW (f, wt)).1 (((cs.drop (a + 1)).take hl).foldl pushW (f, wt)).2 f' → MkL cs (k + 1) f (wt ++ [(a : Int)]) f'
theorem Ext.own {md : List Addr} {m m' : Mem} {a : Addr} {o : AObj} (x : Ext md m m') (ha : m a = none) : Ext md m (set m' a o) := fun b o e hb => set_other (x b o e hb) fun q => by rw [q, ha] at e; cases e
theorem Ext.none {m m' : Mem} {a : Addr} (x : Ext [] m m') (ha : m' a = none) : m a = none := by
  cases e : m a with
  | none => rfl
  | some o => rw [x _ _ e (by simp)] at ha; cases ha
theorem ne_of {m : Mem} {a b : Addr} {x y : AObj} (ha : m a = some x) (hb : m b = some y) (h : x ≠ y) : a ≠ b := fun e => h (by rw [e, hb] at ha; exact (Option.some.inj ha).symm)
theorem ne_fresh {m : Mem} {a b : Addr} {x : AObj} (ha : m a = some x) (hb : m b = none) : a ≠ b := fun e => by rw [e, hb] at ha; cases ha
section
variable {c : Cx} (F : Facts c) {mem : Mem} {h dx cl : Addr} {lim : Int} {cs : List Int}
include F
theorem f34 {ws f' : List Int} {ra : Addr} {k : Nat} (M : MkL cs k (ws.foldl pushW ([], [])).1 (ws.foldl pushW ([], [])).2 f') (H : HP mem h dx cl lim cs) (hra : mem ra = some (.list (ws.map .int))) (hwz : ws.length ≤ 1000) :
    Fn c 2 (c.fx 34) [.ref h, .ref ra] mem (fun v m => ∃ fd, v = .ref fd ∧ m fd = some (.dict (kvT f')) ∧ mem fd = none ∧ Ext [] mem m) := by
  refine Fn.of (n := 1) (names := [Str.ofString "heap", Str.ofString "roots"]) F.d34.is rfl (ar2 fun _ _ _ _ _ _ _ _ => rfl) (by decide) rfl (by with_unfolding_all decide) rfl rfl rfl fun L cd g => ?_
  refine SS.let (by first | exact ⟨rfl, Or.inl rfl⟩ | exact ⟨rfl, Or.inr ⟨rfl, rfl⟩⟩) ?_ rfl rfl rfl
  refine EV.dict0 ?_
  refine fun fd hfd => ?_
  refine SS.let (by first | exact ⟨rfl, Or.inl rfl⟩ | exact ⟨rfl, Or.inr ⟨rfl, rfl⟩⟩) ?_ rfl rfl rfl
  refine EV.list ?_
  refine Args.nil ?_
  refine ⟨by simp, fun wa hwa => ?_⟩
  have hwa0 : mem wa = none := (Ext.refl.fresh hfd).none hwa
  have E : Ext [] mem (set (set mem fd (.dict [])) wa (.list [])) := (Ext.refl.fresh hfd).fresh hwa
  have H1 := (H.fresh hfd).fresh (o := .list []) hwa
  have d1 : set (set mem fd (.dict [])) wa (.list []) fd = some (.dict (kvT [])) := set_old set_self hwa
  have w1 : set (set mem fd (.dict [])) wa (.list []) wa = some (.list (([] : List Int).map .int)) := set_self
  generalize set (set mem fd (.dict [])) wa (.list []) = m1 at E H1 d1 w1
  refine SS.cons ?_
  refine S1.for ?_
  refine PE.ev (.name rfl) ?_
  refine ⟨_, _, _, fun i l m => ∃ f wt, l = [(Str.ofString "heap", .ref h), (Str.ofString "found", .ref fd), (Str.ofString "waiting", .ref wa)] ∧ m fd = some (.dict (kvT f)) ∧ m wa = some (.list (wt.map .int)) ∧ (ws.drop i).foldl pushW (f, wt) = ws.foldl pushW ([], []) ∧ f.length ≤ i ∧ wt.length ≤ i ∧ Ext [] mem m, _,
    Src.list (E _ _ hra (by simp)), by walk_at "m_lsub", ⟨[], [], rfl, d1, w1, rfl, Nat.le_refl _, Nat.le_refl _, E⟩, fun _ _ _ ⟨_, _, _, _, _, _, _, _, E⟩ => E _ _ hra (by simp), ?_, ?_⟩
  · clear E d1 w1 H1
    rintro i v l m hi hv ⟨f, wt, rfl, hd, hw, hf, hz1, hz2, E⟩
    obtain ⟨w, hww, rfl⟩ := map_get hv
    have hi2 : i < ws.length := (List.getElem?_eq_some_iff.mp hww).1
    rw [drop_cons hww, List.foldl_cons] at hf
    have hp := pushW_len (f, wt) w
    refine AS.name (by first | exact ⟨rfl, Or.inl rfl⟩ | exact ⟨rfl, Or.inr ⟨rfl, rfl⟩⟩) ?_
    refine SS.cons ?_
    refine S1.if ?_
    refine Test.boolop ?_
    refine Alls.and ?_
    refine Test.plain ?_ rfl
    refine PE.ev (.def1 F.d21 (fun _ => f21 F) (by decide) (.name rfl) rfl rfl rfl rfl) ?_
    refine Tru.bool ?_
    refine ite_intro (fun hb => ?_) (fun hb => ?_)
    · refine Alls.and ?_
      refine Test.cmp ?_ (by with_unfolding_all rfl)
      refine PE.ev (.def1 F.d16 (fun _ => f16 F) (by decide) (.name rfl) rfl rfl rfl rfl) ?_
      refine PE.ev (.name rfl) ?_
      refine COp.notInD (.inl hd) ?_
      refine Tru.bool ?_
      refine ite_intro (fun hb => ?_) (fun hb => ?_)
      · refine Alls.andNil (ite_t ?_)
        rename_i hb1
        rw [kvT_lookup] at hb
        have hc : f.contains (Int.fdiv w 8) = false := by simpa using hb
        have hpush : pushW (f, wt) w = (f ++ [Int.fdiv w 8], wt ++ [Int.fdiv w 8]) := by
          unfold pushW
          rw [if_pos]
          rw [hb1, hc]; rfl
        rw [hpush] at hf hp
        refine SS.cons ?_
        refine S1.assign ?_ rfl rfl rfl
        refine PE.ev .boolC ?_
        refine AS.sub ?_ (by intro _; rfl)
        refine PE.ev (.name rfl) ?_
        refine PE.ev (.def1 F.d16 (fun _ => f16 F) (by decide) (.name rfl) rfl rfl rfl rfl) ?_
        refine SetI.dict hd (by rw [kvT_len]; omega) ?_
        refine Cont.next ?_
        rw [kvT_put hc]
        have hwf : wa ≠ fd := ne_of hw hd (by simp)
        have hd2 : set m fd (.dict (kvT (f ++ [Int.fdiv w 8]))) fd = some (.dict (kvT (f ++ [Int.fdiv w 8]))) := set_self
        have hw2 : set m fd (.dict (kvT (f ++ [Int.fdiv w 8]))) wa = some (.list (wt.map .int)) := set_other hw hwf
        have E2 := E.own (o := .dict (kvT (f ++ [Int.fdiv w 8]))) hfd
        generalize set m fd (.dict (kvT (f ++ [Int.fdiv w 8]))) = m2 at hd2 hw2 E2
        refine SS.cons ?_
        refine S1.expr ?_ rfl rfl
        refine EV.lmeth1 PySem.F.slot_list_append rfl ?_ rfl rfl rfl
        refine PE.ev (.name rfl) ?_
        refine ⟨_, _, rfl, by walk_at "m_look", ?_⟩
        refine Args.p1 (.def1 F.d16 (fun _ => f16 F) (by decide) (.name rfl) rfl rfl rfl rfl) ?_
        refine MethB.append hw2 (by simp; omega) ?_
        refine ⟨rfl, Cont.next ?_⟩
        have hw3 : set m2 wa (.list (wt.map .int ++ [.int (Int.fdiv w 8)])) wa = some (.list ((wt ++ [Int.fdiv w 8]).map .int)) := by rw [set_self]; simp
        have hd3 : set m2 wa (.list (wt.map .int ++ [.int (Int.fdiv w 8)])) fd = some (.dict (kvT (f ++ [Int.fdiv w 8]))) := set_other hd2 (Ne.symm hwf)
        have E3 := E2.own (o := .list (wt.map .int ++ [.int (Int.fdiv w 8)])) hwa0
        refine SS.nil (Cont.next (SS.nil (Turn.next _ (by walk_at "m_lsub") ⟨_, _, rfl, hd3, hw3, hf, by simp; omega, by simp; omega, E3⟩)))
      · refine ite_f ?_
        rw [kvT_lookup] at hb
        have hc : f.contains (Int.fdiv w 8) = true := by simpa using hb
        have hpush : pushW (f, wt) w = (f, wt) := by
          unfold pushW
          rw [if_neg]
          rw [hc]; simp
        rw [hpush] at hf hp
        refine SS.nil (Cont.next (SS.nil (Turn.next _ (by walk_at "m_lsub") ⟨_, _, rfl, hd, hw, hf, by omega, by omega, E⟩)))
    · refine ite_f ?_
      have hpush : pushW (f, wt) w = (f, wt) := by
        unfold pushW
        rw [if_neg]
        rw [hb]; simp
      rw [hpush] at hf hp
      refine SS.nil (Cont.next (SS.nil (Turn.next _ (by walk_at "m_lsub") ⟨_, _, rfl, hd, hw, hf, by omega, by omega, E⟩)))
  clear E d1 w1 H1 hwa
  rintro l m ⟨f, wt, rfl, hd, hw, hf, hz1, hz2, E⟩
  rw [List.drop_eq_nil_of_le (by simp), List.foldl_nil] at hf
  rw [← hf] at M
  have hz3 : wt.length ≤ 10000 := by simp at hz2; omega
  clear hz1 hz2 hf
  refine Cont.next ?_
  refine SS.cons ?_
  refine S1.while (loc0 := [(Str.ofString "heap", .ref h), (Str.ofString "found", .ref fd), (Str.ofString "waiting", .ref wa)])
    (fun k l m => ∃ f wt, l = [(Str.ofString "heap", .ref h), (Str.ofString "found", .ref fd), (Str.ofString "waiting", .ref wa)] ∧ m fd = some (.dict (kvT f)) ∧ m wa = some (.list (wt.map .int)) ∧ MkL cs k f wt f' ∧ Ext [] mem m)
    k (by walk_at "m_lsub") ⟨f, wt, rfl, hd, hw, M, E⟩ ?_
  clear hd hw M E hz3
  rintro k l m ⟨f, wt, rfl, hd, hw, M, E⟩
  refine Test.cmp ?_ (by with_unfolding_all rfl)
  refine PE.ev (.name rfl) ?_
  refine EV.list ?_
  refine Args.nil ?_
  refine ⟨by simp, fun ea hea => ?_⟩
  refine COp.neNil (set_old hw hea) set_self ?_
  refine Tru.bool ?_
  have E0 := E.fresh (o := .list []) hea
  have hd0 : set m ea (.list []) fd = _ := set_old hd hea
  have hw0 : set m ea (.list []) wa = _ := set_old hw hea
  generalize set m ea (.list []) = m0 at E0 hd0 hw0
  clear E hd hw hea
  refine ite_intro (fun hb => ?_) (fun hb => ?_)
  · cases M with
    | done => simp at hb
    | @step k a hl hh f wt _ hx hhl hlen hz1 hz2 M =>
    refine SS.let (by first | exact ⟨rfl, Or.inl rfl⟩ | exact ⟨rfl, Or.inr ⟨rfl, rfl⟩⟩) ?_ rfl rfl rfl
    refine EV.lmeth0 PySem.F.slot_list_pop rfl ?_ rfl
    refine PE.ev (.name rfl) ?_
    refine ⟨_, _, rfl, by walk_at "m_look", ?_⟩
    rw [List.map_append, List.map_singleton] at hw0
    refine MethB.pop hw0 (by simp; omega) ?_
    have hwf : wa ≠ fd := ne_of hw0 hd0 (by simp)
    have E := E0.own (o := .list (wt.map .int)) hwa0
    have hd : set m0 wa (.list (wt.map .int)) fd = _ := set_other hd0 (Ne.symm hwf)
    have hw : set m0 wa (.list (wt.map .int)) wa = some (.list (wt.map .int)) := set_self
    generalize set m0 wa (.list (wt.map .int)) = m at E hd hw
    clear E0 hd0 hw0
    have H1 := H.ext E (by simp) (by simp) (by simp)
    refine SS.cons ?_
    refine S1.for ?_
    refine EV.callT1 F.brange rfl (by decide) ?_ rfl rfl rfl rfl rfl
    refine Args.cons ?_ rfl
    refine PE.ev (.add (.name rfl) .int) ?_
    refine Args.cons ?_ rfl
    refine EV.binop ?_
    refine PE.ev (.add (.name rfl) .int) ?_
    refine EV.def' F.d25 ?_ rfl rfl rfl rfl rfl
    refine Args.cons ?_ rfl
    refine EV.sub ?_
    refine EV.hcells F rfl (by walk_at "m_look") ?_
    refine PE.ev (.name rfl) ?_
    refine Sub.cells H1 (by omega) (by simpa using hx) ?_
    refine Args.nil ?_
    refine CallV.pure (f25 F) (by decide) ?_
    refine BOp.add ?_
    refine Args.nil ?_
    refine CallV.range2 fun r hr => ?_
    rw [hhl]
    have hzc := H.z
    refine ⟨hl, _, fun _ => True, fun i l m => ∃ f1 wt1, l = [(Str.ofString "heap", .ref h), (Str.ofString "found", .ref fd), (Str.ofString "waiting", .ref wa)] ∧ m fd = some (.dict (kvT f1)) ∧ m wa = some (.list (wt1.map .int)) ∧
        (((cs.drop (a + 1)).take hl).drop i).foldl pushW (f1, wt1) = ((cs.drop (a + 1)).take hl).foldl pushW (f, wt) ∧ f1.length ≤ f.length + i ∧ wt1.length ≤ wt.length + i ∧ Ext [] mem m, _,
      Src.rangeN set_self rfl (by omega) (by omega) (by omega), by walk_at "m_lsub", ⟨f, wt, rfl, set_old hd hr, set_old hw hr, rfl, Nat.le_refl _, Nat.le_refl _, E.fresh hr⟩, fun _ _ _ _ => trivial, ?_, ?_⟩
    · clear H1 E hd hw hr m M
      rename_i f0 wt0 _
      rintro i v l m hi hv ⟨f, wt, rfl, hd, hw, hf, hz3, hz4, E⟩
      obtain rfl := range_item hi hv
      have hlt : a + 1 + i < cs.length := by omega
      obtain ⟨w, hww⟩ : ∃ w, cs[a + 1 + i]? = some w := ⟨cs[a + 1 + i], List.getElem?_eq_getElem hlt⟩
      have hww2 : ((cs.drop (a + 1)).take hl)[i]? = some w := by
        rw [List.getElem?_take_of_lt hi, List.getElem?_drop]; exact hww
      rw [drop_cons hww2, List.foldl_cons] at hf
      have hp := pushW_len (f, wt) w
      have H1 := H.ext E (by simp) (by simp) (by simp)
      refine AS.name (by first | exact ⟨rfl, Or.inl rfl⟩ | exact ⟨rfl, Or.inr ⟨rfl, rfl⟩⟩) ?_
      refine SS.let (by first | exact ⟨rfl, Or.inl rfl⟩ | exact ⟨rfl, Or.inr ⟨rfl, rfl⟩⟩) ?_ rfl rfl rfl
      refine EV.sub ?_
      refine EV.hcells F rfl (by walk_at "m_look") ?_
      refine PE.ev (.name rfl) ?_
      refine Sub.cells H1 (by omega) (by rw [show ((a : Int) + 1 + (i : Int)).toNat = a + 1 + i by omega]; exact hww) ?_
      refine SS.cons ?_
      refine S1.if ?_
      refine Test.boolop ?_
      refine Alls.and ?_
      refine Test.plain ?_ rfl
      refine PE.ev (.def1 F.d21 (fun _ => f21 F) (by decide) (.name rfl) rfl rfl rfl rfl) ?_
      refine Tru.bool ?_
      refine ite_intro (fun hb => ?_) (fun hb => ?_)
      · refine Alls.and ?_
        refine Test.cmp ?_ (by with_unfolding_all rfl)
        refine PE.ev (.def1 F.d16 (fun _ => f16 F) (by decide) (.name rfl) rfl rfl rfl rfl) ?_
        refine PE.ev (.name rfl) ?_
        refine COp.notInD (.inl hd) ?_
        refine Tru.bool ?_
        refine ite_intro (fun hb => ?_) (fun hb => ?_)
        · refine Alls.andNil (ite_t ?_)
          rename_i hb1
          rw [kvT_lookup] at hb
          have hc : f.contains (Int.fdiv w 8) = false := by simpa using hb
          have hpush : pushW (f, wt) w = (f ++ [Int.fdiv w 8], wt ++ [Int.fdiv w 8]) := by
            unfold pushW
            rw [if_pos]
            rw [hb1, hc]; rfl
          rw [hpush] at hf hp
          refine SS.cons ?_
          refine S1.assign ?_ rfl rfl rfl
          refine PE.ev .boolC ?_
          refine AS.sub ?_ (by intro _; rfl)
          refine PE.ev (.name rfl) ?_
          refine PE.ev (.def1 F.d16 (fun _ => f16 F) (by decide) (.name rfl) rfl rfl rfl rfl) ?_
          refine SetI.dict hd (by rw [kvT_len]; omega) ?_
          refine Cont.next ?_
          rw [kvT_put hc]
          have hwf : wa ≠ fd := ne_of hw hd (by simp)
          have hd2 : set m fd (.dict (kvT (f ++ [Int.fdiv w 8]))) fd = some (.dict (kvT (f ++ [Int.fdiv w 8]))) := set_self
          have hw2 : set m fd (.dict (kvT (f ++ [Int.fdiv w 8]))) wa = some (.list (wt.map .int)) := set_other hw hwf
          have E2 := E.own (o := .dict (kvT (f ++ [Int.fdiv w 8]))) hfd
          generalize set m fd (.dict (kvT (f ++ [Int.fdiv w 8]))) = m2 at hd2 hw2 E2
          refine SS.cons ?_
          refine S1.expr ?_ rfl rfl
          refine EV.lmeth1 PySem.F.slot_list_append rfl ?_ rfl rfl rfl
          refine PE.ev (.name rfl) ?_
          refine ⟨_, _, rfl, by walk_at "m_look", ?_⟩
          refine Args.p1 (.def1 F.d16 (fun _ => f16 F) (by decide) (.name rfl) rfl rfl rfl rfl) ?_
          refine MethB.append hw2 (by simp; omega) ?_
          refine ⟨rfl, Cont.next ?_⟩
          have hw3 : set m2 wa (.list (wt.map .int ++ [.int (Int.fdiv w 8)])) wa = some (.list ((wt ++ [Int.fdiv w 8]).map .int)) := by rw [set_self]; simp
          have hd3 : set m2 wa (.list (wt.map .int ++ [.int (Int.fdiv w 8)])) fd = some (.dict (kvT (f ++ [Int.fdiv w 8]))) := set_other hd2 (Ne.symm hwf)
          have E3 := E2.own (o := .list (wt.map .int ++ [.int (Int.fdiv w 8)])) hwa0
          refine SS.nil (Cont.next (SS.nil (Turn.next _ (by walk_at "m_lsub") ⟨_, _, rfl, hd3, hw3, hf, by simp; omega, by simp; omega, E3⟩)))
        · refine ite_f ?_
          rw [kvT_lookup] at hb
          have hc : f.contains (Int.fdiv w 8) = true := by simpa using hb
          have hpush : pushW (f, wt) w = (f, wt) := by
            unfold pushW
            rw [if_neg]
            rw [hc]; simp
          rw [hpush] at hf hp
          refine SS.nil (Cont.next (SS.nil (Turn.next _ (by walk_at "m_lsub") ⟨_, _, rfl, hd, hw, hf, by omega, by omega, E⟩)))
      · refine ite_f ?_
        have hpush : pushW (f, wt) w = (f, wt) := by
          unfold pushW
          rw [if_neg]
          rw [hb]; simp
        rw [hpush] at hf hp
        refine SS.nil (Cont.next (SS.nil (Turn.next _ (by walk_at "m_lsub") ⟨_, _, rfl, hd, hw, hf, by omega, by omega, E⟩)))
    · clear H1 E hd hw hr m
      rintro l m ⟨f1, wt1, rfl, hd, hw, hf, hz3, hz4, E⟩
      rw [List.drop_eq_nil_of_le (by simp; omega), List.foldl_nil] at hf
      rw [← hf] at M
      exact Cont.next (SS.nil (Turn.next _ (by walk_at "m_lsub") ⟨k, by omega, f1, wt1, rfl, hd, hw, M, E⟩))
  · cases M with
    | step => simp at hb
    | done =>
    refine Cont.next ?_
    refine SS.ret ?_
    refine PE.ev (.name rfl) ?_
    exact ⟨fd, rfl, hd0, hfd, E0⟩
end
noncomputable def hlOf (cs : List Int) (a : Int) : Int := Int.fdiv (Int.fdiv (cs.getD a.toNat 0) 8) 16
noncomputable def plc (cs : List Int) : Int → List Int → List (Int × V)
  | _, [] => []
  | free, a :: r => (a, .int free) :: plc cs (free + 1 + hlOf cs a) r
theorem plc_keys (cs : List Int) : ∀ (free : Int) (ks : List Int), (plc cs free ks).map (·.1) = ks
  | _, [] => rfl
  | free, a :: r => by rw [plc, List.map_cons, plc_keys cs _ r]
theorem put_new {kvs : List (Int × V)} {a : Int} {v : V} (h : a ∉ kvs.map (·.1)) : put kvs a v = kvs ++ [(a, v)] := by
  unfold put
  have : (kvs.any fun kv => decide (kv.1 = a)) = false := by
    rw [List.any_eq_false]
    intro kv hkv
    simp only [decide_eq_true_eq]
    intro e
    exact h (e ▸ List.mem_map_of_mem hkv)
  rw [this, if_neg (by decide)]
/-- what slid_word does -/
noncomputable def SW (kvs : List (Int × V)) (w r : Int) : Prop := ((Int.fmod w 8 == 1) = false ∧ r = w) ∨ ((Int.fmod w 8 == 1) = true ∧ ∃ p, kvs.lookup (Int.fdiv w 8) = some (.int p) ∧ r = p * 8 + 1)
inductive SWs (kvs : List (Int × V)) : List Int → List Int → Prop
  | nil : SWs kvs [] []
  | cons {w r : Int} {ws rs : List Int} : SW kvs w r → SWs kvs ws rs → SWs kvs (w :: ws) (r :: rs)
theorem SWs.length {kvs : List (Int × V)} {ws rs : List Int} (h : SWs kvs ws rs) : rs.length = ws.length := by
  induction h with
  | nil => rfl
  | cons _ _ ih => simp [ih]
/-- the loop of slide -/
inductive Sld (kvs : List (Int × V)) (cs : List Int) : List Int → List Int → List Int → Prop
  | nil {n : List Int} : Sld kvs cs [] n n
  | cons {a hl : Nat} {hd : Int} {r rs n n' : List Int} : cs[a]? = some hd → Int.fdiv (Int.fdiv hd 8) 16 = hl → a + 1 + hl ≤ cs.length → n.length + 1 + hl ≤ 10000 → SWs kvs ((cs.drop (a + 1)).take hl) rs → Sld kvs cs r (n ++ hd :: rs) n' → Sld kvs cs ((a : Int) :: r) n n'
theorem Ext.absorb {m m1 m2 : Mem} {a : Addr} (E : Ext [] m m1) (E1 : Ext [a] m1 m2) (h : m a = Option.none) : Ext [] m m2 := fun b o e _ => E1 b o (E b o e (by simp)) (by simp only [List.mem_singleton]; intro q; rw [q, h] at e; cases e)
theorem plc_item {cs ks : List Int} {i : Nat} {free : Int} {v : V} (h : ((plc cs free ks)[i]?).map (fun kv => V.int kv.1) = some v) : ∃ a, ks[i]? = some a ∧ v = .int a := by
  have e : ((plc cs free ks)[i]?).map (·.1) = ks[i]? := by rw [← List.getElem?_map, plc_keys]
  obtain ⟨kv, h1, h2⟩ := Option.map_eq_some_iff.mp h
  rw [h1] at e
  exact ⟨kv.1, e.symm, h2.symm⟩
section
variable {c : Cx} (F : Facts c) {mem : Mem} {h dx cl : Addr} {lim : Int} {cs : List Int}
include F
theorem f35 {f : List Int} {fd : Addr} (H : HP mem h dx cl lim cs) (hf : mem fd = some (.dict (kvT f))) (hn : f.Nodup) (hz : f.length < 64) (hin : ∀ a ∈ f, 0 ≤ a ∧ a.toNat < cs.length) :
    Fn c 2 (c.fx 35) [.ref h, .ref fd] mem (fun v m => ∃ pd ks, v = .ref pd ∧ ks.Perm f ∧ ks.Pairwise (· ≤ ·) ∧ m pd = some (.dict (plc cs 0 ks)) ∧ mem pd = none ∧ Ext [] mem m) := by
  refine Fn.of (n := 1) (names := [Str.ofString "heap", Str.ofString "found"]) F.d35.is rfl (ar2 fun _ _ _ _ _ _ _ _ => rfl) (by decide) rfl (by with_unfolding_all decide) rfl rfl rfl fun L cd g => ?_
  refine SS.let (by first | exact ⟨rfl, Or.inl rfl⟩ | exact ⟨rfl, Or.inr ⟨rfl, rfl⟩⟩) ?_ rfl rfl rfl
  refine EV.dict0 ?_
  refine fun pd hpd => ?_
  have hf1 : set mem pd (.dict []) fd = _ := set_old hf hpd
  have E1 : Ext [] mem (set mem pd (.dict [])) := Ext.refl.fresh hpd
  have d1 : set mem pd (.dict []) pd = some (.dict []) := set_self
  generalize set mem pd (.dict []) = m1 at hf1 E1 d1
  refine SS.let (by first | exact ⟨rfl, Or.inl rfl⟩ | exact ⟨rfl, Or.inr ⟨rfl, rfl⟩⟩) ?_ rfl rfl rfl
  refine PE.ev .int ?_
  refine SS.cons ?_
  refine S1.for ?_
  refine EV.callB1 F.bsorted rfl (by decide) ?_ rfl rfl rfl rfl rfl
  refine Args.p1 (.name rfl) ?_
  refine CallV.sortedD hf1 (by rw [kvT_len]; exact hz) fun sl ks hp hs hsl => ?_
  have hkeys : (kvT f).map (·.1) = f := by simp [kvT, List.map_map, Function.comp_def]
  rw [hkeys] at hp
  have hkn : ks.Nodup := hp.nodup_iff.mpr hn
  have hkz : ks.length < 64 := by rw [hp.length_eq]; exact hz
  refine ⟨_, _, _, fun i l m => ∃ kvs free, l = [(Str.ofString "heap", .ref h), (Str.ofString "found", .ref fd), (Str.ofString "places", .ref pd), (Str.ofString "free", .int free)] ∧ m pd = some (.dict kvs) ∧ kvs ++ plc cs free (ks.drop i) = plc cs 0 ks ∧ m sl = some (.list (ks.map .int)) ∧ Ext [] mem m, _,
    Src.list set_self, by walk_at "m_lsub", ⟨[], 0, rfl, set_old d1 hsl, by simp, set_self, E1.fresh hsl⟩, fun _ _ _ ⟨_, _, _, _, _, E, _⟩ => E, ?_, ?_⟩
  · have hps : pd ≠ sl := ne_fresh d1 hsl
    clear E1 d1 hf1 hsl
    rintro i v l m hi hv ⟨kvs, free, rfl, hd, hk, hsm, E⟩
    obtain ⟨a, ha, rfl⟩ := map_get hv
    have hmem : a ∈ f := hp.mem_iff.mp (List.mem_of_getElem? ha)
    obtain ⟨h0, hlt⟩ := hin a hmem
    rw [drop_cons ha, plc] at hk
    have hH := H.ext E (by simp) (by simp) (by simp)
    have hnot : a ∉ kvs.map (·.1) := by
      have e1 := congrArg (List.map (·.1)) hk
      rw [List.map_append, List.map_cons, plc_keys, plc_keys] at e1
      rw [← e1] at hkn
      have := (List.nodup_append.mp hkn).2.2
      intro hm
      exact this a hm a (by simp) rfl
    have hkl : kvs.length ≤ 64 := by
      have e1 := congrArg List.length hk
      have e2 : (plc cs 0 ks).length = ks.length := by rw [← List.length_map (f := (·.1)), plc_keys]
      rw [e2, List.length_append] at e1
      omega
    refine AS.name (by first | exact ⟨rfl, Or.inl rfl⟩ | exact ⟨rfl, Or.inr ⟨rfl, rfl⟩⟩) ?_
    refine SS.cons ?_
    refine S1.assign ?_ rfl rfl rfl
    refine PE.ev (.name rfl) ?_
    refine AS.sub ?_ (by intro _; rfl)
    refine PE.ev (.name rfl) ?_
    refine PE.ev (.name rfl) ?_
    refine SetI.dict hd (by omega) ?_
    refine Cont.next ?_
    rw [put_new hnot]
    have hd2 : set m pd (.dict (kvs ++ [(a, .int free)])) pd = _ := set_self
    have hs2 : set m pd (.dict (kvs ++ [(a, .int free)])) sl = _ := set_other hsm (Ne.symm hps)
    have E2 := E.own (o := .dict (kvs ++ [(a, .int free)])) hpd
    have H2 := H.ext E2 (by simp) (by simp) (by simp)
    generalize set m pd (.dict (kvs ++ [(a, .int free)])) = m2 at hd2 hs2 E2 H2
    refine SS.let (by first | exact ⟨rfl, Or.inl rfl⟩ | exact ⟨rfl, Or.inr ⟨rfl, rfl⟩⟩) ?_ rfl rfl rfl
    refine EV.binop ?_
    refine PE.ev (.add (.name rfl) .int) ?_
    refine EV.def' F.d25 ?_ rfl rfl rfl rfl rfl
    refine Args.cons ?_ rfl
    refine EV.sub ?_
    refine EV.hcells F rfl (by walk_at "m_look") ?_
    refine PE.ev (.name rfl) ?_
    refine Sub.cells H2 h0 (List.getElem?_eq_getElem hlt) ?_
    refine Args.nil ?_
    refine CallV.pure (f25 F) (by decide) ?_
    refine BOp.add ?_
    refine SS.nil (Turn.next _ (by walk_at "m_lsub") ⟨_, _, rfl, hd2, ?_, hs2, E2⟩)
    rw [← hk]
    have : hlOf cs a = Int.fdiv (Int.fdiv cs[a.toNat] 8) 16 := by unfold hlOf; rw [List.getD_eq_getElem?_getD, List.getElem?_eq_getElem hlt]; rfl
    simp [this]
  · rintro l m ⟨kvs, free, rfl, hd, hk, hsm, E⟩
    rw [List.drop_eq_nil_of_le (by simp), plc, List.append_nil] at hk
    subst hk
    refine Cont.next ?_
    refine SS.ret ?_
    refine PE.ev (.name rfl) ?_
    exact ⟨pd, ks, rfl, hp, hs, hd, hpd, E⟩
theorem f36 {kvs : List (Int × V)} {pd : Addr} {w r : Int} (hp : IsD mem pd kvs) (hs : SW kvs w r) : Fn c 2 (c.fx 36) [.ref pd, .int w] mem (fun v m => v = .int r ∧ m = mem) := by
  refine Fn.of (n := 1) (names := [Str.ofString "places", Str.ofString "word"]) F.d36.is rfl (ar2 fun _ _ _ _ _ _ _ _ => rfl) (by decide) rfl (by with_unfolding_all decide) rfl rfl rfl fun L cd g => ?_
  refine SS.cons ?_
  refine S1.ret ?_
  refine EV.ifexp ?_
  refine Test.plain ?_ rfl
  refine PE.ev (.def1 F.d21 (fun _ => f21 F) (by decide) (.name rfl) rfl rfl rfl rfl) ?_
  refine Tru.bool ?_
  refine ite_intro (fun hb => ?_) (fun hb => ?_)
  · rcases hs with ⟨h1, _⟩ | ⟨h1, p, h2, rfl⟩
    · rw [h1] at hb; cases hb
    refine EV.def' F.d18 ?_ rfl rfl rfl rfl rfl
    refine Args.cons ?_ rfl
    refine EV.subP (.name rfl) (.def1 F.d16 (fun _ => f16 F) (by decide) (.name rfl) rfl rfl rfl rfl) ?_
    refine Sub.dict hp h2 ?_
    refine Args.nil ?_
    refine CallV.pure (f18 F) (by decide) ?_
    refine Cont.ret ?_
    exact ⟨rfl, rfl⟩
  · rcases hs with ⟨h1, rfl⟩ | ⟨h1, p, h2, rfl⟩
    · refine PE.ev (.name rfl) ?_
      refine Cont.ret ?_
      exact ⟨rfl, rfl⟩
    · rw [h1] at hb; cases hb
theorem f37 {ws f ks n' rs : List Int} {ra : Addr} {k : Nat} (M : MkL cs k (ws.foldl pushW ([], [])).1 (ws.foldl pushW ([], [])).2 f) (H : HP mem h dx cl lim cs) (hra : mem ra = some (.list (ws.map .int))) (hwz : ws.length ≤ 1000)
    (hn : f.Nodup) (hz : f.length < 64) (hin : ∀ a ∈ f, 0 ≤ a ∧ a.toNat < cs.length) (hks : ∀ ks', ks'.Perm f → ks'.Pairwise (· ≤ ·) → ks' = ks) (hS : Sld (plc cs 0 ks) cs ks [] n') (hR : SWs (plc cs 0 ks) ws rs) :
    Fn c 4 (c.fx 37) [.ref h, .ref ra] mem (fun v m => ∃ t hn dxn cln fa, v = .ref t ∧ m t = some (.tup [.ref hn, .ref fa]) ∧ HP m hn dxn cln lim n' ∧ m fa = some (.list (rs.map .int)) ∧ mem hn = none ∧ mem dxn = none ∧ mem cln = none ∧ mem fa = none ∧ cln ≠ fa ∧ Ext [] mem m) := by
  refine Fn.of (n := 3) (names := [Str.ofString "heap", Str.ofString "roots"]) F.d37.is rfl (ar2 fun _ _ _ _ _ _ _ _ => rfl) (by decide) rfl (by with_unfolding_all decide) rfl rfl rfl fun L cd g => ?_
  refine SS.let (by first | exact ⟨rfl, Or.inl rfl⟩ | exact ⟨rfl, Or.inr ⟨rfl, rfl⟩⟩) ?_ rfl rfl rfl
  refine EV.def' F.d35 ?_ rfl rfl rfl rfl rfl
  refine Args.cons ?_ rfl
  refine PE.ev (.name rfl) ?_
  refine Args.cons ?_ rfl
  refine EV.def' F.d34 ?_ rfl rfl rfl rfl rfl
  refine Args.p2 (.name rfl) (.name rfl) ?_
  refine Fn.call (k := 2) ((f34 F M H hra hwz).mono fun v m1 q => ?_) (by decide)
  obtain ⟨fd, rfl, hfd, hfd0, E1⟩ := q
  have H1 := H.ext E1 (by simp) (by simp) (by simp)
  refine Args.nil ?_
  refine Fn.call (k := 2) ((f35 F H1 hfd hn hz hin).mono fun v m2 q => ?_) (by decide)
  obtain ⟨pd, ks', rfl, hp, hs, hpd, hpd1, E2⟩ := q
  obtain rfl := hks ks' hp hs
  have hpd0 : mem pd = none := E1.none hpd1
  have E : Ext [] mem m2 := E1.trans E2
  clear E2 hpd1 hfd E1 H1
  refine SS.let (by first | exact ⟨rfl, Or.inl rfl⟩ | exact ⟨rfl, Or.inr ⟨rfl, rfl⟩⟩) ?_ rfl rfl rfl
  refine EV.callF1 F.gHeap F.HK.keep ?_ rfl rfl rfl rfl rfl
  refine Args.cons ?_ rfl
  have H2 := H.ext E (by simp) (by simp) (by simp)
  refine EV.hlimit F rfl H2 ?_
  refine Args.nil ?_
  refine CallV.heap F (by decide) fun hn' dxn cln m3 f1 f2 f3 Hn E3 => ?_
  have hcp : pd ≠ cln := ne_fresh hpd f3
  have g1 : mem hn' = none := E.none f1
  have g2 : mem dxn = none := E.none f2
  have g3 : mem cln = none := E.none f3
  have hpd3 := E3 _ _ hpd (by simp)
  have E4 : Ext [] mem m3 := E.trans E3
  clear f1 f2 f3 hpd E E3 H2
  refine SS.cons ?_
  refine W.epoch hpd3 fun ep => ?_
  have E5 := E4.own (o := .dictE (plc cs 0 ks') ep) hpd0
  have Hn5 : HP (set m3 pd (.dictE (plc cs 0 ks') ep)) hn' dxn cln lim [] := Hn.other (ne_of Hn.i hpd3 (by simp)) (ne_of Hn.d hpd3 (by simp)) (ne_of Hn.c hpd3 (by simp))
  have hp5 : set m3 pd (.dictE (plc cs 0 ks') ep) pd = _ := set_self
  generalize set m3 pd (.dictE (plc cs 0 ks') ep) = m5 at E5 Hn5 hp5
  clear E4 hpd3 Hn
  refine S1.for ?_
  refine PE.ev (.name rfl) ?_
  have hkl : (plc cs 0 ks').length = ks'.length := by rw [← List.length_map (f := (·.1)), plc_keys]
  refine ⟨_, _, _, fun i l m => ∃ n, l = [(Str.ofString "heap", .ref h), (Str.ofString "roots", .ref ra), (Str.ofString "places", .ref pd), (Str.ofString "new", .ref hn')] ∧ m pd = some (.dictE (plc cs 0 ks') ep) ∧ HP m hn' dxn cln lim n ∧ Sld (plc cs 0 ks') cs (ks'.drop i) n n' ∧ Ext [] mem m, _,
    Src.dict hp5, by walk_at "m_lsub", ⟨[], rfl, hp5, Hn5, hS, E5⟩, fun _ _ _ ⟨_, _, e, _⟩ => e, ?_, ?_⟩
  · clear E5 Hn5 hp5 hS
    rintro i v l m hi hv ⟨n, rfl, hpd, Hn, hS, E⟩
    obtain ⟨a', ha, rfl⟩ := plc_item hv
    rw [drop_cons ha] at hS
    cases hS with
    | @cons a hl hd _ rs1 _ _ hx hh hlen hz1 hSW hS =>
    have H1 := H.ext E (by simp) (by simp) (by simp)
    refine AS.name (by first | exact ⟨rfl, Or.inl rfl⟩ | exact ⟨rfl, Or.inr ⟨rfl, rfl⟩⟩) ?_
    refine SS.let (by first | exact ⟨rfl, Or.inl rfl⟩ | exact ⟨rfl, Or.inr ⟨rfl, rfl⟩⟩) ?_ rfl rfl rfl
    refine EV.def' F.d25 ?_ rfl rfl rfl rfl rfl
    refine Args.cons ?_ rfl
    refine EV.sub ?_
    refine EV.hcells F rfl (by walk_at "m_look") ?_
    refine PE.ev (.name rfl) ?_
    refine Sub.cells H1 (by omega) (by simpa using hx) ?_
    refine Args.nil ?_
    refine CallV.pure (f25 F) (by decide) ?_
    refine SS.cons ?_
    refine S1.expr ?_ rfl rfl
    refine EV.lmeth1 PySem.F.slot_list_append rfl ?_ rfl rfl rfl
    refine EV.hcells F rfl (by walk_at "m_look") ?_
    refine ⟨_, _, rfl, by walk_at "m_look", ?_⟩
    refine Args.cons ?_ rfl
    refine EV.sub ?_
    refine EV.hcells F rfl (by walk_at "m_look") ?_
    refine PE.ev (.name rfl) ?_
    refine Sub.cells H1 (by omega) (by simpa using hx) ?_
    refine Args.nil ?_
    refine MethB.appendH Hn (by omega) fun m1 Hn1 E1 _ => ?_
    refine ⟨rfl, Cont.next ?_⟩
    have E2 := E.absorb E1 g3
    have hpd2 := E1 _ _ hpd (by simpa using hcp)
    clear E E1 hpd Hn H1
    rw [hh]
    refine SS.cons ?_
    refine S1.for ?_
    refine EV.callT1 F.brange rfl (by decide) ?_ rfl rfl rfl rfl rfl
    refine Args.p2 (.add (.name rfl) .int) (.add (.add (.name rfl) .int) (.name rfl)) ?_
    refine CallV.range2 fun r hr => ?_
    have hzc := H.z
    refine ⟨hl, _, fun _ => True, fun j l m => ∃ n2 R, l = [(Str.ofString "heap", .ref h), (Str.ofString "roots", .ref ra), (Str.ofString "places", .ref pd), (Str.ofString "new", .ref hn')] ∧ m pd = some (.dictE (plc cs 0 ks') ep) ∧ HP m hn' dxn cln lim n2 ∧ SWs (plc cs 0 ks') (((cs.drop (a + 1)).take hl).drop j) R ∧ n2 ++ R = n ++ hd :: rs1 ∧ Ext [] mem m, _,
      Src.rangeN set_self rfl (by omega) (by omega) (by omega), by walk_at "m_lsub", ⟨_, rs1, rfl, set_old hpd2 hr, Hn1.fresh hr, hSW, by simp, E2.fresh hr⟩, fun _ _ _ _ => trivial, ?_, ?_⟩
    · clear hpd2 Hn1 E2 hr
      rintro j v l m hj hv ⟨n2, R, rfl, hpd, Hn, hSWj, hR, E⟩
      obtain rfl := range_item hj hv
      have hlt : a + 1 + j < cs.length := by omega
      obtain ⟨w, hww⟩ : ∃ w, cs[a + 1 + j]? = some w := ⟨cs[a + 1 + j], List.getElem?_eq_getElem hlt⟩
      have hww2 : ((cs.drop (a + 1)).take hl)[j]? = some w := by
        rw [List.getElem?_take_of_lt hj, List.getElem?_drop]; exact hww
      rw [drop_cons hww2] at hSWj
      have hrl := hSW.length
      have hRl := congrArg List.length hR
      simp only [List.length_append, List.length_cons] at hRl
      have hrl2 : rs1.length ≤ hl := by rw [hrl]; simp; omega
      cases hSWj with
      | @cons _ r1 _ R' hw1 hSWr =>
      have H1 := H.ext E (by simp) (by simp) (by simp)
      refine AS.name (by first | exact ⟨rfl, Or.inl rfl⟩ | exact ⟨rfl, Or.inr ⟨rfl, rfl⟩⟩) ?_
      refine SS.cons ?_
      refine S1.expr ?_ rfl rfl
      refine EV.lmeth1 PySem.F.slot_list_append rfl ?_ rfl rfl rfl
      refine EV.hcells F rfl (by walk_at "m_look") ?_
      refine ⟨_, _, rfl, by walk_at "m_look", ?_⟩
      refine Args.cons ?_ rfl
      refine EV.def' F.d36 ?_ rfl rfl rfl rfl rfl
      refine Args.cons ?_ rfl
      refine PE.ev (.name rfl) ?_
      refine Args.cons ?_ rfl
      refine EV.sub ?_
      refine EV.hcells F rfl (by walk_at "m_look") ?_
      refine PE.ev (.name rfl) ?_
      refine Sub.cells H1 (by omega) (by rw [show ((a : Int) + 1 + (j : Int)).toNat = a + 1 + j by omega]; exact hww) ?_
      refine Args.nil ?_
      refine CallV.pure (f36 F (.inr ⟨ep, hpd⟩) hw1) (by decide) ?_
      refine Args.nil ?_
      refine MethB.appendH Hn (by simp at hRl; omega) fun m1 Hn1 E1 _ => ?_
      refine ⟨rfl, Cont.next ?_⟩
      exact SS.nil (Turn.next _ (by walk_at "m_lsub") ⟨_, R', rfl, E1 _ _ hpd (by simpa using hcp), Hn1, hSWr, by simpa using hR, E.absorb E1 g3⟩)
    · clear hpd2 Hn1 E2 hr
      rintro l m ⟨n2, R, rfl, hpd, Hn, hSWj, hR, E⟩
      rw [List.drop_eq_nil_of_le (by simp; omega)] at hSWj
      cases hSWj with
      | nil =>
      rw [List.append_nil] at hR
      subst hR
      exact Cont.next (SS.nil (Turn.next _ (by walk_at "m_lsub") ⟨_, rfl, hpd, Hn, hS, E⟩))
  · clear E5 Hn5 hp5 hS
    rintro l m ⟨n, rfl, hpd, Hn, hS, E⟩
    rw [hkl, List.drop_eq_nil_of_le (Nat.le_refl _)] at hS
    cases hS with
    | nil =>
    refine Cont.next ?_
    refine SS.cons ?_
    refine S1.ret ?_
    refine EV.tuple ?_
    refine Args.cons ?_ rfl
    refine PE.ev (.name rfl) ?_
    refine Args.cons ?_ rfl
    refine EV.listComp (cl := _) ⟨rfl, ?h2, rfl, rfl, by decide, rfl, by decide⟩ ?_
    case h2 => walk_at "m_clin"
    refine PE.ev (.name rfl) ?_
    have hraE := E _ _ hra (by simp)
    refine ⟨_, _, _, fun i ys m' => ∃ R ys0, ys = ys0.map V.int ∧ SWs (plc cs 0 ks') (ws.drop i) R ∧ ys0 ++ R = rs ∧ m' = m, Src.list hraE, by simp; omega, ⟨rs, [], rfl, hR, rfl, rfl⟩, fun i ys m' ⟨_, _, _, _, _, e⟩ => by rw [e]; exact hraE, ?_, ?_⟩
    · rintro C i v ys m' hi hv ⟨R, ys0, rfl, hSWj, hRR, rfl⟩
      obtain ⟨w, hw, rfl⟩ := map_get hv
      rw [drop_cons hw] at hSWj
      cases hSWj with
      | @cons _ r1 _ R' hw1 hSWr =>
      refine AS.name (by first | exact ⟨rfl, Or.inl rfl⟩ | exact ⟨rfl, Or.inr ⟨rfl, rfl⟩⟩) ?_
      refine Tests.nil (ite_t ?_)
      refine EV.def' F.d36 ?_ rfl rfl rfl rfl rfl
      refine Args.p2 (.name rfl) (.name rfl) ?_
      refine CallV.pure (f36 F (.inr ⟨ep, hpd⟩) hw1) (by decide) ?_
      exact ⟨by walk_at "m_lsub", R', ys0 ++ [r1], by simp, hSWr, by simpa using hRR, rfl⟩
    rintro ys m' fa ⟨R, ys0, rfl, hSWj, hRR, rfl⟩ hfa
    rw [List.drop_eq_nil_of_le (by simp)] at hSWj
    cases hSWj with
    | nil =>
    rw [List.append_nil] at hRR
    subst hRR
    refine Args.nil ?_
    refine ⟨by simp, fun t ht => ?_⟩
    refine Cont.ret ?_
    refine ⟨t, hn', dxn, cln, fa, rfl, set_self, (Hn.fresh hfa).fresh ht, set_old set_self ht, g1, g2, g3, E.none hfa, fun e => ?_, (E.fresh hfa).fresh ht⟩
    rw [← e, Hn.c] at hfa; cases hfa
end
noncomputable def kSizes : List Int := [2, -1, -1, -1, 1, 2, 2, 2]
/-- the blocks' places, from a place on -/
inductive Chain (cs : List Int) : Nat → List Int → Prop
  | done {a : Nat} : cs.length ≤ a → Chain cs a []
  | step {a hl : Nat} {hd : Int} {r : List Int} : cs[a]? = some hd → (Int.fmod hd 8 == 5) = true → Int.fdiv (Int.fdiv hd 8) 16 = hl → Chain cs (a + 1 + hl) r → Chain cs a ((a : Int) :: r)
/-- a sound block -/
structure Sound (cs : List Int) (ss : List Int) (a : Nat) : Prop where
  ex : ∃ hd, cs[a]? = some hd ∧ ∃ kd hl : Nat, Int.fmod (Int.fdiv hd 8) 16 = kd ∧ Int.fdiv (Int.fdiv hd 8) 16 = hl ∧ a + 1 + hl ≤ cs.length ∧ (∃ z, kSizes[kd]? = some z ∧ (0 ≤ z → (hl : Int) = z)) ∧
    ∀ j, j < hl → ∃ w, cs[a + 1 + j]? = some w ∧ (Int.fmod w 8 != 5 && Int.fmod w 8 != 6) = true ∧ ((Int.fmod w 8 == 1) = true → ss.contains (Int.fdiv w 8) = true)
theorem Test.is {c : Cx} {n : Nat} {env : Frm} {cenv : Env} {loc : Loc} {mem : Mem} {t : Expr} {Q : Bool → Loc → Mem → Prop} (v : Bool) (h : Test c n env cenv t loc mem (fun b l m => b = v ∧ l = loc ∧ m = mem)) (k : Q v loc mem) : Test c n env cenv t loc mem Q :=
  W.mono h fun b l m ⟨h1, h2, h3⟩ => by subst h1; subst h2; subst h3; exact k
section
variable {c : Cx} (F : Facts c) {mem : Mem} {h dx cl : Addr} {lim : Int} {cs : List Int}
include F
theorem f29 {ss : List Int} {sd a : Nat} (S : Sound cs ss a) (H : HP mem h dx cl lim cs) (hs : IsD mem sd (kvT ss)) : Fn c 2 (c.fx 29) [.ref h, .int a, .ref sd] mem (fun v m => v = .none ∧ Ext [] mem m) := by
  obtain ⟨hd, hx, kd, hl, hk, hh, hlen, ⟨z, hz1, hz2⟩, hw⟩ := S.ex
  obtain ⟨kl, kxs, nn, dd, sl, hg, hK, hxs⟩ := F.gKS
  have hkz : kd < 8 := (List.getElem?_eq_some_iff.mp hz1).1
  have hkx : ([V.int 2, .int (-1), .int (-1), .int (-1), .int 1, .int 2, .int 2, .int 2])[((kd : Int)).toNat]? = some (.int z) := by
    have : ([V.int 2, .int (-1), .int (-1), .int (-1), .int 1, .int 2, .int 2, .int 2]) = kSizes.map V.int := rfl
    rw [this, List.getElem?_map, Int.toNat_natCast, hz1]; rfl
  have hxl : kxs.length = 8 := hxs.length
  have hzc := H.z
  refine Fn.of (n := 1) (names := [Str.ofString "heap", Str.ofString "address", Str.ofString "starts"]) F.d29.is rfl (ar3 fun _ _ _ _ _ _ _ _ _ => rfl) (by decide) rfl (by with_unfolding_all decide) rfl rfl rfl fun L cd g => ?_
  refine SS.let (by first | exact ⟨rfl, Or.inl rfl⟩ | exact ⟨rfl, Or.inr ⟨rfl, rfl⟩⟩) ?_ rfl rfl rfl
  refine EV.sub ?_
  refine EV.hcells F rfl (by walk_at "m_look") ?_
  refine PE.ev (.name rfl) ?_
  refine Sub.cells H (by omega) (by simpa using hx) ?_
  refine SS.cons ?_
  refine S1.assignSwap2 (x1 := Str.ofString "kind") (x2 := Str.ofString "length") ?_ ⟨rfl, .inl rfl⟩ ⟨rfl, .inl rfl⟩ rfl rfl
  refine EV.tuple ?_
  refine Args.p2 (.def1 F.d24 (fun _ => f24 F) (by decide) (.name rfl) rfl rfl rfl rfl) (.def1 F.d25 (fun _ => f25 F) (by decide) (.name rfl) rfl rfl rfl rfl) ?_
  refine ⟨by simp, fun t ht => ?_⟩
  rw [hk, hh]
  refine ⟨t, _, _, rfl, set_self, ?_⟩
  have H1 := H.fresh (o := .tup [.int (kd : Int), .int (hl : Int)]) ht
  have E1 : Ext [] mem (set mem t (.tup [.int (kd : Int), .int (hl : Int)])) := Ext.refl.fresh ht
  generalize set mem t (.tup [.int (kd : Int), .int (hl : Int)]) = m1 at H1 E1
  refine Cont.next ?_
  refine SS.cons ?_
  refine S1.if ?_
  refine Test.cmp ?_ (by with_unfolding_all rfl)
  refine PE.ev (.name rfl) ?_
  refine EV.callB1 F.blen rfl (by decide) ?_ rfl rfl rfl rfl rfl
  refine Args.cons ?_ rfl
  refine W.NameG (b := V.ref kl) hg rfl ?_ rfl rfl
  refine Args.nil ?_
  refine CallV.lenTup (vs := []) hK (by omega) ?_
  refine COp.geI ?_
  refine Tru.bool ?_
  refine ite_intro (fun hb => ?_) (fun hb => ?_)
  · exfalso; rw [hxl] at hb; simp at hb; omega
  refine SS.nil ?_
  refine Cont.next ?_
  refine SS.cons ?_
  refine S1.if (Test.is false ?_ ?_)
  · refine Test.boolop ?_
    refine Alls.and ?_
    refine Test.cmp ?_ (by with_unfolding_all rfl)
    refine EV.sub ?_
    refine W.NameG (b := V.ref kl) hg rfl ?_ rfl rfl
    refine PE.ev (.name rfl) ?_
    refine Sub.ktup hK hxs (by omega) (by omega) hkx ?_
    refine PE.ev .int ?_
    refine COp.geI ?_
    refine Tru.bool ?_
    refine ite_intro (fun hb => ?_) (fun hb => ?_)
    · refine Alls.and ?_
      refine Test.cmp ?_ (by with_unfolding_all rfl)
      refine PE.ev (.name rfl) ?_
      refine EV.sub ?_
      refine W.NameG (b := V.ref kl) hg rfl ?_ rfl rfl
      refine PE.ev (.name rfl) ?_
      refine Sub.ktup hK hxs (by omega) (by omega) hkx ?_
      refine COp.neI ?_
      refine Tru.bool ?_
      refine ite_intro (fun hb => ?_) (fun hb => ?_)
      · exfalso
        rename_i hb1
        have := hz2 (by simpa using hb1)
        rw [this] at hb; simp at hb
      exact ⟨rfl, rfl, rfl⟩
    · exact ⟨rfl, rfl, rfl⟩
  refine ite_f ?_
  refine SS.nil ?_
  refine Cont.next ?_
  refine SS.cons ?_
  refine S1.if ?_
  refine Test.cmp ?_ (by with_unfolding_all rfl)
  refine PE.ev (.add (.add (.name rfl) .int) (.name rfl)) ?_
  refine EV.callB1 F.blen rfl (by decide) ?_ rfl rfl rfl rfl rfl
  refine Args.cons ?_ rfl
  refine EV.hcells F rfl (by walk_at "m_look") ?_
  refine Args.nil ?_
  refine CallV.lenH H1 ?_
  refine COp.gtI ?_
  refine Tru.bool ?_
  refine ite_intro (fun hb => ?_) (fun hb => ?_)
  · exfalso; simp at hb; omega
  refine SS.nil ?_
  refine Cont.next ?_
  refine SS.cons ?_
  refine S1.for ?_
  refine EV.callT1 F.brange rfl (by decide) ?_ rfl rfl rfl rfl rfl
  refine Args.p2 (.add (.name rfl) .int) (.add (.add (.name rfl) .int) (.name rfl)) ?_
  refine CallV.range2 fun r hr => ?_
  refine ⟨hl, _, fun _ => True, fun j l m => l = [(Str.ofString "heap", .ref h), (Str.ofString "address", .int a), (Str.ofString "starts", .ref sd), (Str.ofString "header", .int hd), (Str.ofString "kind", .int kd), (Str.ofString "length", .int hl)] ∧ Ext [] mem m, _,
    Src.rangeN set_self rfl (by omega) (by omega) (by omega), by walk_at "m_lsub", ⟨rfl, E1.fresh hr⟩, fun _ _ _ _ => trivial, ?_, ?_⟩
  · clear H1 E1 hr
    rintro j v l m hj hv ⟨rfl, E⟩
    obtain rfl := range_item hj hv
    obtain ⟨w, hww, hvw, hrf⟩ := hw j hj
    have H1 := H.ext E (by simp) (by simp) (by simp)
    have hs1 : IsD m sd (kvT ss) := by
      rcases hs with e | ⟨ep, e⟩
      · exact .inl (E _ _ e (by simp))
      · exact .inr ⟨ep, E _ _ e (by simp)⟩
    refine AS.name (by first | exact ⟨rfl, Or.inl rfl⟩ | exact ⟨rfl, Or.inr ⟨rfl, rfl⟩⟩) ?_
    refine SS.let (by first | exact ⟨rfl, Or.inl rfl⟩ | exact ⟨rfl, Or.inr ⟨rfl, rfl⟩⟩) ?_ rfl rfl rfl
    refine EV.sub ?_
    refine EV.hcells F rfl (by walk_at "m_look") ?_
    refine PE.ev (.name rfl) ?_
    refine Sub.cells H1 (by omega) (by rw [show ((a : Int) + 1 + (j : Int)).toNat = a + 1 + j by omega]; exact hww) ?_
    refine SS.cons ?_
    refine S1.if ?_
    refine Test.not ?_
    refine Test.plain ?_ rfl
    refine PE.ev (.def1 F.d26 (fun _ => f26 F) (by decide) (.name rfl) rfl rfl rfl rfl) ?_
    refine Tru.bool ?_
    refine ite_intro (fun hb => ?_) (fun hb => ?_)
    · rw [hvw] at hb; cases hb
    refine SS.nil ?_
    refine Cont.next ?_
    refine SS.cons ?_
    refine S1.if (Test.is false ?_ ?_)
    · refine Test.boolop ?_
      refine Alls.and ?_
      refine Test.plain ?_ rfl
      refine PE.ev (.def1 F.d21 (fun _ => f21 F) (by decide) (.name rfl) rfl rfl rfl rfl) ?_
      refine Tru.bool ?_
      refine ite_intro (fun hb => ?_) (fun hb => ?_)
      · refine Alls.and ?_
        refine Test.cmp ?_ (by with_unfolding_all rfl)
        refine PE.ev (.def1 F.d16 (fun _ => f16 F) (by decide) (.name rfl) rfl rfl rfl rfl) ?_
        refine PE.ev (.name rfl) ?_
        refine COp.notInD hs1 ?_
        refine Tru.bool ?_
        refine ite_intro (fun hb => ?_) (fun hb => ?_)
        · rename_i hb1
          rw [kvT_lookup, hrf hb1] at hb; cases hb
        exact ⟨rfl, rfl, rfl⟩
      · exact ⟨rfl, rfl, rfl⟩
    refine ite_f ?_
    refine SS.nil ?_
    refine Cont.next ?_
    exact SS.nil (Turn.next _ (by walk_at "m_lsub") ⟨rfl, E⟩)
  · clear H1 E1 hr
    rintro l m ⟨rfl, E⟩
    refine Cont.next ?_
    refine SS.ret ?_
    refine PE.ev .noneC ?_
    exact ⟨rfl, E⟩
theorem f30 {ss : List Int} (C : Chain cs 0 ss) (hn : ss.Nodup) (hzs : ss.length ≤ 1000) (hS : ∀ a : Nat, (a : Int) ∈ ss → Sound cs ss a) (H : HP mem h dx cl lim cs) : Fn c 4 (c.fx 30) [.ref h] mem (fun v m => v = .none ∧ Ext [] mem m) := by
  refine Fn.of (n := 3) (names := [Str.ofString "heap"]) F.d30.is rfl (ar1 fun _ _ _ _ _ _ _ => rfl) (by decide) rfl (by with_unfolding_all decide) rfl rfl rfl fun L cd g => ?_
  refine SS.let (by first | exact ⟨rfl, Or.inl rfl⟩ | exact ⟨rfl, Or.inr ⟨rfl, rfl⟩⟩) ?_ rfl rfl rfl
  refine PE.ev .int ?_
  refine SS.let (by first | exact ⟨rfl, Or.inl rfl⟩ | exact ⟨rfl, Or.inr ⟨rfl, rfl⟩⟩) ?_ rfl rfl rfl
  refine EV.dict0 ?_
  refine fun sd hsd => ?_
  have E1 : Ext [] mem (set mem sd (.dict [])) := Ext.refl.fresh hsd
  have d1 : set mem sd (.dict []) sd = some (.dict (kvT [])) := set_self
  generalize set mem sd (.dict []) = m1 at E1 d1
  refine SS.cons ?_
  refine S1.while (loc0 := [(Str.ofString "heap", .ref h), (Str.ofString "starts", .ref sd), (Str.ofString "at", .int ((0 : Nat) : Int))])
    (fun k l m => ∃ (a : Nat) (done rest : List Int), l = [(Str.ofString "heap", .ref h), (Str.ofString "starts", .ref sd), (Str.ofString "at", .int a)] ∧ k = rest.length ∧ done ++ rest = ss ∧ Chain cs a rest ∧ m sd = some (.dict (kvT done)) ∧ Ext [] mem m)
    ss.length (by walk_at "m_lsub") ⟨0, [], ss, rfl, rfl, rfl, C, d1, E1⟩ ?_
  · clear E1 d1
    rintro k l m ⟨a, done, rest, rfl, rfl, hdr, hC, hd, E⟩
    have H1 := H.ext E (by simp) (by simp) (by simp)
    refine Test.cmp ?_ (by with_unfolding_all rfl)
    refine PE.ev (.name rfl) ?_
    refine EV.callB1 F.blen rfl (by decide) ?_ rfl rfl rfl rfl rfl
    refine Args.cons ?_ rfl
    refine EV.hcells F rfl (by walk_at "m_look") ?_
    refine Args.nil ?_
    refine CallV.lenH H1 ?_
    refine COp.ltI ?_
    refine Tru.bool ?_
    refine ite_intro (fun hb => ?_) (fun hb => ?_)
    · have hlt : a < cs.length := by simpa using hb
      cases hC with
      | done h => omega
      | @step _ hl hdv r hx h5 hh hC =>
      refine SS.cons ?_
      refine S1.if ?_
      refine Test.not ?_
      refine Test.plain ?_ rfl
      refine EV.def' F.d22 ?_ rfl rfl rfl rfl rfl
      refine Args.cons ?_ rfl
      refine EV.sub ?_
      refine EV.hcells F rfl (by walk_at "m_look") ?_
      refine PE.ev (.name rfl) ?_
      refine Sub.cells H1 (by omega) (by simpa using hx) ?_
      refine Args.nil ?_
      refine CallV.pure (f22 F) (by decide) ?_
      refine Tru.bool ?_
      refine ite_intro (fun hb => ?_) (fun hb => ?_)
      · rw [h5] at hb; cases hb
      refine SS.nil ?_
      refine Cont.next ?_
      have hc : done.contains (a : Int) = false := by
        rw [← hdr] at hn
        have := (List.nodup_append.mp hn).2.2
        cases e : done.contains (a : Int) with
        | false => rfl
        | true => exact absurd rfl (this _ (List.contains_iff_mem.mp e) _ (by simp))
      have hlen := congrArg List.length hdr
      simp only [List.length_append, List.length_cons] at hlen
      refine SS.cons ?_
      refine S1.assign ?_ rfl rfl rfl
      refine PE.ev .boolC ?_
      refine AS.sub ?_ (by intro _; rfl)
      refine PE.ev (.name rfl) ?_
      refine PE.ev (.name rfl) ?_
      refine SetI.dict hd (by rw [kvT_len]; omega) ?_
      refine Cont.next ?_
      rw [kvT_put hc]
      have hd2 : set m sd (.dict (kvT (done ++ [(a : Int)]))) sd = _ := set_self
      have E2 := E.own (o := .dict (kvT (done ++ [(a : Int)]))) hsd
      have H2 := H.ext E2 (by simp) (by simp) (by simp)
      generalize set m sd (.dict (kvT (done ++ [(a : Int)]))) = m2 at hd2 E2 H2
      refine SS.let (by first | exact ⟨rfl, Or.inl rfl⟩ | exact ⟨rfl, Or.inr ⟨rfl, rfl⟩⟩) ?_ rfl rfl rfl
      refine EV.binop ?_
      refine PE.ev (.add (.name rfl) .int) ?_
      refine EV.def' F.d25 ?_ rfl rfl rfl rfl rfl
      refine Args.cons ?_ rfl
      refine EV.sub ?_
      refine EV.hcells F rfl (by walk_at "m_look") ?_
      refine PE.ev (.name rfl) ?_
      refine Sub.cells H2 (by omega) (by simpa using hx) ?_
      refine Args.nil ?_
      refine CallV.pure (f25 F) (by decide) ?_
      refine BOp.add ?_
      rw [hh, show (a : Int) + 1 + (hl : Int) = ((a + 1 + hl : Nat) : Int) by omega]
      exact SS.nil (Turn.next _ (by walk_at "m_lsub") ⟨r.length, by simp, a + 1 + hl, _, r, rfl, rfl, by simpa using hdr, hC, hd2, E2⟩)
    · cases hC with
      | step hx => have := (List.getElem?_eq_some_iff.mp hx).1; simp at hb; omega
      | done _ =>
      rw [List.append_nil] at hdr
      subst hdr
      refine Cont.next ?_
      refine SS.cons ?_
      refine W.epoch hd fun ep => ?_
      have E2 := E.own (o := .dictE (kvT done) ep) hsd
      have hd2 : set m sd (.dictE (kvT done) ep) sd = _ := set_self
      generalize set m sd (.dictE (kvT done) ep) = m2 at hd2 E2
      clear E hd H1
      refine S1.for ?_
      refine PE.ev (.name rfl) ?_
      refine ⟨_, _, _, fun i l m => l = [(Str.ofString "heap", .ref h), (Str.ofString "starts", .ref sd)] ∧ m sd = some (.dictE (kvT done) ep) ∧ Ext [] mem m, _,
        Src.dict hd2, by walk_at "m_lsub", ⟨rfl, hd2, E2⟩, fun _ _ _ ⟨_, e, _⟩ => e, ?_, ?_⟩
      · clear hd2 E2
        rintro i v l m hi hv ⟨rfl, hd, E⟩
        have hv2 : ∃ x, done[i]? = some x ∧ v = .int x := by
          obtain ⟨kv, e1, e2⟩ := Option.map_eq_some_iff.mp hv
          unfold kvT at e1
          rw [List.getElem?_map] at e1
          obtain ⟨x, e3, rfl⟩ := Option.map_eq_some_iff.mp e1
          exact ⟨x, e3, e2.symm⟩
        obtain ⟨x, hx, rfl⟩ := hv2
        have hmem := List.mem_of_getElem? hx
        have hpos : ∀ (a : Nat) (r : List Int), Chain cs a r → ∀ y ∈ r, 0 ≤ y := by
          intro a r hC
          induction hC with
          | done => simp
          | step _ _ _ _ ih => intro y hy; rcases List.mem_cons.mp hy with rfl | hy; exact Int.natCast_nonneg _; exact ih y hy
        obtain ⟨xa, rfl⟩ := Int.eq_ofNat_of_zero_le (hpos 0 _ C x hmem)
        have H1 := H.ext E (by simp) (by simp) (by simp)
        refine AS.name (by first | exact ⟨rfl, Or.inl rfl⟩ | exact ⟨rfl, Or.inr ⟨rfl, rfl⟩⟩) ?_
        refine SS.let (by first | exact ⟨rfl, Or.inl rfl⟩ | exact ⟨rfl, Or.inr ⟨rfl, rfl⟩⟩) ?_ rfl rfl rfl
        refine EV.def' F.d29 ?_ rfl rfl rfl rfl rfl
        refine Args.p3 (.name rfl) (.name rfl) (.name rfl) ?_
        refine Fn.call (k := 2) ((f29 F (hS xa hmem) H1 (.inr ⟨ep, hd⟩)).mono fun v m1 q => ?_) (by decide)
        obtain ⟨rfl, E1⟩ := q
        refine SS.cons ?_
        refine S1.if ?_
        refine Test.cmp ?_ (by with_unfolding_all rfl)
        refine PE.ev (.name rfl) ?_
        refine PE.ev .noneC ?_
        refine COp.isNotNone ?_
        refine Tru.bool ?_
        refine ite_intro (fun hb => ?_) (fun hb => ?_)
        · cases hb
        refine SS.nil ?_
        refine Cont.next ?_
        exact SS.nil (Turn.next _ (by walk_at "m_lsub") ⟨rfl, E1 _ _ hd (by simp), E.trans E1⟩)
      · clear hd2 E2
        rintro l m ⟨rfl, hd, E⟩
        refine Cont.next ?_
        refine SS.ret ?_
        refine PE.ev .noneC ?_
        exact ⟨rfl, E⟩
end
/-- the pot: what it draws does not matter -/
noncomputable def Pot (m : Mem) (pt sl : Addr) : Prop := ∃ (a : Nat) (seed : Int) (zs : List Int), m pt = some (.list [.ref sl, .int a, .int seed]) ∧ m sl = some (.list (zs.map V.int)) ∧ zs.length ≤ 1000
theorem Pot.ne {m : Mem} {pt sl : Addr} (h : Pot m pt sl) : sl ≠ pt := by
  obtain ⟨a, seed, zs, h1, h2, _⟩ := h
  intro e
  rw [e, h1] at h2
  have := AObj.list.inj (Option.some.inj h2)
  cases zs with
  | nil => simp at this
  | cons z r => simp at this
theorem Pot.ext {m m' : Mem} {md : List Addr} {pt sl : Addr} (h : Pot m pt sl) (E : Ext md m m') (h1 : pt ∉ md) (h2 : sl ∉ md) : Pot m' pt sl := by
  obtain ⟨a, seed, zs, g1, g2, g3⟩ := h
  exact ⟨a, seed, zs, E _ _ g1 h1, E _ _ g2 h2, g3⟩
section
variable {c : Cx} (F : Facts c) {mem : Mem}
include F
theorem f39 (hz : c.si.length ≤ 63) : Fn c 1 (c.fx 39) [.ref c.sl] mem (fun v m => ∃ pt sl, v = .ref pt ∧ Pot m pt sl ∧ mem pt = none ∧ mem sl = none ∧ Ext [] mem m) := by
  refine Fn.of (n := 0) (names := [Str.ofString "script"]) F.d39.is rfl (ar1 fun _ _ _ _ _ _ _ => rfl) (by decide) rfl (by with_unfolding_all decide) rfl rfl rfl fun L cd g => ?_
  refine SS.cons ?_
  refine S1.ret ?_
  refine EV.list ?_
  refine Args.cons ?_ rfl
  refine EV.callT1 F.blist rfl (by decide) ?_ rfl rfl rfl rfl rfl
  refine Args.cons ?_ rfl
  refine EV.sliceScr (y := 63) (by omega) (by omega) ?_
  refine PE.ev (.name rfl) ?_
  refine PE.ev .int ?_
  refine ⟨rfl, rfl, fun b1 h1 => ?_⟩
  refine Args.nil ?_
  refine CallV.listCopy set_self (by simp; omega) fun sl hsl => ?_
  have E1 : Ext [] mem (set (set mem b1 (.list (c.si.map V.int))) sl (.list (c.si.map V.int))) := (Ext.refl.fresh h1).fresh hsl
  have s1 : set (set mem b1 (.list (c.si.map V.int))) sl (.list (c.si.map V.int)) sl = some (.list (c.si.map V.int)) := set_self
  have hsl0 : mem sl = none := (Ext.refl.fresh h1).none hsl
  generalize set (set mem b1 (.list (c.si.map V.int))) sl (.list (c.si.map V.int)) = m1 at E1 s1
  refine Args.cons ?_ rfl
  refine PE.ev .int ?_
  refine Args.cons ?_ rfl
  refine EV.binop ?_
  refine EV.callB1 F.bsum rfl (by decide) ?_ rfl rfl rfl rfl rfl
  refine Args.cons ?_ rfl
  refine EV.listComp (cl := _) ⟨rfl, ?h2, rfl, rfl, by decide, rfl, by decide⟩ ?_
  case h2 => walk_at "m_clin"
  refine EV.sliceScr (y := 63) (by omega) (by omega) ?_
  refine PE.ev (.name rfl) ?_
  refine PE.ev .int ?_
  refine ⟨rfl, rfl, fun b2 h2 => ?_⟩
  have hb2 : set m1 b2 (.list (c.si.map V.int)) b2 = some (.list (c.si.map V.int)) := set_self
  refine ⟨_, _, _, fun i ys m' => ∃ ns : List Int, ys = ns.map V.int ∧ m' = set m1 b2 (.list (c.si.map V.int)), Src.list hb2, by simp; omega, ⟨[], rfl, rfl⟩, fun i ys m' ⟨_, _, e⟩ => by rw [e]; exact hb2, ?_, ?_⟩
  · rintro C i v ys m' hi hv ⟨ns, rfl, rfl⟩
    obtain ⟨w, hw, rfl⟩ := map_get hv
    refine AS.name (by first | exact ⟨rfl, Or.inl rfl⟩ | exact ⟨rfl, Or.inr ⟨rfl, rfl⟩⟩) ?_
    refine Tests.nil (ite_t ?_)
    refine EV.binop ?_
    refine EV.callT1 F.bint rfl (by decide) ?_ rfl rfl rfl rfl rfl
    refine Args.p1 (.name rfl) ?_
    refine CallV.int ?_
    refine PE.ev .int ?_
    refine BOp.mod ?_ (by decide)
    exact ⟨by walk_at "m_lsub", ns ++ [Int.fmod w 1009], by simp, rfl⟩
  rintro ys m' D ⟨ns, rfl, rfl⟩ hD
  refine Args.nil ?_
  refine CallV.sum set_self ?_
  refine PE.ev .int ?_
  refine BOp.add ?_
  refine Args.nil ?_
  refine ⟨by simp, fun pt hpt => ?_⟩
  refine Cont.ret ?_
  have E2 := (E1.fresh (o := .list (c.si.map V.int)) h2).fresh (o := .list (ns.map V.int)) hD
  refine ⟨pt, sl, rfl, ⟨0, _, c.si, set_self, ?_, by omega⟩, E2.none hpt, hsl0, E2.fresh hpt⟩
  exact set_old (set_old (set_old s1 h2) hD) hpt
theorem f40 {pt sl : Addr} {many : Int} (hp : Pot mem pt sl) (h0 : 0 < many) : Fn c 1 (c.fx 40) [.ref pt, .int many] mem (fun v m => ∃ r, v = .int r ∧ 0 ≤ r ∧ r < many ∧ Pot m pt sl ∧ Ext [pt] mem m) := by
  have hne := hp.ne
  obtain ⟨a, seed, zs, h1, h2, hz⟩ := hp
  have hm : ∀ x : Int, 0 ≤ Int.fmod x many ∧ Int.fmod x many < many := fun x => ⟨Int.fmod_nonneg_of_pos x h0, Int.fmod_lt_of_pos x h0⟩
  refine Fn.of (n := 0) (names := [Str.ofString "pot", Str.ofString "many"]) F.d40.is rfl (ar2 fun _ _ _ _ _ _ _ _ => rfl) (by decide) rfl (by with_unfolding_all decide) rfl rfl rfl fun L cd g => ?_
  refine SS.let (by first | exact ⟨rfl, Or.inl rfl⟩ | exact ⟨rfl, Or.inr ⟨rfl, rfl⟩⟩) ?_ rfl rfl rfl
  refine EV.subP (.name rfl) .int ?_
  refine Sub.list h1 (by decide) (by decide) rfl ?_
  refine SS.cons ?_
  refine S1.assign ?_ rfl rfl rfl
  refine PE.ev (.add (.name rfl) .int) ?_
  refine AS.sub ?_ (by intro _; rfl)
  refine PE.ev (.name rfl) ?_
  refine PE.ev .int ?_
  refine SetI.list h1 (by decide) (by decide) (by simp) ?_
  refine Cont.next ?_
  have h3 : set mem pt (.list ([V.ref sl, .int a, .int seed].set (1 : Int).toNat (.int ((a : Int) + 1)))) pt = some (.list [.ref sl, .int ((a + 1 : Nat) : Int), .int seed]) := set_self
  have h4 : set mem pt (.list ([V.ref sl, .int a, .int seed].set (1 : Int).toNat (.int ((a : Int) + 1)))) sl = _ := set_other h2 hne
  have E1 : Ext [pt] mem (set mem pt (.list ([V.ref sl, .int a, .int seed].set (1 : Int).toNat (.int ((a : Int) + 1))))) := Ext.refl.put (by simp)
  generalize set mem pt (.list ([V.ref sl, .int a, .int seed].set (1 : Int).toNat (.int ((a : Int) + 1)))) = m1 at h3 h4 E1
  refine SS.cons ?_
  refine S1.if ?_
  refine Test.cmp ?_ (by with_unfolding_all rfl)
  refine PE.ev (.name rfl) ?_
  refine EV.callB1 F.blen rfl (by decide) ?_ rfl rfl rfl rfl rfl
  refine Args.cons ?_ rfl
  refine EV.subP (.name rfl) .int ?_
  refine Sub.list h3 (by decide) (by decide) rfl ?_
  refine Args.nil ?_
  refine CallV.len h4 (by simp; omega) ?_
  refine COp.ltI ?_
  refine Tru.bool ?_
  refine ite_intro (fun hb => ?_) (fun hb => ?_)
  · have hlt : a < zs.length := by simpa using hb
    refine SS.ret ?_
    refine EV.binop ?_
    refine EV.sub ?_
    refine EV.subP (.name rfl) .int ?_
    refine Sub.list h3 (by decide) (by decide) rfl ?_
    refine PE.ev (.name rfl) ?_
    refine Sub.list (v := .int zs[a]) h4 (by omega) (by omega) (by simp [hlt]) ?_
    refine PE.ev (.name rfl) ?_
    refine BOp.mod ?_ (by omega)
    exact ⟨_, rfl, (hm _).1, (hm _).2, ⟨a + 1, seed, zs, h3, h4, hz⟩, E1⟩
  · refine SS.nil ?_
    refine Cont.next ?_
    refine SS.cons ?_
    refine S1.assign ?_ rfl rfl rfl
    refine EV.binop ?_
    refine EV.binop ?_
    refine EV.binop ?_
    refine EV.subP (.name rfl) .int ?_
    refine Sub.list h3 (by decide) (by decide) rfl ?_
    refine PE.ev .int ?_
    refine BOp.mul ?_ (by decide)
    refine PE.ev .int ?_
    refine BOp.add ?_
    refine PE.ev .int ?_
    refine BOp.mod ?_ (by decide)
    refine AS.sub ?_ (by intro _; rfl)
    refine PE.ev (.name rfl) ?_
    refine PE.ev .int ?_
    refine SetI.list h3 (by decide) (by decide) (by simp) ?_
    refine Cont.next ?_
    generalize hs : Int.fmod (seed * 75 + 74) 65537 = seed'
    have h5 : set m1 pt (.list ([V.ref sl, .int ((a + 1 : Nat) : Int), .int seed].set (2 : Int).toNat (.int seed'))) pt = some (.list [.ref sl, .int ((a + 1 : Nat) : Int), .int seed']) := set_self
    have h6 : set m1 pt (.list ([V.ref sl, .int ((a + 1 : Nat) : Int), .int seed].set (2 : Int).toNat (.int seed'))) sl = _ := set_other h4 hne
    have E2 : Ext [pt] mem (set m1 pt (.list ([V.ref sl, .int ((a + 1 : Nat) : Int), .int seed].set (2 : Int).toNat (.int seed')))) := E1.put (by simp)
    generalize set m1 pt (.list ([V.ref sl, .int ((a + 1 : Nat) : Int), .int seed].set (2 : Int).toNat (.int seed'))) = m2 at h5 h6 E2
    refine SS.ret ?_
    refine EV.binop ?_
    refine EV.subP (.name rfl) .int ?_
    refine Sub.list h5 (by decide) (by decide) rfl ?_
    refine PE.ev (.name rfl) ?_
    refine BOp.mod ?_ (by omega)
    exact ⟨_, rfl, (hm _).1, (hm _).2, ⟨a + 1, seed', zs, h5, h6, hz⟩, E2⟩
theorem f41 {B pl : Addr} {kind : Int} {bvs pvs : List V} (hB : mem B = some (.list bvs)) (hp : mem pl = some (.list pvs)) (hz : bvs.length ≤ 1000) (hz2 : pvs.length ≤ 1000) :
    Fn c 1 (c.fx 41) [.ref B, .int kind, .ref pl] mem (fun v m => ∃ t b p, v = .ref t ∧ mem t = none ∧ mem b = none ∧ mem p = none ∧ b ≠ p ∧ m t = some (.tup [.int 1, .int bvs.length]) ∧ m b = some (.list [.int kind, .ref p]) ∧ m p = some (.list pvs) ∧ m B = some (.list (bvs ++ [.ref b])) ∧ Ext [B] mem m) := by
  refine Fn.of (n := 0) (names := [Str.ofString "blocks", Str.ofString "kind", Str.ofString "parts"]) F.d41.is rfl (ar3 fun _ _ _ _ _ _ _ _ _ => rfl) (by decide) rfl (by with_unfolding_all decide) rfl rfl rfl fun L cd g => ?_
  refine SS.cons ?_
  refine S1.expr ?_ rfl rfl
  refine EV.lmeth1 PySem.F.slot_list_append rfl ?_ rfl rfl rfl
  refine PE.ev (.name rfl) ?_
  refine ⟨_, _, rfl, hB, ?_⟩
  refine Args.cons ?_ rfl
  refine EV.list ?_
  refine Args.cons ?_ rfl
  refine PE.ev (.name rfl) ?_
  refine Args.cons ?_ rfl
  refine EV.callT1 F.blist rfl (by decide) ?_ rfl rfl rfl rfl rfl
  refine Args.p1 (.name rfl) ?_
  refine CallV.listCopy hp (by omega) fun p hpf => ?_
  refine Args.nil ?_
  refine ⟨by simp, fun b hbf => ?_⟩
  refine Args.nil ?_
  have E1 : Ext [] mem (set (set mem p (.list pvs)) b (.list [.int kind, .ref p])) := (Ext.refl.fresh hpf).fresh hbf
  have hb0 : mem b = none := (Ext.refl.fresh hpf).none hbf
  have hB1 : set (set mem p (.list pvs)) b (.list [.int kind, .ref p]) B = _ := set_old (set_old hB hpf) hbf
  have hb1 : set (set mem p (.list pvs)) b (.list [.int kind, .ref p]) b = some (.list [.int kind, .ref p]) := set_self
  have hp1 : set (set mem p (.list pvs)) b (.list [.int kind, .ref p]) p = some (.list pvs) := set_old set_self hbf
  have hbp : b ≠ p := fun e => by rw [e, set_self] at hbf; cases hbf
  generalize set (set mem p (.list pvs)) b (.list [.int kind, .ref p]) = m1 at E1 hB1 hb1 hp1
  refine MethB.append hB1 (by omega) ?_
  refine ⟨rfl, Cont.next ?_⟩
  have hbB : b ≠ B := fun e => by rw [e, hB] at hb0; cases hb0
  have hpB : p ≠ B := fun e => by rw [e, hB] at hpf; cases hpf
  have E2 : Ext [B] mem (set m1 B (.list (bvs ++ [.ref b]))) := (E1.more (by simp)).put (by simp)
  have hB2 : set m1 B (.list (bvs ++ [.ref b])) B = some (.list (bvs ++ [.ref b])) := set_self
  have hb2 := set_other (o := .list (bvs ++ [.ref b])) hb1 hbB
  have hp2 := set_other (o := .list (bvs ++ [.ref b])) hp1 hpB
  generalize set m1 B (.list (bvs ++ [.ref b])) = m2 at E2 hB2 hb2 hp2
  refine SS.ret ?_
  refine EV.tuple ?_
  refine Args.cons ?_ rfl
  refine PE.ev .int ?_
  refine Args.cons ?_ rfl
  refine EV.binop ?_
  refine EV.callB1 F.blen rfl (by decide) ?_ rfl rfl rfl rfl rfl
  refine Args.p1 (.name rfl) ?_
  refine CallV.len hB2 (by simp; omega) ?_
  refine PE.ev .int ?_
  refine BOp.sub ?_
  refine Args.nil ?_
  refine ⟨by simp, fun t ht => ?_⟩
  refine ⟨t, b, p, rfl, ?_, hb0, hpf, hbp, ?_, set_old hb2 ht, set_old hp2 ht, set_old hB2 ht, E2.fresh ht⟩
  · cases e : mem t with
    | none => rfl
    | some o =>
      by_cases htB : t = B
      · rw [htB, hB2] at ht; cases ht
      · rw [E2 _ _ e (by simpa using htB)] at ht; cases ht
  · rw [set_self]; simp
end
abbrev Part := Int × Int
abbrev Blk := Int × List Part
inductive TupsAt (m : Mem) : List V → List Part → Prop
  | nil : TupsAt m [] []
  | cons {a : Addr} {p : Part} {ts : List V} {ps : List Part} : m a = some (.tup [.int p.1, .int p.2]) → TupsAt m ts ps → TupsAt m (.ref a :: ts) (p :: ps)
theorem TupsAt.length {m : Mem} {ts : List V} {ps : List Part} (h : TupsAt m ts ps) : ts.length = ps.length := by
  induction h with
  | nil => rfl
  | cons _ _ ih => simp [ih]
theorem TupsAt.get {m : Mem} {ts : List V} {ps : List Part} (h : TupsAt m ts ps) : ∀ {i : Nat} {v : V}, ts[i]? = some v → ∃ a p, v = .ref a ∧ ps[i]? = some p ∧ m a = some (.tup [.int p.1, .int p.2]) := by
  induction h with
  | nil => intro i v e; simp at e
  | @cons a p ts ps ha _ ih =>
    intro i v e
    cases i with
    | zero => simp at e; subst e; exact ⟨a, p, rfl, by simp, ha⟩
    | succ j => simp at e; simpa using ih e
theorem TupsAt.get' {m : Mem} {ts : List V} {ps : List Part} (h : TupsAt m ts ps) {i : Nat} {p : Part} (hp : ps[i]? = some p) : ∃ a, ts[i]? = some (.ref a) ∧ m a = some (.tup [.int p.1, .int p.2]) := by
  have hl := h.length
  have hi := (List.getElem?_eq_some_iff.mp hp).1
  obtain ⟨a, p', e1, e2, e3⟩ := h.get (v := ts[i]'(by omega)) (List.getElem?_eq_getElem (by omega))
  rw [hp] at e2; cases e2
  exact ⟨a, by rw [List.getElem?_eq_getElem (by omega), e1], e3⟩
theorem TupsAt.ext {m m' : Mem} {md : List Addr} {ts : List V} {ps : List Part} (h : TupsAt m ts ps) (E : Ext md m m') (hm : ∀ b ∈ md, ∀ vs, m b ≠ some (.tup vs)) : TupsAt m' ts ps := by
  induction h with
  | nil => exact .nil
  | cons ha _ ih => exact .cons (E _ _ ha fun hb => hm _ hb _ ha) ih
theorem TupsAt.set {m : Mem} {ts : List V} {ps : List Part} (h : TupsAt m ts ps) {a : Addr} {p : Part} (ha : m a = some (.tup [.int p.1, .int p.2])) : ∀ i, TupsAt m (ts.set i (.ref a)) (ps.set i p) := by
  induction h with
  | nil => intro i; exact .nil
  | cons hb _ ih =>
    intro i
    cases i with
    | zero => exact .cons ha (by assumption)
    | succ j => exact .cons hb (ih j)
/-- the blocks of the world -/
structure Blks (m : Mem) (B : Addr) (bas : List (Addr × Addr)) (bl : List Blk) : Prop where
  b : m B = some (.list (bas.map fun x => V.ref x.1))
  len : bas.length = bl.length
  at' : ∀ (i : Nat) (x : Addr × Addr) (k : Blk), bas[i]? = some x → bl[i]? = some k → m x.1 = some (.list [.int k.1, .ref x.2]) ∧ ∃ ts, m x.2 = some (.list ts) ∧ TupsAt m ts k.2
theorem Blks.get {m : Mem} {B : Addr} {bas : List (Addr × Addr)} {bl : List Blk} (H : Blks m B bas bl) {i : Nat} {k : Blk} (hk : bl[i]? = some k) :
    ∃ x : Addr × Addr, bas[i]? = some x ∧ (bas.map fun x => V.ref x.1)[i]? = some (.ref x.1) ∧ m x.1 = some (.list [.int k.1, .ref x.2]) ∧ ∃ ts, m x.2 = some (.list ts) ∧ TupsAt m ts k.2 := by
  have hi := (List.getElem?_eq_some_iff.mp hk).1
  have hb : bas[i]? = some (bas[i]'(by rw [H.len]; exact hi)) := List.getElem?_eq_getElem _
  exact ⟨_, hb, by rw [List.getElem?_map, hb]; rfl, H.at' i _ k hb hk⟩
theorem Blks.ext0 {m m' : Mem} {B : Addr} {bas : List (Addr × Addr)} {bl : List Blk} (H : Blks m B bas bl) (E : Ext [] m m') : Blks m' B bas bl :=
  ⟨E _ _ H.b (by simp), H.len, fun i x k h1 h2 => by
    obtain ⟨g1, ts, g2, g3⟩ := H.at' i x k h1 h2
    exact ⟨E _ _ g1 (by simp), ts, E _ _ g2 (by simp), g3.ext E (by simp)⟩⟩
noncomputable def refsOf (ps : List Part) : List Int := (ps.filter (·.1 == 1)).map (·.2)
theorem refsOf_take {ps : List Part} {i : Nat} {p : Part} (h : ps[i]? = some p) : refsOf (ps.take (i + 1)) = refsOf (ps.take i) ++ (if p.1 == 1 then [p.2] else []) := by
  unfold refsOf
  rw [List.take_succ, h, List.filter_append, List.map_append]
  congr 1
  cases hb : (p.1 == 1) <;> simp [hb]
theorem refsOf_len (ps : List Part) : (refsOf ps).length ≤ ps.length := by
  unfold refsOf; rw [List.length_map]; exact List.length_filter_le _ _
/-- the loop of _law_reached -/
inductive RL (bl : List Blk) : Nat → List Bool → List Int → List Bool → Prop
  | done {f : List Bool} : RL bl 0 f [] f
  | seen {k p : Nat} {f f' : List Bool} {wt : List Int} : f[p]? = some true → wt.length ≤ 10000 → RL bl k f wt f' → RL bl (k + 1) f (wt ++ [(p : Int)]) f'
  | new {k p : Nat} {b : Blk} {f f' : List Bool} {wt : List Int} : f[p]? = some false → bl[p]? = some b → wt.length + b.2.length ≤ 10000 → b.2.length ≤ 1000 → RL bl k (f.set p true) (wt ++ refsOf b.2) f' → RL bl (k + 1) f (wt ++ [(p : Int)]) f'
section
variable {c : Cx} {n : Nat} {env : Frm} {cenv : Env} {loc : Loc} {mem : Mem} {P : Loc → Mem → Prop}
theorem ASs.cons {t : Expr} {ts : List Expr} {v : V} {vs : List V} (h : AS c n env cenv t v loc mem (fun l m => ASs c n env cenv ts vs l m P)) : ASs c n env cenv (t :: ts) (v :: vs) loc mem P := h
theorem ASs.nil {vs : List V} (h : P loc mem) : ASs c n env cenv [] vs loc mem P := h
end
section
variable {c : Cx} (F : Facts c) {mem : Mem}
include F
theorem f42 {B hl : Addr} {bas : List (Addr × Addr)} {bl : List Blk} {hts : List V} {held : List Part} {k : Nat} {f' : List Bool} (HB : Blks mem B bas bl) (hh : mem hl = some (.list hts)) (HT : TupsAt mem hts held) (hz : bl.length ≤ 1000) (hz2 : held.length ≤ 1000)
    (M : RL bl k (List.replicate bl.length false) (refsOf held) f') : Fn c 2 (c.fx 42) [.ref B, .ref hl] mem (fun v m => ∃ r, v = .ref r ∧ mem r = none ∧ m r = some (.list (((List.range bl.length).filter fun p => f'.getD p false).map fun (p : Nat) => V.int (p : Int))) ∧ Ext [] mem m) := by
  have htl := HT.length
  have hbl := HB.len
  refine Fn.of (n := 1) (names := [Str.ofString "blocks", Str.ofString "held"]) F.d42.is rfl (ar2 fun _ _ _ _ _ _ _ _ => rfl) (by decide) rfl (by with_unfolding_all decide) rfl rfl rfl fun L cd g => ?_
  refine SS.let (by first | exact ⟨rfl, Or.inl rfl⟩ | exact ⟨rfl, Or.inr ⟨rfl, rfl⟩⟩) ?_ rfl rfl rfl
  refine EV.binop ?_
  refine EV.list ?_
  refine Args.p1 .boolC ?_
  refine ⟨by simp, fun a1 h1 => ?_⟩
  refine EV.callB1 F.blen rfl (by decide) ?_ rfl rfl rfl rfl rfl
  refine Args.p1 (.name rfl) ?_
  refine CallV.len (set_old HB.b h1) (by simp; omega) ?_
  refine BOp.rep set_self (by omega) (by simp; omega) fun fa hfa => ?_
  have E1 : Ext [] mem (set (set mem a1 (.list [.bool false])) fa (.list (List.replicate ((((bas.map fun x => V.ref x.1)).length : Int)).toNat (.bool false)))) := (Ext.refl.fresh h1).fresh hfa
  have f1 : set (set mem a1 (.list [.bool false])) fa (.list (List.replicate ((((bas.map fun x => V.ref x.1)).length : Int)).toNat (.bool false))) fa = some (.list ((List.replicate bl.length false).map V.bool)) := by
    rw [set_self]; simp [hbl]
  have hfa0 : mem fa = none := (Ext.refl.fresh h1).none hfa
  generalize set (set mem a1 (.list [.bool false])) fa (.list (List.replicate ((((bas.map fun x => V.ref x.1)).length : Int)).toNat (.bool false))) = m1 at E1 f1
  refine SS.cons ?_
  refine S1.assignComp (cl := _) ⟨rfl, ?h2, rfl, rfl, by decide, rfl, by decide⟩ (by first | exact ⟨rfl, Or.inl rfl⟩ | exact ⟨rfl, Or.inr ⟨rfl, rfl⟩⟩) ?_ rfl
  case h2 => walk_at "m_clin"
  refine PE.ev (.name rfl) ?_
  have hh1 := E1 _ _ hh (by simp)
  have HT1 := HT.ext E1 (by simp)
  refine ⟨_, _, _, fun i ys m' => ys = (refsOf (held.take i)).map V.int ∧ m' = m1, Src.list hh1, by omega, ⟨rfl, rfl⟩, fun i ys m' ⟨_, e⟩ => by rw [e]; exact hh1, ?_, ?_⟩
  · rintro C i v ys m' hi hv ⟨rfl, rfl⟩
    obtain ⟨a, p, rfl, hp, ha⟩ := HT1.get hv
    have ht := refsOf_take hp
    refine AS.tuple ha rfl ?_
    refine ASs.cons ?_
    refine AS.name (by first | exact ⟨rfl, Or.inl rfl⟩ | exact ⟨rfl, Or.inr ⟨rfl, rfl⟩⟩) ?_
    refine ASs.cons ?_
    refine AS.name (by first | exact ⟨rfl, Or.inl rfl⟩ | exact ⟨rfl, Or.inr ⟨rfl, rfl⟩⟩) ?_
    refine ASs.nil ?_
    refine Tests.one ?_
    refine Test.eqI (.name rfl) .int (by with_unfolding_all rfl) ?_
    refine ite_intro (fun hb => ?_) (fun hb => ?_)
    · refine PE.ev (.name rfl) ?_
      exact ⟨by walk_at "m_lsub", by rw [ht, if_pos hb]; simp, rfl⟩
    · exact ⟨by walk_at "m_lsub", by rw [ht, if_neg (by rw [hb]; decide)]; simp, rfl⟩
  rintro ys m' wa ⟨rfl, rfl⟩ hwa
  rw [List.take_of_length_le (by omega)]
  refine Cont.next ?_
  have E2 := E1.fresh (o := .list ((refsOf held).map V.int)) hwa
  have f2 := set_old (o := .list ((refsOf held).map V.int)) f1 hwa
  have hw2 : set m' wa (.list ((refsOf held).map V.int)) wa = some (.list ((refsOf held).map V.int)) := set_self
  have hwa0 := E1.none hwa
  have hfw : fa ≠ wa := ne_fresh f1 hwa
  generalize set m' wa (.list ((refsOf held).map V.int)) = m2 at E2 f2 hw2
  clear E1 f1 hwa hh1 HT1 hfa
  have hfl : (List.replicate bl.length false).length = bl.length := by simp
  refine SS.cons ?_
  refine S1.while (loc0 := [(Str.ofString "blocks", .ref B), (Str.ofString "found", .ref fa), (Str.ofString "waiting", .ref wa)])
    (fun k l m => ∃ f wt, l = [(Str.ofString "blocks", .ref B), (Str.ofString "found", .ref fa), (Str.ofString "waiting", .ref wa)] ∧ f.length = bl.length ∧ m fa = some (.list (f.map V.bool)) ∧ m wa = some (.list (wt.map V.int)) ∧ RL bl k f wt f' ∧ Ext [] mem m)
    k (by walk_at "m_lsub") ⟨_, _, rfl, hfl, f2, hw2, M, E2⟩ ?_
  clear f2 hw2 E2 M hfl
  rintro k l m ⟨f, wt, rfl, hfl, hf, hw, M, E⟩
  refine Test.cmp ?_ (by with_unfolding_all rfl)
  refine PE.ev (.name rfl) ?_
  refine EV.list ?_
  refine Args.nil ?_
  refine ⟨by simp, fun ea hea => ?_⟩
  refine COp.neNil (set_old hw hea) set_self ?_
  refine Tru.bool ?_
  have E0 := E.fresh (o := .list []) hea
  have hf0 := set_old (o := .list []) hf hea
  have hw0 := set_old (o := .list []) hw hea
  generalize set m ea (.list []) = m0 at E0 hf0 hw0
  clear E hf hw hea
  refine ite_intro (fun hb => ?_) (fun hb => ?_)
  · have pop : ∃ p : Nat, ∃ wt0, wt = wt0 ++ [(p : Int)] ∧ wt0.length ≤ 10000 ∧ ((f[p]? = some true ∧ ∃ k', k' < k ∧ RL bl k' f wt0 f') ∨ ∃ b, f[p]? = some false ∧ bl[p]? = some b ∧ wt0.length + b.2.length ≤ 10000 ∧ b.2.length ≤ 1000 ∧ ∃ k', k' < k ∧ RL bl k' (f.set p true) (wt0 ++ refsOf b.2) f') := by
      cases M with
      | done => simp at hb
      | @seen k p _ _ wt h1 h2 h3 => exact ⟨p, wt, rfl, h2, .inl ⟨h1, k, by omega, h3⟩⟩
      | @new k p b _ _ wt h1 h2 h3 h4 h5 => exact ⟨p, wt, rfl, by omega, .inr ⟨b, h1, h2, h3, h4, k, by omega, h5⟩⟩
    clear M hb
    obtain ⟨p, wt, rfl, hz3, M⟩ := pop
    refine SS.let (by first | exact ⟨rfl, Or.inl rfl⟩ | exact ⟨rfl, Or.inr ⟨rfl, rfl⟩⟩) ?_ rfl rfl rfl
    refine EV.lmeth0 PySem.F.slot_list_pop rfl ?_ rfl
    refine PE.ev (.name rfl) ?_
    refine ⟨_, _, rfl, by walk_at "m_look", ?_⟩
    rw [List.map_append, List.map_singleton] at hw0
    refine MethB.pop hw0 (by simp; omega) ?_
    have E := E0.own (o := .list (wt.map V.int)) hwa0
    have hf := set_other (o := .list (wt.map V.int)) hf0 hfw
    have hw : set m0 wa (.list (wt.map V.int)) wa = some (.list (wt.map V.int)) := set_self
    generalize set m0 wa (.list (wt.map V.int)) = m at E hf hw
    clear E0 hf0 hw0
    have HB1 := HB.ext0 E
    have hfp : ∃ t, f[p]? = some t ∧ p < f.length := by
      rcases M with ⟨h, _⟩ | ⟨_, h, _⟩ <;> exact ⟨_, h, (List.getElem?_eq_some_iff.mp h).1⟩
    obtain ⟨t, hft, hpl⟩ := hfp
    refine SS.cons ?_
    refine S1.if ?_
    refine Test.not ?_
    refine Test.plain ?_ rfl
    refine EV.subP (.name rfl) (.name rfl) ?_
    refine Sub.list (v := .bool t) hf (by omega) (by omega) (by rw [List.getElem?_map, Int.toNat_natCast, hft]; rfl) ?_
    refine Tru.bool ?_
    refine ite_intro (fun hb => ?_) (fun hb => ?_)
    · rcases M with ⟨h, _⟩ | ⟨b, h, hbb, hz4, hz5, k', hk', M⟩
      · rw [hft] at h; cases h; cases hb
      obtain ⟨x, hx1, hx2, hx3, ts, hx4, hx5⟩ := HB1.get hbb
      have htsl := hx5.length
      refine SS.cons ?_
      refine S1.assign ?_ rfl rfl rfl
      refine PE.ev .boolC ?_
      refine AS.sub ?_ (by intro _; rfl)
      refine PE.ev (.name rfl) ?_
      refine PE.ev (.name rfl) ?_
      refine SetI.list hf (by omega) (by omega) (by simp; omega) ?_
      refine Cont.next ?_
      have E2 := E.own (o := .list ((f.map V.bool).set ((p : Int)).toNat (.bool true))) hfa0
      have hf2 : set m fa (.list ((f.map V.bool).set ((p : Int)).toNat (.bool true))) fa = some (.list ((f.set p true).map V.bool)) := by rw [set_self]; simp [List.map_set]
      have hw2 := set_other (o := .list ((f.map V.bool).set ((p : Int)).toNat (.bool true))) hw (Ne.symm hfw)
      generalize set m fa (.list ((f.map V.bool).set ((p : Int)).toNat (.bool true))) = m2 at E2 hf2 hw2
      have HB2 := HB.ext0 E2
      obtain ⟨x2, hx1', hx2, hx3, ts, hx4, hx5⟩ := HB2.get hbb
      have htsl := hx5.length
      refine SS.cons ?_
      refine S1.expr ?_ rfl rfl
      refine EV.lmeth1 PySem.F.slot_list_extend rfl ?_ rfl rfl rfl
      refine PE.ev (.name rfl) ?_
      refine ⟨_, _, rfl, hw2, ?_⟩
      refine Args.cons ?_ rfl
      refine EV.listComp (cl := _) ⟨rfl, ?h2, rfl, rfl, by decide, rfl, by decide⟩ ?_
      case h2 => walk_at "m_clin"
      refine EV.sub ?_
      refine EV.subP (.name rfl) (.name rfl) ?_
      refine Sub.list HB2.b (by omega) (by omega) (by rw [Int.toNat_natCast]; exact hx2) ?_
      refine PE.ev .int ?_
      refine Sub.list hx3 (by decide) (by decide) rfl ?_
      refine ⟨_, _, _, fun i ys m' => ys = (refsOf (b.2.take i)).map V.int ∧ m' = m2, Src.list hx4, by omega, ⟨rfl, rfl⟩, fun i ys m' ⟨_, e⟩ => by rw [e]; exact hx4, ?_, ?_⟩
      · rintro C i v ys m' hi hv ⟨rfl, rfl⟩
        obtain ⟨a, q, rfl, hq, ha⟩ := hx5.get hv
        have ht := refsOf_take hq
        refine AS.tuple ha rfl ?_
        refine ASs.cons ?_
        refine AS.name (by first | exact ⟨rfl, Or.inl rfl⟩ | exact ⟨rfl, Or.inr ⟨rfl, rfl⟩⟩) ?_
        refine ASs.cons ?_
        refine AS.name (by first | exact ⟨rfl, Or.inl rfl⟩ | exact ⟨rfl, Or.inr ⟨rfl, rfl⟩⟩) ?_
        refine ASs.nil ?_
        refine Tests.one ?_
        refine Test.eqI (.name rfl) .int (by with_unfolding_all rfl) ?_
        refine ite_intro (fun hb => ?_) (fun hb => ?_)
        · refine PE.ev (.name rfl) ?_
          exact ⟨by walk_at "m_lsub", by rw [ht, if_pos hb]; simp, rfl⟩
        · exact ⟨by walk_at "m_lsub", by rw [ht, if_neg (by rw [hb]; decide)]; simp, rfl⟩
      rintro ys m' ra ⟨rfl, rfl⟩ hra
      rw [List.take_of_length_le (by omega)]
      refine Args.nil ?_
      have hrl := refsOf_len b.2
      have hw3 := set_old (o := .list ((refsOf b.2).map V.int)) hw2 hra
      have hf3 := set_old (o := .list ((refsOf b.2).map V.int)) hf2 hra
      have E3 := E2.fresh (o := .list ((refsOf b.2).map V.int)) hra
      have hr3 : set m' ra (.list ((refsOf b.2).map V.int)) ra = some (.list ((refsOf b.2).map V.int)) := set_self
      generalize set m' ra (.list ((refsOf b.2).map V.int)) = m3 at E3 hf3 hw3 hr3
      refine MethB.extend hw3 hr3 (by simp; omega) ?_
      refine ⟨rfl, Cont.next ?_⟩
      have hw4 : set m3 wa (.list (wt.map V.int ++ (refsOf b.2).map V.int)) wa = some (.list ((wt ++ refsOf b.2).map V.int)) := by rw [set_self]; simp
      have hf4 := set_other (o := .list (wt.map V.int ++ (refsOf b.2).map V.int)) hf3 hfw
      have E4 := E3.own (o := .list (wt.map V.int ++ (refsOf b.2).map V.int)) hwa0
      exact SS.nil (Cont.next (SS.nil (Turn.next _ (by walk_at "m_lsub") ⟨k', hk', f.set p true, _, rfl, by simp [hfl], hf4, hw4, M, E4⟩)))
    · rcases M with ⟨h, k', hk', M⟩ | ⟨b, h, _⟩
      · exact SS.nil (Cont.next (SS.nil (Turn.next _ (by walk_at "m_lsub") ⟨k', hk', f, wt, rfl, hfl, hf, hw, M, E⟩)))
      · rw [hft] at h; cases h; cases hb
  · cases M with
    | seen => simp at hb
    | new => simp at hb
    | done =>
    refine Cont.next ?_
    refine SS.cons ?_
    refine S1.ret ?_
    refine EV.listComp (cl := _) ⟨rfl, ?h2, rfl, rfl, by decide, rfl, by decide⟩ ?_
    case h2 => walk_at "m_clin"
    refine EV.callT1 F.brange rfl (by decide) ?_ rfl rfl rfl rfl rfl
    refine Args.cons ?_ rfl
    refine EV.callB1 F.blen rfl (by decide) ?_ rfl rfl rfl rfl rfl
    refine Args.p1 (.name rfl) ?_
    refine CallV.len (HB.ext0 E0).b (by simp; omega) ?_
    refine Args.nil ?_
    refine CallV.range1 fun r hr => ?_
    have hfr := set_old (o := .range 0 ((bas.map fun x => V.ref x.1).length : Nat)) hf0 hr
    have Er := E0.fresh (o := .range 0 ((bas.map fun x => V.ref x.1).length : Nat)) hr
    have hrr : set m0 r (.range 0 ((bas.map fun x => V.ref x.1).length : Nat)) r = some (.range 0 ((bas.map fun x => V.ref x.1).length : Nat)) := set_self
    generalize set m0 r (.range 0 ((bas.map fun x => V.ref x.1).length : Nat)) = mr at hfr Er hrr
    refine ⟨bl.length, _, fun _ => True, fun i ys m' => ys = (((List.range i).filter fun p => f'.getD p false).map fun (p : Nat) => V.int (p : Int)) ∧ m' = mr, Src.rangeN hrr (by simp [hbl]) (by omega) (by omega) (by omega), by omega, ⟨rfl, rfl⟩, fun _ _ _ _ => trivial, ?_, ?_⟩
    · rintro C i v ys m' hi hv ⟨rfl, rfl⟩
      obtain rfl := range_item hi hv
      rw [Int.zero_add]
      have hif : i < f'.length := by omega
      have hg : f'.getD i false = f'[i] := by rw [List.getD_eq_getElem?_getD, List.getElem?_eq_getElem hif]; rfl
      have hrs : ((List.range (i + 1)).filter fun p => f'.getD p false) = ((List.range i).filter fun p => f'.getD p false) ++ (if f'[i] then [i] else []) := by
        rw [List.range_succ, List.filter_append]
        congr 1
        rw [List.filter_cons, hg, List.filter_nil]
      refine AS.name (by first | exact ⟨rfl, Or.inl rfl⟩ | exact ⟨rfl, Or.inr ⟨rfl, rfl⟩⟩) ?_
      refine Tests.one ?_
      refine Test.plain ?_ rfl
      refine EV.subP (.name rfl) (.name rfl) ?_
      refine Sub.list (v := .bool f'[i]) hfr (by omega) (by omega) (by simp [hif]) ?_
      refine Tru.bool ?_
      refine ite_intro (fun hb => ?_) (fun hb => ?_)
      · refine PE.ev (.name rfl) ?_
        exact ⟨by walk_at "m_lsub", by rw [hrs, if_pos hb]; simp, rfl⟩
      · exact ⟨by walk_at "m_lsub", by rw [hrs, if_neg (by rw [hb]; decide)]; simp, rfl⟩
    rintro ys m' r2 ⟨rfl, rfl⟩ hr2
    refine Cont.ret ?_
    exact ⟨r2, rfl, Er.none hr2, set_self, Er.fresh hr2⟩
end
theorem fmod_ref (a : Nat) : Int.fmod ((a : Int) * 8 + 1) 8 = 1 := by rw [Int.fmod_eq_emod_of_nonneg _ (by decide)]; omega
theorem fdiv_ref (a : Nat) : Int.fdiv ((a : Int) * 8 + 1) 8 = a := by rw [Int.fdiv_eq_ediv_of_nonneg _ (by decide)]; omega
noncomputable def GoodP (D : Int → Option Nat) (w : Int) (q : Part) : Prop := (q.1 = 0 ∧ w = q.2) ∨ (q.1 = 1 ∧ ∃ a : Nat, D q.2 = some a ∧ w = (a : Int) * 8 + 1)
/-- the heap is like the world -/
structure Like (D : Int → Option Nat) (cs : List Int) (bl : List Blk) : Prop where
  blk : ∀ o a, D o = some a → ∃ p : Nat, o = p ∧ ∃ (b : Blk) (hd : Int), bl[p]? = some b ∧ cs[a]? = some hd ∧ (Int.fmod hd 8 == 5) = true ∧ Int.fmod (Int.fdiv hd 8) 16 = b.1 ∧ Int.fdiv (Int.fdiv hd 8) 16 = b.2.length ∧ b.2.length ≤ 100 ∧
    ∀ (j : Nat) (q : Part), b.2[j]? = some q → ∃ w, cs[a + 1 + j]? = some w ∧ GoodP D w q
  inj : ∀ o o' a, D o = some a → D o' = some a → o = o'
inductive PairsAt (m : Mem) : List V → List (Int × Part) → Prop
  | nil : PairsAt m [] []
  | cons {a t : Addr} {pr : Int × Part} {vs : List V} {prs : List (Int × Part)} : m a = some (.tup [.int pr.1, .ref t]) → m t = some (.tup [.int pr.2.1, .int pr.2.2]) → PairsAt m vs prs → PairsAt m (.ref a :: vs) (pr :: prs)
theorem PairsAt.ext {m m' : Mem} {vs : List V} {prs : List (Int × Part)} (h : PairsAt m vs prs) (E : Ext [] m m') : PairsAt m' vs prs := by
  induction h with
  | nil => exact .nil
  | cons h1 h2 _ ih => exact .cons (E _ _ h1 (by simp)) (E _ _ h2 (by simp)) ih
theorem PairsAt.append {m : Mem} {vs us : List V} {prs qrs : List (Int × Part)} (h : PairsAt m vs prs) (g : PairsAt m us qrs) : PairsAt m (vs ++ us) (prs ++ qrs) := by
  induction h with
  | nil => exact g
  | cons h1 h2 _ ih => exact .cons h1 h2 ih
theorem PairsAt.length {m : Mem} {vs : List V} {prs : List (Int × Part)} (h : PairsAt m vs prs) : vs.length = prs.length := by
  induction h with
  | nil => rfl
  | cons _ _ _ ih => simp [ih]
theorem PairsAt.snoc {m : Mem} {vs : List V} {prs : List (Int × Part)} (h : PairsAt m vs prs) : vs = [] ∧ prs = [] ∨ ∃ vs0 a t prs0 pr, vs = vs0 ++ [.ref a] ∧ prs = prs0 ++ [pr] ∧ PairsAt m vs0 prs0 ∧ m a = some (.tup [.int pr.1, .ref t]) ∧ m t = some (.tup [.int pr.2.1, .int pr.2.2]) := by
  induction h with
  | nil => exact .inl ⟨rfl, rfl⟩
  | @cons a t pr vs prs h1 h2 h3 ih =>
    right
    rcases ih with ⟨rfl, rfl⟩ | ⟨vs0, a', t', prs0, pr', rfl, rfl, g1, g2, g3⟩
    · exact ⟨[], a, t, [], pr, rfl, rfl, .nil, h1, h2⟩
    · exact ⟨.ref a :: vs0, a', t', pr :: prs0, pr', rfl, rfl, .cons h1 h2 g1, g2, g3⟩
/-- the pairs that list(zip(..)) made -/
theorem zipPairs {m : Mem} {r : Addr} {as : List Addr} {ws : List Int} {hts : List V} {hs : List Part} (HT : TupsAt m hts hs) (h1 : as.length = ws.length) (h2 : ws.length = hs.length) (hr : m r = none) (ha : ∀ a ∈ as, m a = none) (hn : as.Nodup) (hra : r ∉ as) (o : AObj) :
    Ext [] m (set (setTups m as (ws.map V.int) hts) r o) ∧ PairsAt (set (setTups m as (ws.map V.int) hts) r o) (as.map V.ref) (ws.zip hs) := by
  have E : Ext [] m (set (setTups m as (ws.map V.int) hts) r o) := fun b x e _ => by
    have h1 : b ≠ r := fun q => by rw [q, hr] at e; cases e
    have h2 : b ∉ as := fun q => by rw [ha b q] at e; cases e
    rw [set_ne h1, setTups_off h2]; exact e
  refine ⟨E, ?_⟩
  have HT' := HT.ext E (by simp)
  have key : ∀ (as' : List Addr) (ws' : List Int) (hts' : List V) (hs' : List Part), as'.length = ws'.length → ws'.length = hs'.length → TupsAt (set (setTups m as (ws.map V.int) hts) r o) hts' hs' →
      (∀ (j : Nat) (a : Addr) (u w : V), as'[j]? = some a → (ws'.map V.int)[j]? = some u → hts'[j]? = some w → (set (setTups m as (ws.map V.int) hts) r o) a = some (.tup [u, w])) → PairsAt (set (setTups m as (ws.map V.int) hts) r o) (as'.map V.ref) (ws'.zip hs') := by
    intro as'
    induction as' with
    | nil => intro ws' hts' hs' g1 g2 g3 g4; cases ws' with
      | nil => exact .nil
      | cons => simp at g1
    | cons a as' ih =>
      intro ws' hts' hs' g1 g2 g3 g4
      cases ws' with
      | nil => simp at g1
      | cons w ws' =>
        cases g3 with
        | nil => simp at g2
        | @cons t p ts ps hp hr' =>
          exact .cons (g4 0 a _ _ rfl rfl rfl) hp (ih ws' ts ps (by simpa using g1) (by simpa using g2) hr' fun j a u w e1 e2 e3 => g4 (j + 1) a u w (by simpa using e1) (by simpa using e2) (by simpa using e3))
  refine key as ws hts hs h1 h2 HT' fun j a u w e1 e2 e3 => ?_
  have hne : a ≠ r := fun q => hra (q ▸ List.mem_of_getElem? e1)
  rw [set_ne hne]
  exact setTups_at hn e1 e2 e3
noncomputable def Dv (D : Int → Option Nat) (o : Int) : Int := ((D o).getD 0 : Nat)
noncomputable def thereKV (D : Int → Option Nat) (T : List Int) : List (Int × V) := T.map fun o => (o, .int (Dv D o))
noncomputable def backKV (D : Int → Option Nat) (T : List Int) : List (Int × V) := T.map fun o => (Dv D o, .int o)
theorem there_in {D : Int → Option Nat} {o : Int} : ∀ {T : List Int}, o ∈ T → (thereKV D T).lookup o = some (.int (Dv D o))
  | b :: r, h => by
    unfold thereKV
    rw [List.map_cons, List.lookup_cons]
    by_cases hb : o = b
    · subst hb; simp
    · rw [beq_eq_false_iff_ne.mpr hb]
      exact there_in (T := r) ((List.mem_cons.mp h).resolve_left hb)
theorem there_out {D : Int → Option Nat} {o : Int} : ∀ {T : List Int}, o ∉ T → (thereKV D T).lookup o = none
  | [], _ => rfl
  | b :: r, h => by
    simp only [List.mem_cons, not_or] at h
    unfold thereKV
    rw [List.map_cons, List.lookup_cons, beq_eq_false_iff_ne.mpr h.1]
    exact there_out (T := r) h.2
theorem back_in {D : Int → Option Nat} {o : Int} (hinj : ∀ o o' a, D o = some a → D o' = some a → o = o') : ∀ {T : List Int}, (∀ x ∈ T, (D x).isSome = true) → o ∈ T → (backKV D T).lookup (Dv D o) = some (.int o)
  | b :: r, hd, h => by
    unfold backKV
    rw [List.map_cons, List.lookup_cons]
    by_cases hb : Dv D o = Dv D b
    · rw [beq_iff_eq.mpr hb]
      obtain ⟨x, hx⟩ := Option.isSome_iff_exists.mp (hd o h)
      obtain ⟨y, hy⟩ := Option.isSome_iff_exists.mp (hd b (by simp))
      have : x = y := by
        unfold Dv at hb; rw [hx, hy] at hb
        have hb' : (x : Int) = y := by simpa using hb
        omega
      subst this
      rw [hinj o b x hx hy]
    · rw [beq_eq_false_iff_ne.mpr hb]
      have hne : o ≠ b := fun q => hb (q ▸ rfl)
      exact back_in hinj (T := r) (fun x hx => hd x (List.mem_cons_of_mem _ hx)) ((List.mem_cons.mp h).resolve_left hne)
theorem back_out {D : Int → Option Nat} {o : Int} (hinj : ∀ o o' a, D o = some a → D o' = some a → o = o') (ho : (D o).isSome = true) : ∀ {T : List Int}, (∀ x ∈ T, (D x).isSome = true) → o ∉ T → (backKV D T).lookup (Dv D o) = none
  | [], _, _ => rfl
  | b :: r, hd, h => by
    simp only [List.mem_cons, not_or] at h
    unfold backKV
    rw [List.map_cons, List.lookup_cons]
    have hb : Dv D o ≠ Dv D b := fun hb => by
      obtain ⟨x, hx⟩ := Option.isSome_iff_exists.mp ho
      obtain ⟨y, hy⟩ := Option.isSome_iff_exists.mp (hd b (by simp))
      have : x = y := by
        unfold Dv at hb; rw [hx, hy] at hb
        have hb' : (x : Int) = y := by simpa using hb
        omega
      subst this
      exact h.1 (hinj o b x hx hy)
    rw [beq_eq_false_iff_ne.mpr hb]
    exact back_out hinj ho (T := r) (fun x hx => hd x (List.mem_cons_of_mem _ hx)) h.2
/-- what is still to come, at most -/
noncomputable def leftOf (bl : List Blk) (dom T : List Int) : Nat := ((dom.filter fun o => !T.contains o).map fun o => (bl.getD o.toNat (0, [])).2.length).sum
theorem leftOf_add {bl : List Blk} {T : List Int} {o : Int} : ∀ {dom : List Int}, o ∈ dom → T.contains o = false → leftOf bl dom (T ++ [o]) + (bl.getD o.toNat (0, [])).2.length ≤ leftOf bl dom T := by
  have mono : ∀ (dom : List Int), leftOf bl dom (T ++ [o]) ≤ leftOf bl dom T := by
    intro dom
    induction dom with
    | nil => exact Nat.le_refl _
    | cons d r ih =>
      unfold leftOf at ih ⊢
      rw [List.filter_cons, List.filter_cons]
      cases h1 : T.contains d with
      | true =>
        have : (T ++ [o]).contains d = true := by
          rw [List.contains_iff_mem]; exact List.mem_append_left _ (List.contains_iff_mem.mp h1)
        rw [this]
        simpa using ih
      | false =>
        by_cases hd : d = o
        · subst hd
          have : (T ++ [d]).contains d = true := by simp
          rw [this]
          simp only [Bool.not_true, Bool.not_false, Bool.false_eq_true, if_false, if_true, List.map_cons, List.sum_cons]
          omega
        · have : (T ++ [o]).contains d = false := by
            cases e : (T ++ [o]).contains d with
            | false => rfl
            | true =>
              have := List.contains_iff_mem.mp e
              rcases List.mem_append.mp this with h | h
              · rw [List.contains_iff_mem.mpr h] at h1; cases h1
              · exact absurd (List.mem_singleton.mp h) hd
          rw [this]
          simp only [Bool.not_false, if_true, List.map_cons, List.sum_cons]
          omega
  intro dom
  induction dom with
  | nil => intro h; simp at h
  | cons d r ih =>
    intro h hT
    by_cases hd : d = o
    · subst hd
      have hm := mono r
      unfold leftOf at hm ⊢
      rw [List.filter_cons, List.filter_cons, hT]
      have : (T ++ [d]).contains d = true := by simp
      rw [this]
      simp only [Bool.not_true, Bool.not_false, Bool.false_eq_true, if_false, if_true, List.map_cons, List.sum_cons]
      omega
    · have ih := ih ((List.mem_cons.mp h).resolve_left (Ne.symm hd)) hT
      unfold leftOf at ih ⊢
      rw [List.filter_cons, List.filter_cons]
      cases h1 : T.contains d with
      | true =>
        have : (T ++ [o]).contains d = true := by
          rw [List.contains_iff_mem]; exact List.mem_append_left _ (List.contains_iff_mem.mp h1)
        rw [this]
        simpa using ih
      | false =>
        have : (T ++ [o]).contains d = false := by
          cases e : (T ++ [o]).contains d with
          | false => rfl
          | true =>
            have := List.contains_iff_mem.mp e
            rcases List.mem_append.mp this with h | h
            · rw [List.contains_iff_mem.mpr h] at h1; cases h1
            · exact absurd (List.mem_singleton.mp h) hd
        rw [this]
        simp only [Bool.not_false, if_true, List.map_cons, List.sum_cons]
        omega
theorem PairsAt.other {m : Mem} {b : Addr} {o : AObj} {vs : List V} {prs : List (Int × Part)} (h : PairsAt m vs prs) (hm : ∀ us, m b ≠ some (.tup us)) : PairsAt (set m b o) vs prs := by
  induction h with
  | nil => exact .nil
  | cons h1 h2 _ ih => exact .cons (set_other h1 fun e => hm _ (e ▸ h1)) (set_other h2 fun e => hm _ (e ▸ h2)) ih
theorem put_none {kvs : List (Int × V)} {a : Int} {v : V} (h : kvs.lookup a = none) : put kvs a v = kvs ++ [(a, v)] := by
  refine put_new fun hm => ?_
  obtain ⟨kv, h1, h2⟩ := List.mem_map.mp hm
  subst h2
  induction kvs with
  | nil => cases h1
  | cons x r ih =>
    obtain ⟨k, u⟩ := x
    rw [List.lookup_cons] at h
    by_cases hk : kv.1 = k
    · rw [hk] at h; simp at h
    · rw [beq_eq_false_iff_ne.mpr hk] at h
      rcases List.mem_cons.mp h1 with rfl | h1
      · exact hk rfl
      · exact ih h1 (by simpa using h) (List.mem_map_of_mem h1)
theorem nodup_len : ∀ {T dom : List Int}, T.Nodup → (∀ x ∈ T, x ∈ dom) → T.length ≤ dom.length
  | [], _, _, _ => Nat.zero_le _
  | x :: r, dom, hn, hs => by
    have hx := hs x (by simp)
    have hn' := List.nodup_cons.mp hn
    have := nodup_len (T := r) (dom := dom.erase x) hn'.2 fun y hy => (List.mem_erase_of_ne (fun (e : y = x) => hn'.1 (e ▸ hy))).mpr (hs y (List.mem_cons_of_mem _ hy))
    rw [List.length_erase_of_mem hx] at this
    have h0 : 0 < dom.length := List.length_pos_of_mem hx
    rw [List.length_cons]
    omega
theorem tup_no {m : Mem} {b : Addr} {x : AObj} (h : m b = some x) (hx : ∀ us, x ≠ .tup us) : ∀ us, m b ≠ some (.tup us) := fun us e => by rw [h] at e; exact hx us (Option.some.inj e)
section
variable {c : Cx} (F : Facts c) {mem : Mem} {h dx cl : Addr} {lim : Int} {cs : List Int}
include F
theorem f43 {D : Int → Option Nat} {B wl hl : Addr} {bas : List (Addr × Addr)} {bl : List Blk} {hts : List V} {ws : List Int} {held : List Part} {dom : List Int} (LK : Like D cs bl) (H : HP mem h dx cl lim cs) (HB : Blks mem B bas bl)
    (hw : mem wl = some (.list (ws.map V.int))) (hh : mem hl = some (.list hts)) (HT : TupsAt mem hts held) (hlen : ws.length = held.length) (hz : held.length ≤ 100) (hzb : bl.length ≤ 1000)
    (hG : ∀ (j : Nat) (w : Int) (q : Part), ws[j]? = some w → held[j]? = some q → GoodP D w q) (hdom : ∀ o a, D o = some a → o ∈ dom) (hzd : leftOf bl dom [] ≤ 5000) (hzt : dom.length ≤ 1000) (hdn : dom.Nodup) :
    Fn c 5 (c.fx 43) [.ref h, .ref wl, .ref B, .ref hl] mem (fun v m => v = .bool true ∧ Ext [] mem m) := by
  have htl := HT.length
  refine Fn.of (n := 4) (names := [Str.ofString "store", Str.ofString "words", Str.ofString "blocks", Str.ofString "held"]) F.d43.is rfl (ar4 fun _ _ _ _ _ _ _ _ _ _ => rfl) (by decide) rfl (by with_unfolding_all decide) rfl rfl rfl fun L cd g => ?_
  refine SS.cons ?_
  refine S1.assignSwap3 (x1 := Str.ofString "there") (x2 := Str.ofString "back") (x3 := Str.ofString "waiting") ?_ (by first | exact ⟨rfl, Or.inl rfl⟩ | exact ⟨rfl, Or.inr ⟨rfl, rfl⟩⟩) (by first | exact ⟨rfl, Or.inl rfl⟩ | exact ⟨rfl, Or.inr ⟨rfl, rfl⟩⟩) (by first | exact ⟨rfl, Or.inl rfl⟩ | exact ⟨rfl, Or.inr ⟨rfl, rfl⟩⟩) rfl rfl
  refine EV.tuple ?_
  refine Args.cons ?_ rfl
  refine EV.dict0 fun ta hta => ?_
  refine Args.cons ?_ rfl
  refine EV.dict0 fun ba hba => ?_
  refine Args.cons ?_ rfl
  have E1 : Ext [] mem (set (set mem ta (.dict [])) ba (.dict [])) := (Ext.refl.fresh hta).fresh hba
  have t1 : set (set mem ta (.dict [])) ba (.dict []) ta = some (.dict (thereKV D [])) := set_old set_self hba
  have b1 : set (set mem ta (.dict [])) ba (.dict []) ba = some (.dict (backKV D [])) := set_self
  have hba0 : mem ba = none := (Ext.refl.fresh hta).none hba
  have htb : ta ≠ ba := fun e => by rw [← e, set_self] at hba; cases hba
  generalize set (set mem ta (.dict [])) ba (.dict []) = m1 at E1 t1 b1
  refine EV.listZip F.blist F.bzip rfl rfl (by decide) (by decide) ?_
  refine Args.cons ?_ rfl
  refine PE.ev (.name rfl) ?_
  refine Args.cons ?_ rfl
  refine PE.ev (.name rfl) ?_
  refine Args.nil ?_
  have HT1 := HT.ext E1 (by simp)
  refine ⟨wl, hl, _, _, rfl, E1 _ _ hw (by simp), E1 _ _ hh (by simp), by simp; omega, by simp; omega, fun wa as m2 hal hwa has hnd hra hm2 => ?_⟩
  rw [List.length_map] at hal
  obtain ⟨E2, P2⟩ := zipPairs HT1 hal hlen hwa has hnd hra (.list (as.map V.ref))
  have w2 : m2 wa = some (.list (as.map V.ref)) := by rw [hm2]; exact set_self
  rw [← hm2] at E2 P2
  clear hm2
  have E3 := E1.trans E2
  have t2 := E2 _ _ t1 (by simp)
  have b2 := E2 _ _ b1 (by simp)
  have hwa0 := E1.none hwa
  have hwt : wa ≠ ta := Ne.symm (ne_fresh t1 hwa)
  have hwb : wa ≠ ba := Ne.symm (ne_fresh b1 hwa)
  clear E1 E2 t1 b1 hba hwa has HT1
  refine Args.nil ?_
  refine ⟨by simp, fun tt htt => ?_⟩
  refine ⟨tt, _, _, _, rfl, set_self, ?_⟩
  have E4 := E3.fresh (o := .tup [.ref ta, .ref ba, .ref wa]) htt
  have t3 := set_old (o := .tup [.ref ta, .ref ba, .ref wa]) t2 htt
  have b3 := set_old (o := .tup [.ref ta, .ref ba, .ref wa]) b2 htt
  have w3 := set_old (o := .tup [.ref ta, .ref ba, .ref wa]) w2 htt
  have P3 := P2.ext (Ext.refl.fresh (o := .tup [.ref ta, .ref ba, .ref wa]) htt)
  generalize set m2 tt (.tup [.ref ta, .ref ba, .ref wa]) = m3 at E4 t3 b3 w3 P3
  clear E3 t2 b2 w2 P2 htt
  refine Cont.next ?_
  have hG0 : ∀ pr ∈ ws.zip held, GoodP D pr.1 pr.2 := fun pr hpr => by
    obtain ⟨j, hj⟩ := List.mem_iff_getElem?.mp hpr
    rw [List.getElem?_zip_eq_some] at hj
    exact hG j _ _ hj.1 hj.2
  have hzl : (ws.zip held).length ≤ 100 := by rw [List.length_zip]; omega
  refine SS.cons ?_
  refine S1.while (loc0 := [(Str.ofString "store", .ref h), (Str.ofString "words", .ref wl), (Str.ofString "blocks", .ref B), (Str.ofString "held", .ref hl), (Str.ofString "there", .ref ta), (Str.ofString "back", .ref ba), (Str.ofString "waiting", .ref wa)])
    (fun k l m => ∃ T wvs prs, l = [(Str.ofString "store", .ref h), (Str.ofString "words", .ref wl), (Str.ofString "blocks", .ref B), (Str.ofString "held", .ref hl), (Str.ofString "there", .ref ta), (Str.ofString "back", .ref ba), (Str.ofString "waiting", .ref wa)] ∧
      m ta = some (.dict (thereKV D T)) ∧ m ba = some (.dict (backKV D T)) ∧ m wa = some (.list wvs) ∧ PairsAt m wvs prs ∧ (∀ pr ∈ prs, GoodP D pr.1 pr.2) ∧ (∀ x ∈ T, (D x).isSome = true) ∧ T.Nodup ∧ k = prs.length + leftOf bl dom T ∧ k ≤ 6000 ∧ Ext [] mem m)
    ((ws.zip held).length + leftOf bl dom []) (by walk_at "m_lsub") ⟨[], _, _, rfl, t3, b3, w3, P3, hG0, by simp, List.nodup_nil, rfl, by omega, E4⟩ ?_
  clear t3 b3 w3 P3 hG0 E4 hzl
  rintro k l m ⟨T, wvs, prs, rfl, ht, hb, hwv, HP', hGp, hT, hTn, hk, hk6, E⟩
  refine Test.cmp ?_ (by with_unfolding_all rfl)
  refine PE.ev (.name rfl) ?_
  refine EV.list ?_
  refine Args.nil ?_
  refine ⟨by simp, fun ea hea => ?_⟩
  refine COp.neNil (set_old hwv hea) set_self ?_
  refine Tru.bool ?_
  have E0 := E.fresh (o := .list []) hea
  have ht0 := set_old (o := .list []) ht hea
  have hb0 := set_old (o := .list []) hb hea
  have hw0 := set_old (o := .list []) hwv hea
  have P0 := HP'.ext (Ext.refl.fresh (o := .list []) hea)
  generalize set m ea (.list []) = m0 at E0 ht0 hb0 hw0 P0
  clear E ht hb hwv hea HP'
  refine ite_intro (fun hc => ?_) (fun hc => ?_)
  · rcases P0.snoc with ⟨rfl, _⟩ | ⟨vs0, a, t, prs0, ⟨w, q⟩, rfl, rfl, P1, ha, htp⟩
    · simp at hc
    clear hc P0
    have hgq : GoodP D w q := hGp (w, q) (by simp)
    have hGp0 : ∀ pr ∈ prs0, GoodP D pr.1 pr.2 := fun pr hpr => hGp pr (List.mem_append_left _ hpr)
    have hlen0 := P1.length
    rw [List.length_append, List.length_singleton] at hk
    dsimp only at ha htp
    refine SS.cons ?_
    refine S1.assign ?_ rfl rfl rfl
    refine EV.lmeth0 PySem.F.slot_list_pop rfl ?_ rfl
    refine PE.ev (.name rfl) ?_
    refine ⟨_, _, rfl, by walk_at "m_look", ?_⟩
    refine MethB.pop hw0 (by omega) ?_
    refine AS.tuple (vs := [.int w, .ref t]) (set_other ha (ne_of ha hw0 (by simp))) rfl ?_
    refine ASs.cons ?_
    refine AS.name (by first | exact ⟨rfl, Or.inl rfl⟩ | exact ⟨rfl, Or.inr ⟨rfl, rfl⟩⟩) ?_
    refine ASs.cons ?_
    refine AS.name (by first | exact ⟨rfl, Or.inl rfl⟩ | exact ⟨rfl, Or.inr ⟨rfl, rfl⟩⟩) ?_
    refine ASs.nil ?_
    refine Cont.next ?_
    have E1 := E0.own (o := .list vs0) hwa0
    have ht1 := set_other (o := .list vs0) ht0 (Ne.symm hwt)
    have hb1 := set_other (o := .list vs0) hb0 (Ne.symm hwb)
    have hw1 : set m0 wa (.list vs0) wa = some (.list vs0) := set_self
    have P2 : PairsAt (set m0 wa (.list vs0)) vs0 prs0 := P1.other (tup_no hw0 (by simp))
    have htp1 := set_other (o := .list vs0) htp (ne_of htp hw0 (by simp))
    generalize set m0 wa (.list vs0) = m1 at E1 ht1 hb1 hw1 P2 htp1
    clear E0 ht0 hb0 hw0 P1 ha htp
    refine SS.cons ?_
    refine S1.assign ?_ rfl rfl rfl
    refine PE.ev (.name rfl) ?_
    refine AS.tuple htp1 rfl ?_
    refine ASs.cons ?_
    refine AS.name (by first | exact ⟨rfl, Or.inl rfl⟩ | exact ⟨rfl, Or.inr ⟨rfl, rfl⟩⟩) ?_
    refine ASs.cons ?_
    refine AS.name (by first | exact ⟨rfl, Or.inl rfl⟩ | exact ⟨rfl, Or.inr ⟨rfl, rfl⟩⟩) ?_
    refine ASs.nil ?_
    refine Cont.next ?_
    have hkk : prs0.length + leftOf bl dom T < k := by omega
    refine SS.cons ?_
    rcases hgq with ⟨hs, ho⟩ | ⟨hs, a, hDa, hwa'⟩
    · refine S1.if (Test.is true ?_ ?_)
      · refine Test.boolop ?_
        refine Alls.or ?_
        refine Test.eqI (.name rfl) .int (by with_unfolding_all rfl) ?_
        refine ite_intro (fun hb => ?_) (fun hb => ?_)
        · exact ⟨rfl, rfl, rfl⟩
        · rw [hs] at hb; cases hb
      refine ite_t ?_
      refine SS.cons ?_
      refine S1.if (Test.is false ?_ ?_)
      · refine Test.boolop ?_
        refine Alls.or ?_
        refine Test.eqI (.name rfl) .int (by with_unfolding_all rfl) ?_
        refine ite_intro (fun hb => ?_) (fun hb => ?_)
        · rw [hs] at hb; cases hb
        · refine Alls.or ?_
          refine Test.neI (.name rfl) (.name rfl) (by with_unfolding_all rfl) ?_
          refine ite_intro (fun hb => ?_) (fun hb => ?_)
          · rw [ho] at hb; simp at hb
          · refine Alls.orNil ⟨rfl, rfl, rfl⟩
      refine ite_f ?_
      exact SS.nil (Cont.next (SS.nil (Cont.next (SS.nil (Turn.next _ (by walk_at "m_lsub") ⟨_, hkk, T, vs0, prs0, rfl, ht1, hb1, hw1, P2, hGp0, hT, hTn, rfl, by omega, E1⟩)))))
    · have hf1 : Int.fmod w 8 = 1 := by rw [hwa']; exact fmod_ref a
      have hf2 : Int.fdiv w 8 = a := by rw [hwa']; exact fdiv_ref a
      have hDv : Dv D q.2 = a := by unfold Dv; rw [hDa]; rfl
      have hDs : (D q.2).isSome = true := by rw [hDa]; rfl
      refine S1.if (Test.is false ?_ ?_)
      · refine Test.boolop ?_
        refine Alls.or ?_
        refine Test.eqI (.name rfl) .int (by with_unfolding_all rfl) ?_
        refine ite_intro (fun hb => ?_) (fun hb => ?_)
        · rw [hs] at hb; cases hb
        · refine Alls.or ?_
          refine Test.not ?_
          refine Test.plain ?_ rfl
          refine PE.ev (.def1 F.d21 (fun _ => f21 F) (by decide) (.name rfl) rfl rfl rfl rfl) ?_
          refine Tru.bool ?_
          refine ite_intro (fun hb => ?_) (fun hb => ?_)
          · rw [hf1] at hb; cases hb
          · refine Alls.orNil ⟨rfl, rfl, rfl⟩
      refine ite_f ?_
      refine SS.cons ?_
      by_cases hin : q.2 ∈ T
      · refine S1.if (Test.is true ?_ ?_)
        · refine Test.boolop ?_
          refine Alls.or ?_
          refine Test.cmp ?_ (by with_unfolding_all rfl)
          refine PE.ev (.name rfl) ?_
          refine PE.ev (.name rfl) ?_
          refine COp.inD (.inl ht1) ?_
          refine Tru.bool ?_
          refine ite_intro (fun hb => ?_) (fun hb => ?_)
          · exact ⟨rfl, rfl, rfl⟩
          · rw [there_in hin] at hb; cases hb
        refine ite_t ?_
        refine SS.cons ?_
        refine S1.if (Test.is false ?_ ?_)
        · refine Test.boolop ?_
          refine Alls.or ?_
          refine Test.cmp ?_ (by with_unfolding_all rfl)
          refine EV.dmeth1 PySem.F.slot_dict_get rfl ?_ rfl rfl rfl
          refine PE.ev (.name rfl) ?_
          refine ⟨_, _, rfl, .inl ht1, ?_⟩
          refine Args.cons ?_ rfl
          refine PE.ev (.name rfl) ?_
          refine Args.cons ?_ rfl
          refine EV.neg ?_
          refine PE.ev .int ?_
          refine ⟨_, rfl, ?_⟩
          refine Args.nil ?_
          refine MethB.get (.inl ht1) ?_
          rw [there_in hin]
          refine PE.ev (.def1 F.d16 (fun _ => f16 F) (by decide) (.name rfl) rfl rfl rfl rfl) ?_
          refine COp.neI ?_
          refine Tru.bool ?_
          refine ite_intro (fun hb => ?_) (fun hb => ?_)
          · exfalso; rw [hDv, hf2] at hb; simp at hb
          · refine Alls.or ?_
            refine Test.cmp ?_ (by with_unfolding_all rfl)
            refine EV.dmeth1 PySem.F.slot_dict_get rfl ?_ rfl rfl rfl
            refine PE.ev (.name rfl) ?_
            refine ⟨_, _, rfl, .inl hb1, ?_⟩
            refine Args.cons ?_ rfl
            refine PE.ev (.def1 F.d16 (fun _ => f16 F) (by decide) (.name rfl) rfl rfl rfl rfl) ?_
            refine Args.cons ?_ rfl
            refine EV.neg ?_
            refine PE.ev .int ?_
            refine ⟨_, rfl, ?_⟩
            refine Args.nil ?_
            refine MethB.get (.inl hb1) ?_
            rw [hf2, ← hDv, back_in LK.inj hT hin]
            refine PE.ev (.name rfl) ?_
            refine COp.neI ?_
            refine Tru.bool ?_
            refine ite_intro (fun hb => ?_) (fun hb => ?_)
            · exfalso; simp at hb
            · refine Alls.orNil ⟨rfl, rfl, rfl⟩
        refine ite_f ?_
        exact SS.nil (Cont.next (SS.nil (Cont.next (SS.nil (Cont.next (SS.nil (Turn.next _ (by walk_at "m_lsub") ⟨_, hkk, T, vs0, prs0, rfl, ht1, hb1, hw1, P2, hGp0, hT, hTn, rfl, by omega, E1⟩)))))))
      · refine S1.if (Test.is false ?_ ?_)
        · refine Test.boolop ?_
          refine Alls.or ?_
          refine Test.cmp ?_ (by with_unfolding_all rfl)
          refine PE.ev (.name rfl) ?_
          refine PE.ev (.name rfl) ?_
          refine COp.inD (.inl ht1) ?_
          refine Tru.bool ?_
          refine ite_intro (fun hb => ?_) (fun hb => ?_)
          · rw [there_out hin] at hb; cases hb
          · refine Alls.or ?_
            refine Test.cmp ?_ (by with_unfolding_all rfl)
            refine PE.ev (.def1 F.d16 (fun _ => f16 F) (by decide) (.name rfl) rfl rfl rfl rfl) ?_
            refine PE.ev (.name rfl) ?_
            refine COp.inD (.inl hb1) ?_
            refine Tru.bool ?_
            refine ite_intro (fun hb => ?_) (fun hb => ?_)
            · rw [hf2, ← hDv, back_out LK.inj hDs hT hin] at hb; cases hb
            · refine Alls.orNil ⟨rfl, rfl, rfl⟩
        refine ite_f ?_
        obtain ⟨p, hop, b, hd, hbb, hcx, h5, hkd, hln, hbz, hfl⟩ := LK.blk _ _ hDa
        have hdomT : T.contains q.2 = false := by
          cases e : T.contains q.2 with
          | false => rfl
          | true => exact absurd (List.contains_iff_mem.mp e) hin
        have hleft := leftOf_add (bl := bl) (hdom _ _ hDa) hdomT
        have hbget : (bl.getD q.2.toNat (0, [])) = b := by rw [hop, Int.toNat_natCast, List.getD_eq_getElem?_getD, hbb]; rfl
        rw [hbget] at hleft
        have hTz : T.length ≤ 1000 := by
          have : T.length ≤ dom.length := nodup_len hTn fun x hx => by obtain ⟨y, hy⟩ := Option.isSome_iff_exists.mp (hT x hx); exact hdom x y hy
          omega
        have H1 := H.ext E1 (by simp) (by simp) (by simp)
        refine SS.cons ?_
        refine S1.assign ?_ rfl rfl rfl
        refine EV.tuple ?_
        refine Args.p2 (.def1 F.d16 (fun _ => f16 F) (by decide) (.name rfl) rfl rfl rfl rfl) (.name rfl) ?_
        refine ⟨by simp, fun t2 ht2 => ?_⟩
        refine AS.tuple set_self rfl ?_
        have E2 := E1.fresh (o := .tup [.int (Int.fdiv w 8), .int q.2]) ht2
        have ht3 := set_old (o := .tup [.int (Int.fdiv w 8), .int q.2]) ht1 ht2
        have hb3 := set_old (o := .tup [.int (Int.fdiv w 8), .int q.2]) hb1 ht2
        have hw3 := set_old (o := .tup [.int (Int.fdiv w 8), .int q.2]) hw1 ht2
        have P3 := P2.ext (Ext.refl.fresh (o := .tup [.int (Int.fdiv w 8), .int q.2]) ht2)
        generalize set m1 t2 (.tup [.int (Int.fdiv w 8), .int q.2]) = m2 at E2 ht3 hb3 hw3 P3
        clear ht1 hb1 hw1 P2 htp1 H1 ht2
        rw [hf2]
        refine ASs.cons ?_
        refine AS.sub ?_ (by intro _; rfl)
        refine PE.ev (.name rfl) ?_
        refine PE.ev (.name rfl) ?_
        refine SetI.dict ht3 (by simp [thereKV]; omega) ?_
        rw [put_none (there_out hin), show thereKV D T ++ [(q.2, V.int (a : Int))] = thereKV D (T ++ [q.2]) by simp [thereKV, hDv]]
        have E3 := E2.own (o := .dict (thereKV D (T ++ [q.2]))) hta
        have ht4 : set m2 ta (.dict (thereKV D (T ++ [q.2]))) ta = some (.dict (thereKV D (T ++ [q.2]))) := set_self
        have hb4 := set_other (o := .dict (thereKV D (T ++ [q.2]))) hb3 (Ne.symm htb)
        have hw4 := set_other (o := .dict (thereKV D (T ++ [q.2]))) hw3 hwt
        have P4 : PairsAt (set m2 ta (.dict (thereKV D (T ++ [q.2])))) vs0 prs0 := P3.other (tup_no ht3 (by simp))
        generalize set m2 ta (.dict (thereKV D (T ++ [q.2]))) = m3 at E3 ht4 hb4 hw4 P4
        clear E2 ht3 hb3 hw3 P3
        refine ASs.cons ?_
        refine AS.sub ?_ (by intro _; rfl)
        refine PE.ev (.name rfl) ?_
        refine PE.ev (.def1 F.d16 (fun _ => f16 F) (by decide) (.name rfl) rfl rfl rfl rfl) ?_
        rw [hf2]
        refine SetI.dict hb4 (by simp [backKV]; omega) ?_
        rw [put_none (by rw [← hDv]; exact back_out LK.inj hDs hT hin), show backKV D T ++ [((a : Int), V.int q.2)] = backKV D (T ++ [q.2]) by simp [backKV, hDv]]
        refine ASs.nil ?_
        have E4 := E3.own (o := .dict (backKV D (T ++ [q.2]))) hba0
        have hb5 : set m3 ba (.dict (backKV D (T ++ [q.2]))) ba = some (.dict (backKV D (T ++ [q.2]))) := set_self
        have ht5 := set_other (o := .dict (backKV D (T ++ [q.2]))) ht4 htb
        have hw5 := set_other (o := .dict (backKV D (T ++ [q.2]))) hw4 hwb
        have P5 : PairsAt (set m3 ba (.dict (backKV D (T ++ [q.2])))) vs0 prs0 := P4.other (tup_no hb4 (by simp))
        generalize set m3 ba (.dict (backKV D (T ++ [q.2]))) = m4 at E4 ht5 hb5 hw5 P5
        clear E3 ht4 hb4 hw4 P4
        refine Cont.next ?_
        have HB5 := HB.ext0 E4
        have H5 := H.ext E4 (by simp) (by simp) (by simp)
        obtain ⟨x, hx1, hx2, hx3, ts, hx4, hx5⟩ := HB5.get hbb
        have htsl := hx5.length
        refine SS.cons ?_
        refine S1.assign ?_ rfl rfl rfl
        refine EV.subP (.name rfl) (.name rfl) ?_
        refine Sub.list HB5.b (by omega) (by have := (List.getElem?_eq_some_iff.mp hbb).1; omega) (by rw [hop, Int.toNat_natCast]; exact hx2) ?_
        refine AS.tupleL hx3 rfl ?_
        refine ASs.cons ?_
        refine AS.name (by first | exact ⟨rfl, Or.inl rfl⟩ | exact ⟨rfl, Or.inr ⟨rfl, rfl⟩⟩) ?_
        refine ASs.cons ?_
        refine AS.name (by first | exact ⟨rfl, Or.inl rfl⟩ | exact ⟨rfl, Or.inr ⟨rfl, rfl⟩⟩) ?_
        refine ASs.nil (Cont.next ?_)
        have hw1 : (Int.fmod w 8 == 1) = true := by rw [hf1]; rfl
        refine SS.cons ?_
        refine S1.if (Test.is false ?_ ?_)
        · refine Test.boolop ?_
          refine Alls.or ?_
          refine Test.cmp ?_ (by with_unfolding_all rfl)
          refine EV.hm1 F.m5 F.HK ?_ rfl rfl rfl
          refine PE.ev (.name rfl) ?_
          refine ⟨_, _, _, rfl, .of (by walk_at "m_look"), rfl, ?_⟩
          refine Args.p1 (.name rfl) ?_
          refine CallV.pure (g5 F H5 hw1 hf2 (by omega) (by simpa using hcx) h5) (by decide) ?_
          refine PE.ev (.name rfl) ?_
          refine COp.neI ?_
          refine Tru.bool ?_
          refine ite_intro (fun hb => ?_) (fun hb => ?_)
          · exfalso; rw [hkd] at hb; simp at hb
          · refine Alls.or ?_
            refine Test.cmp ?_ (by with_unfolding_all rfl)
            refine EV.hm1 F.m6 F.HK ?_ rfl rfl rfl
            refine PE.ev (.name rfl) ?_
            refine ⟨_, _, _, rfl, .of (by walk_at "m_look"), rfl, ?_⟩
            refine Args.p1 (.name rfl) ?_
            refine CallV.pure (g6 F H5 hw1 hf2 (by omega) (by simpa using hcx) h5) (by decide) ?_
            refine EV.callB1 F.blen rfl (by decide) ?_ rfl rfl rfl rfl rfl
            refine Args.p1 (.name rfl) ?_
            refine CallV.len hx4 (by omega) ?_
            refine COp.neI ?_
            refine Tru.bool ?_
            refine ite_intro (fun hb => ?_) (fun hb => ?_)
            · exfalso; rw [hln] at hb; simp at hb; omega
            · refine Alls.orNil ⟨rfl, rfl, rfl⟩
        refine ite_f ?_
        refine SS.nil ?_
        refine Cont.next ?_
        have hcx2 := (List.getElem?_eq_some_iff.mp hcx).1
        have hHz := H.z
        obtain ⟨fw, hfw⟩ : ∃ fw : List Int, fw = (cs.drop (a + 1)).take b.2.length := ⟨_, rfl⟩
        have hfwj : ∀ (j : Nat) (q : Part), b.2[j]? = some q → ∃ w, cs[a + 1 + j]? = some w ∧ fw[j]? = some w ∧ GoodP D w q := fun j q hq => by
          obtain ⟨w, h1, h2⟩ := hfl j q hq
          have hj := (List.getElem?_eq_some_iff.mp hq).1
          exact ⟨w, h1, by rw [hfw, List.getElem?_take_of_lt hj, List.getElem?_drop]; exact h1, h2⟩
        have hfwl : fw.length = b.2.length := by
          rw [hfw, List.length_take, List.length_drop]
          rcases Nat.eq_zero_or_pos b.2.length with h0 | h0
          · omega
          · obtain ⟨w, h1, _⟩ := hfl (b.2.length - 1) b.2[b.2.length - 1] (List.getElem?_eq_getElem (by omega))
            have := (List.getElem?_eq_some_iff.mp h1).1
            omega
        refine SS.cons ?_
        refine S1.expr ?_ rfl rfl
        refine EV.lmeth1 PySem.F.slot_list_extend rfl ?_ rfl rfl rfl
        refine PE.ev (.name rfl) ?_
        refine ⟨_, _, rfl, hw5, ?_⟩
        refine Args.cons ?_ rfl
        refine EV.listZip F.blist F.bzip rfl rfl (by decide) (by decide) ?_
        refine Args.cons ?_ rfl
        refine EV.listComp (cl := _) ⟨rfl, ?h2, rfl, rfl, by decide, rfl, by decide⟩ ?_
        case h2 => walk_at "m_clin"
        refine EV.callT1 F.brange rfl (by decide) ?_ rfl rfl rfl rfl rfl
        refine Args.cons ?_ rfl
        refine EV.callB1 F.blen rfl (by decide) ?_ rfl rfl rfl rfl rfl
        refine Args.p1 (.name rfl) ?_
        refine CallV.len hx4 (by omega) ?_
        refine Args.nil ?_
        refine CallV.range1 fun r hr => ?_
        have hrr : set m4 r (.range 0 (ts.length : Nat)) r = some (.range 0 (ts.length : Nat)) := set_self
        have E5 := E4.fresh (o := .range 0 (ts.length : Nat)) hr
        have ht6 := set_old (o := .range 0 (ts.length : Nat)) ht5 hr
        have hb6 := set_old (o := .range 0 (ts.length : Nat)) hb5 hr
        have hw6 := set_old (o := .range 0 (ts.length : Nat)) hw5 hr
        have hx6 := set_old (o := .range 0 (ts.length : Nat)) hx4 hr
        have P6 := P5.ext (Ext.refl.fresh (o := .range 0 (ts.length : Nat)) hr)
        have hx7 := hx5.ext (Ext.refl.fresh (md := []) (o := .range 0 (ts.length : Nat)) hr) (by simp)
        generalize set m4 r (.range 0 (ts.length : Nat)) = m5 at hrr E5 ht6 hb6 hw6 hx6 P6 hx7
        clear E4 ht5 hb5 hw5 P5 HB5 H5 hx3 hx4 hx5 hr
        refine ⟨b.2.length, _, fun _ => True, fun i ys m' => ys = (fw.take i).map V.int ∧ m' = m5, Src.rangeN hrr (by omega) (by omega) (by omega) (by omega), by omega, ⟨rfl, rfl⟩, fun _ _ _ _ => trivial, ?_, ?_⟩
        · rintro C i v ys m' hi hv ⟨rfl, rfl⟩
          obtain rfl := range_item hi hv
          obtain ⟨y, hy1, hy2, _⟩ := hfwj i b.2[i] (List.getElem?_eq_getElem hi)
          have H6 := H.ext E5 (by simp) (by simp) (by simp)
          refine AS.name (by first | exact ⟨rfl, Or.inl rfl⟩ | exact ⟨rfl, Or.inr ⟨rfl, rfl⟩⟩) ?_
          refine Tests.nil (ite_t ?_)
          refine EV.hm1 F.m9 F.HK ?_ rfl rfl rfl
          refine PE.ev (.name rfl) ?_
          refine ⟨_, _, _, rfl, .of (by walk_at "m_look"), rfl, ?_⟩
          refine Args.p2 (.name rfl) (.name rfl) ?_
          refine CallV.pure (g9 F (y := y) H6 hw1 hf2 (by omega) (by simpa using hcx) h5 (by omega) (by rw [hln]; omega) (by rw [show ((a : Int) + 1 + (0 + (i : Int))).toNat = a + 1 + i by omega]; exact hy1)) (by decide) ?_
          exact ⟨by walk_at "m_lsub", by rw [List.take_add_one, hy2]; simp, rfl⟩
        rintro ys m' fa ⟨rfl, rfl⟩ hfa
        rw [← hfwl, List.take_length]
        refine Args.cons ?_ rfl
        refine PE.ev (.name rfl) ?_
        refine Args.nil ?_
        have hf7 : set m' fa (.list (fw.map V.int)) fa = some (.list (fw.map V.int)) := set_self
        have E6 := E5.fresh (o := .list (fw.map V.int)) hfa
        have ht7 := set_old (o := .list (fw.map V.int)) ht6 hfa
        have hb7 := set_old (o := .list (fw.map V.int)) hb6 hfa
        have hw7 := set_old (o := .list (fw.map V.int)) hw6 hfa
        have hx8 := set_old (o := .list (fw.map V.int)) hx6 hfa
        have P7 := P6.ext (Ext.refl.fresh (o := .list (fw.map V.int)) hfa)
        have hx9 := hx7.ext (Ext.refl.fresh (md := []) (o := .list (fw.map V.int)) hfa) (by simp)
        generalize set m' fa (.list (fw.map V.int)) = m6 at hf7 E6 ht7 hb7 hw7 hx8 P7 hx9
        clear E5 ht6 hb6 hw6 hx6 P6 hx7 hfa hrr
        refine ⟨fa, x.2, _, _, rfl, hf7, hx8, by simp; omega, by simp; omega, fun za as m7 hal hza has hnd hra hm7 => ?_⟩
        rw [List.length_map] at hal
        obtain ⟨E7, P8⟩ := zipPairs hx9 hal hfwl hza has hnd hra (.list (as.map V.ref))
        have z8 : m7 za = some (.list (as.map V.ref)) := by rw [hm7]; exact set_self
        rw [← hm7] at E7 P8
        clear hm7
        have E8 := E6.trans E7
        have ht8 := E7 _ _ ht7 (by simp)
        have hb8 := E7 _ _ hb7 (by simp)
        have hw8 := E7 _ _ hw7 (by simp)
        have P9 := P7.ext E7
        clear E6 E7 ht7 hb7 hw7 hx8 P7 hx9 hf7 hza has
        refine Args.nil ?_
        have hzipl : (fw.zip b.2).length = b.2.length := by rw [List.length_zip]; omega
        refine MethB.extend hw8 z8 (by simp; omega) ?_
        refine ⟨rfl, Cont.next ?_⟩
        have E9 := E8.own (o := .list (vs0 ++ as.map V.ref)) hwa0
        have ht9 := set_other (o := .list (vs0 ++ as.map V.ref)) ht8 (Ne.symm hwt)
        have hb9 := set_other (o := .list (vs0 ++ as.map V.ref)) hb8 (Ne.symm hwb)
        have hw9 : set m7 wa (.list (vs0 ++ as.map V.ref)) wa = some (.list (vs0 ++ as.map V.ref)) := set_self
        have P10 : PairsAt (set m7 wa (.list (vs0 ++ as.map V.ref))) (vs0 ++ as.map V.ref) (prs0 ++ fw.zip b.2) := (P9.append P8).other (tup_no hw8 (by simp))
        have hG10 : ∀ pr ∈ prs0 ++ fw.zip b.2, GoodP D pr.1 pr.2 := fun pr hpr => by
          rcases List.mem_append.mp hpr with h1 | h1
          · exact hGp0 pr h1
          · obtain ⟨j, hj⟩ := List.mem_iff_getElem?.mp h1
            rw [List.getElem?_zip_eq_some] at hj
            obtain ⟨w', g1, g2, g3⟩ := hfwj j _ hj.2
            rw [hj.1] at g2
            cases g2
            exact g3
        have hT2 : ∀ x ∈ T ++ [q.2], (D x).isSome = true := fun x hx => by
          rcases List.mem_append.mp hx with h1 | h1
          · exact hT x h1
          · rw [List.mem_singleton.mp h1]; exact hDs
        have hTn2 : (T ++ [q.2]).Nodup := by
          refine List.nodup_append.mpr ⟨hTn, by simp, fun x hx y hy => ?_⟩
          rw [List.mem_singleton.mp hy]
          exact fun e => hin (e ▸ hx)
        exact SS.nil (Cont.next (SS.nil (Cont.next (SS.nil (Turn.next _ (by walk_at "m_lsub") ⟨_, by rw [List.length_append, hzipl] at *; omega, T ++ [q.2], _, _, rfl, ht9, hb9, hw9, P10, hG10, hT2, hTn2, rfl, by rw [List.length_append, hzipl]; omega, E9⟩)))))
  · rcases P0.snoc with ⟨rfl, rfl⟩ | ⟨vs0, a, t, prs0, pr, rfl, rfl, _⟩
    · refine Cont.next ?_
      refine SS.ret ?_
      refine PE.ev .boolC ?_
      exact ⟨rfl, E0⟩
    · simp at hc
end
/-- the world's block at a place -/
noncomputable def blk (bl : List Blk) (p : Nat) : Blk := bl.getD p (0, [])
noncomputable def bsz (b : Blk) : Nat := b.2.length + 1
/-- a block's address, the blocks laid in the order ord -/
noncomputable def na (bl : List Blk) : List Nat → Nat → Nat
  | [], _ => 0
  | q :: r, p => if q = p then 0 else bsz (blk bl q) + na bl r p
noncomputable def tr (bl : List Blk) (ord : List Nat) (q : Part) : Int := if q.1 = 1 then (na bl ord q.2.toNat : Int) * 8 + 1 else q.2
noncomputable def hdrW (b : Blk) : Int := ((b.2.length : Int) * 16 + b.1) * 8 + 5
noncomputable def cellsOf (bl : List Blk) (ord : List Nat) (b : Blk) : List Int := hdrW b :: b.2.map (tr bl ord)
noncomputable def flat (bl : List Blk) (ord done : List Nat) : List Int := done.flatMap fun p => cellsOf bl ord (blk bl p)
noncomputable def flatW (w : Int) : Prop := Int.fmod w 8 = 0 ∨ Int.fmod w 8 = 4
noncomputable def GPart (ord : List Nat) (q : Part) : Prop := (q.1 = 0 ∧ flatW q.2) ∨ (q.1 = 1 ∧ ∃ p ∈ ord, q.2 = ((p : Nat) : Int))
noncomputable def KOk (b : Blk) : Prop := (b.1 = 0 ∧ b.2.length = 2) ∨ (b.1 = 1 ∧ b.2.length ≤ 3) ∨ (b.1 = 4 ∧ b.2.length = 1)
/-- the heap is the world's blocks, laid in the order ord -/
structure Rep (ord : List Nat) (bl : List Blk) (held : List Part) (cs ws : List Int) : Prop where
  nd : ord.Nodup
  lt : ∀ p ∈ ord, p < bl.length
  cl : ∀ p ∈ ord, ∀ q ∈ (blk bl p).2, GPart ord q
  hd : ∀ q ∈ held, GPart ord q
  kd : ∀ p ∈ ord, KOk (blk bl p)
  cells : cs = flat bl ord ord
  words : ws = held.map (tr bl ord)
inductive Reach (bl : List Blk) (held : List Part) : Nat → Prop
  | root {p : Nat} : (1, (p : Int)) ∈ held → Reach bl held p
  | step {p p' : Nat} : Reach bl held p → (1, (p' : Int)) ∈ (blk bl p).2 → Reach bl held p'
/-- what the plain law must say -/
structure Plain : Prop where
  herr : ∀ {ord : List Nat} {bl : List Blk} {held : List Part} {cs ws : List Int}, Rep ord bl held cs ws → bl.length ≤ 40 → ∃ ss, Chain cs 0 ss ∧ ss.Nodup ∧ ss.length ≤ 1000 ∧ ∀ a : Nat, (a : Int) ∈ ss → Sound cs ss a
  like : ∀ {ord : List Nat} {bl : List Blk} {held : List Part} {cs ws : List Int}, Rep ord bl held cs ws → bl.length ≤ 40 → ∃ D dom, Like D cs bl ∧ (∀ (j : Nat) (w : Int) (q : Part), ws[j]? = some w → held[j]? = some q → GoodP D w q) ∧
    (∀ o a, D o = some a → o ∈ dom) ∧ leftOf bl dom [] ≤ 5000 ∧ dom.length ≤ 1000 ∧ dom.Nodup
  reach : ∀ {ord : List Nat} {bl : List Blk} {held : List Part} {cs ws : List Int}, Rep ord bl held cs ws → bl.length ≤ 40 → held.length ≤ 10 → ∃ k f', RL bl k (List.replicate bl.length false) (refsOf held) f' ∧ (∀ p, p < bl.length → (f'.getD p false = true ↔ Reach bl held p))
  coll : ∀ {ord : List Nat} {bl : List Blk} {held : List Part} {cs ws : List Int}, Rep ord bl held cs ws → bl.length ≤ 40 → held.length ≤ 10 → ∃ k o1 n1 o' n' rs ord', MWs cs [] ws o1 n1 rs ∧ Cln k o1 n1 0 o' n' ∧ Rep ord' bl held n' rs ∧ (∀ p, p ∈ ord' ↔ Reach bl held p)
  slide : ∀ {ord : List Nat} {bl : List Blk} {held : List Part} {cs ws : List Int}, Rep ord bl held cs ws → bl.length ≤ 40 → held.length ≤ 10 → ∃ k f ks n' rs ord', MkL cs k (ws.foldl pushW ([], [])).1 (ws.foldl pushW ([], [])).2 f ∧ f.Nodup ∧ f.length < 64 ∧ (∀ a ∈ f, 0 ≤ a ∧ a.toNat < cs.length) ∧
    (∀ ks', ks'.Perm f → ks'.Pairwise (· ≤ ·) → ks' = ks) ∧ Sld (plc cs 0 ks) cs ks [] n' ∧ SWs (plc cs 0 ks) ws rs ∧ Rep ord' bl held n' rs ∧ (∀ p, p ∈ ord' ↔ Reach bl held p)
  due : ∀ {ord : List Nat} {bl : List Blk} {held : List Part} {cs ws : List Int} {f : List Bool}, Rep ord bl held cs ws → (∀ p, p ∈ ord ↔ Reach bl held p) → (∀ p, p < bl.length → (f.getD p false = true ↔ Reach bl held p)) →
    (((List.range bl.length).filter fun p => f.getD p false).map fun p => 1 + (((blk bl p).2.length : Nat) : Int)).sum = cs.length
theorem flat_len (bl : List Blk) (ord : List Nat) : ∀ done : List Nat, (flat bl ord done).length = (done.map fun p => bsz (blk bl p)).sum
  | [] => rfl
  | p :: r => by
    have ih := flat_len bl ord r
    unfold flat at ih ⊢
    rw [List.flatMap_cons, List.length_append, ih, List.map_cons, List.sum_cons]
    simp [cellsOf, bsz]
theorem sum_le {α : Type} (f : α → Nat) (b : Nat) : ∀ {l : List α}, (∀ x ∈ l, f x ≤ b) → (l.map f).sum ≤ l.length * b
  | [], _ => by simp
  | x :: r, h => by
    have ih := sum_le f b (l := r) fun y hy => h y (List.mem_cons_of_mem _ hy)
    have := h x (by simp)
    rw [List.map_cons, List.sum_cons, List.length_cons, Nat.succ_mul]
    omega
theorem nodup_lenA {α : Type} [DecidableEq α] : ∀ {T dom : List α}, T.Nodup → (∀ x ∈ T, x ∈ dom) → T.length ≤ dom.length
  | [], _, _, _ => Nat.zero_le _
  | x :: r, dom, hn, hs => by
    have hx := hs x (by simp)
    have hn' := List.nodup_cons.mp hn
    have := nodup_lenA (T := r) (dom := dom.erase x) hn'.2 fun y hy => (List.mem_erase_of_ne (fun (e : y = x) => hn'.1 (e ▸ hy))).mpr (hs y (List.mem_cons_of_mem _ hy))
    rw [List.length_erase_of_mem hx] at this
    have h0 : 0 < dom.length := List.length_pos_of_mem hx
    rw [List.length_cons]
    omega
theorem nodup_lt_len {n : Nat} {l : List Nat} (hn : l.Nodup) (hl : ∀ x ∈ l, x < n) : l.length ≤ n := by
  have := nodup_lenA (dom := List.range n) hn fun x hx => List.mem_range.mpr (hl x hx)
  simpa using this
theorem KOk.len {b : Blk} (h : KOk b) : b.2.length ≤ 3 := by
  rcases h with ⟨_, h⟩ | ⟨_, h⟩ | ⟨_, h⟩ <;> omega
theorem Rep.len {ord : List Nat} {bl : List Blk} {held : List Part} {cs ws : List Int} (R : Rep ord bl held cs ws) (h : bl.length ≤ 40) : cs.length ≤ 160 := by
  rw [R.cells, flat_len]
  have h1 := sum_le (fun p => bsz (blk bl p)) 4 (l := ord) fun p hp => by have := (R.kd p hp).len; unfold bsz; omega
  have h2 := nodup_lt_len R.nd R.lt
  omega
theorem Rep.wlen {ord : List Nat} {bl : List Blk} {held : List Part} {cs ws : List Int} (R : Rep ord bl held cs ws) : ws.length = held.length := by rw [R.words]; simp
theorem fmod8 (x : Int) : Int.fmod x 8 = x % 8 := Int.fmod_eq_emod_of_nonneg _ (by decide)
theorem fdiv8 (x : Int) : Int.fdiv x 8 = x / 8 := Int.fdiv_eq_ediv_of_nonneg _ (by decide)
theorem fmod16 (x : Int) : Int.fmod x 16 = x % 16 := Int.fmod_eq_emod_of_nonneg _ (by decide)
theorem fdiv16 (x : Int) : Int.fdiv x 16 = x / 16 := Int.fdiv_eq_ediv_of_nonneg _ (by decide)
theorem hdr_tag (b : Blk) : Int.fmod (hdrW b) 8 = 5 := by rw [fmod8]; unfold hdrW; omega
theorem hdr_len {b : Blk} (h0 : 0 ≤ b.1) (h1 : b.1 < 16) : Int.fdiv (Int.fdiv (hdrW b) 8) 16 = (b.2.length : Int) := by rw [fdiv8, fdiv16]; unfold hdrW; omega
theorem hdr_kind {b : Blk} (h0 : 0 ≤ b.1) (h1 : b.1 < 16) : Int.fmod (Int.fdiv (hdrW b) 8) 16 = b.1 := by rw [fdiv8, fmod16]; unfold hdrW; omega
theorem KOk.k {b : Blk} (h : KOk b) : 0 ≤ b.1 ∧ b.1 < 16 := by rcases h with ⟨h, _⟩ | ⟨h, _⟩ | ⟨h, _⟩ <;> omega
section
variable {bl : List Blk}
theorem na_le {p : Nat} : ∀ {ord : List Nat}, na bl ord p ≤ (ord.map fun p => bsz (blk bl p)).sum
  | [] => Nat.le_refl _
  | q :: r => by
    have := na_le (p := p) (ord := r)
    unfold na
    rw [List.map_cons, List.sum_cons]
    split <;> omega
theorem na_append {p : Nat} {r : List Nat} : ∀ {ord : List Nat}, p ∈ ord → na bl (ord ++ r) p = na bl ord p
  | q :: t, h => by
    rw [List.cons_append]
    unfold na
    by_cases hq : q = p
    · rw [if_pos hq, if_pos hq]
    · rw [if_neg hq, if_neg hq, na_append ((List.mem_cons.mp h).resolve_left (Ne.symm hq))]
theorem na_new {p : Nat} {r : List Nat} : ∀ {ord : List Nat}, p ∉ ord → na bl (ord ++ p :: r) p = (ord.map fun p => bsz (blk bl p)).sum
  | [], _ => by simp [na]
  | q :: t, h => by
    simp only [List.mem_cons, not_or] at h
    rw [List.cons_append, List.map_cons, List.sum_cons]
    unfold na
    rw [if_neg (Ne.symm h.1), na_new h.2]
theorem na_split {p : Nat} : ∀ {ord : List Nat}, p ∈ ord → ∃ pre post, ord = pre ++ p :: post ∧ p ∉ pre ∧ na bl ord p = (pre.map fun p => bsz (blk bl p)).sum
  | q :: t, h => by
    by_cases hq : q = p
    · exact ⟨[], t, by rw [hq]; rfl, by simp, by unfold na; rw [if_pos hq]; rfl⟩
    · obtain ⟨pre, post, h1, h2, h3⟩ := na_split (ord := t) ((List.mem_cons.mp h).resolve_left (Ne.symm hq))
      refine ⟨q :: pre, post, by rw [h1]; rfl, by simp [h2, Ne.symm hq], ?_⟩
      unfold na
      rw [if_neg hq, h3, List.map_cons, List.sum_cons]
theorem na_lt {p : Nat} {ord : List Nat} (h : p ∈ ord) : na bl ord p + bsz (blk bl p) ≤ (ord.map fun p => bsz (blk bl p)).sum := by
  obtain ⟨pre, post, h1, h2, h3⟩ := na_split (bl := bl) h
  rw [h3, h1]
  simp
theorem na_inj {p q : Nat} : ∀ {ord : List Nat}, p ∈ ord → q ∈ ord → na bl ord p = na bl ord q → p = q
  | x :: t, hp, hq, h => by
    unfold na at h
    by_cases h1 : x = p
    · rw [if_pos h1] at h
      by_cases h2 : x = q
      · rw [← h1, h2]
      · rw [if_neg h2] at h; unfold bsz at h; omega
    · rw [if_neg h1] at h
      by_cases h2 : x = q
      · rw [if_pos h2] at h; unfold bsz at h; omega
      · rw [if_neg h2] at h
        exact na_inj ((List.mem_cons.mp hp).resolve_left (Ne.symm h1)) ((List.mem_cons.mp hq).resolve_left (Ne.symm h2)) (by omega)
theorem flat_append (ord a b : List Nat) : flat bl ord (a ++ b) = flat bl ord a ++ flat bl ord b := by unfold flat; rw [List.flatMap_append]
theorem flat_cons (ord : List Nat) (p : Nat) (b : List Nat) : flat bl ord (p :: b) = cellsOf bl ord (blk bl p) ++ flat bl ord b := by unfold flat; rw [List.flatMap_cons]
theorem cellsOf_len (ord : List Nat) (b : Blk) : (cellsOf bl ord b).length = bsz b := by simp [cellsOf, bsz]
theorem flat_split {ord ord0 : List Nat} {p : Nat} (h : p ∈ ord) : ∃ pre post, flat bl ord0 ord = pre ++ (cellsOf bl ord0 (blk bl p) ++ post) ∧ pre.length = na bl ord p := by
  obtain ⟨a, b, h1, h2, h3⟩ := na_split (bl := bl) h
  refine ⟨flat bl ord0 a, flat bl ord0 b, ?_, by rw [flat_len, h3]⟩
  conv => lhs; rw [h1]
  rw [flat_append, flat_cons]
theorem flat_hdr {ord ord0 : List Nat} {p : Nat} (h : p ∈ ord) : (flat bl ord0 ord)[na bl ord p]? = some (hdrW (blk bl p)) := by
  obtain ⟨pre, post, h1, h2⟩ := flat_split (bl := bl) (ord0 := ord0) h
  rw [h1, ← h2, List.getElem?_append_right (Nat.le_refl _), Nat.sub_self]
  simp [cellsOf]
theorem flat_field {ord ord0 : List Nat} {p j : Nat} {q : Part} (h : p ∈ ord) (hq : (blk bl p).2[j]? = some q) : (flat bl ord0 ord)[na bl ord p + 1 + j]? = some (tr bl ord0 q) := by
  obtain ⟨pre, post, h1, h2⟩ := flat_split (bl := bl) (ord0 := ord0) h
  have hj := (List.getElem?_eq_some_iff.mp hq).1
  rw [h1, ← h2, List.getElem?_append_right (by omega), show pre.length + 1 + j - pre.length = j + 1 by omega, List.getElem?_append_left (by rw [cellsOf_len]; unfold bsz; omega)]
  simp [cellsOf, hq]
theorem flat_congr {ord ord' done : List Nat} (h : ∀ p ∈ done, ∀ q ∈ (blk bl p).2, tr bl ord q = tr bl ord' q) : flat bl ord done = flat bl ord' done := by
  induction done with
  | nil => rfl
  | cons p r ih =>
    rw [flat_cons, flat_cons, ih fun p' hp' => h p' (List.mem_cons_of_mem _ hp')]
    congr 1
    unfold cellsOf
    congr 1
    exact List.map_congr_left fun q hq => h p (by simp) q hq
theorem tr_append {ord r : List Nat} {q : Part} (h : GPart ord q) : tr bl (ord ++ r) q = tr bl ord q := by
  unfold tr
  rcases h with ⟨h, _⟩ | ⟨h, p, hp, he⟩
  · rw [if_neg (by omega), if_neg (by omega)]
  · rw [if_pos h, if_pos h, he, Int.toNat_natCast, na_append hp]
theorem tr_ref {ord : List Nat} {p : Nat} : tr bl ord (1, (p : Int)) = (na bl ord p : Int) * 8 + 1 := by unfold tr; simp
theorem tr_flat {ord : List Nat} {w : Int} : tr bl ord (0, w) = w := by unfold tr; simp
theorem GPart.mono {ord ord' : List Nat} {q : Part} (h : GPart ord q) (hs : ∀ p ∈ ord, p ∈ ord') : GPart ord' q := by
  rcases h with h | ⟨h, p, hp, he⟩
  · exact .inl h
  · exact .inr ⟨h, p, hs p hp, he⟩
end
section
variable {ord : List Nat} {bl : List Blk} {held : List Part} {cs ws : List Int}
theorem set_mem {α : Type} {l : List α} {i : Nat} {x y : α} (h : y ∈ l.set i x) : y = x ∨ y ∈ l := by
  rcases List.mem_or_eq_of_mem_set h with h | h
  · exact .inr h
  · exact .inl h
theorem Rep.setHeld (R : Rep ord bl held cs ws) {q : Part} (hq : GPart ord q) (i : Nat) : Rep ord bl (held.set i q) cs (ws.set i (tr bl ord q)) :=
  ⟨R.nd, R.lt, R.cl, fun q' h => by
    rcases set_mem h with rfl | h
    · exact hq
    · exact R.hd q' h, R.kd, R.cells, by rw [R.words, List.map_set]⟩
theorem Rep.hdr (R : Rep ord bl held cs ws) {p : Nat} (hp : p ∈ ord) : cs[na bl ord p]? = some (hdrW (blk bl p)) := by rw [R.cells]; exact flat_hdr hp
theorem Rep.field (R : Rep ord bl held cs ws) {p j : Nat} {q : Part} (hp : p ∈ ord) (hq : (blk bl p).2[j]? = some q) : cs[na bl ord p + 1 + j]? = some (tr bl ord q) := by rw [R.cells]; exact flat_field hp hq
theorem Rep.end' (R : Rep ord bl held cs ws) {p : Nat} (hp : p ∈ ord) : na bl ord p + 1 + (blk bl p).2.length ≤ cs.length := by
  rw [R.cells, flat_len]
  have := na_lt (bl := bl) hp
  unfold bsz at this ⊢
  omega
theorem blk_append {bl : List Blk} {b : Blk} {p : Nat} (h : p < bl.length) : blk (bl ++ [b]) p = blk bl p := by
  unfold blk; rw [List.getD_eq_getElem?_getD, List.getD_eq_getElem?_getD, List.getElem?_append_left h]
theorem blk_new {bl : List Blk} {b : Blk} : blk (bl ++ [b]) bl.length = b := by
  unfold blk; rw [List.getD_eq_getElem?_getD]; simp
theorem na_congr {bl bl' : List Blk} {p : Nat} : ∀ {ord : List Nat}, (∀ x ∈ ord, bsz (blk bl x) = bsz (blk bl' x)) → na bl ord p = na bl' ord p
  | [], _ => rfl
  | q :: r, h => by
    unfold na
    rw [h q (by simp), na_congr fun x hx => h x (List.mem_cons_of_mem _ hx)]
theorem tr_congr {bl bl' : List Blk} {ord : List Nat} {q : Part} (h : ∀ x ∈ ord, bsz (blk bl x) = bsz (blk bl' x)) : tr bl ord q = tr bl' ord q := by
  unfold tr; rw [na_congr h]
/-- a new block -/
theorem Rep.alloc (R : Rep ord bl held cs ws) {k : Int} {ps : List Part} (hps : ∀ q ∈ ps, GPart ord q) (hk : KOk (k, ps)) (i : Nat) :
    Rep (ord ++ [bl.length]) (bl ++ [(k, ps)]) (held.set i (1, (bl.length : Int))) (cs ++ (((ps.length : Int) * 16 + k) * 8 + 5) :: ps.map (tr bl ord)) (ws.set i ((cs.length : Int) * 8 + 1)) := by
  have hnew : bl.length ∉ ord := fun h => absurd (R.lt _ h) (Nat.lt_irrefl _)
  have hsz : ∀ x ∈ ord, bsz (blk (bl ++ [(k, ps)]) x) = bsz (blk bl x) := fun x hx => by rw [blk_append (R.lt x hx)]
  have htr : ∀ q, GPart ord q → tr (bl ++ [(k, ps)]) (ord ++ [bl.length]) q = tr bl ord q := fun q hq => by rw [tr_append hq, tr_congr hsz]
  have hsub : ∀ q, GPart ord q → GPart (ord ++ [bl.length]) q := fun q hq => hq.mono fun p hp => List.mem_append_left _ hp
  have hcs : cs.length = (ord.map fun p => bsz (blk bl p)).sum := by rw [R.cells, flat_len]
  have hsum : (ord.map fun p => bsz (blk (bl ++ [(k, ps)]) p)) = ord.map fun p => bsz (blk bl p) := List.map_congr_left hsz
  refine ⟨?_, ?_, ?_, ?_, ?_, ?_, ?_⟩
  · refine List.nodup_append.mpr ⟨R.nd, by simp, fun x hx y hy e => ?_⟩
    rw [List.mem_singleton.mp hy] at e; exact hnew (e ▸ hx)
  · intro p hp
    rw [List.length_append, List.length_singleton]
    rcases List.mem_append.mp hp with h | h
    · exact Nat.lt_succ_of_lt (R.lt p h)
    · rw [List.mem_singleton.mp h]; exact Nat.lt_succ_self _
  · intro p hp q hq
    rcases List.mem_append.mp hp with h | h
    · rw [blk_append (R.lt p h)] at hq; exact hsub q (R.cl p h q hq)
    · rw [List.mem_singleton.mp h, blk_new] at hq; exact hsub q (hps q hq)
  · intro q hq
    rcases set_mem hq with rfl | h
    · exact .inr ⟨rfl, bl.length, by simp, rfl⟩
    · exact hsub q (R.hd q h)
  · intro p hp
    rcases List.mem_append.mp hp with h | h
    · rw [blk_append (R.lt p h)]; exact R.kd p h
    · rw [List.mem_singleton.mp h, blk_new]; exact hk
  · rw [flat_append]
    have e1 : flat (bl ++ [(k, ps)]) (ord ++ [bl.length]) ord = cs := by
      rw [R.cells]
      have key : ∀ done : List Nat, (∀ p ∈ done, p ∈ ord) → flat (bl ++ [(k, ps)]) (ord ++ [bl.length]) done = flat bl ord done := by
        intro done
        induction done with
        | nil => intro _; rfl
        | cons p r ih =>
          intro h
          have hp := h p (by simp)
          rw [flat_cons, flat_cons, ih fun x hx => h x (List.mem_cons_of_mem _ hx), blk_append (R.lt p hp)]
          congr 1
          unfold cellsOf
          congr 1
          exact List.map_congr_left fun q hq => htr q (R.cl p hp q hq)
      exact key ord fun _ h => h
    rw [e1]
    congr 1
    rw [flat_cons, blk_new]
    unfold cellsOf hdrW flat
    simp only [List.flatMap_nil, List.append_nil]
    congr 1
    exact List.map_congr_left fun q hq => (htr q (hps q hq)).symm
  · rw [List.map_set, R.words]
    have e2 : (held.map (tr (bl ++ [(k, ps)]) (ord ++ [bl.length]))) = held.map (tr bl ord) := List.map_congr_left fun q hq => htr q (R.hd q hq)
    rw [e2, tr_ref]
    congr 1
    rw [na_new hnew, hsum, ← hcs]
/-- a field stored -/
theorem Rep.put (R : Rep ord bl held cs ws) {p j : Nat} {q : Part} (hp : p ∈ ord) (hq : GPart ord q) (hj : j < (blk bl p).2.length) :
    Rep ord (bl.set p ((blk bl p).1, (blk bl p).2.set j q)) held (cs.set (na bl ord p + 1 + j) (tr bl ord q)) ws := by
  have hpl := R.lt p hp
  have hb : ∀ x, x ≠ p → blk (bl.set p ((blk bl p).1, (blk bl p).2.set j q)) x = blk bl x := fun x hx => by
    unfold blk; simp only [List.getD_eq_getElem?_getD, List.getElem?_set_ne (Ne.symm hx)]
  have hbp : blk (bl.set p ((blk bl p).1, (blk bl p).2.set j q)) p = ((blk bl p).1, (blk bl p).2.set j q) := by
    unfold blk; rw [List.getD_eq_getElem?_getD, List.getElem?_set_self hpl]; rfl
  have hsz : ∀ x, bsz (blk (bl.set p ((blk bl p).1, (blk bl p).2.set j q)) x) = bsz (blk bl x) := fun x => by
    by_cases hx : x = p
    · subst hx; rw [hbp]; simp [bsz]
    · rw [hb x hx]
  have htr : ∀ q', tr (bl.set p ((blk bl p).1, (blk bl p).2.set j q)) ord q' = tr bl ord q' := fun q' => tr_congr fun x _ => hsz x
  refine ⟨R.nd, fun x hx => by rw [List.length_set]; exact R.lt x hx, ?_, R.hd, ?_, ?_, ?_⟩
  · intro x hx q' hq'
    by_cases hxp : x = p
    · subst hxp
      rw [hbp] at hq'
      rcases set_mem hq' with rfl | h
      · exact hq
      · exact R.cl x hx q' h
    · rw [hb x hxp] at hq'; exact R.cl x hx q' hq'
  · intro x hx
    by_cases hxp : x = p
    · subst hxp
      have := R.kd x hx
      rw [hbp]
      unfold KOk at this ⊢
      simpa using this
    · rw [hb x hxp]; exact R.kd x hx
  · obtain ⟨a, b, h1, h2, h3⟩ := na_split (bl := bl) hp
    have hpb : p ∉ b := fun h => by
      have := R.nd
      rw [h1] at this
      have := (List.nodup_append.mp this).2.1
      exact (List.nodup_cons.mp this).1 h
    have same : ∀ done : List Nat, p ∉ done → flat (bl.set p ((blk bl p).1, (blk bl p).2.set j q)) ord done = flat bl ord done := by
      intro done
      induction done with
      | nil => intro _; rfl
      | cons x r ih =>
        intro h
        simp only [List.mem_cons, not_or] at h
        rw [flat_cons, flat_cons, ih h.2, hb x (Ne.symm h.1)]
        congr 1
        unfold cellsOf
        congr 1
        exact List.map_congr_left fun q' _ => htr q'
    have el : flat (bl.set p ((blk bl p).1, (blk bl p).2.set j q)) ord (a ++ p :: b) = flat bl ord a ++ (cellsOf (bl.set p ((blk bl p).1, (blk bl p).2.set j q)) ord ((blk bl p).1, (blk bl p).2.set j q) ++ flat bl ord b) := by
      rw [flat_append, flat_cons, same a h2, same b hpb, hbp]
    have er : cs = flat bl ord a ++ (cellsOf bl ord (blk bl p) ++ flat bl ord b) := by
      rw [R.cells, show flat bl ord ord = flat bl ord (a ++ p :: b) from congrArg _ h1]
      rw [flat_append, flat_cons]
    have hfl : (flat bl ord a).length = na bl ord p := by rw [flat_len, h3]
    rw [show flat (bl.set p ((blk bl p).1, (blk bl p).2.set j q)) ord ord = flat (bl.set p ((blk bl p).1, (blk bl p).2.set j q)) ord (a ++ p :: b) from congrArg _ h1]
    rw [el, er, List.set_append_right _ _ (by omega), hfl, show na bl ord p + 1 + j - na bl ord p = j + 1 by omega, List.set_append_left _ _ (by rw [cellsOf_len]; unfold bsz; omega)]
    congr 2
    unfold cellsOf hdrW
    rw [List.set_cons_succ, List.length_set, List.map_set]
    congr 1
    rw [htr]
    congr 1
    exact List.map_congr_left fun q' _ => (htr q').symm
  · rw [R.words]; exact List.map_congr_left fun q' _ => (htr q').symm
end
theorem Blks.ext {m m' : Mem} {B : Addr} {bas : List (Addr × Addr)} {bl : List Blk} {md : List Addr} (H : Blks m B bas bl) (E : Ext md m m') (hB : B ∉ md) (hx : ∀ x ∈ bas, x.1 ∉ md ∧ x.2 ∉ md) (ht : ∀ b ∈ md, ∀ vs, m b ≠ some (.tup vs)) : Blks m' B bas bl :=
  ⟨E _ _ H.b hB, H.len, fun i x k h1 h2 => by
    obtain ⟨g1, ts, g2, g3⟩ := H.at' i x k h1 h2
    have hm := hx x (List.mem_of_getElem? h1)
    exact ⟨E _ _ g1 hm.1, ts, E _ _ g2 hm.2, g3.ext E ht⟩⟩
theorem Test.isE {c : Cx} {n : Nat} {env : Frm} {cenv : Env} {loc : Loc} {mem : Mem} {t : Expr} {Q : Bool → Loc → Mem → Prop} (v : Bool) (h : Test c n env cenv t loc mem (fun b l m => b = v ∧ l = loc ∧ Ext [] mem m)) (k : ∀ m, Ext [] mem m → Q v loc m) : Test c n env cenv t loc mem Q :=
  W.mono h fun b l m ⟨h1, h2, h3⟩ => by subst h1; subst h2; exact k m h3
theorem getD_blk {bl : List Blk} {p : Nat} (h : p < bl.length) : bl[p]? = some (blk bl p) := by unfold blk; rw [List.getD_eq_getElem?_getD, List.getElem?_eq_getElem h]; rfl
section
variable {c : Cx} (F : Facts c) {mem : Mem} {h dx cl : Addr} {lim : Int} {cs : List Int}
include F
theorem f44 (PL : Plain) {ord : List Nat} {B wl hl : Addr} {bas : List (Addr × Addr)} {bl : List Blk} {hts : List V} {ws : List Int} {held : List Part} {s : Bool} (R : Rep ord bl held cs ws) (hbl : bl.length ≤ 40) (hhl : held.length ≤ 10) (H : HP mem h dx cl lim cs) (HB : Blks mem B bas bl)
    (hw : mem wl = some (.list (ws.map V.int))) (hh : mem hl = some (.list hts)) (HT : TupsAt mem hts held) (n1 : wl ≠ cl) (n2 : hl ≠ cl) (n3 : B ≠ cl) (n4 : ∀ x ∈ bas, x.1 ≠ cl ∧ x.2 ≠ cl) :
    Fn c 8 (c.fx 44) [.ref h, .ref wl, .ref B, .ref hl, .bool s] mem (fun v m => ∃ t hn dxn cln fa cs' ws' ord', v = .ref t ∧ m t = some (.tup [.ref hn, .ref fa]) ∧ HP m hn dxn cln lim cs' ∧ m fa = some (.list (ws'.map V.int)) ∧ Rep ord' bl held cs' ws' ∧
      mem hn = none ∧ mem dxn = none ∧ mem cln = none ∧ mem fa = none ∧ cln ≠ fa ∧ (∃ o, m cl = some o) ∧ Ext [cl] mem m) := by
  have hwl := R.wlen
  refine Fn.of (n := 7) (names := [Str.ofString "store", Str.ofString "words", Str.ofString "blocks", Str.ofString "held", Str.ofString "is_sliding"]) F.d44.is rfl (ar5 fun _ _ _ _ _ _ _ _ _ _ _ => rfl) (by decide) rfl (by with_unfolding_all decide) rfl rfl rfl fun L cd g => ?_
  refine SS.let (by first | exact ⟨rfl, Or.inl rfl⟩ | exact ⟨rfl, Or.inr ⟨rfl, rfl⟩⟩) ?_ rfl rfl rfl
  refine EV.hlimit F rfl H ?_
  refine SS.cons ?_
  refine S1.assign ?_ rfl rfl rfl
  refine W.mono (Q := fun v l m => l = [(Str.ofString "limit", .int lim), (Str.ofString "store", .ref h), (Str.ofString "words", .ref wl), (Str.ofString "blocks", .ref B), (Str.ofString "held", .ref hl), (Str.ofString "is_sliding", .bool s)] ∧
    ∃ t hn dxn cln fa cs' ws' ord', v = .ref t ∧ m t = some (.tup [.ref hn, .ref fa]) ∧ HP m hn dxn cln lim cs' ∧ m fa = some (.list (ws'.map V.int)) ∧ Rep ord' bl held cs' ws' ∧ (∀ p, p ∈ ord' ↔ Reach bl held p) ∧
      mem hn = none ∧ mem dxn = none ∧ mem cln = none ∧ mem fa = none ∧ cln ≠ fa ∧ (∃ o, m cl = some o) ∧ Ext [cl] mem m) ?_ ?_
  · refine EV.ifexp ?_
    refine Test.plain ?_ rfl
    refine PE.ev (.name rfl) ?_
    refine Tru.bool ?_
    refine ite_intro (fun hb => ?_) (fun hb => ?_)
    · obtain ⟨k, f, ks, n', rs, ord', M, hn, hz, hin, hks, hS, hR, R', hre⟩ := PL.slide R hbl hhl
      refine EV.def' F.d37 ?_ rfl rfl rfl rfl rfl
      refine Args.p2 (.name rfl) (.name rfl) ?_
      refine Fn.call (k := 4) ((f37 F M H hw (by omega) hn hz hin hks hS hR).mono fun v m q => ?_) (by decide)
      obtain ⟨t, hn, dxn, cln, fa, rfl, q1, q2, q3, q4, q5, q6, q7, q8, q9⟩ := q
      exact ⟨rfl, t, hn, dxn, cln, fa, n', rs, ord', rfl, q1, q2, q3, R', hre, q4, q5, q6, q7, q8, ⟨_, q9 _ _ H.c (by simp)⟩, q9.more (by simp)⟩
    · obtain ⟨k, o1, m1, o', n', rs, ord', M1, M2, R', hre⟩ := PL.coll R hbl hhl
      refine EV.def' F.d33 ?_ rfl rfl rfl rfl rfl
      refine Args.p2 (.name rfl) (.name rfl) ?_
      refine Fn.call (k := 4) ((f33 F M1 M2 H hw n1 (by omega)).mono fun v m q => ?_) (by decide)
      obtain ⟨t, hn, dxn, cln, fa, rfl, q1, q2, q3, q4, q5, q6, q7, q8, q10, q9⟩ := q
      exact ⟨rfl, t, hn, dxn, cln, fa, n', rs, ord', rfl, q1, q2, q3, R', hre, q4, q5, q6, q7, q8, ⟨_, q10.c⟩, q9⟩
  rintro v l m ⟨rfl, t, hn, dxn, cln, fa, cs', ws', ord', rfl, ht, Hn, hfa, R', hre, y1, y2, y3, y4, y5, ⟨yo, y6⟩, E⟩
  refine AS.tuple ht rfl ?_
  refine ASs.cons ?_
  refine AS.name (by first | exact ⟨rfl, Or.inl rfl⟩ | exact ⟨rfl, Or.inr ⟨rfl, rfl⟩⟩) ?_
  refine ASs.cons ?_
  refine AS.name (by first | exact ⟨rfl, Or.inl rfl⟩ | exact ⟨rfl, Or.inr ⟨rfl, rfl⟩⟩) ?_
  refine ASs.nil (Cont.next ?_)
  have notup : ∀ b ∈ [cl], ∀ vs, mem b ≠ some (.tup vs) := by
    intro b hb vs e
    rw [List.mem_singleton.mp hb, H.c] at e; cases e
  have HBm := HB.ext E (by simpa using n3) (fun x hx => by simpa using n4 x hx) notup
  have hhm := E _ _ hh (by simpa using n2)
  have HTm := HT.ext E notup
  have hwm := E _ _ hw (by simpa using n1)
  clear ht
  have hwl' := R'.wlen
  obtain ⟨k, f', RLr, hf'⟩ := PL.reach R hbl hhl
  have hdue := PL.due R' hre hf'
  have hcz := R'.len hbl
  refine SS.cons ?_
  refine S1.assign ?_ rfl rfl rfl
  refine EV.callB1 F.bsum rfl (by decide) ?_ rfl rfl rfl rfl rfl
  refine Args.cons ?_ rfl
  refine EV.listComp (cl := _) ⟨rfl, ?h2, rfl, rfl, by decide, rfl, by decide⟩ ?_
  case h2 => walk_at "m_clin"
  refine EV.def' F.d42 ?_ rfl rfl rfl rfl rfl
  refine Args.p2 (.name rfl) (.name rfl) ?_
  refine Fn.call (k := 2) ((f42 F HBm hhm HTm (by omega) (by omega) RLr).mono fun v m2 q => ?_) (by decide)
  obtain ⟨pa, rfl, hpa0, hpa, E2⟩ := q
  have HB2 := HBm.ext0 E2
  obtain ⟨ps, hps⟩ : ∃ ps, ps = (List.range bl.length).filter fun p => f'.getD p false := ⟨_, rfl⟩
  rw [← hps] at hpa hdue
  have hpl : ∀ p ∈ ps, p < bl.length := fun p hp => by rw [hps] at hp; exact List.mem_range.mp (List.mem_filter.mp hp).1
  have hpz : ps.length ≤ 1000 := by rw [hps]; exact Nat.le_trans (List.length_filter_le _ _) (by simp; omega)
  refine ⟨_, _, _, fun i ys m' => ys = (((ps.take i).map fun p => 1 + (((blk bl p).2.length : Nat) : Int))).map V.int ∧ m' = m2, Src.list hpa, by simp; omega, ⟨rfl, rfl⟩, fun i ys m' ⟨_, e⟩ => by rw [e]; exact hpa, ?_, ?_⟩
  · rintro C i v ys m' hi hv ⟨rfl, rfl⟩
    obtain ⟨p, hp, rfl⟩ : ∃ p, ps[i]? = some p ∧ v = .int ((p : Nat) : Int) := by
      rw [List.getElem?_map] at hv
      obtain ⟨p, h1, h2⟩ := Option.map_eq_some_iff.mp hv
      exact ⟨p, h1, h2.symm⟩
    have hpb := hpl p (List.mem_of_getElem? hp)
    obtain ⟨x, hx1, hx2, hx3, ts, hx4, hx5⟩ := HB2.get (getD_blk hpb)
    have htsl := hx5.length
    have hkd : (blk bl p).2.length ≤ 3 := by
      have : Reach bl held p := (hf' p hpb).mp (by rw [hps] at hp; exact (List.mem_filter.mp (List.mem_of_getElem? hp)).2)
      exact (R'.kd p ((hre p).mpr this)).len
    refine AS.name (by first | exact ⟨rfl, Or.inl rfl⟩ | exact ⟨rfl, Or.inr ⟨rfl, rfl⟩⟩) ?_
    refine Tests.nil (ite_t ?_)
    refine EV.binop ?_
    refine PE.ev .int ?_
    refine EV.callB1 F.blen rfl (by decide) ?_ rfl rfl rfl rfl rfl
    refine Args.cons ?_ rfl
    refine EV.sub ?_
    refine EV.subP (.name rfl) (.name rfl) ?_
    refine Sub.list HB2.b (by omega) (by omega) (by rw [Int.toNat_natCast]; exact hx2) ?_
    refine PE.ev .int ?_
    refine Sub.list hx3 (by decide) (by decide) rfl ?_
    refine Args.nil ?_
    refine CallV.len hx4 (by omega) ?_
    refine BOp.add ?_
    exact ⟨by walk_at "m_lsub", by rw [List.take_add_one, hp, htsl]; simp, rfl⟩
  rintro ys m' da ⟨rfl, rfl⟩ hda
  rw [List.take_of_length_le (by simp)]
  refine Args.nil ?_
  refine CallV.sum set_self ?_
  rw [hdue]
  have E3 := E2.fresh (o := .list ((ps.map fun p => 1 + (((blk bl p).2.length : Nat) : Int)).map V.int)) hda
  generalize set m' da (.list ((ps.map fun p => 1 + (((blk bl p).2.length : Nat) : Int)).map V.int)) = m3 at E3
  clear hpa HB2 E2 hda
  refine AS.name (by first | exact ⟨rfl, Or.inl rfl⟩ | exact ⟨rfl, Or.inr ⟨rfl, rfl⟩⟩) ?_
  refine Cont.next ?_
  have Hn3 := Hn.ext E3 (by simp) (by simp) (by simp)
  have hfa3 := E3 _ _ hfa (by simp)
  obtain ⟨ss, C1, C2, C3, C4⟩ := PL.herr R' hbl
  refine SS.cons ?_
  refine S1.if (Test.isE false ?_ ?_)
  · refine Test.boolop ?_
    refine Alls.or ?_
    refine Test.cmp ?_ (by with_unfolding_all rfl)
    refine EV.hm0 F.m1 F.HK ?_ rfl
    refine PE.ev (.name rfl) ?_
    refine ⟨_, _, _, rfl, .of (by walk_at "m_look"), rfl, ?_⟩
    refine CallV.pure (g1 F Hn3) (by decide) ?_
    refine PE.ev (.name rfl) ?_
    refine COp.neI ?_
    refine Tru.bool ?_
    refine ite_intro (fun hb => ?_) (fun hb => ?_)
    · exfalso; simp at hb
    refine Alls.or ?_
    refine Test.cmp ?_ (by with_unfolding_all rfl)
    refine EV.def' F.d30 ?_ rfl rfl rfl rfl rfl
    refine Args.p1 (.name rfl) ?_
    refine Fn.call (k := 4) ((f30 F C1 C2 C3 C4 Hn3).mono fun v m4 q => ?_) (by decide)
    obtain ⟨rfl, E4⟩ := q
    refine PE.ev .noneC ?_
    refine COp.isNotNone ?_
    refine Tru.bool ?_
    refine ite_intro (fun hb => ?_) (fun hb => ?_)
    · exfalso; simp at hb
    refine Alls.or ?_
    refine Test.cmp ?_ (by with_unfolding_all rfl)
    refine EV.hlimit F rfl (Hn3.ext E4 (by simp) (by simp) (by simp)) ?_
    refine PE.ev (.name rfl) ?_
    refine COp.neI ?_
    refine Tru.bool ?_
    refine ite_intro (fun hb => ?_) (fun hb => ?_)
    · exfalso; simp at hb
    refine Alls.or ?_
    refine Test.cmp ?_ (by with_unfolding_all rfl)
    refine EV.callB1 F.blen rfl (by decide) ?_ rfl rfl rfl rfl rfl
    refine Args.p1 (.name rfl) ?_
    refine CallV.len (E4 _ _ hfa3 (by simp)) (by simp; omega) ?_
    refine EV.callB1 F.blen rfl (by decide) ?_ rfl rfl rfl rfl rfl
    refine Args.p1 (.name rfl) ?_
    refine CallV.len (E4 _ _ (E3 _ _ hwm (by simp)) (by simp)) (by simp; omega) ?_
    refine COp.neI ?_
    refine Tru.bool ?_
    refine ite_intro (fun hb => ?_) (fun hb => ?_)
    · exfalso; simp at hb; omega
    exact Alls.orNil ⟨rfl, rfl, E4⟩
  intro m4 E4
  refine ite_f ?_
  refine SS.nil ?_
  refine Cont.next ?_
  have E34 := E3.trans E4
  have Hn4 := Hn.ext E34 (by simp) (by simp) (by simp)
  have hfa4 := E34 _ _ hfa (by simp)
  have HB4 := HBm.ext0 E34
  have hh4 := E34 _ _ hhm (by simp)
  have HT4 := HTm.ext E34 (by simp)
  clear E3 E4 Hn3 hfa3
  obtain ⟨D, dom, LK, hG, hdom, hzd, hzt, hdn⟩ := PL.like R' hbl
  refine SS.cons ?_
  refine S1.if ?_
  refine Test.not ?_
  refine Test.plain ?_ rfl
  refine EV.def' F.d43 ?_ rfl rfl rfl rfl rfl
  refine Args.p4 (.name rfl) (.name rfl) (.name rfl) (.name rfl) ?_
  refine Fn.call (k := 5) ((f43 F LK Hn4 HB4 hfa4 hh4 HT4 (by omega) (by omega) (by omega) hG hdom hzd hzt hdn).mono fun v m5 q => ?_) (by decide)
  obtain ⟨rfl, E5⟩ := q
  refine Tru.bool ?_
  refine ite_intro (fun hb => ?_) (fun hb => ?_)
  · cases hb
  refine SS.nil ?_
  refine Cont.next ?_
  have E35 := E34.trans E5
  have Hn5 := Hn.ext E35 (by simp) (by simp) (by simp)
  have hfa5 := E35 _ _ hfa (by simp)
  clear E34 E5 Hn4 hfa4 HB4 hh4 HT4
  obtain ⟨k2, f2, ks2, cs2, ws2, ord2, M, hn2, hz2, hin2, hks2, hS2, hR2, R2, hre2⟩ := PL.slide R' hbl hhl
  refine SS.cons ?_
  refine S1.assign ?_ rfl rfl rfl
  refine EV.def' F.d37 ?_ rfl rfl rfl rfl rfl
  refine Args.p2 (.name rfl) (.name rfl) ?_
  refine Fn.call (k := 4) ((f37 F M Hn5 hfa5 (by omega) hn2 hz2 hin2 hks2 hS2 hR2).mono fun v m6 q => ?_) (by decide)
  obtain ⟨t2, hn', dxn', cln', fa', rfl, q1, q2, q3, q4, q5, q6, q7, q8, E6⟩ := q
  refine AS.tuple q1 rfl ?_
  refine ASs.cons ?_
  refine AS.name (by first | exact ⟨rfl, Or.inl rfl⟩ | exact ⟨rfl, Or.inr ⟨rfl, rfl⟩⟩) ?_
  refine ASs.cons ?_
  refine AS.name (by first | exact ⟨rfl, Or.inl rfl⟩ | exact ⟨rfl, Or.inr ⟨rfl, rfl⟩⟩) ?_
  refine ASs.nil (Cont.next ?_)
  have E36 := E35.trans E6
  have hdue2 := PL.due R2 hre2 hf'
  rw [← hps, hdue] at hdue2
  have hwl2 := R2.wlen
  have hcz2 := R2.len hbl
  obtain ⟨D2, dom2, LK2, hG2, hdom2, hzd2, hzt2, hdn2⟩ := PL.like R2 hbl
  refine SS.cons ?_
  refine S1.ret ?_
  refine EV.ifexp ?_
  refine Test.isE true ?_ ?_
  · refine Test.boolop ?_
    refine Alls.and ?_
    refine Test.cmp ?_ (by with_unfolding_all rfl)
    refine EV.list ?_
    refine Args.cons ?_ rfl
    refine EV.hm0 F.m1 F.HK ?_ rfl
    refine PE.ev (.name rfl) ?_
    refine ⟨_, _, _, rfl, .of (by walk_at "m_look"), rfl, ?_⟩
    refine CallV.pure (g1 F q2) (by decide) ?_
    refine Args.cons ?_ rfl
    refine EV.callB1 F.blen rfl (by decide) ?_ rfl rfl rfl rfl rfl
    refine Args.p1 (.name rfl) ?_
    refine CallV.len q3 (by simp; omega) ?_
    refine Args.nil ?_
    refine ⟨by simp, fun la hla => ?_⟩
    refine EV.list ?_
    refine Args.cons ?_ rfl
    refine PE.ev (.name rfl) ?_
    refine Args.cons ?_ rfl
    refine EV.callB1 F.blen rfl (by decide) ?_ rfl rfl rfl rfl rfl
    refine Args.p1 (.name rfl) ?_
    refine CallV.len (set_old (E36 _ _ hfa (by simp)) hla) (by simp; omega) ?_
    refine Args.nil ?_
    refine ⟨by simp, fun lb hlb => ?_⟩
    refine COp.eqInts (ns := [(cs2.length : Int), (ws2.length : Int)]) (ms := [(cs'.length : Int), (ws'.length : Int)]) (set_old (by rw [set_self]; simp) hlb) (by rw [set_self]; simp) ?_ (by decide)
    refine Tru.bool ?_
    refine ite_intro (fun hb => ?_) (fun hb => ?_)
    · refine Alls.and ?_
      refine Test.plain ?_ rfl
      refine EV.def' F.d43 ?_ rfl rfl rfl rfl rfl
      refine Args.p4 (.name rfl) (.name rfl) (.name rfl) (.name rfl) ?_
      have E7 := (Ext.refl.fresh (md := []) (o := .list [.int (cs2.length : Int), .int ((ws2.map V.int).length : Int)]) hla).fresh (o := .list [.int (cs'.length : Int), .int ((ws'.map V.int).length : Int)]) hlb
      have E37 := E36.trans E7
      refine Fn.call (k := 5) ((f43 F LK2 (q2.ext E7 (by simp) (by simp) (by simp)) (HBm.ext0 E37) (E7 _ _ q3 (by simp)) (E37 _ _ hhm (by simp)) (HTm.ext E37 (by simp)) (by omega) (by omega) (by omega) hG2 hdom2 hzd2 hzt2 hdn2).mono fun v m8 q => ?_) (by decide)
      obtain ⟨rfl, E8⟩ := q
      refine Tru.bool ?_
      refine ite_intro (fun hb => ?_) (fun hb => ?_)
      · exact Alls.andNil ⟨rfl, rfl, E7.trans E8⟩
      · cases hb
    · exfalso
      rw [← hdue2, hwl2, hwl'] at hb
      simp at hb
  intro m7 E7
  have E37 := E36.trans E7
  refine ite_t ?_
  refine EV.tuple ?_
  refine Args.p2 (.name rfl) (.name rfl) ?_
  refine ⟨by simp, fun t3 ht3 => ?_⟩
  refine Cont.ret ?_
  have E38 := E37.fresh (o := .tup [.ref hn, .ref fa]) ht3
  exact ⟨t3, hn, dxn, cln, fa, cs', ws', ord', rfl, set_self, Hn.ext E38 (by simp) (by simp) (by simp), E38 _ _ hfa (by simp), R', y1, y2, y3, y4, y5, ⟨yo, E38 _ _ y6 (by simp)⟩, E.trans (E38.more (by simp))⟩
end
/-- the law's own objects -/
structure Wm (m : Mem) (pt sl st dx cl : Addr) (lim : Int) (wl B hl : Addr) (bas : List (Addr × Addr)) (bl : List Blk) (held : List Part) (hts : List V) (cs ws : List Int) : Prop where
  pot : Pot m pt sl
  heap : HP m st dx cl lim cs
  words : m wl = some (.list (ws.map V.int))
  blks : Blks m B bas bl
  hel : m hl = some (.list hts)
  tups : TupsAt m hts held
  w6 : ws.length = 6
  h6 : held.length = 6
  six : [pt, sl, cl, wl, B, hl].Nodup
  offs : ∀ x ∈ bas, x.1 ∉ [pt, sl, cl, wl, B, hl] ∧ x.2 ∉ [pt, sl, cl, wl, B, hl]
  cross : ∀ x ∈ bas, ∀ y ∈ bas, x.1 ≠ y.2
  nd : (bas.map (·.2)).Nodup
section
variable {m m' : Mem} {pt sl st dx cl : Addr} {lim : Int} {wl B hl : Addr} {bas : List (Addr × Addr)} {bl : List Blk} {held : List Part} {hts : List V} {cs ws : List Int}
theorem Wm.ext0 (W : Wm m pt sl st dx cl lim wl B hl bas bl held hts cs ws) (E : Ext [] m m') : Wm m' pt sl st dx cl lim wl B hl bas bl held hts cs ws :=
  ⟨W.pot.ext E (by simp) (by simp), W.heap.ext E (by simp) (by simp) (by simp), E _ _ W.words (by simp), W.blks.ext0 E, E _ _ W.hel (by simp), W.tups.ext E (by simp), W.w6, W.h6, W.six, W.offs, W.cross, W.nd⟩
theorem Pot.notup (h : Pot m pt sl) : ∀ b ∈ [pt], ∀ vs, m b ≠ some (.tup vs) := by
  intro b hb vs e
  obtain ⟨a, s, z, h1, _⟩ := h
  rw [List.mem_singleton.mp hb, h1] at e; cases e
theorem lst_notup {x : Addr} {us : List V} (h : m x = some (.list us)) : ∀ b ∈ [x], ∀ vs, m b ≠ some (.tup vs) := by
  intro b hb vs e
  rw [List.mem_singleton.mp hb, h] at e; cases e
theorem HP.off {x : Addr} {us : List V} (H : HP m st dx cl lim cs) (h : m x = some (.list us)) : st ∉ [x] ∧ dx ∉ [x] :=
  ⟨(by simp only [List.mem_singleton]; intro e; have := H.i; rw [e, h] at this; cases this), (by simp only [List.mem_singleton]; intro e; have := H.d; rw [e, h] at this; cases this)⟩
theorem Wm.dip (W : Wm m pt sl st dx cl lim wl B hl bas bl held hts cs ws) (hp : Pot m' pt sl) (E : Ext [pt] m m') : Wm m' pt sl st dx cl lim wl B hl bas bl held hts cs ws := by
  have h6 := W.six
  simp only [List.nodup_cons, List.mem_cons, List.not_mem_nil, or_false, not_or] at h6
  obtain ⟨⟨a1, a2, a3, a4, a5⟩, _⟩ := h6
  obtain ⟨_, _, _, hpl, _⟩ := id W.pot
  have ho := W.heap.off hpl
  exact ⟨hp, W.heap.ext E ho.1 ho.2 (by simpa using Ne.symm a2), E _ _ W.words (by simpa using Ne.symm a3),
    W.blks.ext E (by simpa using Ne.symm a4) (fun x hx => ⟨fun h => (W.offs x hx).1 (by simp at h; simp [h]), fun h => (W.offs x hx).2 (by simp at h; simp [h])⟩) W.pot.notup,
    E _ _ W.hel (by simpa using Ne.symm a5), W.tups.ext E W.pot.notup, W.w6, W.h6, W.six, W.offs, W.cross, W.nd⟩
theorem Wm.cells (W : Wm m pt sl st dx cl lim wl B hl bas bl held hts cs ws) {cs' : List Int} (H : HP m' st dx cl lim cs') (E : Ext [cl] m m') : Wm m' pt sl st dx cl lim wl B hl bas bl held hts cs' ws := by
  have h6 := W.six
  simp only [List.nodup_cons, List.mem_cons, List.not_mem_nil, or_false, not_or] at h6
  obtain ⟨⟨a1, a2, a3, a4, a5⟩, ⟨b1, b2, b3, b4⟩, ⟨d1, d2, d3⟩, _⟩ := h6
  have nt := lst_notup W.heap.c
  exact ⟨W.pot.ext E (by simpa using a2) (by simpa using b1), H, E _ _ W.words (by simpa using Ne.symm d1),
    W.blks.ext E (by simpa using Ne.symm d2) (fun x hx => ⟨fun h => (W.offs x hx).1 (by simp at h; simp [h]), fun h => (W.offs x hx).2 (by simp at h; simp [h])⟩) nt,
    E _ _ W.hel (by simpa using Ne.symm d3), W.tups.ext E nt, W.w6, W.h6, W.six, W.offs, W.cross, W.nd⟩
theorem Wm.setW (W : Wm m pt sl st dx cl lim wl B hl bas bl held hts cs ws) {ws' : List Int} (hw : m' wl = some (.list (ws'.map V.int))) (h6' : ws'.length = 6) (E : Ext [wl] m m') : Wm m' pt sl st dx cl lim wl B hl bas bl held hts cs ws' := by
  have h6 := W.six
  simp only [List.nodup_cons, List.mem_cons, List.not_mem_nil, or_false, not_or] at h6
  obtain ⟨⟨a1, a2, a3, a4, a5⟩, ⟨b1, b2, b3, b4⟩, ⟨d1, d2, d3⟩, ⟨e1, e2⟩, _⟩ := h6
  have nt := lst_notup W.words
  have ho := W.heap.off W.words
  exact ⟨W.pot.ext E (by simpa using a3) (by simpa using b2), W.heap.ext E ho.1 ho.2 (by simpa using d1), hw,
    W.blks.ext E (by simpa using Ne.symm e1) (fun x hx => ⟨fun h => (W.offs x hx).1 (by simp at h; simp [h]), fun h => (W.offs x hx).2 (by simp at h; simp [h])⟩) nt,
    E _ _ W.hel (by simpa using Ne.symm e2), W.tups.ext E nt, h6', W.h6, W.six, W.offs, W.cross, W.nd⟩
theorem Wm.setH (W : Wm m pt sl st dx cl lim wl B hl bas bl held hts cs ws) {held' : List Part} {hts' : List V} (hh : m' hl = some (.list hts')) (ht : TupsAt m' hts' held') (h6' : held'.length = 6) (E : Ext [hl] m m') : Wm m' pt sl st dx cl lim wl B hl bas bl held' hts' cs ws := by
  have h6 := W.six
  simp only [List.nodup_cons, List.mem_cons, List.not_mem_nil, or_false, not_or] at h6
  obtain ⟨⟨a1, a2, a3, a4, a5⟩, ⟨b1, b2, b3, b4⟩, ⟨d1, d2, d3⟩, ⟨e1, e2⟩, e3, _⟩ := h6
  have nt := lst_notup W.hel
  have ho := W.heap.off W.hel
  exact ⟨W.pot.ext E (by simpa using a5) (by simpa using b4), W.heap.ext E ho.1 ho.2 (by simpa using d3), E _ _ W.words (by simpa using e2),
    W.blks.ext E (by simpa using e3) (fun x hx => ⟨fun h => (W.offs x hx).1 (by simp at h; simp [h]), fun h => (W.offs x hx).2 (by simp at h; simp [h])⟩) nt,
    hh, ht, W.w6, h6', W.six, W.offs, W.cross, W.nd⟩
/-- a block made -/
theorem Wm.made (W : Wm m pt sl st dx cl lim wl B hl bas bl held hts cs ws) {b p : Addr} {k : Int} {ps : List Part} {pvs : List V} (hb : m b = none) (hp : m p = none) (hbp : b ≠ p) (h1 : m' b = some (.list [.int k, .ref p])) (h2 : m' p = some (.list pvs)) (ht : TupsAt m' pvs ps)
    (h3 : m' B = some (.list ((bas.map fun x => V.ref x.1) ++ [.ref b]))) (E : Ext [B] m m') : Wm m' pt sl st dx cl lim wl B hl (bas ++ [(b, p)]) (bl ++ [(k, ps)]) held hts cs ws := by
  have h6 := W.six
  simp only [List.nodup_cons, List.mem_cons, List.not_mem_nil, or_false, not_or] at h6
  obtain ⟨⟨a1, a2, a3, a4, a5⟩, ⟨b1, b2, b3, b4⟩, ⟨d1, d2, d3⟩, ⟨e1, e2⟩, e3, _⟩ := h6
  have nt := lst_notup W.blks.b
  have ho := W.heap.off W.blks.b
  obtain ⟨_, _, _, hpl, hsl, _⟩ := id W.pot
  have six : ∀ y, m y = none → y ∉ [pt, sl, cl, wl, B, hl] := fun y hy h => by
    simp only [List.mem_cons, List.not_mem_nil, or_false] at h
    rcases h with rfl | rfl | rfl | rfl | rfl | rfl
    · rw [hpl] at hy; cases hy
    · rw [hsl] at hy; cases hy
    · rw [W.heap.c] at hy; cases hy
    · rw [W.words] at hy; cases hy
    · rw [W.blks.b] at hy; cases hy
    · rw [W.hel] at hy; cases hy
  have here : ∀ x ∈ bas, (∃ o, m x.1 = some o) ∧ ∃ o, m x.2 = some o := fun x hx => by
    obtain ⟨i, hi⟩ := List.mem_iff_getElem?.mp hx
    have hil := (List.getElem?_eq_some_iff.mp hi).1
    obtain ⟨g1, ts, g2, _⟩ := W.blks.at' i x (bl[i]'(by rw [← W.blks.len]; exact hil)) hi (List.getElem?_eq_getElem _)
    exact ⟨⟨_, g1⟩, _, g2⟩
  refine ⟨W.pot.ext E (by simpa using a4) (by simpa using b3), W.heap.ext E ho.1 ho.2 (by simpa using d2), E _ _ W.words (by simpa using e1), ⟨by rw [h3]; simp, by simp [W.blks.len], fun i x kk e1 e2 => ?_⟩,
    E _ _ W.hel (by simpa using Ne.symm e3), W.tups.ext E nt, W.w6, W.h6, W.six, fun x hx => ?_, fun x hx y hy => ?_, ?_⟩
  · by_cases hi : i < bas.length
    · rw [List.getElem?_append_left hi] at e1
      rw [List.getElem?_append_left (by rw [← W.blks.len]; exact hi)] at e2
      obtain ⟨g1, ts, g2, g3⟩ := W.blks.at' i x kk e1 e2
      have hx := List.mem_of_getElem? e1
      exact ⟨E _ _ g1 (fun h => (W.offs x hx).1 (by simp at h; simp [h])), ts, E _ _ g2 (fun h => (W.offs x hx).2 (by simp at h; simp [h])), g3.ext E nt⟩
    · have hil := (List.getElem?_eq_some_iff.mp e1).1
      rw [List.length_append, List.length_singleton] at hil
      obtain rfl : i = bas.length := by omega
      simp at e1
      rw [W.blks.len] at e2
      simp at e2
      subst e1; subst e2
      exact ⟨h1, pvs, h2, ht⟩
  · rcases List.mem_append.mp hx with h | h
    · exact W.offs x h
    · rw [List.mem_singleton.mp h]; exact ⟨six b hb, six p hp⟩
  · rcases List.mem_append.mp hx with h | h <;> rcases List.mem_append.mp hy with g | g
    · exact W.cross x h y g
    · rw [List.mem_singleton.mp g]
      intro e
      obtain ⟨⟨o, ho⟩, _⟩ := here x h
      rw [e, hp] at ho; cases ho
    · rw [List.mem_singleton.mp h]
      intro e
      obtain ⟨_, o, ho⟩ := here y g
      rw [← e, hb] at ho; cases ho
    · rw [List.mem_singleton.mp h, List.mem_singleton.mp g]; exact hbp
  · rw [List.map_append]
    refine List.nodup_append.mpr ⟨W.nd, by simp, fun a ha b' hb' e => ?_⟩
    obtain ⟨x, hx, rfl⟩ := List.mem_map.mp ha
    simp at hb'
    obtain ⟨_, o, ho⟩ := here x hx
    rw [e, hb', hp] at ho; cases ho
/-- a part stored -/
theorem Wm.part (W : Wm m pt sl st dx cl lim wl B hl bas bl held hts cs ws) {o j : Nat} {x : Addr × Addr} {ts : List V} {a : Addr} {q : Part} (hx : bas[o]? = some x) (ho : o < bl.length) (h2 : m x.2 = some (.list ts)) (hts' : TupsAt m ts (blk bl o).2) (ha : m a = some (.tup [.int q.1, .int q.2])) :
    Wm (set m x.2 (.list (ts.set j (.ref a)))) pt sl st dx cl lim wl B hl bas (bl.set o ((blk bl o).1, (blk bl o).2.set j q)) held hts cs ws := by
  have nt := lst_notup h2
  have hn := W.heap.off h2
  have hof := (W.offs x (List.mem_of_getElem? hx)).2
  simp only [List.mem_cons, List.not_mem_nil, or_false, not_or] at hof
  obtain ⟨o1, o2, o3, o4, o5, o6⟩ := hof
  have E : Ext [x.2] m (set m x.2 (.list (ts.set j (.ref a)))) := Ext.refl.put (by simp)
  refine ⟨W.pot.ext E (by simpa using Ne.symm o1) (by simpa using Ne.symm o2), W.heap.ext E hn.1 hn.2 (by simpa using Ne.symm o3), E _ _ W.words (by simpa using Ne.symm o4), ⟨E _ _ W.blks.b (by simpa using Ne.symm o5), by simp [W.blks.len], fun i y kk e1 e2 => ?_⟩,
    E _ _ W.hel (by simpa using Ne.symm o6), W.tups.ext E nt, W.w6, W.h6, W.six, W.offs, W.cross, W.nd⟩
  by_cases hio : i = o
  · subst hio
    rw [hx] at e1; cases e1
    rw [List.getElem?_set_self ho] at e2
    cases e2
    obtain ⟨g1, _⟩ := W.blks.at' i x _ hx (getD_blk ho)
    exact ⟨E _ _ g1 (by simpa using W.cross x (List.mem_of_getElem? hx) x (List.mem_of_getElem? hx)), _, set_self, (hts'.ext E nt).set (E _ _ ha (fun h => nt _ h _ ha)) j⟩
  · rw [List.getElem?_set_ne (Ne.symm hio)] at e2
    obtain ⟨g1, ts', g2, g3⟩ := W.blks.at' i y kk e1 e2
    refine ⟨E _ _ g1 (by simpa using W.cross y (List.mem_of_getElem? e1) x (List.mem_of_getElem? hx)), ts', E _ _ g2 ?_, g3.ext E nt⟩
    simp only [List.mem_singleton]
    intro e
    have h1 : (bas.map (·.2))[i]? = some y.2 := by rw [List.getElem?_map, e1]; rfl
    have h3 : (bas.map (·.2))[o]? = some x.2 := by rw [List.getElem?_map, hx]; rfl
    exact hio ((List.getElem?_inj (List.getElem?_eq_some_iff.mp h1).1 W.nd).mp (by rw [h1, h3, e]))
end
section
variable {m m' : Mem} {pt sl st dx cl : Addr} {lim : Int} {wl B hl : Addr} {bas : List (Addr × Addr)} {bl : List Blk} {held : List Part} {hts : List V} {cs ws : List Int} {ord : List Nat}
theorem Wm.get (W : Wm m pt sl st dx cl lim wl B hl bas bl held hts cs ws) (R : Rep ord bl held cs ws) {i : Nat} (hi : i < 6) :
    ∃ q a, held[i]? = some q ∧ hts[i]? = some (.ref a) ∧ m a = some (.tup [.int q.1, .int q.2]) ∧ (ws.map V.int)[i]? = some (.int (tr bl ord q)) ∧ ws[i]? = some (tr bl ord q) ∧ GPart ord q := by
  have hh := W.h6
  have hq : held[i]? = some (held[i]'(by omega)) := List.getElem?_eq_getElem _
  obtain ⟨a, h1, h2⟩ := W.tups.get' hq
  have hw : ws[i]? = some (tr bl ord (held[i]'(by omega))) := by rw [R.words, List.getElem?_map, hq]; rfl
  exact ⟨_, a, hq, h1, h2, by rw [List.getElem?_map, hw]; rfl, hw, R.hd _ (List.mem_of_getElem? hq)⟩
variable {c : Cx} {n : Nat} {env : Frm} {cenv : Env} {loc : Loc} {P : Loc → Mem → Prop}
theorem SetI.words (W : Wm m pt sl st dx cl lim wl B hl bas bl held hts cs ws) {i : Nat} {w : Int} (hi : i < 6) (k : ∀ m', Wm m' pt sl st dx cl lim wl B hl bas bl held hts cs (ws.set i w) → Ext [wl] m m' → P loc m') : SetI c n env cenv (.ref wl) (.int (i : Int)) (.int w) loc m P := by
  have h6 := W.w6
  refine SetI.list W.words (by omega) (by omega) (by simp; omega) (k _ ?_ (Ext.refl.put (by simp)))
  exact W.setW (by rw [set_self, Int.toNat_natCast, List.map_set]) (by simp [h6]) (Ext.refl.put (by simp))
theorem SetI.heldI (W : Wm m pt sl st dx cl lim wl B hl bas bl held hts cs ws) {i : Nat} {a : Addr} {q : Part} (hi : i < 6) (ha : m a = some (.tup [.int q.1, .int q.2])) (k : ∀ m', Wm m' pt sl st dx cl lim wl B hl bas bl (held.set i q) (hts.set i (.ref a)) cs ws → P loc m') : SetI c n env cenv (.ref hl) (.int (i : Int)) (.ref a) loc m P := by
  have h6 := W.h6
  have hl6 := W.tups.length
  have nt := lst_notup W.hel
  have E : Ext [hl] m (set m hl (.list (hts.set ((i : Int)).toNat (.ref a)))) := Ext.refl.put (by simp)
  refine SetI.list W.hel (by omega) (by omega) (by omega) (k _ ?_)
  exact W.setH (by rw [set_self, Int.toNat_natCast]) ((W.tups.ext E nt).set (E _ _ ha fun h => nt _ h _ ha) i) (by simp [h6]) E
end
theorem TupsAt.pick {m : Mem} {hts : List V} {held : List Part} (h : TupsAt m hts held) : ∀ {sp : List Nat}, (∀ s ∈ sp, s < held.length) → TupsAt m (sp.map fun s => hts.getD s .none) (sp.map fun s => held.getD s (0, 0))
  | [], _ => .nil
  | s :: r, hs => by
    have hsl := hs s (by simp)
    obtain ⟨a, h1, h2⟩ := h.get' (List.getElem?_eq_getElem hsl)
    rw [List.map_cons, List.map_cons, List.getD_eq_getElem?_getD, List.getD_eq_getElem?_getD, h1, List.getElem?_eq_getElem hsl]
    exact .cons h2 (TupsAt.pick h fun x hx => hs x (List.mem_cons_of_mem _ hx))
section
variable {c : Cx} (F : Facts c) {mem : Mem} {pt sl st dx cl : Addr} {lim : Int} {wl B hl : Addr} {bas : List (Addr × Addr)} {bl : List Blk} {held : List Part} {hts : List V} {cs ws : List Int} {ord : List Nat}
include F
theorem f45 (W : Wm mem pt sl st dx cl lim wl B hl bas bl held hts cs ws) (R : Rep ord bl held cs ws) (hz : bl.length ≤ 39) :
    Fn c 5 (c.fx 45) [.ref pt, .ref st, .ref wl, .ref B, .ref hl] mem (fun v m => v = .none ∧ ∃ bas' bl' held' hts' cs' ws' ord', Wm m pt sl st dx cl lim wl B hl bas' bl' held' hts' cs' ws' ∧ Rep ord' bl' held' cs' ws' ∧ bl'.length ≤ bl.length + 1) := by
  have hcz := R.len (by omega)
  have hbas := W.blks.len
  have hh6 := W.h6
  refine Fn.of (n := 4) (names := [Str.ofString "pot", Str.ofString "store", Str.ofString "words", Str.ofString "blocks", Str.ofString "held"]) F.d45.is rfl (ar5 fun _ _ _ _ _ _ _ _ _ _ _ => rfl) (by decide) rfl (by with_unfolding_all decide) rfl rfl rfl fun L cd g => ?_
  refine SS.cons ?_
  refine S1.assign ?_ rfl rfl rfl
  refine EV.tuple ?_
  refine Args.cons ?_ rfl
  refine EV.def' F.d40 ?_ rfl rfl rfl rfl rfl
  refine Args.p2 (.name rfl) .int ?_
  refine Fn.call (k := 1) ((f40 F W.pot (by decide)).mono fun v m1 q => ?_) (by decide)
  obtain ⟨way, rfl, w1, w2, hp1, E1⟩ := q
  have W1 := W.dip hp1 E1
  clear W E1 hp1
  refine Args.cons ?_ rfl
  refine EV.def' F.d40 ?_ rfl rfl rfl rfl rfl
  refine Args.p2 (.name rfl) .int ?_
  refine Fn.call (k := 1) ((f40 F W1.pot (by decide)).mono fun v m1 q => ?_) (by decide)
  obtain ⟨at', rfl, a1, a2, hp1, E1⟩ := q
  have W2 := W1.dip hp1 E1
  clear W1 E1 hp1
  refine Args.cons ?_ rfl
  refine EV.def' F.d40 ?_ rfl rfl rfl rfl rfl
  refine Args.p2 (.name rfl) .int ?_
  refine Fn.call (k := 1) ((f40 F W2.pot (by decide)).mono fun v m1 q => ?_) (by decide)
  obtain ⟨one', rfl, o1, o2, hp1, E1⟩ := q
  have W3 := W2.dip hp1 E1
  clear W2 E1 hp1
  refine Args.cons ?_ rfl
  refine EV.def' F.d40 ?_ rfl rfl rfl rfl rfl
  refine Args.p2 (.name rfl) .int ?_
  refine Fn.call (k := 1) ((f40 F W3.pot (by decide)).mono fun v m1 q => ?_) (by decide)
  obtain ⟨oth', rfl, t1, t2, hp1, E1⟩ := q
  have W4 := W3.dip hp1 E1
  clear W3 E1 hp1
  refine Args.nil ?_
  refine ⟨by simp, fun t ht => ?_⟩
  have W5 := W4.ext0 (Ext.refl.fresh (o := .tup [.int way, .int at', .int one', .int oth']) ht)
  obtain ⟨a, rfl⟩ := Int.eq_ofNat_of_zero_le a1
  obtain ⟨one, rfl⟩ := Int.eq_ofNat_of_zero_le o1
  obtain ⟨oth, rfl⟩ := Int.eq_ofNat_of_zero_le t1
  have a6 : a < 6 := by omega
  have o6 : one < 6 := by omega
  have t6 : oth < 6 := by omega
  refine AS.tuple set_self rfl ?_
  generalize set m1 t (.tup [.int way, .int (a : Int), .int (one : Int), .int (oth : Int)]) = m at W5
  clear W4 ht
  refine ASs.cons ?_
  refine AS.name (by first | exact ⟨rfl, Or.inl rfl⟩ | exact ⟨rfl, Or.inr ⟨rfl, rfl⟩⟩) ?_
  refine ASs.cons ?_
  refine AS.name (by first | exact ⟨rfl, Or.inl rfl⟩ | exact ⟨rfl, Or.inr ⟨rfl, rfl⟩⟩) ?_
  refine ASs.cons ?_
  refine AS.name (by first | exact ⟨rfl, Or.inl rfl⟩ | exact ⟨rfl, Or.inr ⟨rfl, rfl⟩⟩) ?_
  refine ASs.cons ?_
  refine AS.name (by first | exact ⟨rfl, Or.inl rfl⟩ | exact ⟨rfl, Or.inr ⟨rfl, rfl⟩⟩) ?_
  refine ASs.nil (Cont.next ?_)
  obtain ⟨q1, ta1, e1, e2, e3, e4, e5, e6⟩ := W5.get R o6
  obtain ⟨q2, ta2, f1, f2, f3, f4, f5, f6⟩ := W5.get R t6
  obtain ⟨q3, ta3, g1', g2', g3', g4', g5', g6'⟩ := W5.get R a6
  have H := W5.heap
  have six6 := W5.w6
  have tl6 := W5.tups.length
  refine SS.cons ?_
  refine S1.if ?_
  refine Test.ltI (.name rfl) .int (by with_unfolding_all rfl) ?_
  refine ite_intro (fun hb => ?_) (fun hb => ?_)
  · -- cons
    refine SS.cons ?_
    refine S1.assign ?_ rfl rfl rfl
    refine EV.tuple ?_
    refine Args.cons ?_ rfl
    refine EV.hm1 F.m12 F.HK ?_ rfl rfl rfl
    refine PE.ev (.name rfl) ?_
    refine ⟨_, _, _, rfl, .of (by walk_at "m_look"), rfl, ?_⟩
    refine Args.cons ?_ rfl
    refine EV.subP (.name rfl) (.name rfl) ?_
    refine Sub.list W5.words (by omega) (by omega) (by rw [Int.toNat_natCast]; exact e4) ?_
    refine Args.cons ?_ rfl
    refine EV.subP (.name rfl) (.name rfl) ?_
    refine Sub.list W5.words (by omega) (by omega) (by rw [Int.toNat_natCast]; exact f4) ?_
    refine Args.nil ?_
    refine Fn.call (k := 3) ((g12 F H (by omega)).mono fun v m6 q => ?_) (by decide)
    obtain ⟨rfl, H6, E6⟩ := q
    have W6 := W5.cells H6 E6
    have ntc := lst_notup H.c
    refine Args.cons ?_ rfl
    refine EV.def' F.d41 ?_ rfl rfl rfl rfl rfl
    refine Args.cons ?_ rfl
    refine PE.ev (.name rfl) ?_
    refine Args.cons ?_ rfl
    refine PE.ev (.gint F.gPAIR rfl rfl) ?_
    refine Args.cons ?_ rfl
    refine EV.list ?_
    refine Args.cons ?_ rfl
    refine EV.subP (.name rfl) (.name rfl) ?_
    refine Sub.list W6.hel (by omega) (by omega) (by rw [Int.toNat_natCast]; exact e2) ?_
    refine Args.cons ?_ rfl
    refine EV.subP (.name rfl) (.name rfl) ?_
    refine Sub.list W6.hel (by omega) (by omega) (by rw [Int.toNat_natCast]; exact f2) ?_
    refine Args.nil ?_
    refine ⟨by simp, fun la hla => ?_⟩
    have W7 := W6.ext0 (Ext.refl.fresh (o := .list [.ref ta1, .ref ta2]) hla)
    refine Args.nil ?_
    refine Fn.call (k := 1) ((f41 F W7.blks.b set_self (by simp; omega) (by simp)).mono fun v m8 q => ?_) (by decide)
    obtain ⟨tt, b, p, rfl, z1, z2, z3, z4, z5, z6, z7, z8, E8⟩ := q
    refine Args.nil ?_
    refine ⟨by simp, fun t9 ht9 => ?_⟩
    have E7 : Ext [] m6 (set m6 la (.list [.ref ta1, .ref ta2])) := Ext.refl.fresh hla
    have nt7 := lst_notup W7.blks.b
    have tup8 : ∀ x y, m x = some (.tup y) → m8 x = some (.tup y) := fun x y hx => by
      have h1 := E6 _ _ hx fun h => ntc _ h _ hx
      have h2 := E7 _ _ h1 (by simp)
      exact E8 _ _ h2 fun h => nt7 _ h _ h2
    have W8 := W7.made (k := 0) (ps := [q1, q2]) z2 z3 z4 z6 z7 (.cons (tup8 _ _ e3) (.cons (tup8 _ _ f3) .nil)) z8 E8
    have R8 := R.alloc (k := 0) (ps := [q1, q2]) (by intro q hq; simp at hq; rcases hq with rfl | rfl <;> assumption) (.inl ⟨rfl, rfl⟩) a
    refine AS.tuple set_self rfl ?_
    have W9 := W8.ext0 (Ext.refl.fresh (o := .tup [.int ((cs.length : Int) * 8 + 1), .ref tt]) ht9)
    have z5' := set_old (o := .tup [.int ((cs.length : Int) * 8 + 1), .ref tt]) z5 ht9
    refine ASs.cons ?_
    refine AS.sub ?_ (by intro _; rfl)
    refine PE.ev (.name rfl) ?_
    refine PE.ev (.name rfl) ?_
    refine SetI.words W9 a6 fun m10 W10 E10 => ?_
    refine ASs.cons ?_
    refine AS.sub ?_ (by intro _; rfl)
    refine PE.ev (.name rfl) ?_
    refine PE.ev (.name rfl) ?_
    refine SetI.heldI (q := (1, (bl.length : Int))) W10 a6 (by rw [E10 _ _ z5' (fun h => lst_notup W9.words _ h _ z5')]; simp [hbas]) fun m11 W11 => ?_
    refine ASs.nil (Cont.next ?_)
    refine SS.nil (Cont.next (SS.nil ?_))
    exact ⟨rfl, _, _, _, _, _, _, _, W11, by simpa using R8, by simp⟩
  refine SS.cons ?_
  refine S1.if ?_
  refine Test.eqI (.name rfl) .int (by with_unfolding_all rfl) ?_
  refine ite_intro (fun hb => ?_) (fun hb => ?_)
  · -- a vector
    refine SS.cons ?_
    refine S1.assign ?_ rfl rfl rfl
    refine EV.sliceTo ?_
    refine EV.list ?_
    refine Args.p3 (.name rfl) (.name rfl) (.name rfl) ?_
    refine ⟨by simp, fun la hla => ?_⟩
    refine EV.def' F.d40 ?_ rfl rfl rfl rfl rfl
    refine Args.p2 (.name rfl) .int ?_
    have W6 := W5.ext0 (Ext.refl.fresh (o := .list [.int (one : Int), .int (oth : Int), .int (a : Int)]) hla)
    refine Fn.call (k := 1) ((f40 F W6.pot (by decide)).mono fun v m7 q => ?_) (by decide)
    obtain ⟨cut, rfl, c1, c2, hp7, E7⟩ := q
    have hlp : la ≠ pt := fun e => by obtain ⟨_, _, _, hh, _⟩ := W5.pot; rw [e, hh] at hla; cases hla
    have la7 := E7 _ _ (set_self (o := .list [.int (one : Int), .int (oth : Int), .int (a : Int)])) (by simpa using hlp)
    have W7 := W6.dip hp7 E7
    refine ⟨la, _, cut, rfl, la7, by simp, rfl, c1, (by simp; omega), fun sb hsb => ?_⟩
    obtain ⟨sp, hsp⟩ : ∃ sp : List Nat, sp = [one, oth, a].take cut.toNat := ⟨_, rfl⟩
    have hspv : ([V.int (one : Int), .int (oth : Int), .int (a : Int)]).take cut.toNat = sp.map fun (s : Nat) => V.int (s : Int) := by rw [hsp, List.map_take]; rfl
    have hsp6 : ∀ s ∈ sp, s < 6 := fun s hs => by
      rw [hsp] at hs
      have := List.mem_of_mem_take hs
      simp at this
      rcases this with rfl | rfl | rfl <;> assumption
    have hsp3 : sp.length ≤ 3 := by rw [hsp, List.length_take]; simp; omega
    rw [hspv]
    have W8 := W7.ext0 (Ext.refl.fresh (o := .list (sp.map fun (s : Nat) => V.int (s : Int))) hsb)
    have sb8 : set m7 sb (.list (sp.map fun (s : Nat) => V.int (s : Int))) sb = _ := set_self
    generalize set m7 sb (.list (sp.map fun (s : Nat) => V.int (s : Int))) = m8 at W8 sb8
    have hsc : sb ≠ cl := fun e => by rw [e, W7.heap.c] at hsb; cases hsb
    clear W5 W6 W7 E7 la7 hsb hla hp7 H e3 f3 g3'
    refine AS.name (by first | exact ⟨rfl, Or.inl rfl⟩ | exact ⟨rfl, Or.inr ⟨rfl, rfl⟩⟩) ?_
    refine Cont.next ?_
    have H8 := W8.heap
    refine SS.cons ?_
    refine S1.assign ?_ rfl rfl rfl
    refine EV.tuple ?_
    refine Args.cons ?_ rfl
    refine EV.hm1 F.m3 F.HK ?_ rfl rfl rfl
    refine PE.ev (.name rfl) ?_
    refine ⟨_, _, _, rfl, .of (by walk_at "m_look"), rfl, ?_⟩
    refine Args.cons ?_ rfl
    refine PE.ev (.gint F.gVECTOR rfl rfl) ?_
    refine Args.cons ?_ rfl
    refine EV.listComp (cl := _) ⟨rfl, ?h2, rfl, rfl, by decide, rfl, by decide⟩ ?_
    case h2 => walk_at "m_clin"
    refine EV.name rfl ?_
    refine ⟨_, _, _, fun i ys m' => ys = ((sp.take i).map fun s => V.int (tr bl ord (held.getD s (0, 0)))) ∧ m' = m8, Src.list sb8, (by simp; omega), ⟨rfl, rfl⟩, fun i ys m' ⟨_, e⟩ => by rw [e]; exact sb8, ?_, ?_⟩
    · rintro C i v ys m' hi hv ⟨rfl, rfl⟩
      obtain ⟨s, hs, rfl⟩ : ∃ s, sp[i]? = some s ∧ v = .int ((s : Nat) : Int) := by
        rw [List.getElem?_map] at hv
        obtain ⟨s, h1, h2⟩ := Option.map_eq_some_iff.mp hv
        exact ⟨s, h1, h2.symm⟩
      have hs6 := hsp6 s (List.mem_of_getElem? hs)
      obtain ⟨q, ta, y1, y2, y3, y4, y5, y6⟩ := W8.get R hs6
      have hgd : held.getD s (0, 0) = q := by rw [List.getD_eq_getElem?_getD, y1]; rfl
      refine AS.name (by first | exact ⟨rfl, Or.inl rfl⟩ | exact ⟨rfl, Or.inr ⟨rfl, rfl⟩⟩) ?_
      refine Tests.nil (ite_t ?_)
      refine EV.sub ?_
      refine EV.name rfl ?_
      refine EV.name rfl ?_
      refine Sub.list W8.words (by omega) (by omega) (by rw [Int.toNat_natCast]; exact y4) ?_
      exact ⟨by walk_at "m_lsub", by rw [List.take_add_one, hs]; simp [y1], rfl⟩
    rintro ys m' wa ⟨rfl, rfl⟩ hwa
    rw [List.take_of_length_le (by simp)]
    have W9 := W8.ext0 (Ext.refl.fresh (o := .list (sp.map fun s => V.int (tr bl ord (held.getD s (0, 0))))) hwa)
    have sb9 := set_old (o := .list (sp.map fun s => V.int (tr bl ord (held.getD s (0, 0))))) sb8 hwa
    have hwc : wa ≠ cl := fun e => by rw [e, W8.heap.c] at hwa; cases hwa
    refine Args.nil ?_
    refine Fn.call (k := 2) ((g3 F (fs := sp.map fun s => tr bl ord (held.getD s (0, 0))) W9.heap (by rw [set_self, List.map_map]; rfl) hwc (by rw [List.length_map]; omega)).mono fun v m10 q => ?_) (by decide)
    obtain ⟨rfl, H10, E10⟩ := q
    have W10 := W9.cells H10 E10
    have sb10 := E10 _ _ sb9 (by simpa using hsc)
    refine Args.cons ?_ rfl
    refine EV.def' F.d41 ?_ rfl rfl rfl rfl rfl
    refine Args.cons ?_ rfl
    refine PE.ev (.name rfl) ?_
    refine Args.cons ?_ rfl
    refine PE.ev (.gint F.gVECTOR rfl rfl) ?_
    refine Args.cons ?_ rfl
    refine EV.listComp (cl := _) ⟨rfl, ?h3, rfl, rfl, by decide, rfl, by decide⟩ ?_
    case h3 => walk_at "m_clin"
    refine EV.name rfl ?_
    refine ⟨_, _, _, fun i ys m' => ys = ((sp.take i).map fun s => hts.getD s .none) ∧ m' = m10, Src.list sb10, (by simp; omega), ⟨rfl, rfl⟩, fun i ys m' ⟨_, e⟩ => by rw [e]; exact sb10, ?_, ?_⟩
    · rintro C i v ys m' hi hv ⟨rfl, rfl⟩
      obtain ⟨s, hs, rfl⟩ : ∃ s, sp[i]? = some s ∧ v = .int ((s : Nat) : Int) := by
        rw [List.getElem?_map] at hv
        obtain ⟨s, h1, h2⟩ := Option.map_eq_some_iff.mp hv
        exact ⟨s, h1, h2.symm⟩
      have hs6 := hsp6 s (List.mem_of_getElem? hs)
      obtain ⟨q, ta, y1, y2, y3, y4, y5, y6⟩ := W8.get R hs6
      have hgd : hts.getD s .none = .ref ta := by rw [List.getD_eq_getElem?_getD, y2]; rfl
      refine AS.name (by first | exact ⟨rfl, Or.inl rfl⟩ | exact ⟨rfl, Or.inr ⟨rfl, rfl⟩⟩) ?_
      refine Tests.nil (ite_t ?_)
      refine EV.sub ?_
      refine EV.name rfl ?_
      refine EV.name rfl ?_
      refine Sub.list W10.hel (by omega) (by omega) (by rw [Int.toNat_natCast]; exact y2) ?_
      exact ⟨by walk_at "m_lsub", by rw [List.take_add_one, hs]; simp [y2], rfl⟩
    rintro ys m' ha ⟨rfl, rfl⟩ hha
    rw [List.take_of_length_le (by simp)]
    have W11 := W10.ext0 (Ext.refl.fresh (o := .list (sp.map fun s => hts.getD s .none)) hha)
    refine Args.nil ?_
    refine Fn.call (k := 1) ((f41 F W11.blks.b set_self (by simp; omega) (by simp; omega)).mono fun v m12 q => ?_) (by decide)
    obtain ⟨tt, b, p, rfl, z1, z2, z3, z4, z5, z6, z7, z8, E12⟩ := q
    refine Args.nil ?_
    refine ⟨by simp, fun t9 ht9 => ?_⟩
    have W12 := W11.made (k := 1) (ps := sp.map fun s => held.getD s (0, 0)) z2 z3 z4 z6 z7 ((W11.tups.ext E12 (lst_notup W11.blks.b)).pick fun s hs => by rw [hh6]; exact hsp6 s hs) z8 E12
    have R8 := R.alloc (k := 1) (ps := sp.map fun s => held.getD s (0, 0)) (by
      intro q hq
      obtain ⟨s, hs, rfl⟩ := List.mem_map.mp hq
      obtain ⟨q, ta, y1, y2, y3, y4, y5, y6⟩ := W8.get R (hsp6 s hs)
      rw [List.getD_eq_getElem?_getD, y1]; exact y6) (.inr (.inl ⟨rfl, by simpa using hsp3⟩)) a
    refine AS.tuple set_self rfl ?_
    have W13 := W12.ext0 (Ext.refl.fresh (o := .tup [.int ((cs.length : Int) * 8 + 1), .ref tt]) ht9)
    have z5' := set_old (o := .tup [.int ((cs.length : Int) * 8 + 1), .ref tt]) z5 ht9
    refine ASs.cons ?_
    refine AS.sub ?_ (by intro _; rfl)
    refine PE.ev (.name rfl) ?_
    refine PE.ev (.name rfl) ?_
    refine SetI.words W13 a6 fun m14 W14 E14 => ?_
    refine ASs.cons ?_
    refine AS.sub ?_ (by intro _; rfl)
    refine PE.ev (.name rfl) ?_
    refine PE.ev (.name rfl) ?_
    refine SetI.heldI (q := (1, (bl.length : Int))) W14 a6 (by rw [E14 _ _ z5' (fun h => lst_notup W13.words _ h _ z5')]; simp [hbas]) fun m15 W15 => ?_
    refine ASs.nil (Cont.next ?_)
    refine SS.nil (Cont.next (SS.nil (Cont.next (SS.nil ?_))))
    rw [List.length_map] at W15
    rw [List.length_map, List.map_map] at R8
    exact ⟨rfl, _, _, _, _, _, _, _, W15, R8, by simp⟩
  refine SS.cons ?_
  refine S1.if ?_
  refine Test.eqI (.name rfl) .int (by with_unfolding_all rfl) ?_
  refine ite_intro (fun hb => ?_) (fun hb => ?_)
  · -- a box
    refine SS.cons ?_
    refine S1.assign ?_ rfl rfl rfl
    refine EV.tuple ?_
    refine Args.cons ?_ rfl
    refine EV.hm1 F.m3 F.HK ?_ rfl rfl rfl
    refine PE.ev (.name rfl) ?_
    refine ⟨_, _, _, rfl, .of (by walk_at "m_look"), rfl, ?_⟩
    refine Args.cons ?_ rfl
    refine PE.ev (.gint F.gBOX rfl rfl) ?_
    refine Args.cons ?_ rfl
    refine EV.list ?_
    refine Args.cons ?_ rfl
    refine EV.subP (.name rfl) (.name rfl) ?_
    refine Sub.list W5.words (by omega) (by omega) (by rw [Int.toNat_natCast]; exact e4) ?_
    refine Args.nil ?_
    refine ⟨by simp, fun wa hwa => ?_⟩
    have W6 := W5.ext0 (Ext.refl.fresh (o := .list [.int (tr bl ord q1)]) hwa)
    have hwc : wa ≠ cl := fun e => by rw [e, W5.heap.c] at hwa; cases hwa
    refine Args.nil ?_
    refine Fn.call (k := 2) ((g3 F (fs := [tr bl ord q1]) W6.heap (by rw [set_self]; rfl) hwc (by simp; omega)).mono fun v m7 q => ?_) (by decide)
    obtain ⟨rfl, H7, E7⟩ := q
    have W7 := W6.cells H7 E7
    refine Args.cons ?_ rfl
    refine EV.def' F.d41 ?_ rfl rfl rfl rfl rfl
    refine Args.cons ?_ rfl
    refine PE.ev (.name rfl) ?_
    refine Args.cons ?_ rfl
    refine PE.ev (.gint F.gBOX rfl rfl) ?_
    refine Args.cons ?_ rfl
    refine EV.list ?_
    refine Args.cons ?_ rfl
    refine EV.subP (.name rfl) (.name rfl) ?_
    refine Sub.list W7.hel (by omega) (by omega) (by rw [Int.toNat_natCast]; exact e2) ?_
    refine Args.nil ?_
    refine ⟨by simp, fun la hla => ?_⟩
    have W8 := W7.ext0 (Ext.refl.fresh (o := .list [.ref ta1]) hla)
    refine Args.nil ?_
    refine Fn.call (k := 1) ((f41 F W8.blks.b set_self (by simp; omega) (by simp)).mono fun v m9 q => ?_) (by decide)
    obtain ⟨tt, b, p, rfl, z1, z2, z3, z4, z5, z6, z7, z8, E9⟩ := q
    refine Args.nil ?_
    refine ⟨by simp, fun t9 ht9 => ?_⟩
    have e37 : m7 ta1 = _ := E7 _ _ (set_old (o := .list [.int (tr bl ord q1)]) e3 hwa) fun h => lst_notup W6.heap.c _ h _ (set_old e3 hwa)
    have e38 : set m7 la (.list [.ref ta1]) ta1 = _ := set_old e37 hla
    have W9 := W8.made (k := 4) (ps := [q1]) z2 z3 z4 z6 z7 (.cons (E9 _ _ e38 fun h => lst_notup W8.blks.b _ h _ e38) .nil) z8 E9
    have R8 := R.alloc (k := 4) (ps := [q1]) (by intro q hq; simp at hq; rw [hq]; exact e6) (.inr (.inr ⟨rfl, rfl⟩)) a
    refine AS.tuple set_self rfl ?_
    have W10 := W9.ext0 (Ext.refl.fresh (o := .tup [.int ((cs.length : Int) * 8 + 1), .ref tt]) ht9)
    have z5' := set_old (o := .tup [.int ((cs.length : Int) * 8 + 1), .ref tt]) z5 ht9
    refine ASs.cons ?_
    refine AS.sub ?_ (by intro _; rfl)
    refine PE.ev (.name rfl) ?_
    refine PE.ev (.name rfl) ?_
    refine SetI.words W10 a6 fun m11 W11 E11 => ?_
    refine ASs.cons ?_
    refine AS.sub ?_ (by intro _; rfl)
    refine PE.ev (.name rfl) ?_
    refine PE.ev (.name rfl) ?_
    refine SetI.heldI (q := (1, (bl.length : Int))) W11 a6 (by rw [E11 _ _ z5' (fun h => lst_notup W10.words _ h _ z5')]; simp [hbas]) fun m12 W12 => ?_
    refine ASs.nil (Cont.next ?_)
    refine SS.nil (Cont.next (SS.nil (Cont.next (SS.nil (Cont.next (SS.nil ?_))))))
    exact ⟨rfl, _, _, _, _, _, _, _, W12, by simpa using R8, by simp⟩
  refine SS.cons ?_
  refine S1.if ?_
  refine Test.eqI (.name rfl) .int (by with_unfolding_all rfl) ?_
  refine ite_intro (fun hb => ?_) (fun hb => ?_)
  · -- a flat word
    obtain ⟨w, hw⟩ : ∃ w : Int, w = if Int.fmod (oth : Int) 2 = 0 then ((one : Int) - 3) * 8 + 0 else 20 := ⟨_, rfl⟩
    have hfm : Int.fmod (oth : Int) 2 = 0 ∨ Int.fmod (oth : Int) 2 = 1 := by
      rw [Int.fmod_eq_emod_of_nonneg _ (by decide)]; omega
    have hfw : flatW w := by
      unfold flatW
      rw [fmod8, hw]
      split <;> omega
    have hsub : ([V.int (((one : Int) - 3) * 8 + 0), .int 20])[(Int.fmod (oth : Int) 2).toNat]? = some (.int w) := by
      rcases hfm with h | h <;> rw [hw, h] <;> simp
    refine SS.let (by first | exact ⟨rfl, Or.inl rfl⟩ | exact ⟨rfl, Or.inr ⟨rfl, rfl⟩⟩) ?_ rfl rfl rfl
    refine EV.sub ?_
    refine EV.list ?_
    refine Args.p2 (.def1 F.d17 (fun _ => f17 F) (by decide) (.sub (.name rfl) .int) rfl rfl rfl rfl) (.gint F.gEMPTY_LIST rfl rfl) ?_
    refine ⟨by simp, fun la hla => ?_⟩
    refine PE.ev (.mod (.name rfl) .int (by decide)) ?_
    refine Sub.list (v := .int w) set_self (by omega) (by omega) hsub ?_
    have W6 := W5.ext0 (Ext.refl.fresh (o := .list [.int (((one : Int) - 3) * 8 + 0), .int 20]) hla)
    generalize set m la (.list [.int (((one : Int) - 3) * 8 + 0), .int 20]) = m6 at W6
    refine SS.cons ?_
    refine S1.assign ?_ rfl rfl rfl
    refine EV.tuple ?_
    refine Args.cons ?_ rfl
    refine PE.ev (.name rfl) ?_
    refine Args.cons ?_ rfl
    refine EV.tuple ?_
    refine Args.p2 .int (.name rfl) ?_
    refine ⟨by simp, fun tb htb => ?_⟩
    refine Args.nil ?_
    refine ⟨by simp, fun t9 ht9 => ?_⟩
    refine AS.tuple set_self rfl ?_
    have W7 := (W6.ext0 (Ext.refl.fresh (o := .tup [.int 0, .int w]) htb)).ext0 (Ext.refl.fresh (o := .tup [.int w, .ref tb]) ht9)
    have hz0 : set (set m6 tb (.tup [.int 0, .int w])) t9 (.tup [.int w, .ref tb]) tb = some (.tup [.int 0, .int w]) := set_old set_self ht9
    refine ASs.cons ?_
    refine AS.sub ?_ (by intro _; rfl)
    refine PE.ev (.name rfl) ?_
    refine PE.ev (.name rfl) ?_
    refine SetI.words W7 a6 fun m11 W11 E11 => ?_
    refine ASs.cons ?_
    refine AS.sub ?_ (by intro _; rfl)
    refine PE.ev (.name rfl) ?_
    refine PE.ev (.name rfl) ?_
    refine SetI.heldI (q := (0, w)) W11 a6 (by rw [E11 _ _ hz0 (fun h => lst_notup W7.words _ h _ hz0)]) fun m12 W12 => ?_
    refine ASs.nil (Cont.next ?_)
    refine SS.nil (Cont.next (SS.nil (Cont.next (SS.nil (Cont.next (SS.nil (Cont.next (SS.nil ?_))))))))
    have R8 := R.setHeld (q := (0, w)) (.inl ⟨rfl, hfw⟩) a
    rw [tr_flat] at R8
    exact ⟨rfl, _, _, _, _, _, _, _, W12, R8, by omega⟩
  refine SS.cons ?_
  refine S1.if ?_
  refine Test.eqI (.name rfl) .int (by with_unfolding_all rfl) ?_
  refine ite_intro (fun hb => ?_) (fun hb => ?_)
  · -- a copy
    refine SS.cons ?_
    refine S1.assign ?_ rfl rfl rfl
    refine EV.tuple ?_
    refine Args.cons ?_ rfl
    refine EV.subP (.name rfl) (.name rfl) ?_
    refine Sub.list W5.words (by omega) (by omega) (by rw [Int.toNat_natCast]; exact e4) ?_
    refine Args.cons ?_ rfl
    refine EV.subP (.name rfl) (.name rfl) ?_
    refine Sub.list W5.hel (by omega) (by omega) (by rw [Int.toNat_natCast]; exact e2) ?_
    refine Args.nil ?_
    refine ⟨by simp, fun t9 ht9 => ?_⟩
    refine AS.tuple set_self rfl ?_
    have W7 := W5.ext0 (Ext.refl.fresh (o := .tup [.int (tr bl ord q1), .ref ta1]) ht9)
    have e39 := set_old (o := .tup [.int (tr bl ord q1), .ref ta1]) e3 ht9
    refine ASs.cons ?_
    refine AS.sub ?_ (by intro _; rfl)
    refine PE.ev (.name rfl) ?_
    refine PE.ev (.name rfl) ?_
    refine SetI.words W7 a6 fun m11 W11 E11 => ?_
    refine ASs.cons ?_
    refine AS.sub ?_ (by intro _; rfl)
    refine PE.ev (.name rfl) ?_
    refine PE.ev (.name rfl) ?_
    refine SetI.heldI (q := q1) W11 a6 (E11 _ _ e39 (fun h => lst_notup W7.words _ h _ e39)) fun m12 W12 => ?_
    refine ASs.nil (Cont.next ?_)
    refine SS.nil (Cont.next (SS.nil (Cont.next (SS.nil (Cont.next (SS.nil (Cont.next (SS.nil (Cont.next (SS.nil ?_))))))))))
    exact ⟨rfl, _, _, _, _, _, _, _, W12, R.setHeld e6 a, by omega⟩
  refine SS.cons ?_
  refine S1.if ?_
  refine Test.boolop ?_
  refine Alls.and ?_
  refine Test.cmp ?_ (by with_unfolding_all rfl)
  refine EV.sub ?_
  refine EV.subP (.name rfl) (.name rfl) ?_
  refine Sub.list W5.hel (by omega) (by omega) (by rw [Int.toNat_natCast]; exact e2) ?_
  refine PE.ev .int ?_
  refine Sub.tup e3 (by decide) (by decide) rfl ?_
  refine PE.ev .int ?_
  refine COp.eqI ?_
  refine Tru.bool ?_
  refine ite_intro (fun hb => ?_) (fun hb => ?_)
  · have hq1 : q1.1 = 1 := by simpa using hb
    obtain ⟨p, hp, hqp⟩ : ∃ p ∈ ord, q1.2 = ((p : Nat) : Int) := by
      rcases e6 with ⟨h, _⟩ | ⟨_, h⟩
      · rw [hq1] at h; cases h
      · exact h
    have hpl := R.lt p hp
    obtain ⟨x, hx1, hx2, hx3, ts, hx4, hx5⟩ := W5.blks.get (getD_blk hpl)
    have htsl := hx5.length
    have hkd := (R.kd p hp).len
    refine Alls.and ?_
    refine Test.cmp ?_ (by with_unfolding_all rfl)
    refine EV.sub ?_
    refine EV.sub ?_
    refine PE.ev (.name rfl) ?_
    refine EV.sub ?_
    refine EV.subP (.name rfl) (.name rfl) ?_
    refine Sub.list W5.hel (by omega) (by omega) (by rw [Int.toNat_natCast]; exact e2) ?_
    refine PE.ev .int ?_
    refine Sub.tup e3 (by decide) (by decide) rfl ?_
    refine Sub.list W5.blks.b (by omega) (by omega) (by rw [hqp, Int.toNat_natCast]; exact hx2) ?_
    refine PE.ev .int ?_
    refine Sub.list hx3 (by decide) (by decide) rfl ?_
    refine EV.list ?_
    refine Args.nil ?_
    refine ⟨by simp, fun ea hea => ?_⟩
    refine COp.neNil (set_old hx4 hea) set_self ?_
    refine Tru.bool ?_
    refine ite_intro (fun hb => ?_) (fun hb => ?_)
    · refine Alls.andNil (ite_t ?_)
      have hts0 : 0 < ts.length := by cases ts with
        | nil => cases hb
        | cons => simp
      have W6 := W5.ext0 (Ext.refl.fresh (o := .list []) hea)
      have hx3' := set_old (o := .list []) hx3 hea
      have hx4' := set_old (o := .list []) hx4 hea
      have e3' := set_old (o := .list []) e3 hea
      generalize set m ea (.list []) = m6 at W6 hx3' hx4' e3'
      refine SS.let (by first | exact ⟨rfl, Or.inl rfl⟩ | exact ⟨rfl, Or.inr ⟨rfl, rfl⟩⟩) ?_ rfl rfl rfl
      refine EV.sub ?_
      refine EV.sub ?_
      refine PE.ev (.name rfl) ?_
      refine EV.sub ?_
      refine EV.subP (.name rfl) (.name rfl) ?_
      refine Sub.list W6.hel (by omega) (by omega) (by rw [Int.toNat_natCast]; exact e2) ?_
      refine PE.ev .int ?_
      refine Sub.tup e3' (by decide) (by decide) rfl ?_
      refine Sub.list W6.blks.b (by omega) (by omega) (by rw [hqp, Int.toNat_natCast]; exact hx2) ?_
      refine PE.ev .int ?_
      refine Sub.list hx3' (by decide) (by decide) rfl ?_
      have hnpt : x.2 ≠ pt := fun e => (W6.offs x (List.mem_of_getElem? hx1)).2 (by simp [e])
      refine SS.let (by first | exact ⟨rfl, Or.inl rfl⟩ | exact ⟨rfl, Or.inr ⟨rfl, rfl⟩⟩) ?_ rfl rfl rfl
      refine EV.def' F.d40 ?_ rfl rfl rfl rfl rfl
      refine Args.cons ?_ rfl
      refine PE.ev (.name rfl) ?_
      refine Args.cons ?_ rfl
      refine EV.callB1 F.blen rfl (by decide) ?_ rfl rfl rfl rfl rfl
      refine Args.p1 (.name rfl) ?_
      refine CallV.len hx4' (by omega) ?_
      refine Args.nil ?_
      refine Fn.call (k := 1) ((f40 F W6.pot (by omega)).mono fun v m7 q => ?_) (by decide)
      obtain ⟨spot', rfl, s1, s2, hp7, E7⟩ := q
      have W7 := W6.dip hp7 E7
      have hx4'' := E7 _ _ hx4' (by simpa using hnpt)
      have e3'' := E7 _ _ e3' fun h => W6.pot.notup _ h _ e3'
      obtain ⟨spot, rfl⟩ := Int.eq_ofNat_of_zero_le s1
      have hsl : spot < (blk bl p).2.length := by omega
      obtain ⟨qs, hqs⟩ : ∃ qs, (blk bl p).2[spot]? = some qs := ⟨_, List.getElem?_eq_getElem hsl⟩
      have hx5' := (W7.blks.at' p x _ hx1 (getD_blk hpl)).2
      obtain ⟨ts', hts1, hts2⟩ := hx5'
      rw [hx4''] at hts1
      cases hts1
      obtain ⟨tsp, hs1, hs2⟩ := hts2.get' hqs
      have hq1e : q1 = (1, (p : Int)) := Prod.ext hq1 hqp
      have htr1 : tr bl ord q1 = (na bl ord p : Int) * 8 + 1 := by rw [hq1e, tr_ref]
      have hwm : (Int.fmod (tr bl ord q1) 8 == 1) = true := by rw [htr1, fmod_ref]; rfl
      have hwd : Int.fdiv (tr bl ord q1) 8 = (na bl ord p : Int) := by rw [htr1, fdiv_ref]
      have hkk := (R.kd p hp).k
      have hhl := hdr_len (b := blk bl p) hkk.1 hkk.2
      have hh5 : (Int.fmod (hdrW (blk bl p)) 8 == 5) = true := by rw [hdr_tag]; rfl
      have hend := R.end' hp
      have H7 := W7.heap
      refine SS.cons ?_
      refine S1.if ?_
      refine Test.eqI (.name rfl) .int (by with_unfolding_all rfl) ?_
      refine ite_intro (fun hb => ?_) (fun hb => ?_)
      · refine SS.cons ?_
        refine S1.assign ?_ rfl rfl rfl
        refine EV.tuple ?_
        refine Args.cons ?_ rfl
        refine EV.hm1 F.m9 F.HK ?_ rfl rfl rfl
        refine PE.ev (.name rfl) ?_
        refine ⟨_, _, _, rfl, .of (by walk_at "m_look"), rfl, ?_⟩
        refine Args.cons ?_ rfl
        refine EV.subP (.name rfl) (.name rfl) ?_
        refine Sub.list W7.words (by omega) (by omega) (by rw [Int.toNat_natCast]; exact e4) ?_
        refine Args.cons ?_ rfl
        refine PE.ev (.name rfl) ?_
        refine Args.nil ?_
        refine CallV.pure (g9 F (y := tr bl ord qs) H7 hwm hwd (by omega) (by rw [Int.toNat_natCast]; exact R.hdr hp) hh5 (by omega) (by rw [hhl]; omega) (by rw [show ((na bl ord p : Int) + 1 + (spot : Int)).toNat = na bl ord p + 1 + spot by omega]; exact R.field hp hqs)) (by decide) ?_
        refine Args.cons ?_ rfl
        refine EV.subP (.name rfl) (.name rfl) ?_
        refine Sub.list hx4'' (by omega) (by omega) (by rw [Int.toNat_natCast]; exact hs1) ?_
        refine Args.nil ?_
        refine ⟨by simp, fun t9 ht9 => ?_⟩
        refine AS.tuple set_self rfl ?_
        have W8 := W7.ext0 (Ext.refl.fresh (o := .tup [.int (tr bl ord qs), .ref tsp]) ht9)
        have e39 := set_old (o := .tup [.int (tr bl ord qs), .ref tsp]) hs2 ht9
        refine ASs.cons ?_
        refine AS.sub ?_ (by intro _; rfl)
        refine PE.ev (.name rfl) ?_
        refine PE.ev (.name rfl) ?_
        refine SetI.words W8 a6 fun m11 W11 E11 => ?_
        refine ASs.cons ?_
        refine AS.sub ?_ (by intro _; rfl)
        refine PE.ev (.name rfl) ?_
        refine PE.ev (.name rfl) ?_
        refine SetI.heldI (q := qs) W11 a6 (E11 _ _ e39 (fun h => lst_notup W8.words _ h _ e39)) fun m12 W12 => ?_
        refine ASs.nil (Cont.next ?_)
        refine SS.nil (Cont.next (SS.nil (Cont.next (SS.nil (Cont.next (SS.nil (Cont.next (SS.nil (Cont.next (SS.nil (Cont.next (SS.nil (Cont.next (SS.nil ?_))))))))))))))
        exact ⟨rfl, _, _, _, _, _, _, _, W12, R.setHeld (R.cl p hp qs (List.mem_of_getElem? hqs)) a, by omega⟩
      · refine SS.cons ?_
        refine S1.expr ?_ rfl rfl
        refine EV.hm1 F.m10 F.HK ?_ rfl rfl rfl
        refine PE.ev (.name rfl) ?_
        refine ⟨_, _, _, rfl, .of (by walk_at "m_look"), rfl, ?_⟩
        refine Args.cons ?_ rfl
        refine EV.subP (.name rfl) (.name rfl) ?_
        refine Sub.list W7.words (by omega) (by omega) (by rw [Int.toNat_natCast]; exact e4) ?_
        refine Args.cons ?_ rfl
        refine PE.ev (.name rfl) ?_
        refine Args.cons ?_ rfl
        refine EV.subP (.name rfl) (.name rfl) ?_
        refine Sub.list W7.words (by omega) (by omega) (by rw [Int.toNat_natCast]; exact f4) ?_
        refine Args.nil ?_
        refine Fn.call (k := 4) ((g10 F (y := tr bl ord q2) H7 hwm hwd (by omega) (by rw [Int.toNat_natCast]; exact R.hdr hp) hh5 (by omega) (by rw [hhl]; omega) (by omega)).mono fun v m8 q => ?_) (by decide)
        obtain ⟨rfl, H8, E8⟩ := q
        refine ⟨rfl, Cont.next ?_⟩
        rw [show ((na bl ord p : Int) + 1 + (spot : Int)).toNat = na bl ord p + 1 + spot by omega] at H8
        have W8 := W7.cells H8 E8
        have hncl : x.2 ≠ cl := fun e => (W7.offs x (List.mem_of_getElem? hx1)).2 (by simp [e])
        have hx8 := E8 _ _ hx4'' (by simpa using hncl)
        have hts8 := hts2.ext E8 (lst_notup W7.heap.c)
        obtain ⟨ta2', f2', f3'⟩ := W8.tups.get' f1
        rw [f2] at f2'
        cases f2'
        refine SS.cons ?_
        refine S1.assign ?_ rfl rfl rfl
        refine EV.subP (.name rfl) (.name rfl) ?_
        refine Sub.list W8.hel (by omega) (by omega) (by rw [Int.toNat_natCast]; exact f2) ?_
        refine AS.sub ?_ (by intro _; rfl)
        refine PE.ev (.name rfl) ?_
        refine PE.ev (.name rfl) ?_
        refine SetI.list hx8 (by omega) (by omega) (by omega) ?_
        refine Cont.next ?_
        rw [Int.toNat_natCast]
        have W9 := W8.part (j := spot) hx1 hpl hx8 hts8 f3'
        refine SS.nil (Cont.next (SS.nil (Cont.next (SS.nil (Cont.next (SS.nil (Cont.next (SS.nil (Cont.next (SS.nil (Cont.next (SS.nil (Cont.next (SS.nil ?_))))))))))))))
        exact ⟨rfl, _, _, _, _, _, _, _, W9, R.put hp f6 hsl, by simp⟩
    · refine ite_f ?_
      have W6 := W5.ext0 (Ext.refl.fresh (o := .list []) hea)
      refine SS.nil (Cont.next (SS.nil (Cont.next (SS.nil (Cont.next (SS.nil (Cont.next (SS.nil (Cont.next (SS.nil (Cont.next (SS.nil ?_))))))))))))
      exact ⟨rfl, _, _, _, _, _, _, _, W6, R, by omega⟩
  · refine ite_f ?_
    refine SS.nil (Cont.next (SS.nil (Cont.next (SS.nil (Cont.next (SS.nil (Cont.next (SS.nil (Cont.next (SS.nil (Cont.next (SS.nil ?_))))))))))))
    exact ⟨rfl, _, _, _, _, _, _, _, W5, R, by omega⟩
end
section
variable {m m' : Mem} {pt sl st dx cl : Addr} {lim : Int} {wl B hl : Addr} {bas : List (Addr × Addr)} {bl : List Blk} {held : List Part} {hts : List V} {cs ws : List Int}
/-- another heap, other words -/
theorem Wm.swap (W : Wm m pt sl st dx cl lim wl B hl bas bl held hts cs ws) {hn dxn cln wl' : Addr} {cs' ws' : List Int} (E : Ext [cl] m m') (H : HP m' hn dxn cln lim cs') (hw : m' wl' = some (.list (ws'.map V.int))) (h6' : ws'.length = 6)
    (h1 : m cln = none) (h2 : m wl' = none) (h3 : cln ≠ wl') : Wm m' pt sl hn dxn cln lim wl' B hl bas bl held hts cs' ws' := by
  have h6 := W.six
  simp only [List.nodup_cons, List.mem_cons, List.not_mem_nil, or_false, not_or] at h6
  obtain ⟨⟨a1, a2, a3, a4, a5⟩, ⟨b1, b2, b3, b4⟩, ⟨d1, d2, d3⟩, ⟨e1, e2⟩, e3, _⟩ := h6
  have nt := lst_notup W.heap.c
  obtain ⟨_, _, _, hpl, hsl, _⟩ := id W.pot
  have c1 : pt ≠ cln := ne_fresh hpl h1
  have c2 : sl ≠ cln := ne_fresh hsl h1
  have c3 : B ≠ cln := ne_fresh W.blks.b h1
  have c4 : hl ≠ cln := ne_fresh W.hel h1
  have d1' : pt ≠ wl' := ne_fresh hpl h2
  have d2' : sl ≠ wl' := ne_fresh hsl h2
  have d3' : B ≠ wl' := ne_fresh W.blks.b h2
  have d4' : hl ≠ wl' := ne_fresh W.hel h2
  refine ⟨W.pot.ext E (by simpa using a2) (by simpa using b1), H, hw,
    W.blks.ext E (by simpa using Ne.symm d2) (fun x hx => ⟨fun h => (W.offs x hx).1 (by simp at h; simp [h]), fun h => (W.offs x hx).2 (by simp at h; simp [h])⟩) nt,
    E _ _ W.hel (by simpa using Ne.symm d3), W.tups.ext E nt, h6', W.h6, ?_, fun x hx => ?_, W.cross, W.nd⟩
  · simp only [List.nodup_cons, List.mem_cons, List.not_mem_nil, or_false, not_or]
    exact ⟨⟨a1, c1, d1', a4, a5⟩, ⟨c2, d2', b3, b4⟩, ⟨h3, Ne.symm c3, Ne.symm c4⟩, ⟨Ne.symm d3', Ne.symm d4'⟩, e3, not_false, List.nodup_nil⟩
  · obtain ⟨i, hi⟩ := List.mem_iff_getElem?.mp hx
    have hil := (List.getElem?_eq_some_iff.mp hi).1
    obtain ⟨g1, ts, g2, _⟩ := W.blks.at' i x (bl[i]'(by rw [← W.blks.len]; exact hil)) hi (List.getElem?_eq_getElem _)
    obtain ⟨o1, o2⟩ := W.offs x hx
    simp only [List.mem_cons, List.not_mem_nil, or_false, not_or] at o1 o2 ⊢
    exact ⟨⟨o1.1, o1.2.1, ne_fresh g1 h1, ne_fresh g1 h2, o1.2.2.2.2.1, o1.2.2.2.2.2⟩, ⟨o2.1, o2.2.1, ne_fresh g2 h1, ne_fresh g2 h2, o2.2.2.2.2.1, o2.2.2.2.2.2⟩⟩
end
theorem none_of {m m' : Mem} {a x : Addr} (E : Ext [a] m m') (ha : ∃ o, m' a = some o) (h : m' x = none) : m x = none := by
  cases e : m x with
  | none => rfl
  | some o =>
    by_cases hx : x = a
    · obtain ⟨o', ho⟩ := ha
      rw [hx, ho] at h; cases h
    · rw [E _ _ e (by simpa using hx)] at h; cases h
theorem tag_ref {bl : List Blk} {ord : List Nat} {q : Part} (h : GPart ord q) : (Int.fmod (tr bl ord q) 8 == 1) = (q.1 == 1) := by
  rcases h with ⟨h, hf⟩ | ⟨h, p, hp, he⟩
  · unfold tr
    rw [if_neg (by omega), h]
    unfold flatW at hf
    rcases hf with hf | hf <;> rw [hf] <;> rfl
  · unfold tr
    rw [if_pos h, fmod_ref, h]
noncomputable def kindsOf (bl : List Blk) (ps : List Part) : List Int := (ps.filter (·.1 == 1)).map fun q => (blk bl q.2.toNat).1
theorem kindsOf_take {bl : List Blk} {ps : List Part} {i : Nat} {p : Part} (h : ps[i]? = some p) : kindsOf bl (ps.take (i + 1)) = kindsOf bl (ps.take i) ++ (if p.1 == 1 then [(blk bl p.2.toNat).1] else []) := by
  unfold kindsOf
  rw [List.take_succ, h, List.filter_append, List.map_append]
  congr 1
  cases hb : (p.1 == 1) <;> simp [hb]
section
variable {c : Cx} (F : Facts c)
include F
theorem f46 (PL : Plain) (hz : c.si.length ≤ 63) {f L : Addr} {cd : Value} {g : Heap} : SS c 10 (frmOf (Str.ofString "law") (fnScope (stmtAt 46)) L f cd g) (envOfC (Str.ofString "law") (fnScope (stmtAt 46)) L f cd) (fnBody (stmtAt 46)) [(Str.ofString "script", .ref c.sl)] (fun _ => none) (FinQ fun v _ => v = .bool true) := by
  refine SS.cons ?_
  refine S1.assign ?_ rfl rfl rfl
  refine EV.tuple ?_
  refine Args.cons ?_ rfl
  refine EV.def' F.d39 ?_ rfl rfl rfl rfl rfl
  refine Args.p1 (.name rfl) ?_
  refine Fn.call (k := 1) ((f39 F hz).mono fun v m1 q => ?_) (by decide)
  obtain ⟨pt, sl, rfl, hp1, _, _, _⟩ := q
  refine Args.cons ?_ rfl
  refine EV.callF1 F.gHeap F.HK.keep ?_ rfl rfl rfl rfl rfl
  refine Args.p1 .int ?_
  refine CallV.heap F (by decide) fun st dx cl m2 x1 x2 x3 H2 E2 => ?_
  have hp2 := hp1.ext E2 (by simp) (by simp)
  have hpc : pt ≠ cl := by obtain ⟨_, _, _, h, _⟩ := hp1; exact ne_fresh h x3
  have hsc : sl ≠ cl := by obtain ⟨_, _, _, _, h, _⟩ := hp1; exact ne_fresh h x3
  clear hp1 E2 x1 x2 x3
  refine Args.cons ?_ rfl
  refine EV.list ?_
  refine Args.nil ?_
  refine ⟨by simp, fun B hB => ?_⟩
  refine Args.nil ?_
  refine ⟨by simp, fun t ht => ?_⟩
  refine AS.tuple set_self rfl ?_
  have E3 : Ext [] m2 (set (set m2 B (.list [])) t (.tup [.ref pt, .ref st, .ref B])) := (Ext.refl.fresh hB).fresh ht
  have hp3 := hp2.ext E3 (by simp) (by simp)
  have H3 := H2.ext E3 (by simp) (by simp) (by simp)
  have B3 : set (set m2 B (.list [])) t (.tup [.ref pt, .ref st, .ref B]) B = some (.list []) := set_old set_self ht
  have hpB : pt ≠ B := by obtain ⟨_, _, _, h, _⟩ := hp2; exact ne_fresh h hB
  have hsB : sl ≠ B := by obtain ⟨_, _, _, _, h, _⟩ := hp2; exact ne_fresh h hB
  have hcB : cl ≠ B := ne_fresh H2.c hB
  generalize set (set m2 B (.list [])) t (.tup [.ref pt, .ref st, .ref B]) = m3 at hp3 H3 B3
  clear hp2 H2 E3 hB ht
  refine ASs.cons ?_
  refine AS.name (by first | exact ⟨rfl, Or.inl rfl⟩ | exact ⟨rfl, Or.inr ⟨rfl, rfl⟩⟩) ?_
  refine ASs.cons ?_
  refine AS.name (by first | exact ⟨rfl, Or.inl rfl⟩ | exact ⟨rfl, Or.inr ⟨rfl, rfl⟩⟩) ?_
  refine ASs.cons ?_
  refine AS.name (by first | exact ⟨rfl, Or.inl rfl⟩ | exact ⟨rfl, Or.inr ⟨rfl, rfl⟩⟩) ?_
  refine ASs.nil (Cont.next ?_)
  refine SS.cons ?_
  refine S1.assignSwap2 (x1 := Str.ofString "words") (x2 := Str.ofString "held") ?_ (by first | exact ⟨rfl, Or.inl rfl⟩ | exact ⟨rfl, Or.inr ⟨rfl, rfl⟩⟩) (by first | exact ⟨rfl, Or.inl rfl⟩ | exact ⟨rfl, Or.inr ⟨rfl, rfl⟩⟩) rfl rfl
  refine EV.tuple ?_
  refine Args.cons ?_ rfl
  refine EV.binop ?_
  refine EV.list ?_
  refine Args.p1 (.def1 F.d17 (fun _ => f17 F) (by decide) .int rfl rfl rfl rfl) ?_
  refine ⟨by simp, fun a1 h1 => ?_⟩
  refine PE.ev .int ?_
  refine BOp.rep set_self (by decide) (by decide) fun wl hwl => ?_
  have E4 : Ext [] m3 (set (set m3 a1 (.list [.int (0 * 8 + 0)])) wl (.list (List.replicate (6 : Int).toNat (.int (0 * 8 + 0))))) := (Ext.refl.fresh h1).fresh hwl
  have w4 : set (set m3 a1 (.list [.int (0 * 8 + 0)])) wl (.list (List.replicate (6 : Int).toNat (.int (0 * 8 + 0)))) wl = some (.list ((List.replicate 6 (0 : Int)).map V.int)) := by rw [set_self]; rfl
  have hp4 := hp3.ext E4 (by simp) (by simp)
  have H4 := H3.ext E4 (by simp) (by simp) (by simp)
  have B4 := E4 _ _ B3 (by simp)
  have hwl3 := (Ext.refl.fresh (o := .list [.int (0 * 8 + 0)]) h1).none hwl
  have hpw : pt ≠ wl := by obtain ⟨_, _, _, h, _⟩ := hp3; exact ne_fresh h hwl3
  have hsw : sl ≠ wl := by obtain ⟨_, _, _, _, h, _⟩ := hp3; exact ne_fresh h hwl3
  have hcw : cl ≠ wl := ne_fresh H3.c hwl3
  have hBw : B ≠ wl := ne_fresh B3 hwl3
  generalize set (set m3 a1 (.list [.int (0 * 8 + 0)])) wl (.list (List.replicate (6 : Int).toNat (.int (0 * 8 + 0)))) = m4 at hp4 H4 B4 w4
  clear hp3 H3 E4 B3 h1 hwl hwl3
  refine Args.cons ?_ rfl
  refine EV.binop ?_
  refine EV.list ?_
  refine Args.cons ?_ rfl
  refine EV.tuple ?_
  refine Args.p2 .int (.def1 F.d17 (fun _ => f17 F) (by decide) .int rfl rfl rfl rfl) ?_
  refine ⟨by simp, fun tb htb => ?_⟩
  refine Args.nil ?_
  refine ⟨by simp, fun a2 h2 => ?_⟩
  refine PE.ev .int ?_
  refine BOp.rep set_self (by decide) (by decide) fun hl hhl => ?_
  have E5 : Ext [] m4 (set (set (set m4 tb (.tup [.int 0, .int (0 * 8 + 0)])) a2 (.list [.ref tb])) hl (.list (List.replicate (6 : Int).toNat (.ref tb)))) := ((Ext.refl.fresh htb).fresh h2).fresh hhl
  have h5 : set (set (set m4 tb (.tup [.int 0, .int (0 * 8 + 0)])) a2 (.list [.ref tb])) hl (.list (List.replicate (6 : Int).toNat (.ref tb))) hl = some (.list (List.replicate 6 (V.ref tb))) := by rw [set_self]; rfl
  have t5 : set (set (set m4 tb (.tup [.int 0, .int (0 * 8 + 0)])) a2 (.list [.ref tb])) hl (.list (List.replicate (6 : Int).toNat (.ref tb))) tb = some (.tup [.int 0, .int 0]) := set_old (set_old set_self h2) hhl
  have hhl4 := ((Ext.refl.fresh (o := .tup [.int 0, .int (0 * 8 + 0)]) htb).fresh (o := .list [.ref tb]) h2).none hhl
  have hp5 := hp4.ext E5 (by simp) (by simp)
  have H5 := H4.ext E5 (by simp) (by simp) (by simp)
  have B5 := E5 _ _ B4 (by simp)
  have w5 := E5 _ _ w4 (by simp)
  have hph : pt ≠ hl := by obtain ⟨_, _, _, h, _⟩ := hp4; exact ne_fresh h hhl4
  have hsh : sl ≠ hl := by obtain ⟨_, _, _, _, h, _⟩ := hp4; exact ne_fresh h hhl4
  have hch : cl ≠ hl := ne_fresh H4.c hhl4
  have hBh : B ≠ hl := ne_fresh B4 hhl4
  have hwh : wl ≠ hl := ne_fresh w4 hhl4
  have hne := hp5.ne
  have T5 : TupsAt (set (set (set m4 tb (.tup [.int 0, .int (0 * 8 + 0)])) a2 (.list [.ref tb])) hl (.list (List.replicate (6 : Int).toNat (.ref tb)))) (List.replicate 6 (V.ref tb)) (List.replicate 6 (0, 0)) :=
    .cons t5 (.cons t5 (.cons t5 (.cons t5 (.cons t5 (.cons t5 .nil)))))
  have W5 : Wm (set (set (set m4 tb (.tup [.int 0, .int (0 * 8 + 0)])) a2 (.list [.ref tb])) hl (.list (List.replicate (6 : Int).toNat (.ref tb)))) pt sl st dx cl 500 wl B hl [] [] (List.replicate 6 (0, 0)) (List.replicate 6 (V.ref tb)) [] (List.replicate 6 0) :=
    ⟨hp5, H5, w5, ⟨B5, rfl, fun i x k h _ => by simp at h⟩, h5, T5, rfl, rfl, by
      simp only [List.nodup_cons, List.mem_cons, List.not_mem_nil, or_false, not_or]
      exact ⟨⟨Ne.symm hne, hpc, hpw, hpB, hph⟩, ⟨hsc, hsw, hsB, hsh⟩, ⟨hcw, hcB, hch⟩, ⟨Ne.symm hBw, hwh⟩, hBh, not_false, List.nodup_nil⟩, by simp, by simp, by simp⟩
  have R5 : Rep [] [] (List.replicate 6 (0, 0)) [] (List.replicate 6 0) :=
    ⟨List.nodup_nil, by simp, by simp, fun q hq => by rw [List.eq_of_mem_replicate hq]; exact .inl ⟨rfl, .inl rfl⟩, by simp, rfl, rfl⟩
  generalize set (set (set m4 tb (.tup [.int 0, .int (0 * 8 + 0)])) a2 (.list [.ref tb])) hl (.list (List.replicate (6 : Int).toNat (.ref tb))) = m5 at W5
  clear T5 t5 h5 hp5 H5 B5 w5 E5 hp4 H4 B4 w4 htb h2 hhl hhl4 hne hpc hpw hpB hph hsc hsw hsB hsh hcw hcB hch hBw hwh hBh
  refine Args.nil ?_
  refine ⟨by simp, fun t2 ht2 => ?_⟩
  refine ⟨t2, _, _, rfl, set_self, ?_⟩
  have W6 := W5.ext0 (Ext.refl.fresh (o := .tup [.ref wl, .ref hl]) ht2)
  generalize set m5 t2 (.tup [.ref wl, .ref hl]) = m6 at W6
  clear W5 ht2
  refine Cont.next ?_
  refine SS.cons ?_
  refine S1.for ?_
  refine EV.callT1 F.brange rfl (by decide) ?_ rfl rfl rfl rfl rfl
  refine Args.cons ?_ rfl
  refine EV.binop ?_
  refine PE.ev .int ?_
  refine EV.def' F.d40 ?_ rfl rfl rfl rfl rfl
  refine Args.p2 (.name rfl) .int ?_
  refine Fn.call (k := 1) ((f40 F W6.pot (by decide)).mono fun v m7 q => ?_) (by decide)
  obtain ⟨r0, rfl, r1, r2, hp7, E7⟩ := q
  have W7 := W6.dip hp7 E7
  refine BOp.add ?_
  refine Args.nil ?_
  refine CallV.range1 fun r hr => ?_
  have W8 := W7.ext0 (Ext.refl.fresh (o := .range 0 (10 + r0)) hr)
  refine ⟨(10 + r0).toNat, _, fun _ => True, fun i l m => ∃ st dx cl wl bas bl held hts cs ws ord, l = [(Str.ofString "script", .ref c.sl), (Str.ofString "pot", .ref pt), (Str.ofString "store", .ref st), (Str.ofString "blocks", .ref B), (Str.ofString "words", .ref wl), (Str.ofString "held", .ref hl)] ∧
      Wm m pt sl st dx cl 500 wl B hl bas bl held hts cs ws ∧ Rep ord bl held cs ws ∧ bl.length ≤ i, _,
    Src.rangeN set_self (by omega) (by omega) (by omega) (by omega), by walk_at "m_lsub", ⟨st, dx, cl, wl, _, _, _, _, _, _, _, rfl, W8, R5, by simp⟩, fun _ _ _ _ => trivial, ?_, ?_⟩
  · clear W8 W7 W6 E7 hp7 R5 hr
    rintro i v l m hi hv ⟨st, dx, cl, wl, bas, bl, held, hts, cs, ws, ord, rfl, W, R, hbl⟩
    obtain rfl := range_item hi hv
    have hi30 : i < 31 := by omega
    refine AS.name (by first | exact ⟨rfl, Or.inl rfl⟩ | exact ⟨rfl, Or.inr ⟨rfl, rfl⟩⟩) ?_
    refine SS.cons ?_
    refine S1.if ?_
    refine Test.cmp ?_ (by with_unfolding_all rfl)
    refine EV.def' F.d40 ?_ rfl rfl rfl rfl rfl
    refine Args.p2 (.name rfl) .int ?_
    refine Fn.call (k := 1) ((f40 F W.pot (by decide)).mono fun v m1 q => ?_) (by decide)
    obtain ⟨d1, rfl, u1, u2, hp1, E1⟩ := q
    have W1 := W.dip hp1 E1
    clear W E1 hp1
    refine PE.ev .int ?_
    refine COp.eqI ?_
    refine Tru.bool ?_
    refine ite_intro (fun hb => ?_) (fun hb => ?_)
    · have w6 := W1.w6
      refine SS.let (by first | exact ⟨rfl, Or.inl rfl⟩ | exact ⟨rfl, Or.inr ⟨rfl, rfl⟩⟩) ?_ rfl rfl rfl
      refine EV.def' F.d44 ?_ rfl rfl rfl rfl rfl
      refine Args.cons ?_ rfl
      refine PE.ev (.name rfl) ?_
      refine Args.cons ?_ rfl
      refine EV.callT1 F.blist rfl (by decide) ?_ rfl rfl rfl rfl rfl
      refine Args.p1 (.name rfl) ?_
      refine CallV.listCopy W1.words (by simp; omega) fun w2 hw2 => ?_
      refine Args.cons ?_ rfl
      refine PE.ev (.name rfl) ?_
      refine Args.cons ?_ rfl
      refine PE.ev (.name rfl) ?_
      refine Args.cons ?_ rfl
      refine EV.compare ?_ (by with_unfolding_all rfl)
      refine EV.def' F.d40 ?_ rfl rfl rfl rfl rfl
      refine Args.p2 (.name rfl) .int ?_
      have W2 := W1.ext0 (Ext.refl.fresh (o := .list (ws.map V.int)) hw2)
      refine Fn.call (k := 1) ((f40 F W2.pot (by decide)).mono fun v m3 q => ?_) (by decide)
      obtain ⟨d2, rfl, u3, u4, hp3, E3⟩ := q
      have W3 := W2.dip hp3 E3
      have hwp : w2 ≠ pt := fun e => by obtain ⟨_, _, _, h, _⟩ := W1.pot; rw [e, h] at hw2; cases hw2
      have hwc : w2 ≠ cl := fun e => by rw [e, W1.heap.c] at hw2; cases hw2
      have wc := E3 _ _ (set_self (o := .list (ws.map V.int))) (by simpa using hwp)
      have six := W3.six
      simp only [List.nodup_cons, List.mem_cons, List.not_mem_nil, or_false, not_or] at six
      refine PE.ev .int ?_
      refine COp.eqI ?_
      refine Args.nil ?_
      refine Fn.call (k := 8) ((f44 F PL R (by omega) (by rw [W3.h6]; omega) W3.heap W3.blks wc W3.hel W3.tups hwc (Ne.symm six.2.2.1.2.2) (Ne.symm six.2.2.1.2.1) (fun x hx => ⟨fun h => (W3.offs x hx).1 (by simp [h]), fun h => (W3.offs x hx).2 (by simp [h])⟩)).mono fun v m4 q => ?_) (by decide)
      obtain ⟨t, hn, dxn, cln, fa, cs', ws', ord', rfl, ht, H', hfa, R', y1, y2, y3, y4, y5, y6, E4⟩ := q
      have w6' : ws'.length = 6 := by rw [R'.wlen]; exact W3.h6
      refine SS.cons ?_
      refine S1.if ?_
      refine Test.cmp ?_ (by with_unfolding_all rfl)
      refine PE.ev (.name rfl) ?_
      refine PE.ev .noneC ?_
      refine COp.isNone ?_
      refine Tru.bool ?_
      refine ite_intro (fun hb => ?_) (fun hb => ?_)
      · simp at hb
      refine SS.nil ?_
      refine Cont.next ?_
      refine SS.cons ?_
      refine S1.assignSwap2 (x1 := Str.ofString "store") (x2 := Str.ofString "words") ?_ (by first | exact ⟨rfl, Or.inl rfl⟩ | exact ⟨rfl, Or.inr ⟨rfl, rfl⟩⟩) (by first | exact ⟨rfl, Or.inl rfl⟩ | exact ⟨rfl, Or.inr ⟨rfl, rfl⟩⟩) rfl rfl
      refine EV.tuple ?_
      refine Args.cons ?_ rfl
      refine EV.subP (.name rfl) .int ?_
      refine Sub.tup ht (by decide) (by decide) rfl ?_
      refine Args.cons ?_ rfl
      refine EV.callT1 F.blist rfl (by decide) ?_ rfl rfl rfl rfl rfl
      refine Args.cons ?_ rfl
      refine EV.subP (.name rfl) .int ?_
      refine Sub.tup ht (by decide) (by decide) rfl ?_
      refine Args.nil ?_
      refine CallV.listCopy hfa (by simp; omega) fun w3 hw3 => ?_
      refine Args.nil ?_
      refine ⟨by simp, fun t2 ht2 => ?_⟩
      refine ⟨t2, _, _, rfl, set_self, ?_⟩
      have E5 := (E4.fresh (o := .list (ws'.map V.int)) hw3).fresh (o := .tup [.ref hn, .ref w3]) ht2
      have H5 := (H'.fresh (o := .list (ws'.map V.int)) hw3).fresh (o := .tup [.ref hn, .ref w3]) ht2
      have w5 : set (set m4 w3 (.list (ws'.map V.int))) t2 (.tup [.ref hn, .ref w3]) w3 = some (.list (ws'.map V.int)) := set_old set_self ht2
      have W5 := W3.swap E5 H5 w5 w6' y3 (none_of E4 y6 hw3) (ne_fresh H'.c hw3)
      refine Cont.next (SS.nil (Cont.next (SS.nil (Turn.next _ (by walk_at "m_lsub") ⟨hn, dxn, cln, w3, bas, bl, held, hts, cs', ws', ord', rfl, W5, R', by omega⟩))))
    · refine SS.cons ?_
      refine S1.expr ?_ rfl rfl
      refine EV.def' F.d45 ?_ rfl rfl rfl rfl rfl
      refine Args.p5 (.name rfl) (.name rfl) (.name rfl) (.name rfl) (.name rfl) ?_
      refine Fn.call (k := 5) ((f45 F W1 R (by omega)).mono fun v m2 q => ?_) (by decide)
      obtain ⟨rfl, bas', bl', held', hts', cs', ws', ord', W2, R2, hz2⟩ := q
      refine ⟨rfl, Cont.next ?_⟩
      exact SS.nil (Cont.next (SS.nil (Turn.next _ (by walk_at "m_lsub") ⟨st, dx, cl, wl, bas', bl', held', hts', cs', ws', ord', rfl, W2, R2, by omega⟩)))
  · clear W8 W7 W6 E7 hp7 R5 hr
    rintro l m ⟨st, dx, cl, wl, bas, bl, held, hts, cs, ws, ord, rfl, W, R, hbl⟩
    have hb30 : bl.length ≤ 40 := by omega
    have w6 := W.w6
    have h6 := W.h6
    refine Cont.next ?_
    obtain ⟨ss, C1, C2, C3, C4⟩ := PL.herr R hb30
    obtain ⟨D, dom, LK, hG, hdom, hzd, hzt, hdn⟩ := PL.like R hb30
    refine SS.cons ?_
    refine S1.if (Test.isE false ?_ ?_)
    · refine Test.boolop ?_
      refine Alls.or ?_
      refine Test.cmp ?_ (by with_unfolding_all rfl)
      refine EV.def' F.d30 ?_ rfl rfl rfl rfl rfl
      refine Args.p1 (.name rfl) ?_
      refine Fn.call (k := 4) ((f30 F C1 C2 C3 C4 W.heap).mono fun v m4 q => ?_) (by decide)
      obtain ⟨rfl, E4⟩ := q
      refine PE.ev .noneC ?_
      refine COp.isNotNone ?_
      refine Tru.bool ?_
      refine ite_intro (fun hb => ?_) (fun hb => ?_)
      · simp at hb
      have W4 := W.ext0 E4
      refine Alls.or ?_
      refine Test.not ?_
      refine Test.plain ?_ rfl
      refine EV.def' F.d43 ?_ rfl rfl rfl rfl rfl
      refine Args.p4 (.name rfl) (.name rfl) (.name rfl) (.name rfl) ?_
      refine Fn.call (k := 5) ((f43 F LK W4.heap W4.blks W4.words W4.hel W4.tups (by omega) (by omega) (by omega) hG hdom hzd hzt hdn).mono fun v m5 q => ?_) (by decide)
      obtain ⟨rfl, E5⟩ := q
      refine Tru.bool ?_
      refine ite_intro (fun hb => ?_) (fun hb => ?_)
      · cases hb
      exact Alls.orNil ⟨rfl, rfl, E4.trans E5⟩
    intro m1 E1
    have W1 := W.ext0 E1
    refine ite_f ?_
    refine SS.nil ?_
    refine Cont.next ?_
    refine SS.let (by first | exact ⟨rfl, Or.inl rfl⟩ | exact ⟨rfl, Or.inr ⟨rfl, rfl⟩⟩) ?_ rfl rfl rfl
    refine EV.def' F.d44 ?_ rfl rfl rfl rfl rfl
    refine Args.cons ?_ rfl
    refine PE.ev (.name rfl) ?_
    refine Args.cons ?_ rfl
    refine EV.callT1 F.blist rfl (by decide) ?_ rfl rfl rfl rfl rfl
    refine Args.p1 (.name rfl) ?_
    refine CallV.listCopy W1.words (by simp; omega) fun w2 hw2 => ?_
    refine Args.cons ?_ rfl
    refine PE.ev (.name rfl) ?_
    refine Args.cons ?_ rfl
    refine PE.ev (.name rfl) ?_
    refine Args.cons ?_ rfl
    refine PE.ev .boolC ?_
    refine Args.nil ?_
    have W2 := W1.ext0 (Ext.refl.fresh (o := .list (ws.map V.int)) hw2)
    have hwc : w2 ≠ cl := fun e => by rw [e, W1.heap.c] at hw2; cases hw2
    have six := W2.six
    simp only [List.nodup_cons, List.mem_cons, List.not_mem_nil, or_false, not_or] at six
    refine Fn.call (k := 8) ((f44 F PL R hb30 (by omega) W2.heap W2.blks set_self W2.hel W2.tups hwc (Ne.symm six.2.2.1.2.2) (Ne.symm six.2.2.1.2.1) (fun x hx => ⟨fun h => (W2.offs x hx).1 (by simp [h]), fun h => (W2.offs x hx).2 (by simp [h])⟩)).mono fun v m4 q => ?_) (by decide)
    obtain ⟨t, hn, dxn, cln, fa, cs', ws', ord', rfl, ht, H', hfa, R', y1, y2, y3, y4, y5, y6, E4⟩ := q
    have w6' : ws'.length = 6 := by rw [R'.wlen]; exact h6
    have W5 := W2.swap E4 H' hfa w6' y3 y4 y5
    have htl5 := W5.tups.length
    refine SS.cons ?_
    refine S1.ret ?_
    refine EV.and2 ?_
    refine EV.compare ?_ (by with_unfolding_all rfl)
    refine PE.ev (.name rfl) ?_
    refine PE.ev .noneC ?_
    refine COp.isNotNone ?_
    refine Tru.bool ?_
    refine ite_intro (fun hb => ?_) (fun hb => ?_)
    · refine EV.compare ?_ (by with_unfolding_all rfl)
      refine EV.listComp (cl := _) ⟨rfl, ?h2, rfl, rfl, by decide, rfl, by decide⟩ ?_
      case h2 => walk_at "m_clin"
      refine EV.subP (.name rfl) .int ?_
      refine Sub.tup ht (by decide) (by decide) rfl ?_
      refine ⟨_, _, _, fun i ys m' => ys = (kindsOf bl (held.take i)).map V.int ∧ m' = m4, Src.list hfa, by simp; omega, ⟨rfl, rfl⟩, fun i ys m' ⟨_, e⟩ => by rw [e]; exact hfa, ?_, ?_⟩
      · rintro C i v ys m' hi hv ⟨rfl, rfl⟩
        obtain ⟨w, hw, rfl⟩ := map_get hv
        have hi6 := (List.getElem?_eq_some_iff.mp hw).1
        have hq : held[i]? = some (held[i]'(by omega)) := List.getElem?_eq_getElem _
        generalize held[i]'(by omega) = q at hq
        have hwq : w = tr bl ord' q := by
          rw [R'.words, List.getElem?_map, hq] at hw
          exact (Option.some.inj hw).symm
        have hgq := R'.hd q (List.mem_of_getElem? hq)
        have htk := kindsOf_take (bl := bl) hq
        have htag := tag_ref (bl := bl) hgq
        refine AS.name (by first | exact ⟨rfl, Or.inl rfl⟩ | exact ⟨rfl, Or.inr ⟨rfl, rfl⟩⟩) ?_
        refine Tests.one ?_
        refine Test.plain ?_ rfl
        refine PE.ev (.def1 F.d21 (fun _ => f21 F) (by decide) (.name rfl) rfl rfl rfl rfl) ?_
        refine Tru.bool ?_
        rw [hwq, htag]
        refine ite_intro (fun hb => ?_) (fun hb => ?_)
        · obtain ⟨p, hp, hqp⟩ : ∃ p ∈ ord', q.2 = ((p : Nat) : Int) := by
            rcases hgq with ⟨h, _⟩ | ⟨_, h⟩
            · rw [h] at hb; cases hb
            · exact h
          have hq1 : q.1 = 1 := by simpa using hb
          have hq1e : q = (1, (p : Int)) := Prod.ext hq1 hqp
          have htr1 : tr bl ord' q = (na bl ord' p : Int) * 8 + 1 := by rw [hq1e, tr_ref]
          have hkk := (R'.kd p hp).k
          have hkd := hdr_kind (b := blk bl p) hkk.1 hkk.2
          have hcz := R'.len hb30
          refine EV.def' F.d24 ?_ rfl rfl rfl rfl rfl
          refine Args.cons ?_ rfl
          refine EV.hm1 F.m4 F.HK ?_ rfl rfl rfl
          refine EV.subP (.name rfl) .int ?_
          refine Sub.tup ht (by decide) (by decide) rfl ?_
          refine ⟨_, _, _, rfl, .of (by walk_at "m_look"), rfl, ?_⟩
          refine Args.p1 (.name rfl) ?_
          refine CallV.pure (g4 F H' (by rw [htr1, fmod_ref]; rfl) (by rw [htr1, fdiv_ref]) (by omega) (by rw [Int.toNat_natCast]; exact R'.hdr hp) (by rw [hdr_tag]; rfl)) (by decide) ?_
          refine Args.nil ?_
          refine CallV.pure (f24 F) (by decide) ?_
          rw [hkd]
          exact ⟨by walk_at "m_lsub", by rw [htk, if_pos hb, hqp]; simp, rfl⟩
        · exact ⟨by walk_at "m_lsub", by rw [htk, if_neg (by rw [hb]; decide)]; simp, rfl⟩
      rintro ys m' ka ⟨rfl, rfl⟩ hka
      have hk1 : (ws'.map V.int).length = held.length := by rw [List.length_map]; omega
      rw [hk1, List.take_of_length_le (Nat.le_refl _)]
      have W6 := W5.ext0 (Ext.refl.fresh (o := .list ((kindsOf bl held).map V.int)) hka)
      have k6 : set m' ka (.list ((kindsOf bl held).map V.int)) ka = some (.list ((kindsOf bl held).map V.int)) := set_self
      generalize set m' ka (.list ((kindsOf bl held).map V.int)) = m6 at W6 k6
      refine EV.listComp (cl := _) ⟨rfl, ?h3, rfl, rfl, by decide, rfl, by decide⟩ ?_
      case h3 => walk_at "m_clin"
      refine PE.ev (.name rfl) ?_
      refine ⟨_, _, _, fun i ys m' => ys = (kindsOf bl (held.take i)).map V.int ∧ m' = m6, Src.list W6.hel, by omega, ⟨rfl, rfl⟩, fun i ys m' ⟨_, e⟩ => by rw [e]; exact W6.hel, ?_, ?_⟩
      · rintro C i v ys m' hi hv ⟨rfl, rfl⟩
        obtain ⟨a, q, rfl, hq, ha⟩ := W6.tups.get hv
        have hgq := R'.hd q (List.mem_of_getElem? hq)
        have htk := kindsOf_take (bl := bl) hq
        refine AS.tuple ha rfl ?_
        refine ASs.cons ?_
        refine AS.name (by first | exact ⟨rfl, Or.inl rfl⟩ | exact ⟨rfl, Or.inr ⟨rfl, rfl⟩⟩) ?_
        refine ASs.cons ?_
        refine AS.name (by first | exact ⟨rfl, Or.inl rfl⟩ | exact ⟨rfl, Or.inr ⟨rfl, rfl⟩⟩) ?_
        refine ASs.nil ?_
        refine Tests.one ?_
        refine Test.eqI (.name rfl) .int (by with_unfolding_all rfl) ?_
        refine ite_intro (fun hb => ?_) (fun hb => ?_)
        · obtain ⟨p, hp, hqp⟩ : ∃ p ∈ ord', q.2 = ((p : Nat) : Int) := by
            rcases hgq with ⟨h, _⟩ | ⟨_, h⟩
            · rw [h] at hb; cases hb
            · exact h
          have hpl := R'.lt p hp
          obtain ⟨x, hx1, hx2, hx3, _⟩ := W6.blks.get (getD_blk hpl)
          refine EV.sub ?_
          refine EV.subP (.name rfl) (.name rfl) ?_
          refine Sub.list W6.blks.b (by omega) (by omega) (by rw [hqp, Int.toNat_natCast]; exact hx2) ?_
          refine PE.ev .int ?_
          refine Sub.list hx3 (by decide) (by decide) rfl ?_
          exact ⟨by walk_at "m_lsub", by rw [htk, if_pos hb, hqp]; simp, rfl⟩
        · exact ⟨by walk_at "m_lsub", by rw [htk, if_neg (by rw [hb]; decide)]; simp, rfl⟩
      rintro ys m' kb ⟨rfl, rfl⟩ hkb
      rw [List.take_of_length_le (by omega)]
      refine COp.eqInts (ns := kindsOf bl held) (ms := kindsOf bl held) (set_old k6 hkb) set_self ?_ (by decide)
      refine Cont.ret ?_
      show V.bool (decide (kindsOf bl held = kindsOf bl held)) = V.bool true
      simp
    · simp at hb
end
section
variable {ord : List Nat} {bl : List Blk} {held : List Part} {cs ws : List Int}
/-- the map of the world's blocks to the heap's -/
noncomputable def dOf (bl : List Blk) (ord : List Nat) (o : Int) : Option Nat := if 0 ≤ o ∧ o.toNat ∈ ord then some (na bl ord o.toNat) else none
theorem dOf_some {o : Int} {a : Nat} (h : dOf bl ord o = some a) : ∃ p : Nat, o = p ∧ p ∈ ord ∧ a = na bl ord p := by
  unfold dOf at h
  split at h
  · rename_i hc
    exact ⟨o.toNat, by omega, hc.2, (Option.some.inj h).symm⟩
  · cases h
theorem dOf_mem {p : Nat} (h : p ∈ ord) : dOf bl ord (p : Int) = some (na bl ord p) := by
  unfold dOf
  rw [Int.toNat_natCast, if_pos ⟨by omega, h⟩]
theorem good_tr {q : Part} (h : GPart ord q) : GoodP (dOf bl ord) (tr bl ord q) q := by
  rcases h with ⟨h, hf⟩ | ⟨h, p, hp, he⟩
  · exact .inl ⟨h, by unfold tr; rw [if_neg (by omega)]⟩
  · refine .inr ⟨h, na bl ord p, by rw [he]; exact dOf_mem hp, ?_⟩
    unfold tr
    rw [if_pos h, he, Int.toNat_natCast]
theorem Rep.like (R : Rep ord bl held cs ws) (hz : bl.length ≤ 40) : ∃ D dom, Like D cs bl ∧ (∀ (j : Nat) (w : Int) (q : Part), ws[j]? = some w → held[j]? = some q → GoodP D w q) ∧
    (∀ o a, D o = some a → o ∈ dom) ∧ leftOf bl dom [] ≤ 5000 ∧ dom.length ≤ 1000 ∧ dom.Nodup := by
  have hol := nodup_lt_len R.nd R.lt
  refine ⟨dOf bl ord, ord.map fun (p : Nat) => (p : Int), ⟨fun o a h => ?_, fun o o' a h h' => ?_⟩, fun j w q h1 h2 => ?_, fun o a h => ?_, ?_, by rw [List.length_map]; omega, ?_⟩
  · obtain ⟨p, rfl, hp, rfl⟩ := dOf_some h
    have hk := (R.kd p hp).k
    have hl := (R.kd p hp).len
    refine ⟨p, rfl, blk bl p, hdrW (blk bl p), ?_, R.hdr hp, by rw [hdr_tag]; rfl, hdr_kind hk.1 hk.2, hdr_len hk.1 hk.2, by omega, fun j q hq => ⟨tr bl ord q, R.field hp hq, good_tr (R.cl p hp q (List.mem_of_getElem? hq))⟩⟩
    have hpl := R.lt p hp
    unfold blk; rw [List.getD_eq_getElem?_getD, List.getElem?_eq_getElem hpl]; rfl
  · obtain ⟨p, rfl, hp, rfl⟩ := dOf_some h
    obtain ⟨p', rfl, hp', he⟩ := dOf_some h'
    rw [na_inj hp hp' he]
  · rw [R.words, List.getElem?_map, h2] at h1
    rw [← Option.some.inj h1]
    exact good_tr (R.hd q (List.mem_of_getElem? h2))
  · obtain ⟨p, rfl, hp, _⟩ := dOf_some h
    exact List.mem_map_of_mem hp
  · unfold leftOf
    have h1 := sum_le (fun o : Int => (bl.getD o.toNat (0, [])).2.length) 3 (l := (ord.map fun (p : Nat) => (p : Int)).filter fun o => !([] : List Int).contains o) fun o ho => by
      obtain ⟨p, hp, rfl⟩ := List.mem_map.mp (List.mem_filter.mp ho).1
      rw [Int.toNat_natCast]
      exact (R.kd p hp).len
    have h2 : ((ord.map fun (p : Nat) => (p : Int)).filter fun o => !([] : List Int).contains o).length ≤ ord.length := by
      have := List.length_filter_le (fun o => !([] : List Int).contains o) (ord.map fun (p : Nat) => (p : Int))
      rw [List.length_map] at this; exact this
    omega
  · exact List.pairwise_map.mpr (R.nd.imp fun {a b} hab e => hab (by have e' : (a : Int) = (b : Int) := e; omega))
theorem Rep.chain (R : Rep ord bl held cs ws) : ∀ (rest pre : List Nat), ord = pre ++ rest → Chain cs ((pre.map fun p => bsz (blk bl p)).sum) (rest.map fun p => ((na bl ord p : Nat) : Int))
  | [], pre, h => by
    refine .done ?_
    rw [R.cells, flat_len, h, List.append_nil]
    exact Nat.le_refl _
  | p :: r, pre, h => by
    have hp : p ∈ ord := by rw [h]; simp
    have hpp : p ∉ pre := fun hm => by
      have := R.nd
      rw [h] at this
      exact (List.nodup_append.mp this).2.2 p hm p (by simp) rfl
    have hna : na bl ord p = (pre.map fun p => bsz (blk bl p)).sum := by rw [h]; exact na_new hpp
    have hk := (R.kd p hp).k
    have ih := Rep.chain R r (pre ++ [p]) (by rw [h]; simp)
    rw [List.map_cons, hna]
    refine .step (hl := (blk bl p).2.length) (hd := hdrW (blk bl p)) (by rw [← hna]; exact R.hdr hp) (by rw [hdr_tag]; rfl) (hdr_len hk.1 hk.2) ?_
    rw [List.map_append, List.sum_append] at ih
    have e : (pre.map fun p => bsz (blk bl p)).sum + ([p].map fun p => bsz (blk bl p)).sum = (pre.map fun p => bsz (blk bl p)).sum + 1 + (blk bl p).2.length := by simp [bsz]; omega
    rw [e] at ih
    exact ih
theorem Rep.herr (R : Rep ord bl held cs ws) (hz : bl.length ≤ 40) : ∃ ss, Chain cs 0 ss ∧ ss.Nodup ∧ ss.length ≤ 1000 ∧ ∀ a : Nat, (a : Int) ∈ ss → Sound cs ss a := by
  have hol := nodup_lt_len R.nd R.lt
  refine ⟨ord.map fun p => ((na bl ord p : Nat) : Int), R.chain ord [] rfl, ?_, by rw [List.length_map]; omega, fun a ha => ⟨?_⟩⟩
  · refine List.pairwise_map.mpr ?_
    have := R.nd
    refine List.Pairwise.imp_of_mem (fun {a b} h1 h2 hab e => hab (na_inj (bl := bl) h1 h2 (by have e' : ((na bl ord a : Nat) : Int) = ((na bl ord b : Nat) : Int) := e; omega))) this
  · obtain ⟨p, hp, he⟩ := List.mem_map.mp ha
    have hea : na bl ord p = a := by omega
    subst hea
    have hk := (R.kd p hp).k
    refine ⟨hdrW (blk bl p), R.hdr hp, (blk bl p).1.toNat, (blk bl p).2.length, by rw [hdr_kind hk.1 hk.2]; omega, hdr_len hk.1 hk.2, R.end' hp, ?_, fun j hj => ?_⟩
    · rcases R.kd p hp with ⟨h1, h2⟩ | ⟨h1, h2⟩ | ⟨h1, h2⟩ <;> rw [h1]
      · exact ⟨2, rfl, fun _ => by omega⟩
      · exact ⟨-1, rfl, fun h => by omega⟩
      · exact ⟨1, rfl, fun _ => by omega⟩
    · have hq : (blk bl p).2[j]? = some ((blk bl p).2[j]) := List.getElem?_eq_getElem hj
      generalize (blk bl p).2[j] = q at hq
      have hg := R.cl p hp q (List.mem_of_getElem? hq)
      refine ⟨tr bl ord q, R.field hp hq, ?_, fun h => ?_⟩
      · rcases hg with ⟨h, hf⟩ | ⟨h, p', hp', he'⟩
        · unfold tr
          rw [if_neg (by omega)]
          rcases hf with hf | hf <;> rw [hf] <;> rfl
        · unfold tr
          rw [if_pos h, fmod_ref]; rfl
      · rcases hg with ⟨h1, hf⟩ | ⟨h1, p', hp', he'⟩
        · unfold tr at h
          rw [if_neg (by omega)] at h
          rcases hf with hf | hf <;> rw [hf] at h <;> cases h
        · unfold tr
          rw [if_pos h1, fdiv_ref, he', Int.toNat_natCast, List.contains_iff_mem]
          exact List.mem_map_of_mem (f := fun p => ((na bl ord p : Nat) : Int)) hp'
end
theorem sum_cast (f : Nat → Nat) : ∀ l : List Nat, (l.map fun p => 1 + ((f p : Nat) : Int)).sum = (((l.map fun p => f p + 1).sum : Nat) : Int)
  | [] => rfl
  | p :: r => by
    rw [List.map_cons, List.map_cons, List.sum_cons, List.sum_cons, sum_cast f r]
    omega
section
variable {ord : List Nat} {bl : List Blk} {held : List Part} {cs ws : List Int}
theorem Rep.due {f : List Bool} (R : Rep ord bl held cs ws) (h1 : ∀ p, p ∈ ord ↔ Reach bl held p) (h2 : ∀ p, p < bl.length → (f.getD p false = true ↔ Reach bl held p)) :
    (((List.range bl.length).filter fun p => f.getD p false).map fun p => 1 + (((blk bl p).2.length : Nat) : Int)).sum = cs.length := by
  have hperm : ((List.range bl.length).filter fun p => f.getD p false).Perm ord := by
    refine (List.perm_ext_iff_of_nodup (List.nodup_range.filter _) R.nd).mpr fun p => ?_
    rw [List.mem_filter, List.mem_range, h1]
    constructor
    · rintro ⟨a, b⟩; exact (h2 p a).mp b
    · intro h
      have hl := R.lt p ((h1 p).mpr h)
      exact ⟨hl, (h2 p hl).mpr h⟩
  rw [sum_cast, R.cells, flat_len]
  congr 1
  exact (hperm.map _).sum_nat
theorem Rep.reach_sub (R : Rep ord bl held cs ws) {p : Nat} (h : Reach bl held p) : p ∈ ord := by
  induction h with
  | @root p h =>
    rcases R.hd _ h with ⟨h1, _⟩ | ⟨_, p', hp', he⟩
    · simp at h1
    · have e : p = p' := by have h9 : (p : Int) = (p' : Int) := he; omega
      rw [e]; exact hp'
  | @step p q _ h ih =>
    rcases R.cl _ ih _ h with ⟨h1, _⟩ | ⟨_, p', hp', he⟩
    · simp at h1
    · have e : q = p' := by have h9 : (q : Int) = (p' : Int) := he; omega
      rw [e]; exact hp'
theorem mem_refsOf {ps : List Part} {x : Int} : x ∈ refsOf ps ↔ (1, x) ∈ ps := by
  unfold refsOf
  rw [List.mem_map]
  constructor
  · rintro ⟨q, hq, rfl⟩
    obtain ⟨h1, h2⟩ := List.mem_filter.mp hq
    have : q.1 = 1 := by simpa using h2
    rw [show ((1 : Int), q.2) = q from Prod.ext this.symm rfl]
    exact h1
  · intro h
    exact ⟨(1, x), List.mem_filter.mpr ⟨h, rfl⟩, rfl⟩
/-- what is still to come, at most -/
noncomputable def openOf (bl : List Blk) (ord : List Nat) (f : List Bool) : Nat := ((ord.filter fun p => !f.getD p false).map fun p => (blk bl p).2.length).sum
theorem openOf_set {f : List Bool} {p : Nat} (hn : ord.Nodup) (hm : p ∈ ord) (h : f[p]? = some false) : openOf bl ord (f.set p true) + (blk bl p).2.length ≤ openOf bl ord f := by
  have hlt := (List.getElem?_eq_some_iff.mp h).1
  unfold openOf
  have key : ∀ l : List Nat, l.Nodup → ((l.filter fun x => !(f.set p true).getD x false).map fun x => (blk bl x).2.length).sum + (if p ∈ l then (blk bl p).2.length else 0) ≤ ((l.filter fun x => !f.getD x false).map fun x => (blk bl x).2.length).sum := by
    intro l
    induction l with
    | nil => intro _; simp
    | cons x r ih =>
      intro hn
      have hn' := List.nodup_cons.mp hn
      have ih := ih hn'.2
      rw [List.filter_cons, List.filter_cons]
      by_cases hx : x = p
      · subst hx
        have e1 : (f.set x true).getD x false = true := by rw [List.getD_eq_getElem?_getD, List.getElem?_set_self (by omega)]; rfl
        have e2 : f.getD x false = false := by rw [List.getD_eq_getElem?_getD, h]; rfl
        rw [e1, e2, if_pos (List.mem_cons_self)]
        rw [if_neg hn'.1] at ih
        simp only [Bool.not_true, Bool.not_false, Bool.false_eq_true, if_false, if_true, List.map_cons, List.sum_cons]
        omega
      · have e1 : (f.set p true).getD x false = f.getD x false := by rw [List.getD_eq_getElem?_getD, List.getD_eq_getElem?_getD, List.getElem?_set_ne (Ne.symm hx)]
        rw [e1]
        have e3 : (p ∈ x :: r) = (p ∈ r) := by simp [Ne.symm hx]
        simp only [e3]
        split
        · rw [List.map_cons, List.map_cons, List.sum_cons, List.sum_cons]; omega
        · exact ih
  have := key ord hn
  rw [if_pos hm] at this
  exact this
theorem Rep.reach (R : Rep ord bl held cs ws) (hz : bl.length ≤ 40) (hh : held.length ≤ 10) : ∃ k f', RL bl k (List.replicate bl.length false) (refsOf held) f' ∧ (∀ p, p < bl.length → (f'.getD p false = true ↔ Reach bl held p)) := by
  have main : ∀ (N : Nat) (f : List Bool) (wt : List Int), wt.length + openOf bl ord f ≤ N → N ≤ 5000 → f.length = bl.length → (∀ x ∈ wt, ∃ p : Nat, x = p ∧ Reach bl held p) → (∀ p, f.getD p false = true → Reach bl held p) →
      (∀ p : Nat, (1, (p : Int)) ∈ held → f.getD p false = true ∨ (p : Int) ∈ wt) → (∀ p q : Nat, f.getD p false = true → (1, (q : Int)) ∈ (blk bl p).2 → f.getD q false = true ∨ (q : Int) ∈ wt) →
      ∃ k f', RL bl k f wt f' ∧ (∀ p, p < bl.length → (f'.getD p false = true ↔ Reach bl held p)) := by
    intro N
    induction N with
    | zero =>
      intro f wt hN _ hfl h1 h2 h3 h4
      have : wt = [] := List.length_eq_zero_iff.mp (by omega)
      subst this
      refine ⟨0, f, .done, fun p _ => ⟨h2 p, fun h => ?_⟩⟩
      induction h with
      | root h => exact (h3 _ h).resolve_right (by simp)
      | step _ h ih => exact (h4 _ _ (ih (R.lt _ (R.reach_sub (by assumption)))) h).resolve_right (by simp)
    | succ N ih =>
      intro f wt hN hN5 hfl h1 h2 h3 h4
      rcases List.eq_nil_or_concat wt with rfl | ⟨wt0, x, rfl⟩
      · refine ⟨0, f, .done, fun p _ => ⟨h2 p, fun h => ?_⟩⟩
        induction h with
        | root h => exact (h3 _ h).resolve_right (by simp)
        | step _ h ih => exact (h4 _ _ (ih (R.lt _ (R.reach_sub (by assumption)))) h).resolve_right (by simp)
      · rw [List.concat_eq_append] at *
        obtain ⟨p, rfl, hr⟩ := h1 x (by simp)
        have hp := R.reach_sub hr
        have hpl := R.lt p hp
        have h10 : ∀ x ∈ wt0, ∃ p : Nat, x = p ∧ Reach bl held p := fun x hx => h1 x (List.mem_append_left _ hx)
        rw [List.length_append, List.length_singleton] at hN
        obtain ⟨t, ht⟩ : ∃ t, f[p]? = some t := ⟨f[p]'(by omega), List.getElem?_eq_getElem (by omega)⟩
        have hgt : f.getD p false = t := by rw [List.getD_eq_getElem?_getD, ht]; rfl
        cases t with
        | true =>
          obtain ⟨k, f', g1, g2⟩ := ih f wt0 (by omega) (by omega) hfl h10 h2 (fun q hq => by
            rcases h3 q hq with h | h
            · exact .inl h
            · rcases List.mem_append.mp h with h | h
              · exact .inr h
              · have e : q = p := by have h9 : (q : Int) = (p : Int) := (by simpa using h); omega
                rw [e]; exact .inl hgt) (fun q q' hq hq' => by
            rcases h4 q q' hq hq' with h | h
            · exact .inl h
            · rcases List.mem_append.mp h with h | h
              · exact .inr h
              · have e : q' = p := by have h9 : (q' : Int) = (p : Int) := (by simpa using h); omega
                rw [e]; exact .inl hgt)
          exact ⟨k + 1, f', .seen ht (by omega) g1, g2⟩
        | false =>
          have ho := openOf_set (bl := bl) R.nd hp ht
          have hkd := (R.kd p hp).len
          have hrl := refsOf_len (blk bl p).2
          have hset : ∀ q, (f.set p true).getD q false = true ↔ (q = p ∨ f.getD q false = true) := fun q => by
            by_cases hq : q = p
            · subst hq
              rw [List.getD_eq_getElem?_getD, List.getElem?_set_self (by omega)]
              simp
            · rw [List.getD_eq_getElem?_getD, List.getElem?_set_ne (Ne.symm hq), ← List.getD_eq_getElem?_getD]
              simp [hq]
          obtain ⟨k, f', g1, g2⟩ := ih (f.set p true) (wt0 ++ refsOf (blk bl p).2) (by rw [List.length_append]; omega) (by omega) (by simp [hfl]) (fun x hx => by
            rcases List.mem_append.mp hx with h | h
            · exact h10 x h
            · have hm := mem_refsOf.mp h
              rcases R.cl p hp _ hm with ⟨h1, _⟩ | ⟨_, p', hp', he⟩
              · simp at h1
              · have he' : x = (p' : Int) := he
                rw [he'] at hm
                exact ⟨p', he', .step hr hm⟩) (fun q hq => by
            rcases (hset q).mp hq with rfl | h
            · exact hr
            · exact h2 q h) (fun q hq => by
            rcases h3 q hq with h | h
            · exact .inl ((hset q).mpr (.inr h))
            · rcases List.mem_append.mp h with h | h
              · exact .inr (List.mem_append_left _ h)
              · have e : q = p := by have h9 : (q : Int) = (p : Int) := (by simpa using h); omega
                exact .inl ((hset q).mpr (.inl e))) (fun q q' hq hq' => by
            rcases (hset q).mp hq with rfl | h
            · exact .inr (List.mem_append_right _ (mem_refsOf.mpr hq'))
            · rcases h4 q q' h hq' with h | h
              · exact .inl ((hset q').mpr (.inr h))
              · rcases List.mem_append.mp h with h | h
                · exact .inr (List.mem_append_left _ h)
                · have e : q' = p := by have h9 : (q' : Int) = (p : Int) := (by simpa using h); omega
                  exact .inl ((hset q').mpr (.inl e)))
          refine ⟨k + 1, f', .new ht ?_ (by omega) (by omega) g1, g2⟩
          unfold blk; rw [List.getD_eq_getElem?_getD, List.getElem?_eq_getElem hpl]; rfl
  have hol := nodup_lt_len R.nd R.lt
  have hopen : openOf bl ord (List.replicate bl.length false) ≤ 120 := by
    unfold openOf
    have h1 := sum_le (fun p => (blk bl p).2.length) 3 (l := ord.filter fun p => !(List.replicate bl.length false).getD p false) fun p hp => (R.kd p (List.mem_filter.mp hp).1).len
    have h2 := List.length_filter_le (fun p => !(List.replicate bl.length false).getD p false) ord
    omega
  have hrl := refsOf_len held
  have hrep : ∀ p, (List.replicate bl.length false).getD p false = false := fun p => by
    rw [List.getD_eq_getElem?_getD, List.getElem?_replicate]
    split <;> rfl
  refine main 200 _ _ (by omega) (by omega) (by simp) (fun x hx => ?_) (fun p hp => by rw [hrep] at hp; cases hp) (fun p hp => .inr (mem_refsOf.mpr hp)) (fun p q hp => by rw [hrep] at hp; cases hp)
  have hm := mem_refsOf.mp hx
  rcases R.hd _ hm with ⟨h1, _⟩ | ⟨_, p', hp', he⟩
  · simp at h1
  · have he' : x = (p' : Int) := he
    rw [he'] at hm
    exact ⟨p', he', .root hm⟩
end
theorem fmod_fwd (a : Nat) : Int.fmod ((a : Int) * 8 + 6) 8 = 6 := by rw [fmod8]; omega
theorem fdiv_fwd (a : Nat) : Int.fdiv ((a : Int) * 8 + 6) 8 = a := by rw [fdiv8]; omega
noncomputable def sz (bl : List Blk) (l : List Nat) : Nat := (l.map fun p => bsz (blk bl p)).sum
theorem flat_sz {bl : List Blk} (ord l : List Nat) : (flat bl ord l).length = sz bl l := flat_len bl ord l
theorem sz_append {bl : List Blk} (a b : List Nat) : sz bl (a ++ b) = sz bl a + sz bl b := by simp [sz]
section
variable {ord : List Nat} {bl : List Blk} {held : List Part} {cs ws : List Int}
/-- Cheney's state -/
structure St (ord : List Nat) (bl : List Blk) (held : List Part) (cs : List Int) (od : List Nat) (o : List Int) : Prop where
  nd : od.Nodup
  sub : ∀ p ∈ od, p ∈ ord
  re : ∀ p ∈ od, Reach bl held p
  len : o.length = cs.length
  hdr : ∀ p ∈ ord, o[na bl ord p]? = some (if p ∈ od then (na bl od p : Int) * 8 + 6 else hdrW (blk bl p))
  fld : ∀ p ∈ ord, ∀ (j : Nat) (q : Part), (blk bl p).2[j]? = some q → o[na bl ord p + 1 + j]? = some (tr bl ord q)
/-- places of two blocks do not meet -/
theorem na_apart {p q j : Nat} (hn : ord.Nodup) (hp : p ∈ ord) (hq : q ∈ ord) (hj : j < (blk bl q).2.length) : na bl ord p ≠ na bl ord q + 1 + j := by
  intro e
  have key : ∀ (l : List Nat), p ∈ l → q ∈ l → na bl l p = na bl l q + 1 + j → False := by
    intro l
    induction l with
    | nil => intro h; cases h
    | cons x r ih =>
      intro h1 h2 e
      unfold na at e
      by_cases hx : x = p
      · rw [if_pos hx] at e; omega
      · rw [if_neg hx] at e
        by_cases hy : x = q
        · rw [if_pos hy, hy] at e
          unfold bsz at e; omega
        · rw [if_neg hy] at e
          exact ih ((List.mem_cons.mp h1).resolve_left (Ne.symm hx)) ((List.mem_cons.mp h2).resolve_left (Ne.symm hy)) (by omega)
  exact key ord hp hq e
theorem St.slice {od : List Nat} {o : List Int} (R : Rep ord bl held cs ws) (S : St ord bl held cs od o) {p : Nat} (hp : p ∈ ord) (hpo : p ∉ od) : (o.drop (na bl ord p)).take (1 + (blk bl p).2.length) = cellsOf bl ord (blk bl p) := by
  have hend := R.end' hp
  have hl := S.len
  refine List.ext_getElem? fun j => ?_
  by_cases hj : j < 1 + (blk bl p).2.length
  · rw [List.getElem?_take_of_lt hj, List.getElem?_drop]
    cases j with
    | zero =>
      rw [Nat.add_zero, S.hdr p hp, if_neg hpo]
      simp [cellsOf]
    | succ j =>
      have hq : (blk bl p).2[j]? = some ((blk bl p).2[j]'(by omega)) := List.getElem?_eq_getElem _
      rw [show na bl ord p + (j + 1) = na bl ord p + 1 + j by omega, S.fld p hp j _ hq]
      unfold cellsOf
      rw [List.getElem?_cons_succ, List.getElem?_map, hq]; rfl
  · rw [List.getElem?_eq_none (by rw [List.length_take]; omega), List.getElem?_eq_none (by rw [cellsOf_len]; unfold bsz; omega)]
/-- one word moved -/
theorem St.word {od : List Nat} {o n : List Int} (R : Rep ord bl held cs ws) (S : St ord bl held cs od o) (hz : bl.length ≤ 40) (hn : n.length = sz bl od) {q : Part} (hq : GPart ord q) (hre : ∀ p : Nat, q = (1, (p : Int)) → Reach bl held p) :
    ∃ ex o', MW o n (tr bl ord q) o' (n ++ flat bl ord ex) (tr bl (od ++ ex) q) ∧ St ord bl held cs (od ++ ex) o' ∧ GPart (od ++ ex) q := by
  rcases hq with ⟨h, hf⟩ | ⟨h, p, hp, he⟩
  · refine ⟨[], o, ?_, by rw [List.append_nil]; exact S, .inl ⟨h, hf⟩⟩
    have e1 : tr bl ord q = q.2 := by unfold tr; rw [if_neg (by omega)]
    have e2 : tr bl (od ++ []) q = q.2 := by unfold tr; rw [if_neg (by omega)]
    rw [e1, e2]
    simp only [flat, List.flatMap_nil, List.append_nil]
    exact .flat (by rcases hf with hf | hf <;> rw [hf] <;> rfl)
  · have hq1 : q = (1, (p : Int)) := Prod.ext h he
    subst hq1
    have hfm : (Int.fmod (tr bl ord (1, (p : Int))) 8 == 1) = true := by rw [tr_ref, fmod_ref]; rfl
    have hfd : Int.fdiv (tr bl ord (1, (p : Int))) 8 = (na bl ord p : Int) := by rw [tr_ref, fdiv_ref]
    by_cases hpo : p ∈ od
    · refine ⟨[], o, ?_, by rw [List.append_nil]; exact S, .inr ⟨rfl, p, by simpa using hpo, rfl⟩⟩
      simp only [flat, List.flatMap_nil, List.append_nil]
      have hh := S.hdr p hp
      rw [if_pos hpo] at hh
      have := MW.there (n := n) hfm hfd hh (by rw [fmod_fwd]; rfl)
      rw [fdiv_fwd] at this
      rw [tr_ref (ord := od)]
      exact this
    · have hh := S.hdr p hp
      rw [if_neg hpo] at hh
      have hk := (R.kd p hp).k
      have hend := R.end' hp
      have hcz := R.len hz
      have hl := S.len
      have hna : na bl (od ++ [p]) p = sz bl od := na_new hpo
      have hnz : n.length + 1 + (blk bl p).2.length ≤ 10000 := by
        have h1 := sum_le (fun p => bsz (blk bl p)) 4 (l := od) fun x hx => by have := (R.kd x (S.sub x hx)).len; unfold bsz; omega
        have h2 := nodup_lt_len S.nd fun x hx => R.lt x (S.sub x hx)
        have h3 := (R.kd p hp).len
        have h4 : sz bl od = (od.map fun p => bsz (blk bl p)).sum := rfl
        omega
      have hmv := MW.move (n := n) hfm hfd hh (by rw [hdr_tag]; rfl) (hdr_len hk.1 hk.2) (by omega) hnz
      rw [S.slice R hp hpo] at hmv
      refine ⟨[p], o.set (na bl ord p) ((n.length : Int) * 8 + 6), ?_, ⟨?_, ?_, ?_, by rw [List.length_set]; exact S.len, ?_, ?_⟩, .inr ⟨rfl, p, by simp, rfl⟩⟩
      · rw [tr_ref (ord := od ++ [p]), hna, ← hn]
        have : flat bl ord [p] = cellsOf bl ord (blk bl p) := by rw [flat_cons]; simp [flat]
        rw [this]
        exact hmv
      · refine List.nodup_append.mpr ⟨S.nd, by simp, fun a ha b hb e => ?_⟩
        rw [List.mem_singleton.mp hb] at e; exact hpo (e ▸ ha)
      · intro x hx
        rcases List.mem_append.mp hx with h | h
        · exact S.sub x h
        · rw [List.mem_singleton.mp h]; exact hp
      · intro x hx
        rcases List.mem_append.mp hx with h | h
        · exact S.re x h
        · rw [List.mem_singleton.mp h]; exact hre p rfl
      · intro x hx
        by_cases hxp : x = p
        · subst hxp
          rw [List.getElem?_set_self (by omega), if_pos (by simp), hna, hn]
        · have hne : na bl ord p ≠ na bl ord x := fun e => hxp (na_inj hp hx e).symm
          rw [List.getElem?_set_ne hne, S.hdr x hx]
          by_cases hxo : x ∈ od
          · rw [if_pos hxo, if_pos (List.mem_append_left _ hxo), na_append hxo]
          · rw [if_neg hxo, if_neg (by simp [hxo, hxp])]
      · intro x hx j q hq
        have hj := (List.getElem?_eq_some_iff.mp hq).1
        rw [List.getElem?_set_ne (na_apart R.nd hp hx hj)]
        exact S.fld x hx j q hq
end
section
variable {ord : List Nat} {bl : List Blk} {held : List Part} {cs ws : List Int}
theorem tr_more {od ex : List Nat} {q : Part} (h : GPart od q) : tr bl od q = tr bl (od ++ ex) q := (tr_append h).symm
theorem GPart.more {od ex : List Nat} {q : Part} (h : GPart od q) : GPart (od ++ ex) q := h.mono fun p hp => List.mem_append_left _ hp
theorem St.roots (R : Rep ord bl held cs ws) (hz : bl.length ≤ 40) : ∀ (qs : List Part) {od : List Nat} {o n : List Int}, St ord bl held cs od o → n.length = sz bl od → (∀ q ∈ qs, GPart ord q) → (∀ q ∈ qs, ∀ p : Nat, q = (1, (p : Int)) → Reach bl held p) →
    ∃ ex o', MWs o n (qs.map (tr bl ord)) o' (n ++ flat bl ord ex) (qs.map (tr bl (od ++ ex))) ∧ St ord bl held cs (od ++ ex) o' ∧ ∀ q ∈ qs, GPart (od ++ ex) q
  | [], od, o, n, S, hn, hg, hr => ⟨[], o, by simp only [flat, List.flatMap_nil, List.append_nil, List.map_nil]; exact .nil, by rw [List.append_nil]; exact S, by simp⟩
  | q :: qs, od, o, n, S, hn, hg, hr => by
    obtain ⟨e1, o1, M1, S1, g1⟩ := S.word R hz hn (hg q (by simp)) (hr q (by simp))
    obtain ⟨e2, o2, M2, S2, g2⟩ := St.roots R hz qs S1 (n := n ++ flat bl ord e1) (by rw [List.length_append, flat_sz, sz_append, hn]) (fun x hx => hg x (List.mem_cons_of_mem _ hx)) (fun x hx => hr x (List.mem_cons_of_mem _ hx))
    refine ⟨e1 ++ e2, o2, ?_, by rw [← List.append_assoc]; exact S2, fun x hx => ?_⟩
    · rw [flat_append, ← List.append_assoc, ← List.append_assoc, List.map_cons, List.map_cons, ← tr_more g1]
      exact .cons M1 M2
    · rw [← List.append_assoc]
      rcases List.mem_cons.mp hx with rfl | hx
      · exact g1.more
      · exact g2 x hx
theorem St.fields (R : Rep ord bl held cs ws) (hz : bl.length ≤ 40) : ∀ (qs : List Part) {od : List Nat} {o A C : List Int}, St ord bl held cs od o → (A ++ (qs.map (tr bl ord) ++ C)).length = sz bl od → (∀ q ∈ qs, GPart ord q) → (∀ q ∈ qs, ∀ p : Nat, q = (1, (p : Int)) → Reach bl held p) →
    ∃ ex o', Scn qs.length o (A ++ (qs.map (tr bl ord) ++ C)) A.length o' (A ++ (qs.map (tr bl (od ++ ex)) ++ (C ++ flat bl ord ex))) ∧ St ord bl held cs (od ++ ex) o' ∧ ∀ q ∈ qs, GPart (od ++ ex) q
  | [], od, o, A, C, S, hn, hg, hr => ⟨[], o, by simp only [flat, List.flatMap_nil, List.append_nil, List.map_nil]; exact .nil, by rw [List.append_nil]; exact S, by simp⟩
  | q :: qs, od, o, A, C, S, hn, hg, hr => by
    obtain ⟨e1, o1, M1, S1, g1⟩ := S.word R hz hn (hg q (by simp)) (hr q (by simp))
    have hset : ((A ++ ((q :: qs).map (tr bl ord) ++ C)) ++ flat bl ord e1).set A.length (tr bl (od ++ e1) q) = (A ++ [tr bl (od ++ e1) q]) ++ (qs.map (tr bl ord) ++ (C ++ flat bl ord e1)) := by
      rw [List.map_cons, List.append_assoc, List.set_append_right _ _ (Nat.le_refl _), Nat.sub_self]
      simp
    obtain ⟨e2, o2, M2, S2, g2⟩ := St.fields R hz qs (A := A ++ [tr bl (od ++ e1) q]) (C := C ++ flat bl ord e1) S1 (by
      rw [← hset, List.length_set, List.length_append, flat_sz, sz_append, hn]) (fun x hx => hg x (List.mem_cons_of_mem _ hx)) (fun x hx => hr x (List.mem_cons_of_mem _ hx))
    refine ⟨e1 ++ e2, o2, ?_, by rw [← List.append_assoc]; exact S2, fun x hx => ?_⟩
    · rw [← hset, List.length_append, List.length_singleton] at M2
      have := Scn.cons (a := A.length) (n := A ++ ((q :: qs).map (tr bl ord) ++ C)) (w := tr bl ord q) (by rw [List.map_cons, List.getElem?_append_right (Nat.le_refl _), Nat.sub_self]; rfl) M1 M2
      have hm : (q :: qs).map (tr bl (od ++ e1 ++ e2)) = tr bl (od ++ e1) q :: qs.map (tr bl (od ++ e1 ++ e2)) := by rw [List.map_cons, ← tr_more g1]
      rw [List.length_cons, flat_append, ← List.append_assoc od, hm]
      have e : A ++ (tr bl (od ++ e1) q :: qs.map (tr bl (od ++ e1 ++ e2)) ++ (C ++ (flat bl ord e1 ++ flat bl ord e2))) = A ++ [tr bl (od ++ e1) q] ++ (qs.map (tr bl (od ++ e1 ++ e2)) ++ (C ++ flat bl ord e1 ++ flat bl ord e2)) := by simp
      rw [e]
      exact this
    · rw [← List.append_assoc]
      rcases List.mem_cons.mp hx with rfl | hx
      · exact g1.more
      · exact g2 x hx
end
section
variable {ord : List Nat} {bl : List Blk} {held : List Part} {cs ws : List Int}
theorem St.blocks (R : Rep ord bl held cs ws) (hz : bl.length ≤ 40) : ∀ (N : Nat) (dn todo od : List Nat) (o : List Int), ord.length ≤ dn.length + N → od = dn ++ todo → St ord bl held cs od o → (∀ p ∈ dn, ∀ q ∈ (blk bl p).2, GPart od q) →
    ∃ k o' ex, Cln k o (flat bl od dn ++ flat bl ord todo) (sz bl dn) o' (flat bl (od ++ ex) (od ++ ex)) ∧ St ord bl held cs (od ++ ex) o' ∧ (∀ p ∈ od ++ ex, ∀ q ∈ (blk bl p).2, GPart (od ++ ex) q)
  | N, dn, [], od, o, hN, ho, S, hc => by
    rw [List.append_nil] at ho
    subst ho
    refine ⟨0, o, [], ?_, by rw [List.append_nil]; exact S, by rw [List.append_nil]; exact hc⟩
    have e : flat bl od od ++ flat bl ord [] = flat bl od od := by simp [flat]
    rw [e, List.append_nil]
    exact .done (by rw [flat_sz]; exact Nat.le_refl _)
  | 0, dn, p :: r, od, o, hN, ho, S, hc => by
    exfalso
    have h1 := nodup_lenA S.nd S.sub
    rw [ho, List.length_append, List.length_cons] at h1
    omega
  | N + 1, dn, p :: r, od, o, hN, ho, S, hc => by
    have hpo : p ∈ od := by rw [ho]; simp
    have hp := S.sub p hpo
    have hk := (R.kd p hp).k
    have hl := (R.kd p hp).len
    have e1 : flat bl od dn ++ flat bl ord (p :: r) = (flat bl od dn ++ [hdrW (blk bl p)]) ++ ((blk bl p).2.map (tr bl ord) ++ flat bl ord r) := by
      rw [flat_cons]; simp [cellsOf]
    obtain ⟨ex, o1, M1, S1, g1⟩ := S.fields R hz (blk bl p).2 (A := flat bl od dn ++ [hdrW (blk bl p)]) (C := flat bl ord r) (by
      rw [← e1, List.length_append, flat_sz, flat_sz, ← sz_append, ← ho]) (fun q hq => R.cl p hp q hq) (fun q hq p' he => .step (S.re p hpo) (he ▸ hq))
    have hdn : flat bl od dn = flat bl (od ++ ex) dn := flat_congr fun x hx q hq => tr_more (hc x hx q hq)
    have e2 : (flat bl od dn ++ [hdrW (blk bl p)]) ++ ((blk bl p).2.map (tr bl (od ++ ex)) ++ (flat bl ord r ++ flat bl ord ex)) = flat bl (od ++ ex) (dn ++ [p]) ++ flat bl ord (r ++ ex) := by
      rw [hdn, flat_append, flat_append, flat_cons]; simp [cellsOf, flat]
    rw [e2] at M1
    obtain ⟨k, o2, ex2, C2, S2, g2⟩ := St.blocks R hz N (dn ++ [p]) (r ++ ex) (od ++ ex) o1 (by rw [List.length_append, List.length_singleton]; omega) (by rw [ho]; simp) S1 (fun x hx q hq => by
      rcases List.mem_append.mp hx with h | h
      · exact (hc x h q hq).more
      · rw [List.mem_singleton.mp h] at hq; exact g1 q hq)
    refine ⟨k + 1, o2, ex ++ ex2, ?_, by rw [← List.append_assoc]; exact S2, by rw [← List.append_assoc]; exact g2⟩
    rw [← List.append_assoc]
    have hA : (flat bl od dn ++ [hdrW (blk bl p)]).length = sz bl dn + 1 := by rw [List.length_append, flat_sz]; rfl
    rw [hA, ← e1] at M1
    have hs : sz bl (dn ++ [p]) = sz bl dn + 1 + (blk bl p).2.length := by rw [sz_append]; simp [sz, bsz]; omega
    rw [hs] at C2
    refine .step (hd := hdrW (blk bl p)) (hl := (blk bl p).2.length) ?_ (hdr_len hk.1 hk.2) (by omega) M1 C2
    rw [e1, ← flat_sz (bl := bl) od dn, List.append_assoc, List.getElem?_append_right (Nat.le_refl _), Nat.sub_self]
    rfl
theorem Rep.st0 (R : Rep ord bl held cs ws) : St ord bl held cs [] cs :=
  ⟨List.nodup_nil, by simp, by simp, rfl, fun p hp => by rw [if_neg (by simp)]; exact R.hdr hp, fun p hp j q hq => R.field hp hq⟩
theorem Rep.coll (R : Rep ord bl held cs ws) (hz : bl.length ≤ 40) (hh : held.length ≤ 10) : ∃ k o1 n1 o' n' rs ord', MWs cs [] ws o1 n1 rs ∧ Cln k o1 n1 0 o' n' ∧ Rep ord' bl held n' rs ∧ (∀ p, p ∈ ord' ↔ Reach bl held p) := by
  obtain ⟨ex, o1, M1, S1, g1⟩ := R.st0.roots R hz held (n := []) rfl R.hd (fun q hq p he => .root (he ▸ hq))
  rw [List.nil_append] at S1 g1
  obtain ⟨k, o2, ex2, C2, S2, g2⟩ := S1.blocks R hz ord.length [] ex ex o1 (by simp) rfl (by simp)
  rw [← R.words] at M1
  refine ⟨k, o1, _, o2, _, _, ex ++ ex2, M1, ?_, ⟨S2.nd, fun p hp => R.lt p (S2.sub p hp), g2, fun q hq => (g1 q hq).more, fun p hp => R.kd p (S2.sub p hp), rfl, ?_⟩, fun p => ⟨S2.re p, fun h => ?_⟩⟩
  · have : flat bl ex [] ++ flat bl ord ex = [] ++ flat bl ord ex := by simp [flat]
    rw [this] at C2
    exact C2
  · exact List.map_congr_left fun q hq => by rw [List.nil_append]; exact tr_more (g1 q hq)
  · induction h with
    | @root p h =>
      rcases (g1 _ h).more (ex := ex2) with ⟨h1, _⟩ | ⟨_, p', hp', he⟩
      · simp at h1
      · have e : p = p' := by have h9 : (p : Int) = (p' : Int) := he; omega
        rw [e]; exact hp'
    | @step p q _ h ih =>
      rcases g2 _ ih _ h with ⟨h1, _⟩ | ⟨_, p', hp', he⟩
      · simp at h1
      · have e : q = p' := by have h9 : (q : Int) = (p' : Int) := he; omega
        rw [e]; exact hp'
end
section
variable {ord : List Nat} {bl : List Blk} {held : List Part} {cs ws : List Int}
noncomputable def adr (bl : List Blk) (ord : List Nat) (l : List Nat) : List Int := l.map fun p => ((na bl ord p : Nat) : Int)
noncomputable def pushB (st : List Nat × List Nat) (q : Part) : List Nat × List Nat := if (q.1 == 1) && !(st.1.contains q.2.toNat) then (st.1 ++ [q.2.toNat], st.2 ++ [q.2.toNat]) else st
theorem adr_contains {l : List Nat} (hl : ∀ p ∈ l, p ∈ ord) {p : Nat} (hp : p ∈ ord) : (adr bl ord l).contains ((na bl ord p : Nat) : Int) = l.contains p := by
  rw [Bool.eq_iff_iff, List.contains_iff_mem, List.contains_iff_mem]
  unfold adr
  rw [List.mem_map]
  constructor
  · rintro ⟨x, hx, he⟩
    have : x = p := na_inj (bl := bl) (hl x hx) hp (by omega)
    rw [← this]; exact hx
  · intro h; exact ⟨p, h, rfl⟩
theorem push_tr {fb wb : List Nat} (hl : ∀ p ∈ fb, p ∈ ord) {q : Part} (hq : GPart ord q) :
    pushW (adr bl ord fb, adr bl ord wb) (tr bl ord q) = (adr bl ord (pushB (fb, wb) q).1, adr bl ord (pushB (fb, wb) q).2) := by
  rcases hq with ⟨h, hf⟩ | ⟨h, p, hp, he⟩
  · have e1 : tr bl ord q = q.2 := by unfold tr; rw [if_neg (by omega)]
    have e2 : (Int.fmod (tr bl ord q) 8 == 1) = false := by rw [e1]; rcases hf with hf | hf <;> rw [hf] <;> rfl
    unfold pushW pushB
    rw [e2, h]
    rfl
  · have hq1 : q = (1, (p : Int)) := Prod.ext h he
    subst hq1
    unfold pushW pushB
    rw [tr_ref, fmod_ref, fdiv_ref]
    dsimp only
    rw [adr_contains hl hp, Int.toNat_natCast]
    cases fb.contains p <;> simp [adr]
theorem pushB_ok {fb wb : List Nat} {q : Part} (hq : GPart ord q) (hn : fb.Nodup) (hl : ∀ p ∈ fb, p ∈ ord) (hw : ∀ p ∈ wb, p ∈ fb) :
    (pushB (fb, wb) q).1.Nodup ∧ (∀ p ∈ (pushB (fb, wb) q).1, p ∈ ord) ∧ (∀ p ∈ (pushB (fb, wb) q).2, p ∈ (pushB (fb, wb) q).1) ∧ (∀ p ∈ fb, p ∈ (pushB (fb, wb) q).1) ∧
      (∀ p ∈ (pushB (fb, wb) q).1, p ∈ fb ∨ (q = (1, (p : Int)) ∧ p ∈ (pushB (fb, wb) q).2)) ∧ (∀ p : Nat, q = (1, (p : Int)) → p ∈ (pushB (fb, wb) q).1) ∧ (∀ p ∈ wb, p ∈ (pushB (fb, wb) q).2) ∧
      (pushB (fb, wb) q).2.length + fb.length = wb.length + (pushB (fb, wb) q).1.length := by
  rcases hq with ⟨h, hf⟩ | ⟨h, p, hp, he⟩
  · have e : pushB (fb, wb) q = (fb, wb) := by unfold pushB; rw [h]; rfl
    rw [e]
    exact ⟨hn, hl, hw, fun p h => h, fun p h => .inl h, fun p hp => (by rw [hp] at h; cases h), fun p h => h, rfl⟩
  · have hq1 : q = (1, (p : Int)) := Prod.ext h he
    subst hq1
    by_cases hpf : p ∈ fb
    · have e : pushB (fb, wb) (1, (p : Int)) = (fb, wb) := by unfold pushB; dsimp only; rw [Int.toNat_natCast, List.contains_iff_mem.mpr hpf]; rfl
      rw [e]
      exact ⟨hn, hl, hw, fun p h => h, fun p h => .inl h, fun x hx => (by have h9 : (p : Int) = (x : Int) := congrArg Prod.snd hx; have : p = x := (by omega); rw [← this]; exact hpf), fun p h => h, rfl⟩
    · have hc : fb.contains p = false := by
        cases e : fb.contains p with
        | false => rfl
        | true => exact absurd (List.contains_iff_mem.mp e) hpf
      have e : pushB (fb, wb) (1, (p : Int)) = (fb ++ [p], wb ++ [p]) := by unfold pushB; dsimp only; rw [Int.toNat_natCast, hc]; rfl
      rw [e]
      refine ⟨List.nodup_append.mpr ⟨hn, by simp, fun a ha b hb e => hpf (by rw [List.mem_singleton.mp hb] at e; exact e ▸ ha)⟩, fun x hx => ?_, fun x hx => ?_, fun x hx => List.mem_append_left _ hx, fun x hx => ?_, fun x hx => ?_, fun x hx => List.mem_append_left _ hx, by simp; omega⟩
      · rcases List.mem_append.mp hx with h | h
        · exact hl x h
        · rw [List.mem_singleton.mp h]; exact hp
      · rcases List.mem_append.mp hx with h | h
        · exact List.mem_append_left _ (hw x h)
        · exact List.mem_append_right _ h
      · rcases List.mem_append.mp hx with h | h
        · exact .inl h
        · exact .inr ⟨by rw [List.mem_singleton.mp h], List.mem_append_right _ h⟩
      · have h9 : (p : Int) = (x : Int) := congrArg Prod.snd hx
        have : p = x := by omega
        rw [← this]; simp
end
section
variable {ord : List Nat} {bl : List Blk} {held : List Part} {cs ws : List Int}
theorem pushAll : ∀ (qs : List Part) {fb wb : List Nat}, (∀ q ∈ qs, GPart ord q) → fb.Nodup → (∀ p ∈ fb, p ∈ ord) → (∀ p ∈ wb, p ∈ fb) →
    ∃ fb' wb', (qs.map (tr bl ord)).foldl pushW (adr bl ord fb, adr bl ord wb) = (adr bl ord fb', adr bl ord wb') ∧ fb'.Nodup ∧ (∀ p ∈ fb', p ∈ ord) ∧ (∀ p ∈ wb', p ∈ fb') ∧ (∀ p ∈ fb, p ∈ fb') ∧
      (∀ p ∈ fb', p ∈ fb ∨ ((1, (p : Int)) ∈ qs ∧ p ∈ wb')) ∧ (∀ p : Nat, (1, (p : Int)) ∈ qs → p ∈ fb') ∧ (∀ p ∈ wb, p ∈ wb') ∧ wb'.length + fb.length = wb.length + fb'.length
  | [], fb, wb, hg, hn, hl, hw => ⟨fb, wb, rfl, hn, hl, hw, fun p h => h, fun p h => .inl h, by simp, fun p h => h, rfl⟩
  | q :: qs, fb, wb, hg, hn, hl, hw => by
    obtain ⟨a1, a2, a3, a4, a5, a6, a7, a8⟩ := pushB_ok (hg q (by simp)) hn hl hw
    obtain ⟨fb', wb', b0, b1, b2, b3, b4, b5, b6, b7, b8⟩ := pushAll qs (fb := (pushB (fb, wb) q).1) (wb := (pushB (fb, wb) q).2) (fun x hx => hg x (List.mem_cons_of_mem _ hx)) a1 a2 a3
    refine ⟨fb', wb', ?_, b1, b2, b3, fun p h => b4 p (a4 p h), fun p h => ?_, fun p h => ?_, fun p h => b7 p (a7 p h), by omega⟩
    · rw [List.map_cons, List.foldl_cons, push_tr hl (hg q (by simp))]
      exact b0
    · rcases b5 p h with h | ⟨h, h'⟩
      · rcases a5 p h with h | ⟨h, h'⟩
        · exact .inl h
        · exact .inr ⟨by rw [← h]; exact List.mem_cons_self, b7 p h'⟩
      · exact .inr ⟨List.mem_cons_of_mem _ h, h'⟩
    · rcases List.mem_cons.mp h with h | h
      · exact b4 p (a6 p h.symm)
      · exact b6 p h
end
section
variable {ord : List Nat} {bl : List Blk} {held : List Part} {cs ws : List Int}
theorem Rep.parts (R : Rep ord bl held cs ws) {p : Nat} (hp : p ∈ ord) : (cs.drop (na bl ord p + 1)).take (blk bl p).2.length = (blk bl p).2.map (tr bl ord) := by
  have h := R.st0.slice R hp (by simp)
  have h2 := congrArg List.tail h
  rw [show 1 + (blk bl p).2.length = (blk bl p).2.length + 1 by omega] at h2
  have hlt : na bl ord p < cs.length := by have := R.end' hp; omega
  rw [List.drop_eq_getElem_cons hlt, List.take_succ_cons] at h2
  exact h2
theorem Rep.marked (R : Rep ord bl held cs ws) (hz : bl.length ≤ 40) (hh : held.length ≤ 10) : ∃ k fb, MkL cs k (ws.foldl pushW ([], [])).1 (ws.foldl pushW ([], [])).2 (adr bl ord fb) ∧ fb.Nodup ∧ (∀ p, p ∈ fb ↔ Reach bl held p) := by
  have hol := nodup_lt_len R.nd R.lt
  have main : ∀ (N : Nat) (fb wb : List Nat), wb.length + (ord.length - fb.length) ≤ N → fb.Nodup → (∀ p ∈ fb, p ∈ ord) → (∀ p ∈ wb, p ∈ fb) → (∀ p ∈ fb, Reach bl held p) → (∀ p : Nat, (1, (p : Int)) ∈ held → p ∈ fb) → wb.length ≤ fb.length →
      (∀ p ∈ fb, p ∈ wb ∨ ∀ q : Nat, (1, (q : Int)) ∈ (blk bl p).2 → q ∈ fb) → ∃ k fb', MkL cs k (adr bl ord fb) (adr bl ord wb) (adr bl ord fb') ∧ fb'.Nodup ∧ (∀ p, p ∈ fb' ↔ Reach bl held p) := by
    intro N
    induction N with
    | zero =>
      intro fb wb hN hn hl hw hr hhd hwl hc
      have : wb = [] := List.length_eq_zero_iff.mp (by omega)
      subst this
      refine ⟨0, fb, .done, hn, fun p => ⟨hr p, fun h => ?_⟩⟩
      induction h with
      | root h => exact hhd _ h
      | step _ h ih => exact (hc _ ih).resolve_left (by simp) _ h
    | succ N ih =>
      intro fb wb hN hn hl hw hr hhd hwl hc
      rcases List.eq_nil_or_concat wb with rfl | ⟨wb0, p, rfl⟩
      · refine ⟨0, fb, .done, hn, fun p => ⟨hr p, fun h => ?_⟩⟩
        induction h with
        | root h => exact hhd _ h
        | step _ h ih => exact (hc _ ih).resolve_left (by simp) _ h
      · rw [List.concat_eq_append] at *
        have hpf := hw p (by simp)
        have hp := hl p hpf
        have hk := (R.kd p hp).k
        have hkl := (R.kd p hp).len
        have hfo := nodup_lenA hn hl
        obtain ⟨fb', wb', b0, b1, b2, b3, b4, b5, b6, b7, b8⟩ := pushAll (bl := bl) (blk bl p).2 (fb := fb) (wb := wb0) (R.cl p hp) hn hl (fun x hx => hw x (List.mem_append_left _ hx))
        have hfo' := nodup_lenA b1 b2
        have hff : fb.length ≤ fb'.length := nodup_lenA hn b4
        rw [List.length_append, List.length_singleton] at hN hwl
        obtain ⟨k, fb2, M, g1, g2⟩ := ih fb' wb' (by omega) b1 b2 b3 (fun x hx => by
          rcases b5 x hx with h | ⟨h, _⟩
          · exact hr x h
          · exact .step (hr p hpf) h) (fun x hx => b4 x (hhd x hx)) (by omega) (fun x hx => by
          rcases b5 x hx with h | ⟨_, h⟩
          · rcases hc x h with h | h
            · rcases List.mem_append.mp h with h | h
              · exact .inl (b7 x h)
              · rw [List.mem_singleton.mp h]; exact .inr b6
            · exact .inr fun q hq => b4 q (h q hq)
          · exact .inl h)
        refine ⟨k + 1, fb2, ?_, g1, g2⟩
        have e : adr bl ord (wb0 ++ [p]) = adr bl ord wb0 ++ [((na bl ord p : Nat) : Int)] := by simp [adr]
        rw [e]
        refine .step (hd := hdrW (blk bl p)) (hl := (blk bl p).2.length) (R.hdr hp) (hdr_len hk.1 hk.2) (R.end' hp) (by simp [adr]; omega) (by simp [adr]; omega) ?_
        rw [R.parts hp, b0]
        exact M
  obtain ⟨fb', wb', b0, b1, b2, b3, b4, b5, b6, b7, b8⟩ := pushAll (bl := bl) held (fb := []) (wb := []) R.hd List.nodup_nil (by simp) (by simp)
  rw [← R.words] at b0
  have b0' : ws.foldl pushW ([], []) = (adr bl ord fb', adr bl ord wb') := b0
  rw [b0']
  exact main (wb'.length + (ord.length - fb'.length)) fb' wb' (Nat.le_refl _) b1 b2 b3 (fun p hp => .root (((b5 p hp).resolve_left (by simp)).1)) b6 (by simp at b8; omega) (fun p hp => .inl ((b5 p hp).resolve_left (by simp)).2)
end
section
variable {ord : List Nat} {bl : List Blk} {held : List Part} {cs ws : List Int}
theorem na_rise : ∀ {ord : List Nat}, ord.Nodup → ord.Pairwise fun p q => na bl ord p < na bl ord q
  | [], _ => List.Pairwise.nil
  | x :: r, h => by
    have h' := List.nodup_cons.mp h
    have ih := na_rise (ord := r) h'.2
    refine List.pairwise_cons.mpr ⟨fun q hq => ?_, ih.imp_of_mem fun {a b} ha hb hab => ?_⟩
    · have hne : x ≠ q := fun e => h'.1 (e ▸ hq)
      unfold na
      rw [if_pos rfl, if_neg hne]; unfold bsz; omega
    · have h1 : x ≠ a := fun e => h'.1 (e ▸ ha)
      have h2 : x ≠ b := fun e => h'.1 (e ▸ hb)
      unfold na
      rw [if_neg h1, if_neg h2]; omega
/-- the new places -/
theorem plc_lookup (R : Rep ord bl held cs ws) : ∀ (l pre : List Nat) {p : Nat}, (∀ x ∈ l, x ∈ ord) → p ∈ l → (pre ++ l).Nodup → (plc cs ((sz bl pre : Nat) : Int) (adr bl ord l)).lookup ((na bl ord p : Nat) : Int) = some (.int ((na bl (pre ++ l) p : Nat) : Int))
  | [], _, _, _, h, _ => by cases h
  | x :: r, pre, p, hl, h, hn => by
    have hx := hl x (by simp)
    have hk := (R.kd x hx).k
    have hxp : x ∉ pre := fun hm => (List.nodup_append.mp hn).2.2 x hm x (by simp) rfl
    have hlen : hlOf cs ((na bl ord x : Nat) : Int) = ((blk bl x).2.length : Int) := by
      unfold hlOf
      rw [Int.toNat_natCast, List.getD_eq_getElem?_getD, R.hdr hx]
      exact hdr_len hk.1 hk.2
    show (plc cs ((sz bl pre : Nat) : Int) (((na bl ord x : Nat) : Int) :: adr bl ord r)).lookup _ = _
    rw [plc, List.lookup_cons]
    by_cases hpx : p = x
    · subst hpx
      rw [beq_self_eq_true]
      have : na bl (pre ++ p :: r) p = sz bl pre := na_new hxp
      rw [this]
    · have hpr := (List.mem_cons.mp h).resolve_left hpx
      have hne : ((na bl ord p : Nat) : Int) ≠ ((na bl ord x : Nat) : Int) := fun e => hpx (na_inj (bl := bl) (hl p h) hx (by omega))
      rw [beq_eq_false_iff_ne.mpr hne]
      have ih := plc_lookup R r (pre ++ [x]) (fun y hy => hl y (List.mem_cons_of_mem _ hy)) hpr (by simpa using hn)
      have e : ((sz bl pre : Nat) : Int) + 1 + hlOf cs ((na bl ord x : Nat) : Int) = ((sz bl (pre ++ [x]) : Nat) : Int) := by
        rw [hlen, sz_append]; simp [sz, bsz]; omega
      rw [e, show pre ++ x :: r = pre ++ [x] ++ r by simp]
      exact ih
end
section
variable {ord : List Nat} {bl : List Blk} {held : List Part} {cs ws : List Int}
theorem sw_tr {kvs : List (Int × V)} {od : List Nat} (hk : ∀ p ∈ od, kvs.lookup ((na bl ord p : Nat) : Int) = some (.int ((na bl od p : Nat) : Int))) {q : Part} (hq : GPart od q) : SW kvs (tr bl ord q) (tr bl od q) := by
  rcases hq with ⟨h, hf⟩ | ⟨h, p, hp, he⟩
  · have e1 : tr bl ord q = q.2 := by unfold tr; rw [if_neg (by omega)]
    have e2 : tr bl od q = q.2 := by unfold tr; rw [if_neg (by omega)]
    rw [e1, e2]
    exact .inl ⟨by rcases hf with hf | hf <;> rw [hf] <;> rfl, rfl⟩
  · have hq1 : q = (1, (p : Int)) := Prod.ext h he
    subst hq1
    rw [tr_ref, tr_ref]
    exact .inr ⟨by rw [fmod_ref]; rfl, _, by rw [fdiv_ref]; exact hk p hp, rfl⟩
theorem sws_tr {kvs : List (Int × V)} {od : List Nat} (hk : ∀ p ∈ od, kvs.lookup ((na bl ord p : Nat) : Int) = some (.int ((na bl od p : Nat) : Int))) : ∀ {qs : List Part}, (∀ q ∈ qs, GPart od q) → SWs kvs (qs.map (tr bl ord)) (qs.map (tr bl od))
  | [], _ => .nil
  | q :: qs, h => .cons (sw_tr hk (h q (by simp))) (sws_tr hk fun x hx => h x (List.mem_cons_of_mem _ hx))
theorem sld_tr (R : Rep ord bl held cs ws) (hz : bl.length ≤ 40) {kvs : List (Int × V)} {od : List Nat} (hk : ∀ p ∈ od, kvs.lookup ((na bl ord p : Nat) : Int) = some (.int ((na bl od p : Nat) : Int))) (hs : ∀ p ∈ od, p ∈ ord) (hn : od.Nodup) (hc : ∀ p ∈ od, ∀ q ∈ (blk bl p).2, GPart od q) :
    ∀ (r pre : List Nat), od = pre ++ r → Sld kvs cs (adr bl ord r) (flat bl od pre) (flat bl od od)
  | [], pre, h => by rw [List.append_nil] at h; rw [← h]; exact .nil
  | p :: r, pre, h => by
    have hpo : p ∈ od := by rw [h]; simp
    have hp := hs p hpo
    have hkk := (R.kd p hp).k
    have hkl := (R.kd p hp).len
    have ih := sld_tr R hz hk hs hn hc r (pre ++ [p]) (by rw [h]; simp)
    have e : flat bl od (pre ++ [p]) = flat bl od pre ++ hdrW (blk bl p) :: (blk bl p).2.map (tr bl od) := by
      rw [flat_append, flat_cons]; simp [cellsOf, flat]
    rw [e] at ih
    have hlen : (flat bl od pre).length ≤ 160 := by
      rw [flat_len]
      have h1 := sum_le (fun p => bsz (blk bl p)) 4 (l := pre) fun x hx => by have := (R.kd x (hs x (by rw [h]; exact List.mem_append_left _ hx))).len; unfold bsz; omega
      have h2 := nodup_lt_len hn fun x hx => R.lt x (hs x hx)
      have h3 : pre.length ≤ od.length := by rw [h, List.length_append]; omega
      omega
    have e2 : adr bl ord (p :: r) = ((na bl ord p : Nat) : Int) :: adr bl ord r := rfl
    rw [e2]
    exact .cons (R.hdr hp) (hdr_len hkk.1 hkk.2) (R.end' hp) (by omega) (by rw [R.parts hp]; exact sws_tr hk (hc p hpo)) ih
theorem Rep.slide (R : Rep ord bl held cs ws) (hz : bl.length ≤ 40) (hh : held.length ≤ 10) : ∃ k f ks n' rs ord', MkL cs k (ws.foldl pushW ([], [])).1 (ws.foldl pushW ([], [])).2 f ∧ f.Nodup ∧ f.length < 64 ∧ (∀ a ∈ f, 0 ≤ a ∧ a.toNat < cs.length) ∧
    (∀ ks', ks'.Perm f → ks'.Pairwise (· ≤ ·) → ks' = ks) ∧ Sld (plc cs 0 ks) cs ks [] n' ∧ SWs (plc cs 0 ks) ws rs ∧ Rep ord' bl held n' rs ∧ (∀ p, p ∈ ord' ↔ Reach bl held p) := by
  obtain ⟨k, fb, M, hn, hr⟩ := R.marked hz hh
  have hsub : ∀ p ∈ fb, p ∈ ord := fun p hp => R.reach_sub ((hr p).mp hp)
  obtain ⟨od, hod⟩ : ∃ od, od = ord.filter fun p => fb.contains p := ⟨_, rfl⟩
  have hm : ∀ p, p ∈ od ↔ Reach bl held p := fun p => by
    rw [hod, List.mem_filter, List.contains_iff_mem, hr]
    exact ⟨fun h => h.2, fun h => ⟨R.reach_sub h, h⟩⟩
  have hs : ∀ p ∈ od, p ∈ ord := fun p hp => R.reach_sub ((hm p).mp hp)
  have hnd : od.Nodup := by rw [hod]; exact R.nd.filter _
  have hperm : od.Perm fb := (List.perm_ext_iff_of_nodup hnd hn).mpr fun p => by rw [hm, hr]
  have hfl := nodup_lt_len hn fun x hx => R.lt x (hsub x hx)
  have hg : ∀ q, GPart ord q → (∀ p : Nat, q = (1, (p : Int)) → Reach bl held p) → GPart od q := fun q hq hre => by
    rcases hq with h | ⟨h, p, hp, he⟩
    · exact .inl h
    · exact .inr ⟨h, p, (hm p).mpr (hre p (Prod.ext h he)), he⟩
  have hc : ∀ p ∈ od, ∀ q ∈ (blk bl p).2, GPart od q := fun p hp q hq => hg q (R.cl p (hs p hp) q hq) fun p' he => .step ((hm p).mp hp) (he ▸ hq)
  have hhd : ∀ q ∈ held, GPart od q := fun q hq => hg q (R.hd q hq) fun p' he => .root (he ▸ hq)
  have hk : ∀ p ∈ od, (plc cs 0 (adr bl ord od)).lookup ((na bl ord p : Nat) : Int) = some (.int ((na bl od p : Nat) : Int)) := fun p hp => plc_lookup R od [] hs hp hnd
  have hsorted : (adr bl ord od).Pairwise (· ≤ ·) := by
    unfold adr
    refine List.pairwise_map.mpr ?_
    rw [hod]
    exact ((na_rise (bl := bl) R.nd).filter _).imp fun {a b} h => (by have h9 : na bl ord a < na bl ord b := h; omega)
  refine ⟨k, adr bl ord fb, adr bl ord od, _, _, od, M, ?_, by unfold adr; rw [List.length_map]; omega, fun a ha => ?_, fun ks' hp hs' => ?_, sld_tr R hz hk hs hnd hc od [] rfl, ?_, ⟨hnd, fun p hp => R.lt p (hs p hp), hc, hhd, fun p hp => R.kd p (hs p hp), rfl, rfl⟩, hm⟩
  · unfold adr
    exact List.pairwise_map.mpr (hn.imp_of_mem fun {a b} h1 h2 hab e => hab (na_inj (bl := bl) (hsub a h1) (hsub b h2) (by have e' : ((na bl ord a : Nat) : Int) = ((na bl ord b : Nat) : Int) := e; omega)))
  · obtain ⟨p, hp, rfl⟩ := List.mem_map.mp ha
    have := R.end' (hsub p hp)
    exact ⟨by omega, by rw [Int.toNat_natCast]; omega⟩
  · exact List.Perm.eq_of_pairwise (fun a b _ _ h1 h2 => by omega) hs' hsorted (hp.trans (hperm.map _).symm)
  · rw [R.words]; exact sws_tr hk hhd
theorem plain : Plain := ⟨fun R h => R.herr h, fun R h => R.like h, fun R h g => R.reach h g, fun R h g => R.coll h g, fun R h g => R.slide h g, fun R h g => R.due h g⟩
end
noncomputable def fxT (k : Nat) : Addr := (([(16, 49), (17, 56), (18, 63), (19, 70), (20, 77), (21, 84), (22, 91), (23, 98), (24, 105), (25, 112), (26, 119), (29, 231), (30, 238), (32, 245), (33, 250), (34, 257), (35, 264), (36, 271), (37, 276), (39, 281), (40, 288), (41, 295), (42, 300), (43, 305), (44, 310), (45, 315), (100, 133), (101, 140), (103, 154), (104, 161), (105, 168), (106, 175), (108, 189), (109, 196), (110, 203), (112, 217)] : List (Nat × Addr)).lookup k).getD 0
noncomputable def cxT (w : World) (p : Program) (loose : List Str) (mean : ExcName → Option Value) (mg mb : Str → Option Value) (sl : Addr) (si : List Int) : Cx := ⟨PySem.Challenge.rw_pq1016_01.row.prog, w, KT w.params, p, loose, mean, mg, mb, sl, si, 220, fxT⟩
section
variable (w : World) (p : Program) (loose : List Str) (mean : ExcName → Option Value) (mg mb : Str → Option Value) (sl : Addr) (si : List Int)
theorem kHeap : HeapK (cxT w p loose mean mg mb sl si) := ⟨by rfl, by rfl, by rfl, by rfl, by rfl, by rfl, by rfl, by rfl⟩
theorem kd16 : DefOk (cxT w p loose mean mg mb sl si) 16 (Str.ofString "payload_of") := ⟨by rfl, by rfl, ⟨_, _, _, _, _, _, _, _, _, by rfl, by rfl⟩⟩
theorem kd17 : DefOk (cxT w p loose mean mg mb sl si) 17 (Str.ofString "fix") := ⟨by rfl, by rfl, ⟨_, _, _, _, _, _, _, _, _, by rfl, by rfl⟩⟩
theorem kd18 : DefOk (cxT w p loose mean mg mb sl si) 18 (Str.ofString "ref") := ⟨by rfl, by rfl, ⟨_, _, _, _, _, _, _, _, _, by rfl, by rfl⟩⟩
theorem kd19 : DefOk (cxT w p loose mean mg mb sl si) 19 (Str.ofString "header_word") := ⟨by rfl, by rfl, ⟨_, _, _, _, _, _, _, _, _, by rfl, by rfl⟩⟩
theorem kd20 : DefOk (cxT w p loose mean mg mb sl si) 20 (Str.ofString "forward_word") := ⟨by rfl, by rfl, ⟨_, _, _, _, _, _, _, _, _, by rfl, by rfl⟩⟩
theorem kd21 : DefOk (cxT w p loose mean mg mb sl si) 21 (Str.ofString "is_ref") := ⟨by rfl, by rfl, ⟨_, _, _, _, _, _, _, _, _, by rfl, by rfl⟩⟩
theorem kd22 : DefOk (cxT w p loose mean mg mb sl si) 22 (Str.ofString "is_header") := ⟨by rfl, by rfl, ⟨_, _, _, _, _, _, _, _, _, by rfl, by rfl⟩⟩
theorem kd23 : DefOk (cxT w p loose mean mg mb sl si) 23 (Str.ofString "is_forward") := ⟨by rfl, by rfl, ⟨_, _, _, _, _, _, _, _, _, by rfl, by rfl⟩⟩
theorem kd24 : DefOk (cxT w p loose mean mg mb sl si) 24 (Str.ofString "header_kind") := ⟨by rfl, by rfl, ⟨_, _, _, _, _, _, _, _, _, by rfl, by rfl⟩⟩
theorem kd25 : DefOk (cxT w p loose mean mg mb sl si) 25 (Str.ofString "header_length") := ⟨by rfl, by rfl, ⟨_, _, _, _, _, _, _, _, _, by rfl, by rfl⟩⟩
theorem kd26 : DefOk (cxT w p loose mean mg mb sl si) 26 (Str.ofString "is_value_word") := ⟨by rfl, by rfl, ⟨_, _, _, _, _, _, _, _, _, by rfl, by rfl⟩⟩
theorem kd29 : DefOk (cxT w p loose mean mg mb sl si) 29 (Str.ofString "wrong_block") := ⟨by rfl, by rfl, ⟨_, _, _, _, _, _, _, _, _, by rfl, by rfl⟩⟩
theorem kd30 : DefOk (cxT w p loose mean mg mb sl si) 30 (Str.ofString "heap_error") := ⟨by rfl, by rfl, ⟨_, _, _, _, _, _, _, _, _, by rfl, by rfl⟩⟩
theorem kd32 : DefOk (cxT w p loose mean mg mb sl si) 32 (Str.ofString "moved_word") := ⟨by rfl, by rfl, ⟨_, _, _, _, _, _, _, _, _, by rfl, by rfl⟩⟩
theorem kd33 : DefOk (cxT w p loose mean mg mb sl si) 33 (Str.ofString "collect") := ⟨by rfl, by rfl, ⟨_, _, _, _, _, _, _, _, _, by rfl, by rfl⟩⟩
theorem kd34 : DefOk (cxT w p loose mean mg mb sl si) 34 (Str.ofString "marked") := ⟨by rfl, by rfl, ⟨_, _, _, _, _, _, _, _, _, by rfl, by rfl⟩⟩
theorem kd35 : DefOk (cxT w p loose mean mg mb sl si) 35 (Str.ofString "new_places") := ⟨by rfl, by rfl, ⟨_, _, _, _, _, _, _, _, _, by rfl, by rfl⟩⟩
theorem kd36 : DefOk (cxT w p loose mean mg mb sl si) 36 (Str.ofString "slid_word") := ⟨by rfl, by rfl, ⟨_, _, _, _, _, _, _, _, _, by rfl, by rfl⟩⟩
theorem kd37 : DefOk (cxT w p loose mean mg mb sl si) 37 (Str.ofString "slide") := ⟨by rfl, by rfl, ⟨_, _, _, _, _, _, _, _, _, by rfl, by rfl⟩⟩
theorem kd39 : DefOk (cxT w p loose mean mg mb sl si) 39 (Str.ofString "_law_pot") := ⟨by rfl, by rfl, ⟨_, _, _, _, _, _, _, _, _, by rfl, by rfl⟩⟩
theorem kd40 : DefOk (cxT w p loose mean mg mb sl si) 40 (Str.ofString "_law_dip") := ⟨by rfl, by rfl, ⟨_, _, _, _, _, _, _, _, _, by rfl, by rfl⟩⟩
theorem kd41 : DefOk (cxT w p loose mean mg mb sl si) 41 (Str.ofString "_law_made") := ⟨by rfl, by rfl, ⟨_, _, _, _, _, _, _, _, _, by rfl, by rfl⟩⟩
theorem kd42 : DefOk (cxT w p loose mean mg mb sl si) 42 (Str.ofString "_law_reached") := ⟨by rfl, by rfl, ⟨_, _, _, _, _, _, _, _, _, by rfl, by rfl⟩⟩
theorem kd43 : DefOk (cxT w p loose mean mg mb sl si) 43 (Str.ofString "_law_is_like") := ⟨by rfl, by rfl, ⟨_, _, _, _, _, _, _, _, _, by rfl, by rfl⟩⟩
theorem kd44 : DefOk (cxT w p loose mean mg mb sl si) 44 (Str.ofString "_law_collected") := ⟨by rfl, by rfl, ⟨_, _, _, _, _, _, _, _, _, by rfl, by rfl⟩⟩
theorem kd45 : DefOk (cxT w p loose mean mg mb sl si) 45 (Str.ofString "_law_deed") := ⟨by rfl, by rfl, ⟨_, _, _, _, _, _, _, _, _, by rfl, by rfl⟩⟩
theorem km0 : MethOk (cxT w p loose mean mg mb sl si) 0 (Str.ofString "__init__") (Str.ofString "Heap.__init__") := ⟨by rfl, by rfl, by rfl, ⟨_, _, _, _, _, _, _, _, _, by rfl, by rfl⟩⟩
theorem km1 : MethOk (cxT w p loose mean mg mb sl si) 1 (Str.ofString "used") (Str.ofString "Heap.used") := ⟨by rfl, by rfl, by rfl, ⟨_, _, _, _, _, _, _, _, _, by rfl, by rfl⟩⟩
theorem km3 : MethOk (cxT w p loose mean mg mb sl si) 3 (Str.ofString "allocate") (Str.ofString "Heap.allocate") := ⟨by rfl, by rfl, by rfl, ⟨_, _, _, _, _, _, _, _, _, by rfl, by rfl⟩⟩
theorem km4 : MethOk (cxT w p loose mean mg mb sl si) 4 (Str.ofString "header_at") (Str.ofString "Heap.header_at") := ⟨by rfl, by rfl, by rfl, ⟨_, _, _, _, _, _, _, _, _, by rfl, by rfl⟩⟩
theorem km5 : MethOk (cxT w p loose mean mg mb sl si) 5 (Str.ofString "kind_of") (Str.ofString "Heap.kind_of") := ⟨by rfl, by rfl, by rfl, ⟨_, _, _, _, _, _, _, _, _, by rfl, by rfl⟩⟩
theorem km6 : MethOk (cxT w p loose mean mg mb sl si) 6 (Str.ofString "length_of") (Str.ofString "Heap.length_of") := ⟨by rfl, by rfl, by rfl, ⟨_, _, _, _, _, _, _, _, _, by rfl, by rfl⟩⟩
theorem km8 : MethOk (cxT w p loose mean mg mb sl si) 8 (Str.ofString "place_of") (Str.ofString "Heap.place_of") := ⟨by rfl, by rfl, by rfl, ⟨_, _, _, _, _, _, _, _, _, by rfl, by rfl⟩⟩
theorem km9 : MethOk (cxT w p loose mean mg mb sl si) 9 (Str.ofString "field") (Str.ofString "Heap.field") := ⟨by rfl, by rfl, by rfl, ⟨_, _, _, _, _, _, _, _, _, by rfl, by rfl⟩⟩
theorem km10 : MethOk (cxT w p loose mean mg mb sl si) 10 (Str.ofString "set_field") (Str.ofString "Heap.set_field") := ⟨by rfl, by rfl, by rfl, ⟨_, _, _, _, _, _, _, _, _, by rfl, by rfl⟩⟩
theorem km12 : MethOk (cxT w p loose mean mg mb sl si) 12 (Str.ofString "cons") (Str.ofString "Heap.cons") := ⟨by rfl, by rfl, by rfl, ⟨_, _, _, _, _, _, _, _, _, by rfl, by rfl⟩⟩
theorem kAll : Facts (cxT w p loose mean mg mb sl si) where
  HK := kHeap w p loose mean mg mb sl si
  gHeap := by rfl
  gKS := ⟨42, [_, _, _, _, _, _, _, _], _, _, _, by rfl, by rfl, .cons (vint _ _) (.cons (vint _ _) (.cons (vint _ _) (.cons (vint _ _) (.cons (vint _ _) (.cons (vint _ _) (.cons (vint _ _) (.cons (vint _ _) .nil)))))))⟩
  gFIX := ⟨_, by rfl⟩
  gREF := ⟨_, by rfl⟩
  gCONSTANT := ⟨_, by rfl⟩
  gHEADER := ⟨_, by rfl⟩
  gFORWARD := ⟨_, by rfl⟩
  gTAGS := ⟨_, by rfl⟩
  gEMPTY_LIST := ⟨_, by rfl⟩
  gPAIR := ⟨_, by rfl⟩
  gVECTOR := ⟨_, by rfl⟩
  gBOX := ⟨_, by rfl⟩
  gKINDS := ⟨_, by rfl⟩
  blen := by rfl
  bint := by rfl
  blist := by rfl
  brange := by rfl
  bsorted := by rfl
  bsum := by rfl
  bzip := by rfl
  d16 := kd16 w p loose mean mg mb sl si
  d17 := kd17 w p loose mean mg mb sl si
  d18 := kd18 w p loose mean mg mb sl si
  d19 := kd19 w p loose mean mg mb sl si
  d20 := kd20 w p loose mean mg mb sl si
  d21 := kd21 w p loose mean mg mb sl si
  d22 := kd22 w p loose mean mg mb sl si
  d23 := kd23 w p loose mean mg mb sl si
  d24 := kd24 w p loose mean mg mb sl si
  d25 := kd25 w p loose mean mg mb sl si
  d26 := kd26 w p loose mean mg mb sl si
  d29 := kd29 w p loose mean mg mb sl si
  d30 := kd30 w p loose mean mg mb sl si
  d32 := kd32 w p loose mean mg mb sl si
  d33 := kd33 w p loose mean mg mb sl si
  d34 := kd34 w p loose mean mg mb sl si
  d35 := kd35 w p loose mean mg mb sl si
  d36 := kd36 w p loose mean mg mb sl si
  d37 := kd37 w p loose mean mg mb sl si
  d39 := kd39 w p loose mean mg mb sl si
  d40 := kd40 w p loose mean mg mb sl si
  d41 := kd41 w p loose mean mg mb sl si
  d42 := kd42 w p loose mean mg mb sl si
  d43 := kd43 w p loose mean mg mb sl si
  d44 := kd44 w p loose mean mg mb sl si
  d45 := kd45 w p loose mean mg mb sl si
  m0 := km0 w p loose mean mg mb sl si
  m1 := km1 w p loose mean mg mb sl si
  m3 := km3 w p loose mean mg mb sl si
  m4 := km4 w p loose mean mg mb sl si
  m5 := km5 w p loose mean mg mb sl si
  m6 := km6 w p loose mean mg mb sl si
  m8 := km8 w p loose mean mg mb sl si
  m9 := km9 w p loose mean mg mb sl si
  m10 := km10 w p loose mean mg mb sl si
  m12 := km12 w p loose mean mg mb sl si
end
/-- the law's body, from the head's own facts -/
theorem lawStart {cx : Cx} (FK : Facts cx) (PL : Plain) {h₀ : Heap} {fa : Addr} {cd : Value} {s : Shared} {mm : Str → Option Value} {vs : List Value} {o1 o2 : Obj} {v1 v2 : Option Value} {Q : Flow → Shared → Prop} {E : Value → Shared → Prop}
    (B : Below callerA h₀ [] h₀) (X : cx.K.In h₀) (T : Top cx.p cx.loose cx.mean cx.mg cx.mb h₀) (hL : h₀.IsList cx.sl vs.toArray) (hI : IntsAre vs cx.si) (hz : cx.si.length ≤ 63)
    (F : Fr h₀ h₀.objs.size s.heap mm) (hmm : mm (Str.ofString "script") = some (.ref cx.sl)) (N : News h₀ h₀.objs.size s.heap [(h₀.objs.size + 1 + 1, o1), (h₀.objs.size + 1, o2)]) (d1 : o1.data = .cell v1) (d2 : o2.data = .cell v2)
    (hq : ∀ s' m, Fr h₀ h₀.objs.size s'.heap m → (∃ h tk, s' = { s with heap := h, toks := tk }) → Q (.ret (.bool true)) s') :
    wpAny (model cx.prog cx.w) (callerA.deeper (envOfC (Str.ofString "law") (fnScope (stmtAt 46)) h₀.objs.size fa cd)) (execs (fnBody (stmtAt 46)) (envOfC (Str.ofString "law") (fnScope (stmtAt 46)) h₀.objs.size fa cd)) Q E s := by
  have hcells : (envOfC (Str.ofString "law") (fnScope (stmtAt 46)) h₀.objs.size fa cd).cells = [(Str.ofString "found", h₀.objs.size + 1 + 1), (Str.ofString "blocks", h₀.objs.size + 1)] := by rfl
  have hin : ∀ x ca, (envOfC (Str.ofString "law") (fnScope (stmtAt 46)) h₀.objs.size fa cd).cells.lookup x = some ca → (x = Str.ofString "found" ∧ ca = h₀.objs.size + 1 + 1) ∨ (x = Str.ofString "blocks" ∧ ca = h₀.objs.size + 1) := fun x ca e => by
    rw [hcells] at e
    have := mem_of_lookup e
    simp only [List.mem_cons, Prod.mk.injEq, List.not_mem_nil, or_false] at this
    exact this
  have I : Inv cx (callerA.deeper (envOfC (Str.ofString "law") (fnScope (stmtAt 46)) h₀.objs.size fa cd)) (frmOf (Str.ofString "law") (fnScope (stmtAt 46)) h₀.objs.size fa cd h₀) (envOfC (Str.ofString "law") (fnScope (stmtAt 46)) h₀.objs.size fa cd) [(Str.ofString "script", .ref cx.sl)] (fun _ => none) s := by
    refine ⟨⟨⟨⟨callerA, h₀, [], B, Around.frames_deeper B.stack⟩, ⟨mm, F⟩, X, T, ⟨vs, hL, hI⟩, rfl, fun _ _ _ => rfl, rfl⟩, rfl, rfl, fun _ _ e => nomatch e⟩, rfl, rfl, rfl, ⟨mm, F.ns, fun x v e => ?_⟩, rfl, get_none_size (Nat.le_refl _), fun x ca e => ?_, fun x ca e => ?_, fun x y ca e1 e2 => ?_⟩
    · rw [List.lookup_cons] at e
      cases hx : (x == Str.ofString "script") with
      | true =>
        rw [hx] at e; cases e
        obtain rfl := eq_of_beq hx
        exact ⟨by rfl, .inl ⟨by rfl, _, hmm, rfl⟩⟩
      | false => rw [hx] at e; simp at e
    · rcases hin x ca e with ⟨_, rfl⟩ | ⟨_, rfl⟩
      · exact ⟨get_none_size (by show h₀.objs.size ≤ h₀.objs.size + 1 + 1; omega), neN (by show h₀.objs.size + 1 + 1 ≠ h₀.objs.size; omega)⟩
      · exact ⟨get_none_size (by show h₀.objs.size ≤ h₀.objs.size + 1; omega), neN (by show h₀.objs.size + 1 ≠ h₀.objs.size; omega)⟩
    · rcases hin x ca e with ⟨_, rfl⟩ | ⟨_, rfl⟩
      · exact ⟨rfl, ⟨v1, o1, (N _ (.head _)).1, d1⟩, neN (by show h₀.objs.size + 1 + 1 ≠ h₀.objs.size; omega)⟩
      · exact ⟨rfl, ⟨v2, o2, (N _ (.tail _ (.head _))).1, d2⟩, neN (by show h₀.objs.size + 1 ≠ h₀.objs.size; omega)⟩
    · rcases hin x ca e1 with ⟨rfl, h1⟩ | ⟨rfl, h1⟩ <;> rcases hin y ca e2 with ⟨rfl, h2⟩ | ⟨rfl, h2⟩
      · rfl
      · exfalso; have h3 := h1.symm.trans h2; exact absurd h3 (by show ¬ (h₀.objs.size + 1 + 1 = h₀.objs.size + 1); omega)
      · exfalso; have h3 := h1.symm.trans h2; exact absurd h3 (by show ¬ (h₀.objs.size + 1 = h₀.objs.size + 1 + 1); omega)
      · rfl
  have hr : Room (callerA.deeper (envOfC (Str.ofString "law") (fnScope (stmtAt 46)) h₀.objs.size fa cd)) 10 := by
    constructor
    · show (301 : Nat) + 1 + 3 * 10 + 3 < 1000
      decide
    · show (4 : Nat) + 3 + 16 * 10 + 16 < 9900
      decide
  refine f46 FK PL hz (g := h₀) (cd := cd) _ s Q E hr I fun o r l m s' hR I' S' q => ?_
  cases o with
  | next => exact absurd q (by intro e; cases e)
  | brk => exact q.elim
  | cont => exact q.elim
  | ret v =>
    obtain ⟨x, rfl, hv⟩ := hR
    have q' : v = .bool true := q
    subst q'
    obtain rfl : x = .bool true := hv
    obtain ⟨m', F'⟩ := I'.i0.grd.fr
    exact hq s' m' F' S'.shape
end Mine

theorem PySem.Challenge.cw_pq1016_01_holds : PySem.Challenge.rw_pq1016_01.Holds := by
  refine holds_law Mine.okT fun said => PySem.W.holds_open (r := PySem.Challenge.rw_pq1016_01.row) (q := Mine.viewT) (loose := Mine.looseT) (Xt := Mine.xtT) (XP := XL Mine.viewT []) (Yf := Hook.obs (kHook Mine.KT Mine.asT Mine.asT_eq)) (Ya := Hook.val (kHook Mine.KT Mine.asT Mine.asT_eq)) (YP := Hook.says (kHook Mine.KT Mine.asT Mine.asT_eq)) (N := 3836) Mine.leftT (Hook.of _) (Hook.keeps _) (fun s e => xl_of s (Bool.and_eq_true_iff.mp e).1) XL.keeps (by rfl) (by rfl) (by rfl) (fun s e => recFacts_of (Bool.and_eq_true_iff.mp e).2) (by rfl) said Mine.okO Mine.bareT Mine.promT ?hc
  generalize Mine.viewT = q9
  k_go0; (all_goals try k_fold)
  rename Top _ _ _ _ _ _ => T9
  rename Heap.IsList _ _ _ => L9
  rename IntsAre _ _ => I9
  rename Frag.In _ _ => X9
  rename Below _ _ _ _ => B9
  rename Fr _ _ _ _ => F9
  rename News _ _ _ _ => N9
  rename ¬ _ < _ => C9
  rename _ = #[] => G9
  have hz9 := I9.length
  refine Mine.lawStart (Mine.kAll _ _ _ _ _ _ _ _) Mine.plain B9 X9 T9 L9 I9 ?hz F9 ?hm N9 (by assumption) (by assumption) ?hq
  case hz =>
    show List.length _ ≤ 63
    dsimp only [Mine.cxT]
    omega
  case hm => rfl
  case hq =>
    rintro s' m' F' ⟨h, tk, rfl⟩
    refine goodW_bool F' G9 (fun _ => rfl) ?_
    first | rfl | decide | (simp only [PySem.Challenge.rw_pq1016_01]; rfl) | (with_unfolding_all rfl) | w_fin
