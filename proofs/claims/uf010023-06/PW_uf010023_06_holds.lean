import PyProof.Rows.All
import Wide.All
import OpenK.AllK
import KE.IntTextLaws
import KE.KIntText
import KE.KIsAll
import KE.KRevIter
import KE.KSetAt
import KE.KTryOn
import OpenK.KItem
import OpenK.Peek
import PyProof.AutoIntOps
import PyProof.AutoListH
import PyProof.Cells
import PyProof.CompFree
import PyProof.DictKinds
import PyProof.DictRoads
import PyProof.DictStraight
import PyProof.EnumMake
import PyProof.EqLayable
import PyProof.ExcBaseAll.ValueError
import PyProof.ExcClass3
import PyProof.IsiHeapPairs
import PyProof.IsiNone
import PyProof.IsiPairs
import PyProof.ListCopy
import PyProof.ListIndexNeg
import PyProof.ListOps
import PyProof.ListTruth
import PyProof.NeData
import PyProof.NoPylong
import PyProof.NsCount
import PyProof.P3Eq
import PyProof.P3In
import PyProof.P3Statements
import PyProof.PureInt
import PyProof.Rows.Catch
import PyProof.Rows.Chain
import PyProof.Rows.ExtendIn
import PyProof.Rows.Range3
import PyProof.Rows.RuleIs2
import PyProof.Rows.StrBin
import PyProof.Rows.StrInSeq3
import PyProof.Rows.StrJoin2
import PyProof.Rows.StrTemp
import PyProof.Rows.TupAdd
import PyProof.Rows.TupMore
import PyProof.Rows.TupSub
import PyProof.RulesAs
import PyProof.RulesAssignMore
import PyProof.RulesTry
import PyProof.SliceList
import PyProof.SliceMore
import PyProof.SliceStr
import PyProof.SliceStr2
import PyProof.SliceSyntax
import PyProof.StationsW
import PyProof.StrBlock2
import PyProof.StrCalls2
import PyProof.StrCalls5
import PyProof.StrCalls6
import PyProof.StrLawsIn
import PyProof.StrLawsReplace
import PyProof.StrOps
import PyProof.StrOps2
import PyProof.StrWalks
import PyProof.Truth
import PyProof.TupleIter
import PyProof.TupleKey
import PyProof.TupleOfSeq
import PyProof.TupleOps
import PyProof.WalksMore
import Wide.FinOn
import PySem.Challenge.RW_uf010023_06
set_option Elab.async false
section
open PySem
set_option autoImplicit false
set_option linter.unusedVariables false
namespace Mine

abbrev tupO (vs : Array Value) (n : Nat) : Obj := { cls := .type "tuple", data := .seq vs n }
abbrev lstO (vs : Array Value) (n : Nat) : Obj := { cls := .type "list", data := .seq vs n }

set_option genSizeOf false in
set_option genInjectivity false in
inductive V where
  | none
  | bool (b : Bool)
  | int (i : Int)
  | str (s : List Nat)
  | tup (l : List V)
  | lst (l : List V)

set_option genSizeOf false in
set_option genInjectivity false in
inductive O where
  | val (v : V)
  | own (r : List V)
  | own2 (r : List (List V))
noncomputable def O.frz (o : O) : V := O.rec (fun v => v) (fun r => .lst r.reverse) (fun r => .lst (r.map fun x => .lst x.reverse).reverse) o
abbrev Loc := List (Option O)
abbrev WS := Addr → Prop

noncomputable def VR (W : WS) (h : Heap) : V → Value → Prop :=
  @V.rec (fun _ => Value → Prop) (fun _ => List Value → Prop)
    (fun v' => v' = .none) (fun b v' => v' = .bool b) (fun i v' => ∃ t, v' = .int i t)
    (fun s v' => ∃ t, v' = .str ⟨s.toArray⟩ t ∧ PyData.strOk ⟨s.toArray⟩ = true ∧ s.length ≤ sizeLine)
    (fun l ih v' => ∃ a vs n, v' = .ref a ∧ W a ∧ h.get? a = some (tupO vs n) ∧ l.length ≤ sizeLine ∧ ih vs.toList)
    (fun l ih v' => ∃ a vs n, v' = .ref a ∧ W a ∧ h.get? a = some (lstO vs n) ∧ l.length ≤ sizeLine ∧ ih vs.toList)
    (fun l' => l' = []) (fun v l iv il l' => ∃ v' r, l' = v' :: r ∧ iv v' ∧ il r)
noncomputable def VRs (W : WS) (h : Heap) : List V → List Value → Prop :=
  @V.rec_1 (fun _ => Value → Prop) (fun _ => List Value → Prop)
    (fun v' => v' = .none) (fun b v' => v' = .bool b) (fun i v' => ∃ t, v' = .int i t)
    (fun s v' => ∃ t, v' = .str ⟨s.toArray⟩ t ∧ PyData.strOk ⟨s.toArray⟩ = true ∧ s.length ≤ sizeLine)
    (fun l ih v' => ∃ a vs n, v' = .ref a ∧ W a ∧ h.get? a = some (tupO vs n) ∧ l.length ≤ sizeLine ∧ ih vs.toList)
    (fun l ih v' => ∃ a vs n, v' = .ref a ∧ W a ∧ h.get? a = some (lstO vs n) ∧ l.length ≤ sizeLine ∧ ih vs.toList)
    (fun l' => l' = []) (fun v l iv il l' => ∃ v' r, l' = v' :: r ∧ iv v' ∧ il r)

structure Ag (W : WS) (h : Heap) (W' : WS) (h' : Heap) : Prop where
  w : ∀ a, W a → W' a
  k : ∀ a, W a → h'.get? a = h.get? a

section
variable {W W' : WS} {h h' : Heap}
theorem VRs.inv {v : V} {l : List V} {l' : List Value} (r : VRs W h (v :: l) l') : ∃ v' r', l' = v' :: r' ∧ VR W h v v' ∧ VRs W h l r' := r
theorem VRs.cons {v : V} {l : List V} {v' : Value} {l' : List Value} (x : VR W h v v') (r : VRs W h l l') : VRs W h (v :: l) (v' :: l') := ⟨v', l', rfl, x, r⟩
theorem VR.tup {l : List V} {v' : Value} (r : VR W h (.tup l) v') : ∃ a vs n, v' = .ref a ∧ W a ∧ h.get? a = some (tupO vs n) ∧ l.length ≤ sizeLine ∧ VRs W h l vs.toList := r
theorem VR.lst {l : List V} {v' : Value} (r : VR W h (.lst l) v') : ∃ a vs n, v' = .ref a ∧ W a ∧ h.get? a = some (lstO vs n) ∧ l.length ≤ sizeLine ∧ VRs W h l vs.toList := r
theorem VR.ag (g : Ag W h W' h') {v : V} {v' : Value} (r : VR W h v v') : VR W' h' v v' :=
  V.rec (motive_1 := fun v => ∀ v', VR W h v v' → VR W' h' v v') (motive_2 := fun l => ∀ l', VRs W h l l' → VRs W' h' l l')
    (fun _ r => r) (fun _ _ r => r) (fun _ _ r => r) (fun _ _ r => r)
    (fun _ ih _ r => let ⟨a, vs, n, e, w, x, y, z⟩ := VR.tup r; ⟨a, vs, n, e, g.w a w, (g.k a w).trans x, y, ih _ z⟩)
    (fun _ ih _ r => let ⟨a, vs, n, e, w, x, y, z⟩ := VR.lst r; ⟨a, vs, n, e, g.w a w, (g.k a w).trans x, y, ih _ z⟩)
    (fun _ r => r) (fun _ _ iv il _ r => let ⟨v', r, e, x, y⟩ := VRs.inv r; ⟨v', r, e, iv _ x, il _ y⟩) v v' r
theorem VRs.ag (g : Ag W h W' h') : ∀ {l : List V} {l' : List Value}, VRs W h l l' → VRs W' h' l l'
  | [], _, r => r
  | _ :: _, _, r => let ⟨v', r, e, x, y⟩ := VRs.inv r; ⟨v', r, e, VR.ag g x, VRs.ag g y⟩
theorem VRs.length : ∀ {l : List V} {l' : List Value}, VRs W h l l' → l'.length = l.length
  | [], _, e => congrArg List.length e
  | _ :: _, _, r => let ⟨v', r, e, x, y⟩ := VRs.inv r; e ▸ congrArg (· + 1) y.length
theorem VRs.size {l : List V} {vs : Array Value} (r : VRs W h l vs.toList) : vs.size = l.length := by rw [← r.length, Array.length_toList]
theorem VRs.append : ∀ {l m : List V} {l' m' : List Value}, VRs W h l l' → VRs W h m m' → VRs W h (l ++ m) (l' ++ m')
  | [], _, _, _, e, hm => by cases e; exact hm
  | _ :: _, _, _, _, r, hm => by obtain ⟨v', r, rfl, x, y⟩ := VRs.inv r; exact .cons x (y.append hm)
theorem VRs.snoc {l : List V} {l' : List Value} {v : V} {v' : Value} (r : VRs W h l l') (x : VR W h v v') : VRs W h (l ++ [v]) (l' ++ [v']) := r.append ⟨v', [], rfl, x, rfl⟩
theorem VRs.get : ∀ {l : List V} {l' : List Value}, VRs W h l l' → ∀ {i : Nat} {v : V}, l[i]? = some v → ∃ v', l'[i]? = some v' ∧ VR W h v v'
  | [], _, _, _, _, e => nomatch e
  | _ :: _, _, r, 0, _, e => by obtain ⟨v', r, rfl, x, y⟩ := VRs.inv r; cases e; exact ⟨_, rfl, x⟩
  | _ :: _, _, r, i + 1, _, e => by obtain ⟨v', r, rfl, x, y⟩ := VRs.inv r; exact y.get (i := i) e
theorem VRs.set : ∀ {l : List V} {l' : List Value}, VRs W h l l' → ∀ (i : Nat) {v : V} {v' : Value}, VR W h v v' → VRs W h (l.set i v) (l'.set i v')
  | [], _, e, _, _, _, _ => by cases e; exact rfl
  | _ :: _, _, r, 0, _, w, hw => by obtain ⟨v', r, rfl, x, y⟩ := VRs.inv r; exact .cons hw y
  | _ :: _, _, r, i + 1, _, w, hw => by obtain ⟨v', r, rfl, x, y⟩ := VRs.inv r; exact .cons x (y.set i hw)
theorem VRs.take : ∀ {l : List V} {l' : List Value}, VRs W h l l' → ∀ (i : Nat), VRs W h (l.take i) (l'.take i)
  | [], _, e, i => by cases e; rw [List.take_nil, List.take_nil]; exact rfl
  | _ :: _, _, _, 0 => rfl
  | _ :: _, _, r, i + 1 => by obtain ⟨v', r, rfl, x, y⟩ := VRs.inv r; exact .cons x (y.take i)
theorem VRs.drop : ∀ {l : List V} {l' : List Value}, VRs W h l l' → ∀ (i : Nat), VRs W h (l.drop i) (l'.drop i)
  | [], _, e, i => by cases e; rw [List.drop_nil, List.drop_nil]; exact rfl
  | _ :: _, _, r, 0 => r
  | _ :: _, _, r, i + 1 => by obtain ⟨v', r, rfl, x, y⟩ := VRs.inv r; exact y.drop i
end

theorem Ag.refl (W : WS) (h : Heap) : Ag W h W h := ⟨fun _ x => x, fun _ _ => rfl⟩
theorem Ag.trans {W W' W'' : WS} {h h' h'' : Heap} (x : Ag W h W' h') (y : Ag W' h' W'' h'') : Ag W h W'' h'' := ⟨fun a q => y.w a (x.w a q), fun a q => (y.k a (x.w a q)).trans (x.k a q)⟩

abbrev Tbl := List (Str × Nat)
structure FI where
  names : List (Str × NameKind)
  tbl : Tbl
  pos : Bool := false

structure Cx where
  K : PySem.W.Frag
  h : Heap
  os : OsState
  prog : Program
  w : World
  mg : Str → Option Value
  mb : Str → Option Value
noncomputable abbrev Cx.M (C : Cx) : Model := model C.prog C.w

structure FC where
  C : Cx
  A : Around
  env : Env
  fi : FI
  pin : Addr → Option Obj
  W0 : WS
  cm : Bool

def Mut (X : FC) (φ : Nat → List Addr) (a : Addr) : Prop := a = X.env.locals ∨ (X.cm = true ∧ ∃ x, X.env.cells.lookup x = some a) ∨ ∃ i, a ∈ φ i

def Val (env : Env) (h : Heap) (x : Str) (v : Value) : Prop :=
  (env.kindOf x = some .local ∧ ∃ m, h.Ns env.locals m ∧ m x = some v) ∨
  ((env.kindOf x = some .cell ∨ env.kindOf x = some .free) ∧ ∃ c, env.cells.lookup x = some c ∧ h.IsCell c (some v))

def OwnAt (W : WS) (h : Heap) (a : Addr) (r : List V) : Prop := ∃ vs n, h.get? a = some (lstO vs n) ∧ VRs W h r.reverse vs.toList ∧ r.length ≤ sizeLine
def OwnL (W : WS) (h : Heap) (as : List Addr) (r : List (List V)) : Prop := as.length = r.length ∧ ∀ (k : Nat) (a : Addr) (x : List V), as[k]? = some a → r[k]? = some x → OwnAt W h a x
def Own2At (W : WS) (h : Heap) (a : Addr) (as : List Addr) (r : List (List V)) : Prop := ∃ vs n, h.get? a = some (lstO vs n) ∧ vs.toList = (as.map .ref).reverse ∧ r.length ≤ sizeLine ∧ OwnL W h as r ∧ (a :: as).Nodup
noncomputable def OR (W : WS) (h : Heap) (p : List Addr) (o : O) (v' : Value) : Prop :=
  O.rec (fun v => p = [] ∧ VR W h v v') (fun r => ∃ a, p = [a] ∧ v' = .ref a ∧ OwnAt W h a r) (fun r => ∃ a as, p = a :: as ∧ v' = .ref a ∧ Own2At W h a as r) o

structure F0 (X : FC) (W : WS) (φ : Nat → List Addr) (h : Heap) : Prop where
  pin : ∀ a o, X.pin a = some o → h.get? a = some o
  mu : ∀ a, Mut X φ a → X.pin a = none ∧ ¬ W a
  wf : ∀ a, W a → ∃ o, h.get? a = some o
  w0 : ∀ a o, X.pin a = some o → W a → X.W0 a
  dis : ∀ i j a, a ∈ φ i → a ∈ φ j → i = j
  ns : ∃ o es ep, h.get? X.env.locals = some o ∧ o.data = .dict es ep ∧ StrKeys es
  cells : ∀ x c, X.env.cells.lookup x = some c → ∃ o v, h.get? c = some o ∧ o.data = .cell v
def LR (X : FC) (W : WS) (φ : Nat → List Addr) (h : Heap) (ρ : Loc) : Prop :=
  ∀ x i, X.fi.tbl.lookup x = some i → ∀ o, ρ[i]? = some (some o) → X.env.kindOf x ≠ none → ∃ v', Val X.env h x v' ∧ OR W h (φ i) o v'
structure At (X : FC) (W : WS) (φ : Nat → List Addr) (s : Shared) (ρ : Loc) : Prop where
  gens : s.gens = #[]
  os : s.os = X.C.os
  f : F0 X W φ s.heap
  lr : LR X W φ s.heap ρ
  ow : ∀ i a, a ∈ φ i → ∃ vs n, s.heap.get? a = some (lstO vs n)
  tk : X.fi.pos = true → 0 < s.toks

structure Grow (W : WS) (h : Heap) (W' : WS) (h' : Heap) : Prop where
  k : ∀ a o, h.get? a = some o → h'.get? a = some o
  w : ∀ a, W a → W' a
  wf : ∀ a, W' a → ∃ o, h'.get? a = some o
  nw : ∀ a o, h.get? a = some o → W' a → W a

section
variable {X : FC} {W W' W'' : WS} {φ : Nat → List Addr} {h h' h'' : Heap} {s : Shared} {ρ : Loc}
theorem Grow.ag (g : Grow W h W' h') (wf : ∀ a, W a → ∃ o, h.get? a = some o) : Ag W h W' h' :=
  ⟨g.w, fun a q => (wf a q).elim fun o e => (g.k a o e).trans e.symm⟩
theorem Grow.trans (g : Grow W h W' h') (g' : Grow W' h' W'' h'') : Grow W h W'' h'' :=
  ⟨fun a o e => g'.k a o (g.k a o e), fun a q => g'.w a (g.w a q), g'.wf, fun a o e q => g.nw a o e (g'.nw a o (g.k a o e) q)⟩
theorem Val.grow {env : Env} {x : Str} {v : Value} (k : ∀ a o, h.get? a = some o → h'.get? a = some o) (r : Val env h x v) : Val env h' x v := by
  obtain ⟨q, m, ⟨o, es, ep, e, z⟩, hm⟩ | ⟨q, c, hc, o, e, z⟩ := r
  · exact .inl ⟨q, m, ⟨o, es, ep, k _ _ e, z⟩, hm⟩
  · exact .inr ⟨q, c, hc, o, k _ _ e, z⟩
theorem OwnAt.ag {a : Addr} {r : List V} (g : Ag W h W' h') (e : h'.get? a = h.get? a) (x : OwnAt W h a r) : OwnAt W' h' a r := by
  obtain ⟨vs, n, y, z, t⟩ := x; exact ⟨vs, n, e.trans y, z.ag g, t⟩
theorem OR.ag {p : List Addr} {o : O} {v' : Value} (g : Ag W h W' h') (e : ∀ a, a ∈ p → h'.get? a = h.get? a) (x : OR W h p o v') : OR W' h' p o v' := by
  cases o with
  | val v => exact ⟨x.1, VR.ag g x.2⟩
  | own r => obtain ⟨a, rfl, y, z⟩ := x; exact ⟨a, rfl, y, OwnAt.ag g (e a List.mem_cons_self) z⟩
  | own2 r =>
    obtain ⟨a, as, rfl, y, vs, n, z1, z2, z3, ⟨z4, z5⟩, z6⟩ := x
    exact ⟨a, as, rfl, y, vs, n, (e a List.mem_cons_self).trans z1, z2, z3, ⟨z4, fun k b x hb hx => OwnAt.ag g (e b (List.mem_cons_of_mem _ (List.mem_of_getElem? hb))) (z5 k b x hb hx)⟩, z6⟩
theorem F0.grow (F : F0 X W φ h) (ow : ∀ i a, a ∈ φ i → ∃ vs n, h.get? a = some (lstO vs n)) (g : Grow W h W' h') : F0 X W' φ h' where
  pin := fun a o e => g.k a o (F.pin a o e)
  mu := fun a q => ⟨(F.mu a q).1, fun w => (F.mu a q).2 (by
      rcases q with q | ⟨q1, x, q⟩ | ⟨i, q⟩
      · obtain ⟨o, _, _, e, _⟩ := F.ns; exact g.nw a o (q ▸ e) w
      · obtain ⟨o, _, e, _⟩ := F.cells x a q; exact g.nw a o e w
      · obtain ⟨_, _, e⟩ := ow i a q; exact g.nw a _ e w)⟩
  wf := g.wf
  w0 := fun a o e q => F.w0 a o e (g.nw a o (F.pin a o e) q)
  dis := F.dis
  ns := by obtain ⟨o, es, ep, e, z⟩ := F.ns; exact ⟨o, es, ep, g.k _ _ e, z⟩
  cells := fun x c hc => by obtain ⟨o, v, e, z⟩ := F.cells x c hc; exact ⟨o, v, g.k _ _ e, z⟩
theorem At.grow (F : At X W φ s ρ) {t : Nat} (g : Grow W s.heap W' h') (ht : s.toks ≤ t) : At X W' φ { s with heap := h', toks := t } ρ where
  tk := fun h => Nat.lt_of_lt_of_le (F.tk h) ht
  gens := F.gens
  os := F.os
  f := F.f.grow F.ow g
  lr := fun x i hx o ho hk => by
    obtain ⟨v', a, b⟩ := F.lr x i hx o ho hk
    exact ⟨v', a.grow g.k, b.ag (g.ag F.f.wf) fun a q => by obtain ⟨_, _, e⟩ := F.ow i a q; exact (g.k a _ e).trans e.symm⟩
  ow := fun i a q => by obtain ⟨vs, n, e⟩ := F.ow i a q; exact ⟨vs, n, g.k _ _ e⟩
theorem At.toks (F : At X W φ s ρ) (t : Nat) (ht : s.toks ≤ t) : At X W φ { s with toks := t } ρ := ⟨F.gens, F.os, F.f, F.lr, F.ow, fun h => Nat.lt_of_lt_of_le (F.tk h) ht⟩

theorem F0.turn (F : F0 X W φ h) {a : Addr} (hm : Mut X φ a) (hs : Heap.SameBut a h h') : Ag W h W h' ∧ (∀ b o, X.pin b = some o → h'.get? b = some o) ∧ (∀ b, W b → ∃ o, h'.get? b = some o) := by
  have hk : ∀ b, b ≠ a → h'.get? b = h.get? b := hs.2
  have wa := (F.mu a hm).2
  have ag : Ag W h W h' := ⟨fun _ q => q, fun b q => hk b fun e => wa (e ▸ q)⟩
  refine ⟨ag, fun b o e => (hk b fun q => ?_).trans (F.pin b o e), fun b q => ?_⟩
  · have := (F.mu a hm).1; rw [← q, e] at this; cases this
  · obtain ⟨o, e⟩ := F.wf b q; exact ⟨o, (ag.k b q).trans e⟩
end
end Mine
end

section
open PySem
set_option autoImplicit false
set_option linter.unusedVariables false
namespace Mine

def RO (X : FC) (W : WS) (φ : Nat → List Addr) (h : Heap) (o : O) (v' : Value) : Prop := ∃ p, OR W h p o v' ∧ ∀ a, a ∈ p → ¬ W a ∧ ¬ Mut X φ a ∧ X.pin a = none

def upd (φ : Nat → List Addr) (i : Nat) (p : List Addr) : Nat → List Addr := fun j => if j = i then p else φ j
theorem upd_same (φ : Nat → List Addr) (i : Nat) (p : List Addr) : upd φ i p i = p := if_pos rfl
theorem upd_ne (φ : Nat → List Addr) {i j : Nat} (p : List Addr) (h : j ≠ i) : upd φ i p j = φ j := if_neg h

theorem set_get {ρ : Loc} {i j : Nat} {o o' : O} (e : (ρ.set i (some o))[j]? = some (some o')) : (j = i ∧ o' = o) ∨ (j ≠ i ∧ ρ[j]? = some (some o')) := by
  by_cases q : j = i
  · subst q
    rw [List.getElem?_set] at e
    split at e
    · split at e
      · cases e; exact .inl ⟨rfl, rfl⟩
      · cases e
    · rename_i q; exact absurd rfl q
  · exact .inr ⟨q, by rwa [List.getElem?_set_ne (Ne.symm q)] at e⟩

section
variable {X : FC} {W W' : WS} {φ : Nat → List Addr} {h h' : Heap} {s : Shared} {ρ : Loc}

theorem RO.val {v : V} {v' : Value} (r : VR W h v v') : RO X W φ h (.val v) v' := ⟨[], ⟨rfl, r⟩, fun _ q => nomatch q⟩
theorem Ag.more (W : WS) (h : Heap) (a : Addr) : Ag W h (fun b => W b ∨ b = a) h := ⟨fun _ q => .inl q, fun _ _ => rfl⟩
theorem OwnAt.frz {a : Addr} {r : List V} (x : OwnAt W h a r) : VR (fun b => W b ∨ b = a) h (.lst r.reverse) (.ref a) := by
  obtain ⟨vs, n, y, z, t⟩ := x; exact ⟨a, vs, n, rfl, .inr rfl, y, by rwa [List.length_reverse], VRs.ag (.more W h a) z⟩
theorem Ag.moreS (W : WS) (h : Heap) (D : Addr → Prop) : Ag W h (fun b => W b ∨ D b) h := ⟨fun _ q => .inl q, fun _ _ => rfl⟩
theorem VRs.rev : ∀ {l : List V} {l' : List Value}, VRs W h l l' → VRs W h l.reverse l'.reverse
  | [], _, r => by cases r; exact rfl
  | v :: l, _, r => by obtain ⟨v', r', rfl, x, y⟩ := VRs.inv r; rw [List.reverse_cons, List.reverse_cons]; exact (VRs.rev y).snoc x
theorem OwnL.frz {as : List Addr} : ∀ {r : List (List V)}, OwnL W h as r → VRs (fun b => W b ∨ b ∈ as) h (r.map fun x => .lst x.reverse) (as.map .ref) := by
  have key : ∀ (as : List Addr) (r : List (List V)) (D : Addr → Prop), (∀ a, a ∈ as → D a) → OwnL W h as r → VRs (fun b => W b ∨ D b) h (r.map fun x => .lst x.reverse) (as.map .ref) := by
    intro as
    induction as with
    | nil => intro r D _ o; cases r with
      | nil => exact rfl
      | cons x r => cases o.1
    | cons a as ih =>
      intro r D hD o
      cases r with
      | nil => cases o.1
      | cons x r =>
        obtain ⟨vs, n, y, z, t⟩ := o.2 0 a x rfl rfl
        exact .cons ⟨a, vs, n, rfl, .inr (hD a List.mem_cons_self), y, by rwa [List.length_reverse], VRs.ag (.moreS W h D) z⟩ (ih r D (fun b q => hD b (List.mem_cons_of_mem _ q)) ⟨Nat.succ.inj o.1, fun k b y hb hy => o.2 (k + 1) b y hb hy⟩)
  intro r o
  exact key as r _ (fun _ q => q) o
theorem OR.frz {p : List Addr} {o : O} {v' : Value} (x : OR W h p o v') : VR (fun b => W b ∨ b ∈ p) h o.frz v' := by
  cases o with
  | val v => exact VR.ag (.moreS W h _) x.2
  | own r =>
    obtain ⟨a, rfl, rfl, vs, n, y, z, t⟩ := x
    exact ⟨a, vs, n, rfl, .inr List.mem_cons_self, y, by rwa [List.length_reverse], VRs.ag (.moreS W h _) z⟩
  | own2 r =>
    obtain ⟨a, as, rfl, rfl, vs, n, y, z, t, o, _⟩ := x
    have hv := VRs.rev (OwnL.frz o)
    rw [← z] at hv
    exact ⟨a, vs, n, rfl, .inr List.mem_cons_self, y, by rw [List.length_reverse, List.length_map]; exact t, VRs.ag ⟨fun _ q => q.elim .inl fun q => .inr (List.mem_cons_of_mem _ q), fun _ _ => rfl⟩ hv⟩
theorem OR.isList {p : List Addr} {o : O} {v' : Value} (x : OR W h p o v') : ∀ b, b ∈ p → ∃ vs n, h.get? b = some (lstO vs n) := fun b q => by
  cases o with
  | val v => rw [x.1] at q; cases q
  | own r' => obtain ⟨c, rfl, _, vs, n, z, _⟩ := x; cases List.mem_singleton.mp q; exact ⟨vs, n, z⟩
  | own2 r' =>
    obtain ⟨c, as, rfl, _, vs, n, z, _, _, ⟨z4, z5⟩, _⟩ := x
    rcases List.mem_cons.mp q with rfl | q
    · exact ⟨vs, n, z⟩
    · obtain ⟨k, hk, e⟩ := List.getElem_of_mem q
      obtain ⟨ws, m, y, _⟩ := z5 k b (r'[k]'(by rw [← z4]; exact hk)) (by rw [List.getElem?_eq_getElem hk, e]) (List.getElem?_eq_getElem _)
      exact ⟨ws, m, y⟩
theorem At.fixS (F : At X W φ s ρ) {D : Addr → Prop} (hp : ∀ a, D a → X.pin a = none) (hm : ∀ a, D a → ¬ Mut X φ a) (he : ∀ a, D a → ∃ o, s.heap.get? a = some o) : At X (fun b => W b ∨ D b) φ s ρ where
  gens := F.gens
  os := F.os
  f := { F.f with
    mu := fun b q => ⟨(F.f.mu b q).1, fun w => w.elim (F.f.mu b q).2 fun e => hm b e q⟩
    wf := fun b q => q.elim (F.f.wf b) fun e => he b e
    w0 := fun b o e q => q.elim (F.f.w0 b o e) fun z => by rw [hp b z] at e; cases e }
  lr := fun x i hx o ho hk => by obtain ⟨v', a, b⟩ := F.lr x i hx o ho hk; exact ⟨v', a, b.ag (.moreS ..) fun _ _ => rfl⟩
  ow := F.ow
  tk := F.tk
theorem At.frz (F : At X W φ s ρ) {o : O} {v' : Value} (r : RO X W φ s.heap o v') : ∃ W', At X W' φ s ρ ∧ Ag W s.heap W' s.heap ∧ VR W' s.heap o.frz v' := by
  obtain ⟨p, x, y⟩ := r
  exact ⟨_, F.fixS (D := (· ∈ p)) (fun a q => (y a q).2.2) (fun a q => (y a q).2.1) (fun a q => by obtain ⟨_, _, e⟩ := x.isList a q; exact ⟨_, e⟩), .moreS W s.heap _, x.frz⟩
theorem Mut.less {i : Nat} {a : Addr} (q : Mut X (upd φ i []) a) : Mut X φ a := by
  rcases q with q | q | ⟨j, q⟩
  · exact .inl q
  · exact .inr (.inl q)
  · refine .inr (.inr ⟨j, ?_⟩)
    unfold upd at q; split at q
    · cases q
    · exact q
theorem At.drop (F : At X W φ s ρ) (i : Nat) {ρ' : Loc} (hρ : ∀ j o, j ≠ i → ρ'[j]? = some (some o) → ρ[j]? = some (some o)) (hi : ∀ x, X.fi.tbl.lookup x = some i → ∀ o, ρ'[i]? = some (some o) → X.env.kindOf x ≠ none → ∃ v', Val X.env s.heap x v' ∧ OR W s.heap [] o v') : At X W (upd φ i []) s ρ' where
  gens := F.gens
  os := F.os
  f := { F.f with
    mu := fun b q => F.f.mu b q.less
    dis := fun j k a p q => by
      by_cases ej : j = i
      · rw [ej, upd_same] at p; cases p
      · by_cases ek : k = i
        · rw [ek, upd_same] at q; cases q
        · rw [upd_ne _ _ ej] at p; rw [upd_ne _ _ ek] at q; exact F.f.dis j k a p q }
  lr := fun x j hx o ho hk => by
    by_cases ej : j = i
    · subst ej; rw [upd_same]; exact hi x hx o ho hk
    · rw [upd_ne _ _ ej]; exact F.lr x j hx o (hρ j o ej ho) hk
  ow := fun j a q => by
    by_cases ej : j = i
    · rw [ej, upd_same] at q; cases q
    · rw [upd_ne _ _ ej] at q; exact F.ow j a q
  tk := F.tk

theorem F0.notOwn (F : F0 X W φ h) {a : Addr} {vs : Array Value} {n : Nat} (e : h.get? a = some (lstO vs n)) : a ≠ X.env.locals ∧ ∀ x, X.env.cells.lookup x ≠ some a := by
  refine ⟨fun q => ?_, fun x q => ?_⟩
  · obtain ⟨o, _, _, z, t, _⟩ := F.ns; rw [← q, e] at z; cases z; cases t
  · obtain ⟨o, _, z, t⟩ := F.cells x a q; rw [e] at z; cases z; cases t

theorem At.free (F : At X W φ s ρ) (i : Nat) : At X W (upd φ i []) s (ρ.set i none) ∧ ∀ a, a ∈ φ i → X.pin a = none ∧ ¬ W a ∧ ¬ Mut X (upd φ i []) a ∧ ∀ x, X.env.cells.lookup x ≠ some a := by
  refine ⟨F.drop i (fun j o q w => by rwa [List.getElem?_set_ne (Ne.symm q)] at w) fun y hy o w => by
    rw [List.getElem?_set] at w
    split at w
    · split at w <;> cases w
    · rename_i q; exact absurd rfl q, fun a q => ?_⟩
  have hmu := F.f.mu a (.inr (.inr ⟨i, q⟩))
  obtain ⟨vs, n, he⟩ := F.ow i a q
  have hno := F.f.notOwn he
  refine ⟨hmu.1, hmu.2, fun z => ?_, hno.2⟩
  rcases z with z | ⟨_, y, z⟩ | ⟨j, z⟩
  · exact hno.1 z
  · exact hno.2 y z
  · by_cases ej : j = i
    · rw [ej, upd_same] at z; cases z
    · rw [upd_ne _ _ ej] at z; exact ej (F.f.dis j i a z q)
theorem At.frzVar (F : At X W φ s ρ) {x : Str} {i : Nat} {o : O} {v' : Value} (ti : ∀ y, X.fi.tbl.lookup y = some i → y = x) (hv : Val X.env s.heap x v') (z : OR W s.heap (φ i) o v') :
    ∃ W', At X W' (upd φ i []) s (ρ.set i (some (.val o.frz))) ∧ Ag W s.heap W' s.heap ∧ VR W' s.heap o.frz v' := by
  obtain ⟨F1, hf⟩ := F.free i
  have F2 := F1.fixS (D := (· ∈ φ i)) (fun a q => (hf a q).1) (fun a q => (hf a q).2.2.1) (fun a q => by obtain ⟨_, _, e⟩ := F.ow i a q; exact ⟨_, e⟩)
  refine ⟨_, ⟨F2.gens, F2.os, F2.f, fun y j hy o' w hk => ?_, F2.ow, F2.tk⟩, .moreS W s.heap _, z.frz⟩
  rcases set_get w with ⟨rfl, rfl⟩ | ⟨q, w⟩
  · cases ti y hy; exact ⟨_, hv, by rw [upd_same]; exact ⟨rfl, z.frz⟩⟩
  · exact F2.lr y j hy o' (by rwa [List.getElem?_set_ne (Ne.symm q)]) hk

theorem At.store (F : At X W φ s ρ) {x : Str} {i : Nat} {o : O} {v' : Value} {a : Addr} {t : Nat} (ti : ∀ y, X.fi.tbl.lookup y = some i → y = x) (hx : X.fi.tbl.lookup x = some i) {p : List Addr} (r : OR W s.heap p o v') (hp : ∀ a, a ∈ p → ¬ W a ∧ ¬ Mut X φ a ∧ X.pin a = none)
    (ha : a = X.env.locals ∨ (X.cm = true ∧ ∃ y, X.env.cells.lookup y = some a)) (hs : Heap.SameBut a s.heap h') (hv : Val X.env h' x v') (ho : ∀ y w, y ≠ x → Val X.env s.heap y w → Val X.env h' y w)
    (ns : ∃ o es ep, h'.get? X.env.locals = some o ∧ o.data = .dict es ep ∧ StrKeys es) (cells : ∀ x c, X.env.cells.lookup x = some c → ∃ o v, h'.get? c = some o ∧ o.data = .cell v) (ht : s.toks ≤ t := by first | exact Nat.le_refl _ | assumption | exact Nat.le_succ _ | omega | (dsimp only; omega) | (dsimp only at *; omega)) :
    At X W (upd φ i p) { s with heap := h', toks := t } (ρ.set i (some o)) ∧ Ag W s.heap W h' := by
  have hm : Mut X φ a := ha.elim .inl fun q => .inr (.inl q)
  obtain ⟨ag, pin, wf⟩ := F.f.turn hm hs
  have hl : ∀ b vs n, s.heap.get? b = some (lstO vs n) → h'.get? b = s.heap.get? b := fun b vs n e => hs.2 b fun q => by
    have := F.f.notOwn e
    rcases ha with z | ⟨_, y, z⟩
    · exact this.1 (q.trans z)
    · exact this.2 y (q ▸ z)
  have hl' : ∀ b, b ∈ p → ∃ vs n, s.heap.get? b = some (lstO vs n) := r.isList
  have case : ∀ j b, b ∈ upd φ i p j → (j = i ∧ b ∈ p) ∨ (j ≠ i ∧ b ∈ φ j) := fun j b q => by
    by_cases ej : j = i
    · rw [ej, upd_same] at q; exact .inl ⟨ej, q⟩
    · rw [upd_ne _ _ ej] at q; exact .inr ⟨ej, q⟩
  have ow : ∀ j b, b ∈ upd φ i p j → ∃ vs n, s.heap.get? b = some (lstO vs n) := fun j b q => (case j b q).elim (fun z => hl' b z.2) fun z => F.ow j b z.2
  refine ⟨⟨F.gens, F.os, ⟨pin, fun b q => ?_, wf, F.f.w0, fun j k b q q' => ?_, ns, cells⟩, fun y j hy o' w hk => ?_, fun j b q => ?_, fun h => Nat.lt_of_lt_of_le (F.tk h) ht⟩, ag⟩
  · rcases q with q | q | ⟨j, q⟩
    · exact F.f.mu b (.inl q)
    · exact F.f.mu b (.inr (.inl q))
    · rcases case j b q with ⟨_, q⟩ | ⟨_, q⟩
      · exact ⟨(hp b q).2.2, (hp b q).1⟩
      · exact F.f.mu b (.inr (.inr ⟨j, q⟩))
  · rcases case j b q with ⟨e, q⟩ | ⟨e, q⟩ <;> rcases case k b q' with ⟨e', q'⟩ | ⟨e', q'⟩
    · exact e.trans e'.symm
    · exact absurd (.inr (.inr ⟨k, q'⟩)) (hp b q).2.1
    · exact absurd (.inr (.inr ⟨j, q⟩)) (hp b q').2.1
    · exact F.f.dis j k b q q'
  · rcases set_get w with ⟨rfl, rfl⟩ | ⟨q, w⟩
    · cases ti y hy
      refine ⟨v', hv, ?_⟩
      rw [upd_same]
      exact r.ag ag fun b q => by obtain ⟨_, _, e⟩ := hl' b q; exact hl b _ _ e
    · obtain ⟨w', b1, b2⟩ := F.lr y j hy o' w hk
      refine ⟨w', ho y w' (fun e => q ?_) b1, ?_⟩
      · rw [e, hx] at hy; exact (Option.some.inj hy).symm
      · rw [upd_ne _ _ q]
        exact b2.ag ag fun b z => by obtain ⟨_, _, e⟩ := F.ow j b z; exact hl b _ _ e
  · obtain ⟨vs, n, e⟩ := ow j b q; exact ⟨vs, n, (hl b vs n e).trans e⟩

theorem At.turn (F : At X W φ s ρ) {x : Str} {i : Nat} {a : Addr} {t : Nat} {r : List V} {vs : Array Value} {n : Nat} (ti : ∀ y, X.fi.tbl.lookup y = some i → y = x) (hi : φ i = [a]) (hs : Heap.SameBut a s.heap h') (hv : Val X.env s.heap x (.ref a))
    (he : h'.get? a = some (lstO vs n)) (hr : VRs W s.heap r.reverse vs.toList) (hz : r.length ≤ sizeLine) (ht : s.toks ≤ t := by first | exact Nat.le_refl _ | assumption | exact Nat.le_succ _ | omega | (dsimp only; omega) | (dsimp only at *; omega)) : At X W φ { s with heap := h', toks := t } (ρ.set i (some (.own r))) ∧ Ag W s.heap W h' := by
  have hmem : a ∈ φ i := hi ▸ List.mem_cons_self
  obtain ⟨ag, pin, wf⟩ := F.f.turn (.inr (.inr ⟨i, hmem⟩)) hs
  obtain ⟨vs0, n0, he0⟩ := F.ow i a hmem
  have hno := F.f.notOwn he0
  have hL : h'.get? X.env.locals = s.heap.get? X.env.locals := hs.2 _ (Ne.symm hno.1)
  have hC : ∀ y c, X.env.cells.lookup y = some c → h'.get? c = s.heap.get? c := fun y c q => hs.2 c fun e => hno.2 y (e ▸ q)
  have val : ∀ y w, Val X.env s.heap y w → Val X.env h' y w := fun y w q => by
    obtain ⟨q, m, ⟨o, es, ep, e, z⟩, hm⟩ | ⟨q, c, hc, o, e, z⟩ := q
    · exact .inl ⟨q, m, ⟨o, es, ep, hL.trans e, z⟩, hm⟩
    · exact .inr ⟨q, c, hc, o, (hC y c hc).trans e, z⟩
  refine ⟨⟨F.gens, F.os, { F.f with pin := pin, wf := wf, ns := ?_, cells := fun y c q => ?_ }, fun y j hy o w hk => ?_, fun j b q => ?_, fun h => Nat.lt_of_lt_of_le (F.tk h) ht⟩, ag⟩
  · obtain ⟨o, es, ep, e, z⟩ := F.f.ns; exact ⟨o, es, ep, hL.trans e, z⟩
  · obtain ⟨o, v, e, z⟩ := F.f.cells y c q; exact ⟨o, v, (hC y c q).trans e, z⟩
  · rcases set_get w with ⟨rfl, rfl⟩ | ⟨q, w⟩
    · cases ti y hy
      exact ⟨_, val _ _ hv, a, hi, rfl, vs, n, he, hr.ag ag, hz⟩
    · obtain ⟨w', b1, b2⟩ := F.lr y j hy o w hk
      exact ⟨w', val _ _ b1, b2.ag ag fun b z => hs.2 b fun e => q (F.f.dis j i a (e ▸ z) hmem)⟩
  · by_cases e : b = a
    · subst e; exact ⟨vs, n, he⟩
    · obtain ⟨vs, n, z⟩ := F.ow j b q; exact ⟨vs, n, (hs.2 b e).trans z⟩
end
end Mine
end

section
open PySem
set_option autoImplicit false
set_option linter.unusedVariables false
namespace Mine
open PySem.W (Frag kitOne keepIn Looks)

inductive Ty | tuple | str | int | bool | list deriving DecidableEq
inductive Kd | none | bool | int | str | tup | list deriving DecidableEq
noncomputable def Kd.v (k : Kd) : Value := .type (Kd.rec "NoneType" "bool" "int" "str" "tuple" "list" k)
noncomputable def Ty.n (t : Ty) : String := Ty.rec "tuple" "str" "int" "bool" "list" t
noncomputable def isiK (k : Kd) (t : Ty) : Bool := Kd.rec false (Ty.rec false false true true false t) (Ty.rec false false true false false t) (Ty.rec false true false false false t) (Ty.rec true false false false false t) (Ty.rec false false false false true t) k

structure FD where
  ps : List Str
  fi : FI
  st : List Stmt
structure Gl where
  fn : List (Str × Addr)
  fd : List (Addr × FD)
  bn : List Str
  ty : List Ty
  mo : Cx → Prop

def deep : Nat := 2000
structure FnOk (C : Cx) (a : Addr) (f : FD) (o : Obj) (fd : FuncData) : Prop where
  at_ : C.h.get? a = some o
  dat : o.data = .func fd
  body : fd.body = .stmts f.st
  clo : fd.closure = []
  gl : fd.globals = mainGlobals
  bi : fd.builtins = builtinsNs
  co : fd.scope.isCoroutine = false
  gen : fd.scope.isGenerator = false
  kind : fd.scope.kind = .function
  rec_ : C.h.CodeRec fd.code fd.qualname
  bind : ∀ vals : List Value, vals.length = f.ps.length → bindArgs fd ⟨vals, []⟩ = pure (f.ps.zip vals)
  nodup : f.ps.Nodup
  names : fd.scope.names = f.fi.names
  own : ∀ p, p ∈ f.ps → f.fi.names.lookup p = some .local ∨ f.fi.names.lookup p = some .cell
  free : ∀ x, x ∈ f.fi.names → x.2 ≠ .free
  at0 : ∀ i p, f.ps[i]? = some p → f.fi.tbl.lookup p = some i
  inj : ∀ y z j, f.fi.tbl.lookup y = some j → f.fi.tbl.lookup z = some j → y = z

structure GOk (G : Gl) (C : Cx) : Prop where
  X : C.K.In C.h
  g : C.h.Ns mainGlobals C.mg
  b : C.h.Ns builtinsNs C.mb
  bi : ∀ x : Str, x ≠ "__name__" → C.mb x = bootBuiltins x
  nolimit : C.h.NoLimit
  isi : ∀ k t, t ∈ G.ty → kitOne C.K k.v (.type t.n) = some (isiK k t)
  bn : ∀ x, x ∈ G.bn → C.mg x = none ∧ x ≠ "__name__"
  fn : ∀ x a, G.fn.lookup x = some a → C.mg x = some (.ref a) ∧ keepIn C.K (.ref a) = true
  fd : ∀ a f, G.fd.lookup a = some f → ∃ o fd, FnOk C a f o fd
  mo : G.mo C

structure FS (G : Gl) (d : Nat) (X : FC) : Prop where
  g : GOk G X.C
  base : ∀ a o, X.C.h.get? a = some o → X.pin a = some o
  hd : X.A.handled = none
  dp : X.A.depth + 2 * d + 10 ≤ recursionLimit
  un : X.A.units + 20 * d + deep + 100 < cLine
  fn : X.env.scope.kind = .function
  gl : X.env.globals = mainGlobals
  bi : X.env.builtins = builtinsNs
  nm : X.env.scope.names = X.fi.names
  cel : ∀ x, X.fi.names.lookup x = some .cell ∨ X.fi.names.lookup x = some .free → ∃ c, X.env.cells.lookup x = some c
  inj : ∀ x y c, X.env.cells.lookup x = some c → X.env.cells.lookup y = some c → x = y
  ti : ∀ y z j, X.fi.tbl.lookup y = some j → X.fi.tbl.lookup z = some j → y = z

def FI.isVar (fi : FI) (x : Str) (i : Nat) : Bool := fi.tbl.lookup x == some i && (fi.names.lookup x == some .local || fi.names.lookup x == some .cell || fi.names.lookup x == some .free) && x != "__debug__" && x != "__classdict__"
def FI.isOwn (fi : FI) (x : Str) (i : Nat) : Bool := fi.tbl.lookup x == some i && (fi.names.lookup x == some .local || fi.names.lookup x == some .cell)
def FI.isGlob (fi : FI) (x : Str) : Bool := fi.names.lookup x == some .globalImplicit && x != "__debug__"
def isBi (G : Gl) (fi : FI) (x : Str) : Bool := fi.isGlob x && G.bn.contains x

section
variable {G : Gl} {d : Nat} {X : FC} {W : WS} {φ : Nat → List Addr} {s : Shared} {ρ : Loc} {E : Value → Shared → Prop}

theorem FS.kind (S : FS G d X) (x : Str) : X.env.kindOf x = X.fi.names.lookup x := by unfold Env.kindOf; rw [S.nm]
theorem At.keep (F : At X W φ s ρ) (S : FS G d X) : ∀ a o, X.C.h.get? a = some o → s.heap.get? a = some o := fun a o e => F.f.pin a o (S.base a o e)
theorem At.In (F : At X W φ s ρ) (S : FS G d X) : X.C.K.In s.heap := S.g.X.keeps (F.keep S)

theorem load_ok {x : Str} {i : Nat} {p : Pos} {o : O} {Q : Value → Shared → Prop} (S : FS G d X) (F : At X W φ s ρ) (hx : X.fi.isVar x i = true) (e : ρ[i]? = some (some o))
    (h : ∀ v', X.fi.tbl.lookup x = some i → X.env.kindOf x ≠ none → Val X.env s.heap x v' → OR W s.heap (φ i) o v' → Q v' s) : wpAny X.C.M X.A (eval (.Name x p) X.env) Q E s := by
  simp only [FI.isVar, Bool.and_eq_true, beq_iff_eq, bne_iff_ne, ne_eq, Bool.or_eq_true] at hx
  obtain ⟨⟨⟨h1, h2⟩, h3⟩, h4⟩ := hx
  have hk : X.env.kindOf x ≠ none := by rw [S.kind]; rintro q; rcases h2 with (z | z) | z <;> rw [q] at z <;> cases z
  obtain ⟨v', a, b⟩ := F.lr x i h1 o e hk
  refine wpAny_Name ?_ (by simpa using h3)
  have fin := h v' h1 hk a b
  rcases a with ⟨hk, m, hn, hm⟩ | ⟨hk | hk, c, hc, hv⟩
  · exact wpAny_loadName_local S.fn hk hn hm fin
  · exact wpAny_loadName_cell S.fn hk hc hv fin
  · exact wpAny_loadName_free S.fn hk hc hv fin (by simpa using h4)

theorem store_ok {x : Str} {i : Nat} {o : O} {v' : Value} {Q : Unit → Shared → Prop} (S : FS G d X) (hcm : X.fi.names.lookup x = some .local ∨ X.cm = true) (F : At X W φ s ρ) (r : RO X W φ s.heap o v') (hx : X.fi.isOwn x i = true)
    (h : ∀ φ' s', At X W φ' s' (ρ.set i (some o)) → Ag W s.heap W s'.heap → Q () s') : wpAny X.C.M X.A (storeName X.env x v') Q E s := by
  simp only [FI.isOwn, Bool.and_eq_true, beq_iff_eq, Bool.or_eq_true] at hx
  obtain ⟨h1, h2⟩ := hx
  obtain ⟨p, r, hp⟩ := r
  have ti : ∀ y, X.fi.tbl.lookup y = some i → y = x := fun y hy => S.ti y x i hy h1
  rcases h2 with h2 | h2
  · have hk := (S.kind x).trans h2
    obtain ⟨o1, es, ep, ho, hd, hs⟩ := F.f.ns
    have hn : s.heap.Ns X.env.locals (fun y => nsFind es y) := ⟨o1, es, ep, ho, hd, hs, fun _ => rfl⟩
    refine wpAny_storeName_local hk hn (fun h' hn' hs' => ?_) (by rw [S.fn]; rfl)
    have hC : ∀ y c, X.env.cells.lookup y = some c → c ≠ X.env.locals := fun y c hc q => by
      obtain ⟨o2, _, e2, e3⟩ := F.f.cells y c hc; rw [q, ho] at e2; cases e2; rw [hd] at e3; cases e3
    obtain ⟨A, B⟩ := F.store (t := s.toks + 1) ti h1 r hp (.inl rfl) hs' (.inl ⟨hk, _, hn', by simp⟩) (fun y w hy q => by
      rcases q with ⟨a1, m, a2, a3⟩ | ⟨a1, c, a2, a3⟩
      · refine .inl ⟨a1, _, hn', ?_⟩
        rw [if_neg hy]
        obtain ⟨o2, es2, ep2, ho2, hd2, _, hf2⟩ := a2
        rw [ho] at ho2; cases ho2; rw [hd] at hd2; cases hd2
        exact (hf2 y).trans a3
      · exact .inr ⟨a1, c, a2, a3.sameBut hs' (hC y c a2)⟩)
      (by obtain ⟨o2, es2, ep2, a, b, c, _⟩ := hn'; exact ⟨o2, es2, ep2, a, b, c⟩) (fun y c hc => by
        obtain ⟨o2, v2, a, b⟩ := F.f.cells y c hc; exact ⟨o2, v2, (hs'.2 c (hC y c hc)).trans a, b⟩)
    exact h _ _ A B
  · have hcm : X.cm = true := hcm.resolve_left fun q => by rw [h2] at q; cases q
    have hk := (S.kind x).trans h2
    obtain ⟨c, hc⟩ := S.cel x (.inl h2)
    obtain ⟨o1, w, ho, hd⟩ := F.f.cells x c hc
    refine wpAny_storeName_cell S.fn hk hc ⟨o1, ho, hd⟩ fun h' hc' hs' => ?_
    have hL : X.env.locals ≠ c := fun q => by
      obtain ⟨o2, _, _, e2, e3, _⟩ := F.f.ns; rw [q, ho] at e2; cases e2; rw [hd] at e3; cases e3
    obtain ⟨A, B⟩ := F.store (t := s.toks) ti h1 r hp (.inr ⟨hcm, x, hc⟩) hs' (.inr ⟨.inl hk, c, hc, hc'⟩) (fun y w hy q => by
      rcases q with ⟨a1, m, a2, a3⟩ | ⟨a1, c2, a2, a3⟩
      · exact .inl ⟨a1, m, a2.sameBut hs' hL, a3⟩
      · exact .inr ⟨a1, c2, a2, a3.sameBut hs' fun q => hy (S.inj y x c (q ▸ a2) hc)⟩)
      (by obtain ⟨o2, es2, ep2, a, b, c⟩ := F.f.ns; exact ⟨o2, es2, ep2, (hs'.2 _ hL).trans a, b, c⟩) (fun y c2 hc2 => by
        by_cases q : c2 = c
        · subst q; obtain ⟨o2, a, b⟩ := hc'; exact ⟨o2, _, a, b⟩
        · obtain ⟨o2, v2, a, b⟩ := F.f.cells y c2 hc2; exact ⟨o2, v2, (hs'.2 c2 q).trans a, b⟩)
    exact h _ _ A B

theorem glob_ok {x : Str} {p : Pos} {v : Value} {Q : Value → Shared → Prop} (S : FS G d X) (F : At X W φ s ρ) (hx : X.fi.isGlob x = true) (hv : X.C.mg x = some v) (h : Q v s) : wpAny X.C.M X.A (eval (.Name x p) X.env) Q E s := by
  simp only [FI.isGlob, Bool.and_eq_true, beq_iff_eq, bne_iff_ne, ne_eq] at hx
  refine PySem.Calls.Name_function_global S.fn ((S.kind x).trans hx.1) (PySem.Calls.loadGlobal_global (mg := X.C.mg) ?_ hv h) (by simpa using hx.2)
  rw [S.gl]; exact S.g.g.keeps (F.keep S)
theorem bi_ok {x : Str} {p : Pos} {v : Value} {Q : Value → Shared → Prop} (S : FS G d X) (F : At X W φ s ρ) (hx : isBi G X.fi x = true) (hv : bootBuiltins x = some v) (h : Q v s) : wpAny X.C.M X.A (eval (.Name x p) X.env) Q E s := by
  simp only [isBi, FI.isGlob, Bool.and_eq_true, beq_iff_eq, bne_iff_ne, ne_eq, List.contains_iff_mem] at hx
  obtain ⟨⟨h1, h2⟩, h3⟩ := hx
  obtain ⟨h4, h5⟩ := S.g.bn x h3
  refine PySem.Calls.Name_function_global S.fn ((S.kind x).trans h1) (PySem.Calls.loadGlobal_builtin (mg := X.C.mg) (mb := X.C.mb) ?_ h4 ?_ ((S.g.bi x h5).trans hv) h) (by simpa using h2)
  · rw [S.gl]; exact S.g.g.keeps (F.keep S)
  · rw [S.bi]; exact S.g.b.keeps (F.keep S)
end
end Mine
end

section
open PySem
set_option autoImplicit false
set_option linter.unusedVariables false
namespace Mine
open PySem.W (Frag kitOne keepIn Looks)

set_option genSizeOf false in
set_option genInjectivity false in
inductive Fl where
  | next
  | ret (o : O)
set_option genSizeOf false in
set_option genInjectivity false in
inductive Tk where
  | b (b : Bool)
  | r (o : O)
  | l (fl : Fl) (ρ : Loc)
  | vs (l : List V)
structure St where
  ρ : Loc
  tp : List Tk
  ob : List Prop
noncomputable def All (l : List Prop) : Prop := @List.rec Prop (fun _ => Prop) True (fun p _ q => p ∧ q) l
theorem All.app : ∀ {l m : List Prop}, All (l ++ m) → All l ∧ All m
  | [], _, h => ⟨trivial, h⟩
  | _ :: _, _, h => ⟨⟨h.1, (All.app h.2).1⟩, (All.app h.2).2⟩

noncomputable def bd {α β : Type} (x : Option (α × St)) (f : α → St → Option (β × St)) : Option (β × St) := x.bind fun p => f p.1 p.2
noncomputable def rt {α : Type} (x : Option (α × List Prop)) (σ : St) : Option (α × St) := x.bind fun p => some (p.1, ⟨σ.ρ, σ.tp, p.2 ++ σ.ob⟩)
noncomputable def pu {α : Type} (x : α) (σ : St) : Option (α × St) := some (x, σ)
noncomputable def slot (ρ : Loc) (i : Nat) : Option O := (ρ[i]?).bind id
theorem slot_some {ρ : Loc} {i : Nat} {o : O} (e : slot ρ i = some o) : ρ[i]? = some (some o) := by
  unfold slot at e; cases q : ρ[i]? with
  | none => rw [q] at e; cases e
  | some x => rw [q] at e; exact congrArg some e

def Ok {α : Type} (ev : St → Option (α × St)) (S : Loc → α → Loc → Prop) : Prop := ∀ σ a σ', ev σ = some (a, σ') → All σ'.ob → All σ.ob ∧ S σ.ρ a σ'.ρ
section
variable {α β : Type} {S : Loc → α → Loc → Prop} {S' : Loc → β → Loc → Prop}
theorem Ok.bd {f : St → Option (α × St)} {g : α → St → Option (β × St)} (hf : Ok f S) {R : α → Loc → β → Loc → Prop} (hg : ∀ a, Ok (g a) (R a)) (k : ∀ ρ a ρ₁ b ρ', S ρ a ρ₁ → R a ρ₁ b ρ' → S' ρ b ρ') : Ok (fun σ => bd (f σ) g) S' := by
  intro σ b σ' e h
  obtain ⟨⟨a, σ₁⟩, e1, e2⟩ := Option.bind_eq_some_iff.mp e
  obtain ⟨h1, h2⟩ := hg a σ₁ b σ' e2 h
  obtain ⟨h3, h4⟩ := hf σ a σ₁ e1 h1
  exact ⟨h3, k _ _ _ _ _ h4 h2⟩
theorem Ok.rt {x : Option (α × List Prop)} (k : ∀ a p ρ, x = some (a, p) → All p → S ρ a ρ) : Ok (rt x) S := by
  intro σ a σ' e h
  obtain ⟨⟨a', p⟩, e1, e2⟩ := Option.bind_eq_some_iff.mp e
  cases e2
  obtain ⟨h1, h2⟩ := All.app h
  exact ⟨h2, k _ p _ e1 h1⟩
theorem Ok.pu {x : α} (k : ∀ ρ, S ρ x ρ) : Ok (pu x) S := fun σ a σ' e h => by cases e; exact ⟨h, k _⟩
theorem Ok.none {f : St → Option (α × St)} (h : ∀ σ, f σ = none) : Ok f S := fun σ a σ' e => by rw [h] at e; cases e
end

structure Gs (W : WS) (s : Shared) (W' : WS) (s' : Shared) : Prop where
  g : Grow W s.heap W' s'.heap
  gens : s'.gens = s.gens
  os : s'.os = s.os
  tk : s.toks ≤ s'.toks
noncomputable def RN (h : Heap) (W' : WS) (h' : Heap) (o : O) (v' : Value) : Prop := O.rec (fun v => VR W' h' v v') (fun r => ∃ a, v' = .ref a ∧ h.get? a = none ∧ ¬ W' a ∧ OwnAt W' h' a r) (fun r => ∃ a as, v' = .ref a ∧ (∀ b, b ∈ a :: as → h.get? b = none ∧ ¬ W' b) ∧ Own2At W' h' a as r) o
noncomputable def BR (W : WS) (h : Heap) (o : O) (v' : Value) : Prop := O.rec (fun v => VR W h v v') (fun r => ∃ a, v' = .ref a ∧ OwnAt W h a r) (fun r => ∃ a as, v' = .ref a ∧ Own2At W h a as r) o
def Aft (W : WS) (s : Shared) (Q : Value → Shared → Prop) (o : O) : Prop := ∀ v' W' s', Gs W s W' s' → RN s.heap W' s'.heap o v' → Q v' s'

section
variable {X : FC} {W : WS} {φ : Nat → List Addr} {s : Shared} {ρ : Loc} {Q : Value → Shared → Prop}
theorem At.gs (F : At X W φ s ρ) {W' : WS} {s' : Shared} (g : Gs W s W' s') : At X W' φ s' ρ :=
  have A := F.grow (t := s'.toks) g.g g.tk
  ⟨g.gens.trans F.gens, g.os.trans F.os, A.f, A.lr, A.ow, A.tk⟩
theorem At.fresh (F : At X W φ s ρ) {a : Addr} (e : s.heap.get? a = none) : ¬ Mut X φ a ∧ X.pin a = none := by
  refine ⟨fun m => ?_, ?_⟩
  · rcases m with m | ⟨_, x, m⟩ | ⟨i, m⟩
    · obtain ⟨o, _, _, z, _⟩ := F.f.ns; rw [← m, e] at z; cases z
    · obtain ⟨o, _, z, _⟩ := F.f.cells x a m; rw [e] at z; cases z
    · obtain ⟨_, _, z⟩ := F.ow i a m; rw [e] at z; cases z
  · cases q : X.pin a with
    | none => rfl
    | some o => have := F.f.pin a o q; rw [e] at this; cases this
theorem RN.ro (F : At X W φ s ρ) {W' : WS} {h' : Heap} {o : O} {v' : Value} (r : RN s.heap W' h' o v') : RO X W' φ h' o v' := by
  cases o with
  | val v => exact .val r
  | own r' =>
    obtain ⟨a, rfl, e, w, z⟩ := r
    refine ⟨[a], ⟨a, rfl, rfl, z⟩, fun b q => ?_⟩
    cases List.mem_singleton.mp q
    exact ⟨w, F.fresh e⟩
  | own2 r' =>
    obtain ⟨a, as, rfl, e, z⟩ := r
    exact ⟨a :: as, ⟨a, as, rfl, rfl, z⟩, fun b q => ⟨(e b q).2, F.fresh (e b q).1⟩⟩
theorem Gs.toks (wf : ∀ a, W a → ∃ o, s.heap.get? a = some o) (t : Nat) (ht : s.toks ≤ t) : Gs W s W { s with toks := t } := ⟨⟨fun _ _ e => e, fun _ q => q, wf, fun _ _ _ q => q⟩, rfl, rfl, ht⟩
theorem Aft.here {v : V} {v' : Value} {t : Nat} (k : Aft W s Q (.val v)) (wf : ∀ a, W a → ∃ o, s.heap.get? a = some o) (r : VR W s.heap v v') (ht : s.toks ≤ t := by first | exact Nat.le_refl _ | assumption | exact Nat.le_succ _ | omega | (dsimp only; omega) | (dsimp only at *; omega)) : Q v' { s with toks := t } := k _ _ _ (.toks wf t ht) r
theorem fresh_size (h : Heap) : h.get? h.objs.size = none := by
  cases q : h.get? h.objs.size with
  | none => rfl
  | some o => exact absurd (Heap.lt_size q) (Nat.lt_irrefl _)
theorem none_of_le {h : Heap} {a : Addr} (e : h.objs.size ≤ a) : h.get? a = none := by
  cases q : h.get? a with
  | none => rfl
  | some o => exact absurd (Heap.lt_size q) (Nat.not_lt.mpr e)
theorem Gs.of (wf : ∀ a, W a → ∃ o, s.heap.get? a = some o) {h' : Heap} {t : Nat} (k : ∀ a o, s.heap.get? a = some o → h'.get? a = some o) (ht : s.toks ≤ t := by first | exact Nat.le_refl _ | assumption | exact Nat.le_succ _ | omega | (dsimp only; omega) | (dsimp only at *; omega)) : Gs W s W { s with heap := h', toks := t } :=
  ⟨⟨k, fun _ q => q, fun a q => (wf a q).elim fun o e => ⟨o, k a o e⟩, fun _ _ _ q => q⟩, rfl, rfl, ht⟩
theorem Aft.tuple {l : List V} {vs : Array Value} {e t : Nat} (k : Aft W s Q (.val (.tup l))) (wf : ∀ a, W a → ∃ o, s.heap.get? a = some o) (r : VRs W s.heap l vs.toList) (hz : l.length ≤ sizeLine) (ht : s.toks ≤ t := by first | exact Nat.le_refl _ | assumption | exact Nat.le_succ _ | omega | (dsimp only; omega) | (dsimp only at *; omega)) :
    Q (.ref s.heap.objs.size) { s with heap := s.heap.push (tupO vs e), toks := t } := by
  have hk : ∀ a o, s.heap.get? a = some o → (s.heap.push (tupO vs e)).get? a = some o := fun _ _ q => Heap.get?_push_of_some _ q
  have g : Grow W s.heap (fun b => W b ∨ b = s.heap.objs.size) (s.heap.push (tupO vs e)) := by
    refine ⟨hk, fun _ q => .inl q, fun a q => ?_, fun a o z q => q.elim id fun q => by rw [q, fresh_size] at z; cases z⟩
    rcases q with q | q
    · obtain ⟨o, z⟩ := wf a q; exact ⟨o, hk a o z⟩
    · rw [q]; exact ⟨_, Heap.get?_push_size _ rfl⟩
  exact k _ _ _ ⟨g, rfl, rfl, ht⟩ ⟨_, vs, e, rfl, .inr rfl, Heap.get?_push_size _ rfl, hz, VRs.ag (g.ag wf) r⟩
theorem Aft.listAt {r : List V} {vs : Array Value} {e t a : Nat} {h' : Heap} (k : Aft W s Q (.own r)) (wf : ∀ a, W a → ∃ o, s.heap.get? a = some o) (hk : ∀ a o, s.heap.get? a = some o → h'.get? a = some o) (ha : s.heap.get? a = none)
    (ho : h'.get? a = some (lstO vs e)) (hr : VRs W s.heap r.reverse vs.toList) (hz : r.length ≤ sizeLine) (ht : s.toks ≤ t := by first | exact Nat.le_refl _ | assumption | exact Nat.le_succ _ | omega | (dsimp only; omega) | (dsimp only at *; omega)) : Q (.ref a) { s with heap := h', toks := t } :=
  have g := Gs.of (t := t) wf hk ht
  k _ _ _ g ⟨a, rfl, ha, (fun q => (wf a q).elim fun o z => by rw [ha] at z; cases z), vs, e, ho, VRs.ag (g.g.ag wf) hr, hz⟩
theorem Aft.list {r : List V} {vs : Array Value} {e t : Nat} (k : Aft W s Q (.own r)) (wf : ∀ a, W a → ∃ o, s.heap.get? a = some o) (hr : VRs W s.heap r.reverse vs.toList) (hz : r.length ≤ sizeLine) (ht : s.toks ≤ t := by first | exact Nat.le_refl _ | assumption | exact Nat.le_succ _ | omega | (dsimp only; omega) | (dsimp only at *; omega)) :
    Q (.ref s.heap.objs.size) { s with heap := s.heap.push (lstO vs e), toks := t } :=
  k.listAt wf (fun _ _ q => Heap.get?_push_of_some _ q) (fresh_size _) (Heap.get?_push_size _ rfl) hr hz ht
end

structure Pst (X : FC) (W : WS) (s : Shared) (W' : WS) (φ' : Nat → List Addr) (s' : Shared) (ρ' : Loc) : Prop where
  f : At X W' φ' s' ρ'
  ag : Ag W s.heap W' s'.heap
  vl : ∀ x v', Val X.env s.heap x v' → Val X.env s'.heap x v'

section
variable (G : Gl) (d : Nat) (fi : FI)
def EvG (x : Expr) (ρ : Loc) (o : O) (ρ' : Loc) : Prop := ∀ (X : FC) (E : Value → Shared → Prop) (W : WS) (φ : Nat → List Addr) (s : Shared), X.fi = fi → FS G d X → At X W φ s ρ →
  ∀ Q : Value → Shared → Prop, (∀ v' W' φ' s', Pst X W s W' φ' s' ρ' → RO X W' φ' s'.heap o v' → Q v' s') → wpAny X.C.M X.A (eval x X.env) Q E s
def EvV (x : Expr) (ρ : Loc) (v : V) (ρ' : Loc) : Prop := ∀ (X : FC) (E : Value → Shared → Prop) (W : WS) (φ : Nat → List Addr) (s : Shared), X.fi = fi → FS G d X → At X W φ s ρ →
  ∀ Q : Value → Shared → Prop, (∀ v' W' φ' s', Pst X W s W' φ' s' ρ' → VR W' s'.heap v v' → Q v' s') → wpAny X.C.M X.A (eval x X.env) Q E s
def PkG (x : Expr) (ρ : Loc) (o : O) (ρ' : Loc) : Prop := ∀ (X : FC) (E : Value → Shared → Prop) (W : WS) (φ : Nat → List Addr) (s : Shared), X.fi = fi → FS G d X → At X W φ s ρ →
  ∀ Q : Value → Shared → Prop, (∀ v' W' φ' s', Pst X W s W' φ' s' ρ' → BR W' s'.heap o v' → Q v' s') → wpAny X.C.M X.A (eval x X.env) Q E s
def TrG (x : Expr) (ρ : Loc) (t : Bool) (ρ' : Loc) : Prop := ∀ (X : FC) (E : Value → Shared → Prop) (W : WS) (φ : Nat → List Addr) (s : Shared), X.fi = fi → FS G d X → At X W φ s ρ →
  ∀ Q : Bool → Shared → Prop, (∀ W' φ' s', Pst X W s W' φ' s' ρ' → Q t s') → wpAny X.C.M X.A (isTrue x X.env (eval x X.env)) Q E s
abbrev plainArgs (xs : List Expr) (env : Env) : List (Bool × Sem Value) := xs.map fun x => (false, eval x env)
def RwG (xs : List Expr) (ρ : Loc) (vs : List V) (ρ' : Loc) : Prop := vs.length = xs.length ∧ ∀ (X : FC) (E : Value → Shared → Prop) (W : WS) (φ : Nat → List Addr) (s : Shared), X.fi = fi → FS G d X → At X W φ s ρ →
  ∀ Q : List Value → Shared → Prop, (∀ vs' W' φ' s', Pst X W s W' φ' s' ρ' → VRs W' s'.heap vs vs' → Q vs' s') → wpAny X.C.M X.A (spliced (plainArgs xs X.env)) Q E s
end
section
variable {G : Gl} {d : Nat} {fi : FI} {x : Expr} {ρ ρ' ρ₁ : Loc} {o : O} {X : FC} {W W' W'' : WS} {φ φ' φ'' : Nat → List Addr} {s s' s'' : Shared}
theorem Pst.refl (F : At X W φ s ρ) : Pst X W s W φ s ρ := ⟨F, .refl .., fun _ _ r => r⟩
theorem Pst.trans (p : Pst X W s W' φ' s' ρ₁) (q : Pst X W' s' W'' φ'' s'' ρ') : Pst X W s W'' φ'' s'' ρ' := ⟨q.f, p.ag.trans q.ag, fun x v r => q.vl x v (p.vl x v r)⟩
theorem Pst.gs (F : At X W φ s ρ) (g : Gs W s W' s') : Pst X W s W' φ s' ρ := ⟨F.gs g, g.g.ag F.f.wf, fun _ _ r => r.grow g.g.k⟩
theorem EvG.v (h : EvG G d fi x ρ o ρ') : EvV G d fi x ρ o.frz ρ' := fun X E W φ s e S F Q k => h X E W φ s e S F Q fun v' W' φ' s' p r => by
  obtain ⟨W'', A, B, C⟩ := p.f.frz r
  exact k v' W'' φ' s' ⟨A, p.ag.trans B, p.vl⟩ C
theorem RO.br {h : Heap} {v' : Value} (r : RO X W φ h o v') : BR W h o v' := by
  obtain ⟨p, r, _⟩ := r
  cases o with
  | val v => exact r.2
  | own r' => obtain ⟨a, _, e, z⟩ := r; exact ⟨a, e, z⟩
  | own2 r' => obtain ⟨a, as, _, e, z⟩ := r; exact ⟨a, as, e, z⟩
theorem EvG.pk (h : EvG G d fi x ρ o ρ') : PkG G d fi x ρ o ρ' := fun X E W φ s e S F Q k => h X E W φ s e S F Q fun v' W' φ' s' p r => k v' W' φ' s' p r.br
theorem Aft.of {Q : Value → Shared → Prop} (p : Pst X W s W' φ' s' ρ') (k : ∀ v' W' φ' s', Pst X W s W' φ' s' ρ' → RO X W' φ' s'.heap o v' → Q v' s') : Aft W' s' Q o := fun v' W'' s'' g r => k v' W'' φ' s'' (p.trans (.gs p.f g)) (r.ro p.f)
end
end Mine
end

section
open PySem
set_option autoImplicit false
set_option linter.unusedVariables false
namespace Mine
open PySem.W (Frag kitOne keepIn Looks)

def plainX : Expr → Bool
  | .Starred _ _ => false
  | .Slice _ _ _ _ => false
  | .Set _ _ _ => false
  | _ => true
def isComp : Expr → Bool
  | .ListComp _ _ _ _ => true
  | .SetComp _ _ _ _ => true
  | .DictComp _ _ _ _ _ => true
  | _ => false

noncomputable def V.int? (v : V) : Option Int := V.casesOn v Option.none (fun _ => Option.none) some (fun _ => Option.none) (fun _ => Option.none) (fun _ => Option.none)
noncomputable def V.str? (v : V) : Option (List Nat) := V.casesOn v Option.none (fun _ => Option.none) (fun _ => Option.none) some (fun _ => Option.none) (fun _ => Option.none)
noncomputable def V.tup? (v : V) : Option (List V) := V.casesOn v Option.none (fun _ => Option.none) (fun _ => Option.none) (fun _ => Option.none) some (fun _ => Option.none)
noncomputable def V.lst? (v : V) : Option (List V) := V.casesOn v Option.none (fun _ => Option.none) (fun _ => Option.none) (fun _ => Option.none) (fun _ => Option.none) some
theorem V.int_of {v : V} {i : Int} (e : v.int? = some i) : v = .int i := by cases v <;> cases e; rfl
theorem V.str_of {v : V} {i : List Nat} (e : v.str? = some i) : v = .str i := by cases v <;> cases e; rfl
theorem V.tup_of {v : V} {i : List V} (e : v.tup? = some i) : v = .tup i := by cases v <;> cases e; rfl
theorem V.lst_of {v : V} {i : List V} (e : v.lst? = some i) : v = .lst i := by cases v <;> cases e; rfl
noncomputable def truthB (o : O) : Bool := O.rec (fun v => V.casesOn v false id (fun i => i != 0) (fun s => !s.isEmpty) (fun l => !l.isEmpty) (fun l => !l.isEmpty)) (fun r => !r.isEmpty) (fun r => !r.isEmpty) o

theorem sizeLine_lt : sizeLine < 2 ^ 62 := by unfold sizeLine; omega
theorem arr_empty {l : List V} {vs : Array Value} (h : vs.size = l.length) : vs.isEmpty = l.isEmpty := by
  rw [Bool.eq_iff_iff]; simp [List.isEmpty_iff, ← List.length_eq_zero_iff, ← h]

section
variable {C : Cx} {A : Around} {E : Value → Shared → Prop} {W : WS} {s : Shared}
theorem truth_list {a : Addr} {vs : Array Value} {n : Nat} {l : List V} {Q : Bool → Shared → Prop} (e : s.heap.get? a = some (lstO vs n)) (r : VRs W s.heap l vs.toList) (hz : l.length ≤ sizeLine) (h : ∀ tk, s.toks ≤ tk → Q (!l.isEmpty) { s with toks := tk }) : wpAny C.M A (truthy (.ref a)) Q E s := by
  have hs := r.size
  have := sizeLine_lt
  refine wpAny_truthy_list ⟨_, e, rfl, _, rfl⟩ (by rw [hs]; omega) ?_
  rw [arr_empty hs]; exact h _ (by first | exact Nat.le_refl _ | assumption | exact Nat.le_succ _ | omega | (dsimp only; omega) | (dsimp only at *; omega))
theorem truth_ok {o : O} {v' : Value} {Q : Bool → Shared → Prop} (r : BR W s.heap o v') (h : ∀ tk, s.toks ≤ tk → Q (truthB o) { s with toks := tk }) : wpAny C.M A (truthy v') Q E s := by
  have hz := sizeLine_lt
  cases o with
  | own r' =>
    obtain ⟨a, rfl, vs, n, e, x, y⟩ := r
    refine truth_list e x (by simpa using y) ?_
    rw [List.isEmpty_reverse]; exact h
  | own2 r' =>
    obtain ⟨a, as, rfl, vs, n, e, x, y, o, _⟩ := r
    have hs : vs.size = r'.length := by rw [← Array.length_toList, x, List.length_reverse, List.length_map, o.1]
    refine wpAny_truthy_list ⟨_, e, rfl, _, rfl⟩ (by rw [hs]; omega) ?_
    have he : vs.isEmpty = r'.isEmpty := by rw [Bool.eq_iff_iff]; simp [List.isEmpty_iff, ← List.length_eq_zero_iff, ← hs]
    rw [he]; exact h _ (by first | exact Nat.le_refl _ | assumption | exact Nat.le_succ _ | omega | (dsimp only; omega) | (dsimp only at *; omega))
  | val v =>
    cases v with
    | none => cases r; exact fun _ _ _ => h _ (by first | exact Nat.le_refl _ | assumption | exact Nat.le_succ _ | omega | (dsimp only; omega) | (dsimp only at *; omega))
    | bool b => cases r; exact wpAny_truthy_bool (h s.toks (Nat.le_refl _))
    | int i => obtain ⟨t, rfl⟩ := r; exact P.truthy_int (h s.toks (Nat.le_refl _))
    | str z =>
      obtain ⟨t, rfl, ok, hl⟩ := r
      refine P.truthy_str (by simp [Str.length]; omega) ?_
      have : (((⟨z.toArray⟩ : Str).length : Int) != 0) = !z.isEmpty := by cases z <;> simp [Str.length]; omega
      rw [this]; exact h _ (by first | exact Nat.le_refl _ | assumption | exact Nat.le_succ _ | omega | (dsimp only; omega) | (dsimp only at *; omega))
    | tup l =>
      obtain ⟨a, vs, n, rfl, _, e, hl, hr⟩ := VR.tup r
      have hs := hr.size
      refine PyProof.Rows.truthy_tuple ⟨_, e, rfl, _, rfl⟩ (by rw [hs]; omega) ?_
      rw [arr_empty hs]; exact h _ (by first | exact Nat.le_refl _ | assumption | exact Nat.le_succ _ | omega | (dsimp only; omega) | (dsimp only at *; omega))
    | lst l =>
      obtain ⟨a, vs, n, rfl, _, e, hl, hr⟩ := VR.lst r
      exact truth_list e hr hl h
end

structure T (G : Gl) (d : Nat) (fi : FI) where
  x : Expr
  ev : St → Option (O × St)
  pk : St → Option (O × St)
  tr : St → Option (Bool × St)
  pl : plainX x = true
  eo : Ok ev (EvG G d fi x)
  po : Ok pk (PkG G d fi x)
  to : Ok tr (TrG G d fi x)
structure Rw (G : Gl) (d : Nat) (fi : FI) where
  xs : List Expr
  ev : St → Option (List V × St)
  pl : ∀ x, x ∈ xs → plainX x = true
  eo : Ok ev (RwG G d fi xs)

section
variable {G : Gl} {d : Nat} {fi : FI}
abbrev trPlain (x : Expr) : Prop := ∀ env, isTrue x env (eval x env) = (do let v ← eval x env; standAt x.pos; holding [v] (truthy v))
theorem PkG.tr {x : Expr} {ρ ρ' : Loc} {o : O} (h : PkG G d fi x ρ o ρ') (ht : trPlain x) : TrG G d fi x ρ (truthB o) ρ' := fun X E W φ s e S F Q k =>
  wpAny_isTrue_value (h X E W φ s e S F _ fun v' W' φ' s' p r => truth_ok r fun tk ht => k W' φ' { s' with toks := tk } ⟨p.f.toks tk ht, p.ag, p.vl⟩) (ht X.env)
theorem Ok.mono {α : Type} {f : St → Option (α × St)} {S S' : Loc → α → Loc → Prop} (h : Ok f S) (k : ∀ ρ a ρ', S ρ a ρ' → S' ρ a ρ') : Ok f S' := fun σ a σ' e q => ⟨(h σ a σ' e q).1, k _ _ _ (h σ a σ' e q).2⟩
noncomputable def tst (f : St → Option (O × St)) (σ : St) : Option (Bool × St) := bd (f σ) fun o σ => pu (truthB o) σ
theorem Ok.tst {x : Expr} {f : St → Option (O × St)} (h : Ok f (PkG G d fi x)) (ht : trPlain x) : Ok (tst f) (TrG G d fi x) :=
  h.bd (R := fun o ρ t ρ' => t = truthB o ∧ ρ = ρ') (fun o => .pu fun _ => ⟨rfl, rfl⟩) fun ρ o ρ₁ t ρ' a b => by obtain ⟨rfl, rfl⟩ := b; exact a.tr ht
noncomputable def T.mk' (x : Expr) (ev : St → Option (O × St)) (pl : plainX x = true) (eo : Ok ev (EvG G d fi x)) (ht : trPlain x) : T G d fi :=
  have po := eo.mono fun _ _ _ h => h.pk
  ⟨x, ev, ev, tst ev, pl, eo, po, po.tst ht⟩

theorem EvG.here {x : Expr} {ρ : Loc} {v : V} (h : ∀ (M : Model) (A : Around) (E : Value → Shared → Prop) (env : Env) (W : WS) (s : Shared) (Q : Value → Shared → Prop), (∀ v' t, s.toks ≤ t → VR W s.heap v v' → Q v' { s with toks := t }) → wpAny M A (eval x env) Q E s) : EvG G d fi x ρ (.val v) ρ :=
  fun X E W φ s e S F Q k => h _ _ _ _ W s Q fun v' t ht r => k v' W φ _ ⟨F.toks t ht, .refl .., fun _ _ r => r⟩ (.val r)
noncomputable def eNone (k : Nat) (p : Pos) : T G d fi := .mk' (.Constant .none k p) (pu (.val .none)) rfl (.pu fun _ => .here fun _ _ _ _ W s Q k => wpAny_Constant_none (k _ s.toks (Nat.le_refl _) rfl)) fun _ => rfl
noncomputable def eBool (b : Bool) (k : Nat) (p : Pos) : T G d fi := .mk' (.Constant (.bool b) k p) (pu (.val (.bool b))) rfl (.pu fun _ => .here fun _ _ _ _ W s Q k => wpAny_Constant_bool (k _ s.toks (Nat.le_refl _) rfl)) fun _ => rfl
noncomputable def eInt (i : Int) (k : Nat) (p : Pos) : T G d fi := .mk' (.Constant (.int i) k p) (pu (.val (.int i))) rfl (.pu fun _ => .here fun _ _ _ _ W s Q k => wpAny_Constant_int (k _ _ (Nat.le_succ _) ⟨_, rfl⟩)) fun _ => rfl
noncomputable def eStr (x : Str) (z : List Nat) (k : Nat) (p : Pos) (e : x = ⟨z.toArray⟩) (h : (PyData.strOk ⟨z.toArray⟩ && Nat.ble z.length 1000) = true) : T G d fi :=
  .mk' (.Constant (.str x) k p) (pu (.val (.str z))) rfl (.pu fun _ => .here fun _ _ _ _ W s Q k => wpAny_Constant_str (k _ _ (Nat.le_succ _) (by
    subst e
    rw [Bool.and_eq_true] at h
    exact ⟨_, rfl, h.1, Nat.le_trans (Nat.le_of_ble_eq_true h.2) (by decide)⟩))) fun _ => rfl

theorem lookup_upd {i : Nat} {ρ : Loc} {o : O} (e : slot ρ i = some o) : ρ[i]? = some (some o) := slot_some e
noncomputable def evVar (i : Nat) (σ : St) : Option (O × St) := (slot σ.ρ i).bind fun o => O.casesOn o (fun v => some (.val v, σ)) (fun r => some (.val (.lst r.reverse), ⟨σ.ρ.set i (some (.val (.lst r.reverse))), σ.tp, σ.ob⟩)) fun r => some (.val (O.own2 r).frz, ⟨σ.ρ.set i (some (.val (O.own2 r).frz)), σ.tp, σ.ob⟩)
noncomputable def pkVar (i : Nat) (σ : St) : Option (O × St) := (slot σ.ρ i).bind fun o => some (o, σ)
theorem OR.br {W : WS} {h : Heap} {p : List Addr} {o : O} {v' : Value} (r : OR W h p o v') : BR W h o v' := by
  cases o with
  | val v => exact r.2
  | own r' => obtain ⟨a, _, e, z⟩ := r; exact ⟨a, e, z⟩
  | own2 r' => obtain ⟨a, as, _, e, z⟩ := r; exact ⟨a, as, e, z⟩
theorem pkVar_ok {x : Str} {i : Nat} {p : Pos} (h : fi.isVar x i = true) : Ok (pkVar i) (PkG G d fi (.Name x p)) := by
  intro σ o σ' e q
  obtain ⟨o', e1, e2⟩ := Option.bind_eq_some_iff.mp e
  cases e2
  refine ⟨q, fun X E W φ s ef S F Q k => ?_⟩
  subst ef
  exact load_ok S F h (slot_some e1) fun v' _ _ _ r => k v' W φ s (.refl F) r.br
theorem evVar_ok {x : Str} {i : Nat} {p : Pos} (h : fi.isVar x i = true) : Ok (evVar i) (EvG G d fi (.Name x p)) := by
  intro σ o σ' e q
  obtain ⟨o', e1, e2⟩ := Option.bind_eq_some_iff.mp e
  have e1 := slot_some e1
  cases o' with
  | val v =>
    cases e2
    refine ⟨q, fun X E W φ s ef S F Q k => ?_⟩
    subst ef
    exact load_ok S F h e1 fun v' _ _ _ r => k v' W φ s (.refl F) (.val r.2)
  | own r' =>
    cases e2
    refine ⟨q, fun X E W φ s ef S F Q k => ?_⟩
    subst ef
    refine load_ok S F h e1 fun v' h1 h2 hv r => ?_
    obtain ⟨W', b2, b3, b4⟩ := F.frzVar (fun y hy => S.ti y x i hy h1) hv r
    exact k _ W' _ s ⟨b2, b3, fun _ _ r => r⟩ (.val b4)
  | own2 r' =>
    cases e2
    refine ⟨q, fun X E W φ s ef S F Q k => ?_⟩
    subst ef
    refine load_ok S F h e1 fun v' h1 h2 hv r => ?_
    obtain ⟨W', b2, b3, b4⟩ := F.frzVar (fun y hy => S.ti y x i hy h1) hv r
    exact k _ W' _ s ⟨b2, b3, fun _ _ r => r⟩ (.val b4)
noncomputable def eVar (x : Str) (i : Nat) (p : Pos) (h : fi.isVar x i = true) : T G d fi := ⟨.Name x p, evVar i, pkVar i, tst (pkVar i), rfl, evVar_ok h, pkVar_ok h, (pkVar_ok h).tst fun _ => rfl⟩
end
end Mine
end

section
open PySem
set_option autoImplicit false
set_option linter.unusedVariables false
namespace Mine

theorem noStar {x : Expr} (h : plainX x = true) {rest : List Expr} {env : Env} : starEach (x :: rest) env = (false, eval x env) :: starEach rest env := by
  cases x <;> first | rfl | cases h
theorem noMark {x : Expr} (h : plainX x = true) (op : CmpOp) : behindInMarks op x = false := by
  cases x <;> first | rfl | cases h
theorem backTo_plain (pos : Pos) (xs : List Expr) (env : Env) : backTo pos (plainArgs xs env) = plainArgs xs env := by
  simp [backTo, plainArgs]

section
variable {G : Gl} {d : Nat} {fi : FI}
theorem starEach_plain {env : Env} : ∀ {xs : List Expr}, (∀ x, x ∈ xs → plainX x = true) → starEach xs env = plainArgs xs env
  | [], _ => rfl
  | x :: xs, h => by rw [noStar (h x List.mem_cons_self), starEach_plain fun y q => h y (List.mem_cons_of_mem _ q)]; rfl
theorem Rw.back (r : Rw G d fi) (pos : Pos) (env : Env) : backTo pos (starEach r.xs env) = plainArgs r.xs env := by rw [starEach_plain r.pl, backTo_plain]

noncomputable def rNil : Rw G d fi := ⟨[], pu [], fun _ q => (nomatch q), .pu fun _ => ⟨rfl, fun X E W φ s e S F Q k => wpAny_pure (k [] W φ s (.refl F) rfl)⟩⟩
theorem RwG.cons {x : Expr} {xs : List Expr} {ρ ρ₁ ρ' : Loc} {v : V} {vs : List V} (h : EvV G d fi x ρ v ρ₁) (hs : RwG G d fi xs ρ₁ vs ρ') : RwG G d fi (x :: xs) ρ (v :: vs) ρ' :=
  ⟨congrArg (· + 1) hs.1, fun X E W φ s e S F Q k => PySem.Calls.spliced_cons (h X E W φ s e S F _ fun v' W₁ φ₁ s₁ p r => hs.2 X E W₁ φ₁ s₁ e S p.f _ fun vs' W₂ φ₂ s₂ p₂ r₂ => k _ W₂ φ₂ s₂ (p.trans p₂) (.cons (r.ag p₂.ag) r₂))⟩
noncomputable def rCons (a : T G d fi) (b : Rw G d fi) : Rw G d fi :=
  ⟨a.x :: b.xs, fun σ => bd (a.ev σ) fun x σ => bd (b.ev σ) fun vs σ => pu (x.frz :: vs) σ, fun y q => (List.mem_cons.mp q).elim (fun q => q ▸ a.pl) (b.pl y),
    a.eo.bd (R := fun o ρ vs ρ' => ∃ ws, vs = o.frz :: ws ∧ RwG G d fi b.xs ρ ws ρ') (fun o => b.eo.bd (R := fun ws ρ vs ρ' => vs = o.frz :: ws ∧ ρ = ρ') (fun ws => .pu fun _ => ⟨rfl, rfl⟩) fun _ ws _ _ _ h q => by obtain ⟨rfl, rfl⟩ := q; exact ⟨ws, rfl, h⟩)
      fun _ o _ _ _ h q => by obtain ⟨ws, rfl, hs⟩ := q; exact .cons h.v hs⟩

noncomputable def eTup (r : Rw G d fi) (k : Nat) (p : Pos) (h : Nat.ble r.xs.length 1000 = true) : T G d fi :=
  .mk' (.Tuple r.xs k p) (fun σ => bd (r.ev σ) fun vs σ => pu (.val (.tup vs)) σ) rfl
    (r.eo.bd (R := fun vs ρ o ρ' => o = .val (.tup vs) ∧ ρ = ρ') (fun vs => .pu fun _ => ⟨rfl, rfl⟩) fun _ vs _ _ _ hs q => by
      obtain ⟨rfl, rfl⟩ := q
      intro X E W φ s e S F Q k
      refine wpAny_Tuple ?_
      rw [r.back]
      refine hs.2 X E W φ s e S F _ fun vs' W' φ' s' p' r' => ?_
      have hz : vs.length ≤ sizeLine := by rw [hs.1]; exact Nat.le_trans (Nat.le_of_ble_eq_true h) (by decide)
      exact ⟨by rw [r'.length]; exact hz, (Aft.of p' k).tuple (t := s'.toks) p'.f.f.wf r' hz⟩) fun _ => rfl
noncomputable def eLst (r : Rw G d fi) (p : Pos) (h : Nat.ble r.xs.length 1000 = true) : T G d fi :=
  .mk' (.List r.xs p) (fun σ => bd (r.ev σ) fun vs σ => pu (.own vs.reverse) σ) rfl
    (r.eo.bd (R := fun vs ρ o ρ' => o = .own vs.reverse ∧ ρ = ρ') (fun vs => .pu fun _ => ⟨rfl, rfl⟩) fun _ vs _ _ _ hs q => by
      obtain ⟨rfl, rfl⟩ := q
      intro X E W φ s e S F Q k
      refine wpAny_List ?_
      rw [r.back]
      refine hs.2 X E W φ s e S F _ fun vs' W' φ' s' p' r' => ?_
      have hz : vs.length ≤ sizeLine := by rw [hs.1]; exact Nat.le_trans (Nat.le_of_ble_eq_true h) (by decide)
      exact ⟨by rw [r'.length]; exact hz, (Aft.of p' k).list (t := s'.toks) p'.f.f.wf (by rw [List.reverse_reverse]; exact r') (by rwa [List.length_reverse])⟩) fun _ => rfl

def Prim2 (G : Gl) (d : Nat) (tree : Value → Value → Sem Value) (k : V → V → Option (O × List Prop)) : Prop :=
  ∀ x y o ps, k x y = some (o, ps) → All ps → ∀ (X : FC) (E : Value → Shared → Prop) (W : WS) (φ : Nat → List Addr) (s : Shared) (ρ : Loc), FS G d X → At X W φ s ρ → ∀ x' y', VR W s.heap x x' → VR W s.heap y y' →
    ∀ Q, Aft W s Q o → wpAny X.C.M X.A (tree x' y') Q E s
noncomputable def ev2 (a b : T G d fi) (k : V → V → Option (O × List Prop)) (σ : St) : Option (O × St) := bd (a.ev σ) fun x σ => bd (b.ev σ) fun y σ => rt (k x.frz y.frz) σ
theorem ok2 {a b : T G d fi} {k : V → V → Option (O × List Prop)} {x : Expr} {tree : Value → Value → Sem Value} (h : Prim2 G d tree k)
    (rule : ∀ (M : Model) (A : Around) (E : Value → Shared → Prop) (s : Shared) (env : Env) (Q : Value → Shared → Prop), wpAny M A (eval a.x env) (fun a' s₁ => wpAny M A (eval b.x env) (fun b' s₂ => wpAny M A (tree a' b') Q E s₂) E s₁) E s → wpAny M A (eval x env) Q E s) :
    Ok (ev2 a b k) (EvG G d fi x) :=
  a.eo.bd (R := fun u ρ o ρ' => ∃ v ps, EvG G d fi b.x ρ v ρ' ∧ k u.frz v.frz = some (o, ps) ∧ All ps) (fun u => b.eo.bd (R := fun v ρ o ρ' => ∃ ps, k u.frz v.frz = some (o, ps) ∧ All ps ∧ ρ = ρ') (fun v => .rt fun o ps ρ e q => ⟨ps, e, q, rfl⟩)
    fun _ v _ _ _ h q => by obtain ⟨ps, q1, q2, rfl⟩ := q; exact ⟨v, ps, h, q1, q2⟩) fun _ u _ o _ h1 q => by
      obtain ⟨v, ps, h2, q1, q2⟩ := q
      intro X E W φ s e S F Q kk
      refine rule _ _ _ _ _ _ (h1.v X E W φ s e S F _ fun u' W₁ φ₁ s₁ p₁ r₁ => h2.v X E W₁ φ₁ s₁ e S p₁.f _ fun v' W₂ φ₂ s₂ p₂ r₂ => ?_)
      exact h _ _ _ _ q1 q2 X E W₂ φ₂ s₂ _ S p₂.f _ _ (r₁.ag p₂.ag) r₂ _ (Aft.of (p₁.trans p₂) kk)
noncomputable def eBin (op : Operator) (k : V → V → Option (O × List Prop)) (h : Prim2 G d (binaryOp op) k) (a b : T G d fi) (p : Pos) : T G d fi :=
  .mk' (.BinOp a.x op b.x p) (ev2 a b k) rfl (ok2 h fun _ _ _ _ _ _ q => wpAny_BinOp q) fun _ => rfl

noncomputable def kInt (f : Int → Int → Int) (c : Int → Int → List Prop) (x y : V) : Option (O × List Prop) := x.int?.bind fun i => y.int?.bind fun j => some (.val (.int (f i j)), c i j)
theorem primInt {op : Operator} {f : Int → Int → Int} {c : Int → Int → List Prop} (h : ∀ (C : Cx) (A : Around) (E : Value → Shared → Prop) (s : Shared) (i j : Int) (t u : Tok) (Q : Value → Shared → Prop), All (c i j) → (∀ t n, s.toks ≤ n → Q (.int (f i j) t) { s with toks := n }) → wpAny C.M A (binaryOp op (.int i t) (.int j u)) Q E s) :
    Prim2 G d (binaryOp op) (kInt f c) := by
  intro x y o ps e q X E W φ s ρ S F x' y' rx ry Q k
  obtain ⟨i, e1, e⟩ := Option.bind_eq_some_iff.mp e
  obtain ⟨j, e2, e⟩ := Option.bind_eq_some_iff.mp e
  cases e
  rw [V.int_of e1] at rx; rw [V.int_of e2] at ry
  obtain ⟨t, rfl⟩ := rx
  obtain ⟨u, rfl⟩ := ry
  exact h _ _ _ _ _ _ _ _ _ q fun t n hn => k.here F.f.wf ⟨t, rfl⟩ hn
noncomputable def eAdd : T G d fi → T G d fi → Pos → T G d fi := eBin .Add (kInt (· + ·) fun _ _ => []) (primInt fun _ _ _ _ _ _ _ _ _ _ k => P.add_int (k _ _ (by first | exact Nat.le_refl _ | assumption | exact Nat.le_succ _ | omega | (dsimp only; omega) | (dsimp only at *; omega))))
noncomputable def eSub : T G d fi → T G d fi → Pos → T G d fi := eBin .Sub (kInt (· - ·) fun _ _ => []) (primInt fun _ _ _ _ _ _ _ _ _ _ k => P.sub_int (k _ _ (by first | exact Nat.le_refl _ | assumption | exact Nat.le_succ _ | omega | (dsimp only; omega) | (dsimp only at *; omega))))
noncomputable def eMul : T G d fi → T G d fi → Pos → T G d fi := eBin .Mult (kInt (· * ·) fun i j => [i.natAbs < 2 ^ 62 ∨ j.natAbs < 2 ^ 62]) (primInt fun _ _ _ _ _ _ _ _ _ q k => P.mul_int (k _ _ (by first | exact Nat.le_refl _ | assumption | exact Nat.le_succ _ | omega | (dsimp only; omega) | (dsimp only at *; omega))) (by
  rcases q.1 with hc | hc
  · exact IntMulOk.of_left (intBits_le_64 (by omega) (by omega))
  · exact IntMulOk.of_right (intBits_le_64 (by omega) (by omega))))
noncomputable def eDiv : T G d fi → T G d fi → Pos → T G d fi := eBin .FloorDiv (kInt (· / ·) fun _ j => [0 < j ∧ j < 2 ^ 29]) (primInt fun _ _ _ s i j _ _ Q q k => by
  have hc := q.1
  refine AutoIntOps.floordiv_1 (by simp; omega) (by rw [PyProof.noPylong_small (by omega)]; decide) ?_
  show Q (.int (i.fdiv j) s.toks) _
  rw [Int.fdiv_eq_ediv_of_nonneg _ (by omega)]; exact k _ _ (by first | exact Nat.le_refl _ | assumption | exact Nat.le_succ _ | omega | (dsimp only; omega) | (dsimp only at *; omega)))
noncomputable def eMod : T G d fi → T G d fi → Pos → T G d fi := eBin .Mod (kInt (· % ·) fun _ j => [0 < j]) (primInt fun _ _ _ s i j _ _ Q q k => by
  have hc := q.1
  refine AutoIntOps.mod_1 (by simp; omega) ?_
  show Q (.int (i.fmod j) s.toks) _
  rw [Int.fmod_eq_emod_of_nonneg _ (by omega)]; exact k _ _ (by first | exact Nat.le_refl _ | assumption | exact Nat.le_succ _ | omega | (dsimp only; omega) | (dsimp only at *; omega)))
noncomputable def ePow : T G d fi → T G d fi → Pos → T G d fi := eBin .Pow (kInt (fun i j => i ^ j.toNat) fun i j => [i = 10 ∧ 0 < j ∧ j ≤ 100]) (primInt fun _ _ _ s i j _ _ Q q k => by
  obtain ⟨rfl, hj0, hj1⟩ := q.1
  refine AutoIntOps.pow_4 (by omega) (by simp; omega) (by decide) (by decide) ?_ (k _ _ (by first | exact Nat.le_refl _ | assumption | exact Nat.le_succ _ | omega | (dsimp only; omega) | (dsimp only at *; omega)))
  have h10 : Builtin.Int.intBits 10 = 4 := by decide +kernel
  rw [h10]
  have hb : (bitsLine : Int) = 134217728 := by decide +kernel
  unfold Builtin.Int.intTooBig
  rw [decide_eq_true_eq, hb]
  omega)

theorem strOk_append {x y : List Nat} (hx : PyData.strOk ⟨x.toArray⟩ = true) (hy : PyData.strOk ⟨y.toArray⟩ = true) : PyData.strOk ⟨(x ++ y).toArray⟩ = true := by
  simp [PyData.strOk] at *
  exact ⟨hx, hy⟩
theorem strOk_of {x y : List Nat} (hx : PyData.strOk ⟨x.toArray⟩ = true) (h : ∀ c ∈ y, c ∈ x) : PyData.strOk ⟨y.toArray⟩ = true := by
  simp [PyData.strOk] at *
  exact fun c hc => hx c (h c hc)
theorem str_append (x y : List Nat) : (⟨x.toArray⟩ : Str) ++ ⟨y.toArray⟩ = ⟨(x ++ y).toArray⟩ := by
  show Str.mk (x.toArray ++ y.toArray) = _
  simp
def room : Nat := 1000000
theorem room_le : room ≤ sizeLine := by decide

noncomputable def kCat (x y : V) : Option (O × List Prop) := x.str?.bind fun i => y.str?.bind fun j => some (.val (.str (i ++ j)), [(i ++ j).length ≤ room])
theorem primCat : Prim2 G d (binaryOp .Add) kCat := by
  intro x y o ps e q X E W φ s ρ S F x' y' rx ry Q k
  obtain ⟨i, e1, e⟩ := Option.bind_eq_some_iff.mp e
  obtain ⟨j, e2, e⟩ := Option.bind_eq_some_iff.mp e
  cases e
  rw [V.str_of e1] at rx; rw [V.str_of e2] at ry
  obtain ⟨t, rfl, ok1, z1⟩ := rx
  obtain ⟨u, rfl, ok2, z2⟩ := ry
  have hz := Nat.le_trans q.1 room_le
  refine P.add_str ?_
  split
  · rename_i q
    have : i = [] := by simpa [Str.length] using q
    subst this
    exact k.here F.f.wf ⟨u, rfl, ok2, z2⟩
  · split
    · rename_i q
      have : j = [] := by simpa [Str.length] using q
      subst this
      rw [List.append_nil] at k
      exact k.here F.f.wf ⟨t, rfl, ok1, z1⟩
    · rw [str_append]
      exact ⟨by simpa [Str.length] using hz, k.here F.f.wf ⟨_, rfl, strOk_append ok1 ok2, hz⟩⟩
noncomputable def eCat : T G d fi → T G d fi → Pos → T G d fi := eBin .Add kCat primCat
noncomputable def kAddL (x y : V) : Option (O × List Prop) := x.lst?.bind fun i => y.lst?.bind fun j => some (.own (i ++ j).reverse, [(i ++ j).length ≤ room])
theorem primAddL : Prim2 G d (binaryOp .Add) kAddL := by
  intro x y o ps e q X E W φ s ρ S F x' y' rx ry Q k
  obtain ⟨i, e1, e⟩ := Option.bind_eq_some_iff.mp e
  obtain ⟨j, e2, e⟩ := Option.bind_eq_some_iff.mp e
  cases e
  rw [V.lst_of e1] at rx; rw [V.lst_of e2] at ry
  obtain ⟨a, vs, n, rfl, _, h1, z1, r1⟩ := VR.lst rx
  obtain ⟨b, ws, m, rfl, _, h2, z2, r2⟩ := VR.lst ry
  have hz := Nat.le_trans q.1 room_le
  refine P.add_list h1 h2 (k.list F.f.wf ?_ ?_) ?_
  · rw [Array.toList_append, List.reverse_reverse]; exact r1.append r2
  · rwa [List.length_reverse]
  · rw [r1.size, r2.size, ← List.length_append]; exact hz
noncomputable def eAddL : T G d fi → T G d fi → Pos → T G d fi := eBin .Add kAddL primAddL

theorem neg_ok {a : T G d fi} {p : Pos} : Ok (fun σ => bd (a.ev σ) fun x σ => rt (x.frz.int?.bind fun i => some (.val (.int (-i)), [])) σ) (EvG G d fi (.UnaryOp .USub a.x p)) :=
  a.eo.bd (R := fun x ρ o ρ' => ∃ i, x.frz = .int i ∧ o = .val (.int (-i)) ∧ ρ = ρ') (fun x => .rt fun o ps ρ e q => by
    obtain ⟨i, e1, e⟩ := Option.bind_eq_some_iff.mp e; cases e; exact ⟨i, V.int_of e1, rfl, rfl⟩) fun _ x _ _ _ h q => by
      obtain ⟨i, hx, rfl, rfl⟩ := q
      intro X E W φ s e S F Q k
      refine wpAny_UnaryOp (h.v X E W φ s e S F _ fun v' W' φ' s' p' r' => ?_)
      rw [hx] at r'
      obtain ⟨t, rfl⟩ := r'
      exact P.neg_int ((Aft.of p' k).here p'.f.f.wf ⟨_, rfl⟩)
noncomputable def eNeg (a : T G d fi) (p : Pos) : T G d fi := .mk' (.UnaryOp .USub a.x p) _ rfl (neg_ok (a := a)) fun _ => rfl
noncomputable def eNot (a : T G d fi) (p : Pos) : T G d fi where
  x := .UnaryOp .Not a.x p
  ev σ := bd (a.pk σ) fun x σ => pu (.val (.bool (!truthB x))) σ
  pk σ := bd (a.pk σ) fun x σ => pu (.val (.bool (!truthB x))) σ
  tr σ := bd (a.tr σ) fun t σ => pu (!t) σ
  pl := rfl
  eo := a.po.bd (R := fun x ρ o ρ' => o = .val (.bool (!truthB x)) ∧ ρ = ρ') (fun x => .pu fun _ => ⟨rfl, rfl⟩) fun _ x _ _ _ h q => by
    obtain ⟨rfl, rfl⟩ := q
    exact fun X E W φ s e S F Q k => wpAny_UnaryOp (h X E W φ s e S F _ fun v' W' φ' s' p' r' => not_value (truth_ok r' fun tk ht => k _ W' φ' _ ⟨p'.f.toks tk ht, p'.ag, p'.vl⟩ (.val rfl)))
  po := a.po.bd (R := fun x ρ o ρ' => o = .val (.bool (!truthB x)) ∧ ρ = ρ') (fun x => .pu fun _ => ⟨rfl, rfl⟩) fun _ x _ _ _ h q => by
    obtain ⟨rfl, rfl⟩ := q
    exact fun X E W φ s e S F Q k => wpAny_UnaryOp (h X E W φ s e S F _ fun v' W' φ' s' p' r' => not_value (truth_ok r' fun tk ht => k _ W' φ' _ ⟨p'.f.toks tk ht, p'.ag, p'.vl⟩ rfl))
  to := a.to.bd (R := fun t ρ u ρ' => u = !t ∧ ρ = ρ') (fun t => .pu fun _ => ⟨rfl, rfl⟩) fun _ t _ _ _ h q => by
    obtain ⟨rfl, rfl⟩ := q
    exact fun X E W φ s e S F Q k => wpAny_isTrue_Not (h X E W φ s e S F _ fun W' φ' s' p' => k W' φ' s' p')
end
end Mine
end

section
open PySem
set_option autoImplicit false
set_option linter.unusedVariables false
namespace Mine

noncomputable def Tk.b? (k : Tk) : Option Bool := Tk.casesOn k some (fun _ => none) (fun _ _ => none) (fun _ => none)
noncomputable def Tk.r? (k : Tk) : Option O := Tk.casesOn k (fun _ => none) some (fun _ _ => none) (fun _ => none)
noncomputable def Tk.l? (k : Tk) : Option (Fl × Loc) := Tk.casesOn k (fun _ => none) (fun _ => none) (fun a b => some (a, b)) (fun _ => none)
noncomputable def Tk.vs? (k : Tk) : Option (List V) := Tk.casesOn k (fun _ => none) (fun _ => none) (fun _ _ => none) some
noncomputable def told {α β : Type} (f : Tk → Option β) (p : Loc → β → Prop) (r : β → α) (ρ : β → Loc → Loc) (σ : St) : Option (α × St) :=
  List.casesOn σ.tp none fun k tp => (f k).bind fun b => some (r b, ⟨ρ b σ.ρ, tp, p σ.ρ b :: σ.ob⟩)
theorem Ok.told {α β : Type} {f : Tk → Option β} {p : Loc → β → Prop} {r : β → α} {ρ : β → Loc → Loc} {S : Loc → α → Loc → Prop} (k : ∀ b ρ₀, p ρ₀ b → S ρ₀ (r b) (ρ b ρ₀)) : Ok (told f p r ρ) S := by
  intro σ a σ' e h
  unfold Mine.told at e
  cases ht : σ.tp with
  | nil => rw [ht] at e; cases e
  | cons t tp =>
    rw [ht] at e
    obtain ⟨b, _, e⟩ := Option.bind_eq_some_iff.mp e
    cases e
    exact ⟨h.2, k b _ h.1⟩
noncomputable def dec (f t : Bool) (σ : St) : Option (Bool × St) := Bool.casesOn f (pu t σ) (told Tk.b? (fun _ b => t = b) id (fun _ ρ => ρ) σ)
theorem Ok.dec (f t : Bool) : Ok (dec f t) fun ρ b ρ' => b = t ∧ ρ = ρ' := by
  cases f with
  | false => exact .pu fun _ => ⟨rfl, rfl⟩
  | true => exact Ok.told (f := Tk.b?) (p := fun _ b => t = b) (r := id) (ρ := fun _ ρ => ρ) fun b _ h => ⟨h.symm, rfl⟩

section
variable {G : Gl} {d : Nat} {fi : FI}
noncomputable def sc (op : BoolOp) (t : Bool) : Bool := BoolOp.casesOn op (!t) t
def BvG (G : Gl) (d : Nat) (fi : FI) (pos : Pos) (op : BoolOp) (xs : List Expr) (ρ : Loc) (o : O) (ρ' : Loc) : Prop := ∀ (X : FC) (E : Value → Shared → Prop) (W : WS) (φ : Nat → List Addr) (s : Shared), X.fi = fi → FS G d X → At X W φ s ρ →
  ∀ Q : Value → Shared → Prop, (∀ v' W' φ' s', Pst X W s W' φ' s' ρ' → RO X W' φ' s'.heap o v' → Q v' s') → wpAny X.C.M X.A (boolOp pos op (evalEach xs X.env)) Q E s
def BtG (G : Gl) (d : Nat) (fi : FI) (op : BoolOp) (xs : List Expr) (ρ : Loc) (t : Bool) (ρ' : Loc) : Prop := ∀ (X : FC) (E : Value → Shared → Prop) (W : WS) (φ : Nat → List Addr) (s : Shared), X.fi = fi → FS G d X → At X W φ s ρ →
  ∀ Q : Bool → Shared → Prop, (∀ W' φ' s', Pst X W s W' φ' s' ρ' → Q t s') → wpAny X.C.M X.A (allTrue op xs X.env) Q E s
structure Bp (G : Gl) (d : Nat) (fi : FI) (op : BoolOp) where
  x : Expr
  xs : List Expr
  ev : St → Option (O × St)
  tr : St → Option (Bool × St)
  eo : ∀ pos, Ok ev (BvG G d fi pos op (x :: xs))
  to : Ok tr (BtG G d fi op (x :: xs))
theorem allTrue_one {op : BoolOp} {M : Model} {A : Around} {E : Value → Shared → Prop} {s : Shared} {env : Env} {x : Expr} {rest : List Expr} {Q : Bool → Shared → Prop}
    (h : wpAny M A (isTrue x env (eval x env)) (fun t s₁ => Bool.casesOn (motive := fun _ => Prop) (sc op t) (wpAny M A (allTrue op rest env) Q E s₁) (Q t s₁)) E s) : wpAny M A (allTrue op (x :: rest) env) Q E s := by
  cases op
  · exact wpAny_allTrue_And_cons (wpAny_mono h (fun t _ q => by cases t <;> exact q) fun _ _ q => q)
  · exact wpAny_allTrue_Or_cons (wpAny_mono h (fun t _ q => by cases t <;> exact q) fun _ _ q => q)
noncomputable def bLast (op : BoolOp) (a : T G d fi) : Bp G d fi op :=
  ⟨a.x, [], a.ev, a.tr, fun _ => a.eo, a.to.mono fun ρ t ρ' h X E W φ s e S F Q k => allTrue_one (h X E W φ s e S F _ fun W' φ' s' p => by
    cases op <;> cases t
    · exact k _ _ _ p
    · exact wpAny_allTrue_And_nil (k _ _ _ p)
    · exact wpAny_allTrue_Or_nil (k _ _ _ p)
    · exact k _ _ _ p)⟩
noncomputable def bCons (f : Bool) {op : BoolOp} (a : T G d fi) (b : Bp G d fi op) : Bp G d fi op where
  x := a.x
  xs := b.x :: b.xs
  ev σ := bd (a.ev σ) fun x σ => bd (dec f (truthB x) σ) fun t σ => Bool.casesOn (sc op t) (b.ev σ) (pu x σ)
  tr σ := bd (a.tr σ) fun t σ => bd (dec f t σ) fun t σ => Bool.casesOn (sc op t) (b.tr σ) (pu t σ)
  eo pos := a.eo.bd (R := fun x ρ o ρ' => Bool.casesOn (motive := fun _ => Prop) (sc op (truthB x)) (BvG G d fi pos op (b.x :: b.xs) ρ o ρ') (o = x ∧ ρ = ρ'))
    (fun x => (Ok.dec f _).bd (R := fun t ρ o ρ' => Bool.casesOn (motive := fun _ => Prop) (sc op t) (BvG G d fi pos op (b.x :: b.xs) ρ o ρ') (o = x ∧ ρ = ρ')) (fun t => by
      cases sc op t
      · exact b.eo pos
      · exact .pu fun _ => ⟨rfl, rfl⟩) fun _ t _ _ _ h q => by obtain ⟨rfl, rfl⟩ := h; exact q)
    fun _ x _ o _ h q X E W φ s e S F Q k => by
      show wpAny _ _ (eval a.x X.env >>= fun v => standAt pos >>= fun _ => holding [v] (truthy v) >>= fun t => _) Q E s
      refine wpAny_bind (h X E W φ s e S F _ fun v' W' φ' s' p' r' => wpAny_bind (wpAny_standAt (wpAny_bind (wpAny_holding (truth_ok r'.br fun tk ht => ?_)))))
      have p1 : Pst X W s W' φ' { s' with toks := tk } _ := ⟨p'.f.toks tk ht, p'.ag, p'.vl⟩
      revert q
      cases truthB x <;> cases op <;> intro q
      · obtain ⟨rfl, rfl⟩ := q; exact wpAny_pure (k _ _ _ _ p1 r')
      · exact q X E W' φ' _ e S p1.f _ fun v2 W2 φ2 s2 p2 r2 => k _ _ _ _ (p1.trans p2) r2
      · exact q X E W' φ' _ e S p1.f _ fun v2 W2 φ2 s2 p2 r2 => k _ _ _ _ (p1.trans p2) r2
      · obtain ⟨rfl, rfl⟩ := q; exact wpAny_pure (k _ _ _ _ p1 r')
  to := a.to.bd (R := fun t ρ u ρ' => Bool.casesOn (motive := fun _ => Prop) (sc op t) (BtG G d fi op (b.x :: b.xs) ρ u ρ') (u = t ∧ ρ = ρ'))
    (fun t => (Ok.dec f t).bd (R := fun t ρ u ρ' => Bool.casesOn (motive := fun _ => Prop) (sc op t) (BtG G d fi op (b.x :: b.xs) ρ u ρ') (u = t ∧ ρ = ρ')) (fun t => by
      cases sc op t
      · exact b.to
      · exact .pu fun _ => ⟨rfl, rfl⟩) fun _ t _ _ _ h q => by obtain ⟨rfl, rfl⟩ := h; exact q)
    fun _ t _ u _ h q X E W φ s e S F Q k => allTrue_one (h X E W φ s e S F _ fun W' φ' s' p' => by
      revert q
      cases sc op t <;> intro q
      · exact q X E W' φ' s' e S p'.f _ fun W2 φ2 s2 p2 => k _ _ _ (p'.trans p2)
      · obtain ⟨rfl, rfl⟩ := q; exact k _ _ _ p')
noncomputable def eBop {op : BoolOp} (r : Bp G d fi op) (p : Pos) : T G d fi :=
  ⟨.BoolOp op (r.x :: r.xs) p, r.ev, r.ev, r.tr, rfl, r.eo p, (r.eo p).mono fun ρ o ρ' h => EvG.pk h, r.to.mono fun ρ t ρ' h X E W φ s e S F Q k => wpAny_isTrue_BoolOp (h X E W φ s e S F Q k)⟩

def PrimC (G : Gl) (d : Nat) (op : CmpOp) (k : V → O → Option (Bool × List Prop)) : Prop :=
  ∀ x y t ps, k x y = some (t, ps) → All ps → ∀ (X : FC) (E : Value → Shared → Prop) (W : WS) (φ : Nat → List Addr) (s : Shared) (ρ : Loc), FS G d X → At X W φ s ρ → ∀ x' y', VR W s.heap x x' → BR W s.heap y y' →
    ∀ Q : Value → Shared → Prop, (∀ tk, s.toks ≤ tk → Q (.bool t) { s with toks := tk }) → wpAny X.C.M X.A (compareOp op x' y') Q E s
def CmG (G : Gl) (d : Nat) (fi : FI) (op : CmpOp) (a b : Expr) (ρ : Loc) (t : Bool) (ρ' : Loc) : Prop := ∀ (X : FC) (E : Value → Shared → Prop) (W : WS) (φ : Nat → List Addr) (s : Shared), X.fi = fi → FS G d X → At X W φ s ρ →
  ∀ Q : Value → Shared → Prop, (∀ W' φ' s', Pst X W s W' φ' s' ρ' → Q (.bool t) s') → wpAny X.C.M X.A (eval a X.env) (fun a' s₁ => wpAny X.C.M X.A (eval b X.env) (fun b' s₂ => wpAny X.C.M X.A (compareOp op a' b') Q E s₂) E s₁) E s
noncomputable def evC (a b : T G d fi) (k : V → O → Option (Bool × List Prop)) (σ : St) : Option (Bool × St) := bd (a.ev σ) fun x σ => bd (b.pk σ) fun y σ => rt (k x.frz y) σ
theorem evC_ok {op : CmpOp} {k : V → O → Option (Bool × List Prop)} (h : PrimC G d op k) (a b : T G d fi) : Ok (evC a b k) (CmG G d fi op a.x b.x) :=
  a.eo.bd (R := fun u ρ t ρ' => ∃ v ps, PkG G d fi b.x ρ v ρ' ∧ k u.frz v = some (t, ps) ∧ All ps) (fun u => b.po.bd (R := fun v ρ t ρ' => ∃ ps, k u.frz v = some (t, ps) ∧ All ps ∧ ρ = ρ') (fun v => .rt fun t ps ρ e q => ⟨ps, e, q, rfl⟩)
    fun _ v _ _ _ h q => by obtain ⟨ps, q1, q2, rfl⟩ := q; exact ⟨v, ps, h, q1, q2⟩) fun _ u _ t _ h1 q => by
      obtain ⟨v, ps, h2, q1, q2⟩ := q
      exact fun X E W φ s e S F Q kk => h1.v X E W φ s e S F _ fun u' W₁ φ₁ s₁ p₁ r₁ => h2 X E W₁ φ₁ s₁ e S p₁.f _ fun v' W₂ φ₂ s₂ p₂ r₂ =>
        h _ _ _ _ q1 q2 X E W₂ φ₂ s₂ _ S p₂.f _ _ (r₁.ag p₂.ag) r₂ _ fun tk ht => kk _ _ _ ⟨p₂.f.toks tk ht, p₁.ag.trans p₂.ag, (p₁.trans p₂).vl⟩
noncomputable def T.cmp (op : CmpOp) (a b : Expr) (p : Pos) (hb : plainX b = true) (c : St → Option (Bool × St)) (h : Ok c (CmG G d fi op a b)) : T G d fi :=
  have eo : Ok (fun σ => bd (c σ) fun t σ => pu (O.val (.bool t)) σ) (EvG G d fi (.Compare a [op] [b] p)) :=
    h.bd (R := fun t ρ o ρ' => o = .val (.bool t) ∧ ρ = ρ') (fun t => .pu fun _ => ⟨rfl, rfl⟩) fun _ t _ _ _ h q => by
      obtain ⟨rfl, rfl⟩ := q
      exact fun X E W φ s e S F Q k => wpAny_Compare1 (h X E W φ s e S F Q fun W' φ' s' p' => k _ _ _ _ p' (.val rfl)) (noMark hb _)
  ⟨.Compare a [op] [b] p, _, _, c, rfl, eo, eo.mono fun _ _ _ h => h.pk, h.mono fun ρ t ρ' h X E W φ s e S F Q k => wpAny_isTrue_Compare1 (h X E W φ s e S F _ fun W' φ' s' p' => wpAny_truthy_bool (k _ _ _ p')) (noMark hb _)⟩
noncomputable def eCmp (op : CmpOp) (k : V → O → Option (Bool × List Prop)) (h : PrimC G d op k) (a b : T G d fi) (p : Pos) : T G d fi := .cmp op a.x b.x p b.pl (evC a b k) (evC_ok h a b)

noncomputable def V.bool? (v : V) : Option Bool := V.casesOn v Option.none some (fun _ => Option.none) (fun _ => Option.none) (fun _ => Option.none) (fun _ => Option.none)
theorem V.bool_of {v : V} {i : Bool} (e : v.bool? = some i) : v = .bool i := by cases v <;> cases e; rfl
noncomputable def O.val? (o : O) : Option V := O.casesOn o some (fun _ => none) fun _ => none
theorem O.val_of {o : O} {v : V} (e : o.val? = some v) : o = .val v := by cases o <;> cases e; rfl
noncomputable def eqV (x y : V) : Option Bool := V.casesOn x none (fun a => y.bool?.bind fun b => some (a == b)) (fun a => y.int?.bind fun b => some (a == b)) (fun a => y.str?.bind fun b => some (a == b)) (fun _ => none) (fun _ => none)
theorem eqV_ok {x y : V} {t : Bool} (e : eqV x y = some t) {C : Cx} {A : Around} {E : Value → Shared → Prop} {W : WS} {s : Shared} {x' y' : Value} (rx : VR W s.heap x x') (ry : VR W s.heap y y') (hu : A.units < cLine) (Q : Value → Shared → Prop) :
    (Q (.bool t) s → wpAny C.M A (compareOp .Eq x' y') Q E s) ∧ (Q (.bool (!t)) s → wpAny C.M A (compareOp .NotEq x' y') Q E s) := by
  cases x <;> first | cases e | skip
  · obtain ⟨b, e1, e⟩ := Option.bind_eq_some_iff.mp e
    cases e; rw [V.bool_of e1] at ry; cases rx; cases ry
    exact ⟨fun k => SeqAt.compareEq_reads (.bool _) (.bool _) rfl rfl hu k, fun k => SeqAt.compareNe_reads (.bool _) (.bool _) rfl rfl hu k⟩
  · obtain ⟨b, e1, e⟩ := Option.bind_eq_some_iff.mp e
    cases e; rw [V.int_of e1] at ry; obtain ⟨t, rfl⟩ := rx; obtain ⟨u, rfl⟩ := ry
    exact ⟨fun k => P.eq_int k, fun k => P.ne_int k⟩
  · obtain ⟨b, e1, e⟩ := Option.bind_eq_some_iff.mp e
    cases e; rw [V.str_of e1] at ry; obtain ⟨t, rfl, _⟩ := rx; obtain ⟨u, rfl, _⟩ := ry
    exact ⟨fun k => P.eq_str k, fun k => P.ne_str k⟩
theorem FS.u {X : FC} (S : FS G d X) : X.A.units + deep + 1 < cLine := by have := S.un; omega
noncomputable def kEq (x : V) (y : O) : Option (Bool × List Prop) := y.val?.bind fun y => (eqV x y).bind fun t => some (t, [])
noncomputable def kNe (x : V) (y : O) : Option (Bool × List Prop) := y.val?.bind fun y => (eqV x y).bind fun t => some (!t, [])
theorem primEq : PrimC G d .Eq kEq := by
  intro x y t ps e q X E W φ s ρ S F x' y' rx ry Q k
  obtain ⟨v, e1, e⟩ := Option.bind_eq_some_iff.mp e
  obtain ⟨u, e2, e⟩ := Option.bind_eq_some_iff.mp e
  cases e; rw [O.val_of e1] at ry
  exact (eqV_ok e2 rx ry (by have := S.u; omega) Q).1 (k s.toks (Nat.le_refl _))
theorem primNe : PrimC G d .NotEq kNe := by
  intro x y t ps e q X E W φ s ρ S F x' y' rx ry Q k
  obtain ⟨v, e1, e⟩ := Option.bind_eq_some_iff.mp e
  obtain ⟨u, e2, e⟩ := Option.bind_eq_some_iff.mp e
  cases e; rw [O.val_of e1] at ry
  exact (eqV_ok e2 rx ry (by have := S.u; omega) Q).2 (k s.toks (Nat.le_refl _))
noncomputable def eEq : T G d fi → T G d fi → Pos → T G d fi := eCmp .Eq kEq primEq
noncomputable def eNe : T G d fi → T G d fi → Pos → T G d fi := eCmp .NotEq kNe primNe
noncomputable def kOrd (f : Int → Int → Bool) (x : V) (y : O) : Option (Bool × List Prop) := y.val?.bind fun y => x.int?.bind fun i => y.int?.bind fun j => some (f i j, [])
theorem primOrd {op : CmpOp} {f : Int → Int → Bool} (h : ∀ (C : Cx) (A : Around) (E : Value → Shared → Prop) (s : Shared) (i j : Int) (t u : Tok) (Q : Value → Shared → Prop), Q (.bool (f i j)) s → wpAny C.M A (compareOp op (.int i t) (.int j u)) Q E s) : PrimC G d op (kOrd f) := by
  intro x y t ps e q X E W φ s ρ S F x' y' rx ry Q k
  obtain ⟨v, e1, e⟩ := Option.bind_eq_some_iff.mp e
  obtain ⟨i, e2, e⟩ := Option.bind_eq_some_iff.mp e
  obtain ⟨j, e3, e⟩ := Option.bind_eq_some_iff.mp e
  cases e; rw [O.val_of e1, V.int_of e3] at ry; rw [V.int_of e2] at rx
  obtain ⟨t, rfl⟩ := rx; obtain ⟨u, rfl⟩ := ry
  exact h _ _ _ _ _ _ _ _ _ (k s.toks (Nat.le_refl _))
noncomputable def eLt : T G d fi → T G d fi → Pos → T G d fi := eCmp .Lt (kOrd fun i j => decide (i < j)) (primOrd fun _ _ _ _ _ _ _ _ _ k => P.lt_int k)
noncomputable def eGt : T G d fi → T G d fi → Pos → T G d fi := eCmp .Gt (kOrd fun i j => decide (i > j)) (primOrd fun _ _ _ _ _ _ _ _ _ k => P.gt_int k)
end
end Mine
end

section
open PySem
set_option autoImplicit false
set_option linter.unusedVariables false
namespace Mine
open PySem.W (Looks)

noncomputable def atI {α : Type} (l : List α) (i : Int) : Option α := Int.casesOn i (fun n => l[n]?) (fun n => l.reverse[n]?)
noncomputable def atR {α : Type} (r : List α) (i : Int) : Option α := Int.casesOn i (fun n => r.reverse[n]?) (fun n => r[n]?)
theorem atR_eq {α : Type} (r : List α) (i : Int) : atR r i = atI r.reverse i := by
  cases i with
  | ofNat n => rfl
  | negSucc n => show r[n]? = r.reverse.reverse[n]?; rw [List.reverse_reverse]
noncomputable def subO (o : O) (i : Int) : Option V := O.casesOn o (fun v => V.casesOn v none (fun _ => none) (fun _ => none) (fun s => (atI s i).bind fun c => some (.str [c])) (fun l => atI l i) (fun l => atI l i)) (fun r => atR r i) fun _ => none
theorem atI_inv {α : Type} {l : List α} {i : Int} {v : α} (e : atI l i = some v) : ∃ k : Nat, seqIndex? i l.length = some k ∧ l[k]? = some v ∧ ((0 ≤ i ∧ k = i.toNat) ∨ (i < 0 ∧ -(l.length : Int) ≤ i ∧ k = (i + l.length).toNat)) ∧ k < l.length := by
  cases i with
  | ofNat n =>
    have e' : l[n]? = some v := e
    have hl := (List.getElem?_eq_some_iff.mp e').1
    exact ⟨n, seqIndex_of (Int.natCast_nonneg n) (Int.ofNat_lt.mpr hl), e', .inl ⟨Int.natCast_nonneg n, rfl⟩, hl⟩
  | negSucc n =>
    have e' : l.reverse[n]? = some v := e
    have hl := (List.getElem?_eq_some_iff.mp e').1
    rw [List.length_reverse] at hl
    rw [List.getElem?_reverse hl] at e'
    have hk : (Int.negSucc n + l.length).toNat = l.length - 1 - n := by omega
    exact ⟨l.length - 1 - n, by rw [← hk]; exact seqIndex_neg (by omega) (by omega), e', .inr ⟨by omega, by omega, hk.symm⟩, by omega⟩
theorem slice_plain {e : Expr} (h : plainX e = true) (o i : Value) : subscripted e false o i = operate [o, i] (getItem o i) := by
  cases e <;> first | rfl | cases h

section
variable {C : Cx} {A : Around} {E : Value → Shared → Prop} {W : WS} {s : Shared}
theorem getList {l : List V} {vs : Array Value} {n : Nat} {a : Addr} {i : Int} {t : Tok} {v : V} {Q : Value → Shared → Prop} (ho : s.heap.get? a = some (lstO vs n)) (r : VRs W s.heap l vs.toList) (hz : l.length ≤ sizeLine) (e : atI l i = some v)
    (k : ∀ v', VR W s.heap v v' → Q v' s) : wpAny C.M A (getItem (.ref a) (.int i t)) Q E s := by
  obtain ⟨j, _, h2, h3, h4⟩ := atI_inv e
  obtain ⟨v', h5, h6⟩ := r.get h2
  have hsl := sizeLine_lt
  have hs := r.size
  have h5' : vs[j]? = some v' := by rw [← Array.getElem?_toList]; exact h5
  rcases h3 with ⟨a1, rfl⟩ | ⟨a1, a2, rfl⟩
  · exact wpAny_getItem_list ⟨_, ho, rfl, _, rfl⟩ a1 (by omega) h5' (k v' h6)
  · exact wpAny_getItem_list_neg ⟨_, ho, rfl, _, rfl⟩ a1 (by rw [hs]; exact a2) (by omega) (by rw [hs]; exact h5') (k v' h6)
theorem idx_ok {o : O} {o' : Value} {i : Int} {t : Tok} {v : V} {value slice : Expr} {Q : Value → Shared → Prop} (r : BR W s.heap o o') (e : subO o i = some v) (hs : plainX slice = true) (k : ∀ v' tk, s.toks ≤ tk → VR W s.heap v v' → Q v' { s with toks := tk }) :
    wpAny C.M A (PyProof.Rows.subscriptTail value slice o' (.int i t)) Q E s := by
  have hsl := sizeLine_lt
  cases o with
  | own r' =>
    obtain ⟨a, rfl, vs, n, h1, h2, h3⟩ := r
    exact PyProof.Rows.tail_any (T := "list") ⟨_, h1, rfl⟩ F.slot_list_getitem.lookup (getList h1 h2 (by simpa using h3) ((atR_eq r' i).symm.trans e) fun v' r => k v' s.toks (Nat.le_refl _) r) (slice_plain hs _ _)
  | own2 r' => cases e
  | val w =>
    cases w <;> first | cases e | skip
    · rename_i z
      obtain ⟨t1, rfl, ok, hz⟩ := r
      obtain ⟨c, e0, e'⟩ := Option.bind_eq_some_iff.mp e
      cases e'
      obtain ⟨j, e1, e2, e3, e4⟩ := atI_inv e0
      refine PyProof.Rows.tail_any (T := "str") (typeIs_str s _ t1) F.slot_str_getitem.lookup (P.getItem_str (c := c) (by simp; omega) ?_ (k _ _ (by first | exact Nat.le_refl _ | assumption | exact Nat.le_succ _ | omega | (dsimp only; omega) | (dsimp only at *; omega)) ?_)) (slice_plain hs _ _)
      · show (seqIndex? i (⟨z.toArray⟩ : Str).length).bind _ = _
        have : (⟨z.toArray⟩ : Str).length = z.length := by simp [Str.length]
        rw [this, e1]
        simpa using e2
      · exact ⟨_, rfl, strOk_of ok fun x hx => by simp at hx; subst hx; exact List.mem_of_getElem? e2, by show 1 ≤ sizeLine; decide⟩
    · obtain ⟨p, vs, n, rfl, _, h1, h2, h3⟩ := VR.tup r
      obtain ⟨j, e1, e2, e3, e4⟩ := atI_inv (show atI _ i = some v from e)
      obtain ⟨v', e5, e6⟩ := h3.get e2
      exact PyProof.Rows.tail_any (T := "tuple") ⟨_, h1, rfl⟩ F.slot_tuple_getitem.lookup (P.getItem_tuple h1 (by omega) (by omega) (by rw [h3.size]; exact e1) (by rw [← Array.getElem?_toList]; exact e5) (k _ s.toks (Nat.le_refl _) e6)) (slice_plain hs _ _)
    · obtain ⟨p, vs, n, rfl, _, h1, h2, h3⟩ := VR.lst r
      exact PyProof.Rows.tail_any (T := "list") ⟨_, h1, rfl⟩ F.slot_list_getitem.lookup (getList h1 h3 h2 (show atI _ i = some v from e) fun v' r => k v' s.toks (Nat.le_refl _) r) (slice_plain hs _ _)
end

section
variable {G : Gl} {d : Nat} {fi : FI}
noncomputable def item (f : Bool) (o : O) (y : V) (σ : St) : Option (O × St) := y.int?.bind fun i => Bool.casesOn f (rt ((subO o i).bind fun v => some (O.val v, [])) σ) (told Tk.r? (fun _ o' => (subO o i).bind (fun v => some (O.val v)) = some o') id (fun _ ρ => ρ) σ)
def ItS (o : O) (y : V) (ρ : Loc) (o' : O) (ρ' : Loc) : Prop := ∃ i v, y = .int i ∧ subO o i = some v ∧ o' = .val v ∧ ρ = ρ'
theorem item_ok {f : Bool} {o : O} {y : V} : Ok (item f o y) (ItS o y) := by
  intro σ a σ' e h
  obtain ⟨i, e1, e⟩ := Option.bind_eq_some_iff.mp e
  cases f with
  | false => exact Ok.rt (S := ItS o y) (fun a p ρ e q => by obtain ⟨v, e2, e⟩ := Option.bind_eq_some_iff.mp e; cases e; exact ⟨i, v, V.int_of e1, e2, rfl, rfl⟩) σ a σ' e h
  | true => exact Ok.told (S := ItS o y) (f := Tk.r?) (p := fun _ o' => (subO o i).bind (fun v => some (O.val v)) = some o') (r := id) (ρ := fun _ ρ => ρ) (fun b ρ q => by obtain ⟨v, e2, e⟩ := Option.bind_eq_some_iff.mp q; cases e; exact ⟨i, v, V.int_of e1, e2, rfl, rfl⟩) σ a σ' e h
noncomputable def eIdx (f : Bool) (a k : T G d fi) (p : Pos) : T G d fi :=
  .mk' (.Subscript a.x k.x p) (fun σ => bd (a.ev σ) fun x σ => bd (k.ev σ) fun y σ => item f (.val x.frz) y.frz σ) rfl
    (a.eo.bd (R := fun x ρ o ρ' => ∃ y i v, EvG G d fi k.x ρ y ρ' ∧ y.frz = .int i ∧ subO (.val x.frz) i = some v ∧ o = .val v) (fun x => k.eo.bd (fun y => item_ok (f := f) (o := .val x.frz) (y := y.frz)) fun _ y _ _ _ h q => by
      obtain ⟨i, v, e1, e2, e3, rfl⟩ := q; exact ⟨y, i, v, h, e1, e2, e3⟩) fun _ x _ _ _ h q => by
      obtain ⟨y, i, v, hk, e1, e2, rfl⟩ := q
      intro X E W φ s e S F Q kk
      refine PyProof.Rows.Subscript_ (h.v X E W φ s e S F _ fun x' W₁ φ₁ s₁ p₁ r₁ => hk.v X E W₁ φ₁ s₁ e S p₁.f _ fun y' W₂ φ₂ s₂ p₂ r₂ => ?_)
      rw [e1] at r₂
      obtain ⟨t, rfl⟩ := r₂
      exact idx_ok (show BR W₂ s₂.heap (.val x.frz) x' from r₁.ag p₂.ag) e2 k.pl fun v' tk ht r => kk _ _ _ _ ⟨p₂.f.toks tk ht, p₁.ag.trans p₂.ag, (p₁.trans p₂).vl⟩ (.val r)) fun _ => rfl
theorem Val.uniq {env : Env} {h : Heap} {x : Str} {v w : Value} (p : Val env h x v) (q : Val env h x w) : v = w := by
  rcases p with ⟨p, m, ⟨o1, es1, ep1, p1, p2, p3, p4⟩, p5⟩ | ⟨p, c1, p1, o1, p2, p3⟩ <;> rcases q with ⟨q, m', ⟨o2, es2, ep2, q1, q2, q3, q4⟩, q5⟩ | ⟨q, c2, q1, o2, q2, q3⟩
  · rw [p1] at q1; cases q1; rw [p2] at q2; cases q2
    rw [← p4, q4, q5] at p5; exact (Option.some.inj p5).symm
  · rcases q with q | q <;> rw [p] at q <;> cases q
  · rcases p with p | p <;> rw [q] at p <;> cases p
  · rw [p1] at q1; cases q1; rw [p2] at q2; cases q2; rw [p3] at q3; exact Option.some.inj (Data.cell.inj q3)
theorem still {x : Str} {i : Nat} {X : FC} {W : WS} {φ : Nat → List Addr} {s : Shared} {ρ : Loc} {o : O} {v' : Value} (F : At X W φ s ρ) (h1 : X.fi.tbl.lookup x = some i) (hk : X.env.kindOf x ≠ none) (hv : Val X.env s.heap x v') (e : ρ[i]? = some (some o)) : OR W s.heap (φ i) o v' := by
  obtain ⟨w, a, b⟩ := F.lr x i h1 o e hk
  rw [hv.uniq a]; exact b
noncomputable def eIdxV (f : Bool) (x : Str) (i : Nat) (xp : Pos) (k : T G d fi) (p : Pos) (h : fi.isVar x i = true) : T G d fi :=
  .mk' (.Subscript (.Name x xp) k.x p) (fun σ => (slot σ.ρ i).bind fun _ => bd (k.ev σ) fun y σ => (slot σ.ρ i).bind fun o => item f o y.frz σ) rfl (by
    intro σ a σ' e q
    obtain ⟨o0, e0, e⟩ := Option.bind_eq_some_iff.mp e
    obtain ⟨⟨y, σ₁⟩, e1, e⟩ := Option.bind_eq_some_iff.mp e
    obtain ⟨o, e2, e⟩ := Option.bind_eq_some_iff.mp e
    obtain ⟨q1, j, v, h1, h2, rfl, h3⟩ := item_ok _ _ _ e q
    obtain ⟨q2, hk⟩ := k.eo σ y σ₁ e1 q1
    refine ⟨q2, fun X E W φ s ef S F Q kk => PyProof.Rows.Subscript_ (load_ok S F (ef ▸ h) (slot_some e0) fun x' hx hn hv r => hk.v X E W φ s ef S F _ fun y' W₂ φ₂ s₂ p₂ r₂ => ?_)⟩
    dsimp only at h1; rw [h1] at r₂
    obtain ⟨t, rfl⟩ := r₂
    rw [← h3] at kk
    exact idx_ok (still p₂.f hx hn (p₂.vl _ _ hv) (slot_some e2)).br h2 k.pl fun v' tk ht r => kk _ _ _ _ ⟨p₂.f.toks tk ht, p₂.ag, p₂.vl⟩ (.val r)) fun _ => rfl

noncomputable def listO (o : O) : Option (List V) := O.casesOn o (fun v => v.lst?) (fun r => some r.reverse) fun _ => none
theorem BR.list {W : WS} {h : Heap} {o : O} {v' : Value} {l : List V} (r : BR W h o v') (e : listO o = some l) : ∃ a vs n, v' = .ref a ∧ h.get? a = some (lstO vs n) ∧ l.length ≤ sizeLine ∧ VRs W h l vs.toList := by
  cases o with
  | own r' => cases e; obtain ⟨a, rfl, vs, n, h1, h2, h3⟩ := r; exact ⟨a, vs, n, rfl, h1, by simpa using h3, h2⟩
  | own2 r' => cases e
  | val v => cases V.lst_of e; obtain ⟨a, vs, n, e1, _, e2, e3, e4⟩ := VR.lst r; exact ⟨a, vs, n, e1, e2, e3, e4⟩
noncomputable def nilO (o : O) : Option Bool := O.casesOn o (fun v => v.lst?.bind fun l => some l.isEmpty) (fun r => some r.isEmpty) fun _ => none
theorem nilO_of {o : O} {t : Bool} (e : nilO o = some t) : ∃ l, listO o = some l ∧ l.isEmpty = t := by
  cases o with
  | val v => obtain ⟨l, e1, e⟩ := Option.bind_eq_some_iff.mp e; cases e; exact ⟨l, e1, rfl⟩
  | own r => cases e; exact ⟨_, rfl, by cases r <;> simp⟩
  | own2 r => cases e
theorem nil_cmp {C : Cx} {A : Around} {E : Value → Shared → Prop} {W : WS} {s : Shared} {l : List V} {a b : Addr} {vs ws : Array Value} {n m : Nat} (h1 : s.heap.get? a = some (lstO vs n)) (r1 : vs.size = l.length) (h2 : s.heap.get? b = some (lstO ws m)) (r2 : ws.size = 0) (hu : A.units < cLine) (Q : Value → Shared → Prop) :
    (Q (.bool l.isEmpty) s → wpAny C.M A (compareOp .Eq (.ref a) (.ref b)) Q E s) ∧ (Q (.bool (!l.isEmpty)) s → wpAny C.M A (compareOp .NotEq (.ref a) (.ref b)) Q E s) := by
  cases l with
  | nil =>
    have r1 : vs.size = 0 := r1
    refine ⟨fun k => ?_, fun k => ?_⟩
    · have z := SeqAt.RcAt.lists (A := A) (s := s) (e := fun _ => true) ⟨_, h1, rfl, _, rfl⟩ ⟨_, h2, rfl, _, rfl⟩ (r1.trans r2.symm) hu (fun j j1 => by rw [r1] at j1; cases j1)
      rw [r1] at z; exact z _ _ E Q k
    · have z := SeqAt.RcNeAt.lists (A := A) (s := s) (e := fun _ => true) ⟨_, h1, rfl, _, rfl⟩ ⟨_, h2, rfl, _, rfl⟩ (r1.trans r2.symm) hu (fun j j1 => by rw [r1] at j1; cases j1)
      rw [r1] at z; exact z _ _ E Q k
  | cons v l =>
    have hne : (vs.size != ws.size) = true := by rw [r1, r2]; rfl
    exact ⟨fun k => SeqAt.RcAt.lists_lengths (A := A) (s := s) ⟨_, h1, rfl, _, rfl⟩ ⟨_, h2, rfl, _, rfl⟩ hne (by omega) _ _ E Q k, fun k => SeqAt.RcNeAt.lists_lengths (A := A) (s := s) ⟨_, h1, rfl, _, rfl⟩ ⟨_, h2, rfl, _, rfl⟩ hne (by omega) _ _ E Q k⟩
theorem nil_core (a : T G d fi) (ne : Bool) (lp : Pos) : Ok (fun σ => bd (a.pk σ) fun x σ => rt ((nilO x).bind fun t => some (t != ne, [])) σ) (CmG G d fi (Bool.casesOn ne .Eq .NotEq) a.x (.List [] lp)) :=
  a.po.bd (R := fun x ρ t ρ' => ∃ l, listO x = some l ∧ t = (l.isEmpty != ne) ∧ ρ = ρ') (fun x => .rt fun t ps ρ e q => by
    obtain ⟨u, e1, e⟩ := Option.bind_eq_some_iff.mp e; cases e; obtain ⟨l, e2, rfl⟩ := nilO_of e1; exact ⟨l, e2, rfl, rfl⟩) fun _ x _ t _ h q => by
      obtain ⟨l, e2, rfl, rfl⟩ := q
      intro X E W φ s e S F Q k
      refine h X E W φ s e S F _ fun x' W' φ' s' p' r' => wpAny_List (wpAny_pure ⟨Nat.zero_le _, ?_⟩)
      obtain ⟨b, vs, n, rfl, e3, e4, e5⟩ := r'.list e2
      have hk : ∀ a o, s'.heap.get? a = some o → (s'.heap.push (lstO ([] : List Value).toArray 0)).get? a = some o := fun _ _ q => Heap.get?_push_of_some _ q
      have fin : Q (.bool (l.isEmpty != ne)) { s' with heap := s'.heap.push (lstO ([] : List Value).toArray 0) } := k _ _ _ (p'.trans (.gs p'.f (Gs.of (t := s'.toks) p'.f.f.wf hk)))
      have z := nil_cmp (C := X.C) (A := X.A) (E := E) (W := W') (s := { s' with heap := s'.heap.push (lstO ([] : List Value).toArray 0) }) (hk _ _ e3) e5.size (Heap.get?_push_size _ rfl) rfl (by have := S.u; omega) Q
      cases ne
      · exact z.1 (by simpa using fin)
      · exact z.2 (by simpa using fin)
noncomputable def eNil (ne : Bool) (a : T G d fi) (lp p : Pos) : T G d fi := .cmp _ a.x (.List [] lp) p rfl _ (nil_core a ne lp)
end
end Mine
end

section
open PySem
set_option autoImplicit false
set_option linter.unusedVariables false
namespace Mine
open PySem.W (Looks keepIn)

theorem boot_len : bootBuiltins "len" = some (.builtin "len") := by kernel_rfl
theorem boot_isinstance : bootBuiltins "isinstance" = some (.builtin "isinstance") := by kernel_rfl
theorem boot_list : bootBuiltins "list" = some (.type "list") := by kernel_rfl
theorem boot_tuple : bootBuiltins "tuple" = some (.type "tuple") := by kernel_rfl
theorem boot_range : bootBuiltins "range" = some (.type "range") := by kernel_rfl
theorem boot_reversed : bootBuiltins "reversed" = some (.type "reversed") := by kernel_rfl
noncomputable def Ty.s (t : Ty) : Str := Ty.rec "tuple" "str" "int" "bool" "list" t
theorem boot_ty (t : Ty) : bootBuiltins t.s = some (.type t.n) := by
  cases t
  · exact boot_tuple
  · show bootBuiltins "str" = some (.type "str"); kernel_rfl
  · show bootBuiltins "int" = some (.type "int"); kernel_rfl
  · show bootBuiltins "bool" = some (.type "bool"); kernel_rfl
  · exact boot_list
abbrev KeepsIt (M : Model) (h : Heap) (f : Value) : Prop := ∃ k, (k = Keeper.frame ∨ k = Keeper.machine ∨ k = Keeper.boundFrame) ∧ Looks M h (keeperOf f) k
theorem keeper_builtin (M : Model) (h : Heap) (id : String) : KeepsIt M h (.builtin id) := ⟨.machine, .inr (.inl rfl), Looks.of_pure rfl⟩
theorem keeper_type (M : Model) (h : Heap) (id : String) : KeepsIt M h (.type id) := ⟨.machine, .inr (.inl rfl), Looks.of_pure rfl⟩

section
variable {M : Model} {A : Around} {E : Value → Shared → Prop} {s : Shared} {env : Env}
theorem callW {K : PySem.W.Frag} {f : Value} {pos : Pos} {first : List Value} {xs : List Expr} {Q : Value → Shared → Prop} (hk : ∀ h, K.In h → KeepsIt M h f)
    (h : wpAny M A (spliced (plainArgs xs env)) (fun vs s₁ => K.In s₁.heap ∧ wpAny M A (call f (first ++ vs)) Q E s₁) E s) : wpAny M A (callWith pos f first (plainArgs xs env) []) Q E s := by
  refine PySem.W.callWith_of (P := K.In) (by rw [show (plainArgs xs env).any (·.1) = false by simp [plainArgs]]; rfl) hk ?_
  cases xs with
  | nil =>
    unfold evalArgs
    show wpAny _ _ (spliced [] >>= _) _ _ _
    refine wpAny_bind (wpAny_mono h (fun vs s' h' => ?_) fun _ _ x => x)
    refine wpAny_holding ?_
    exact wpAny_bind (wpAny_pure (wpAny_bind (wpAny_pure (wpAny_pure h'))))
  | cons x xs => exact PySem.Calls.evalArgs_plain h
theorem method_call {o : Expr} {m : Str} {ap p : Pos} {xs : List Expr} {Q : Value → Shared → Prop} (hs : attributeBase o m env (eval o env) = eval o env) (hp : ∀ x, x ∈ xs → plainX x = true) (hl : (ap.endLine == p.line) = true) (hn : Nat.blt xs.length 30 = true)
    (h : ∀ pl, wpAny M A (eval o env) (fun ov s₁ => wpAny M A (getMethod ov m pl) (fun fx s₂ => wpAny M A (callWith p fx.1 fx.2 (plainArgs xs env) []) Q E s₂) E s₁) E s) : wpAny M A (eval (.Call (.Attribute o m ap) xs [] p) env) Q E s := by
  rw [arm_eval_Call, hs]
  refine wpAny_bind (wpAny_mono (h (do return (← importBound o env).getD true)) (fun ov s₁ h₁ => wpAny_bind (wpAny_standAt ?_)) fun _ _ x => x)
  rw [starEach_plain hp, backTo_plain]
  unfold methodCall
  have hf : methodCallForm (xs.length + ([] : List Keyword).length) (plainArgs xs env) (backToKw p (keywordEach [] env)) = true := by
    have : xs.length < 30 := Nat.le_of_ble_eq_true hn
    simp [methodCallForm, plainArgs, keywordEach, backToKw, this]
  rw [hf]
  refine wpAny_bind (wpAny_holding ?_)
  unfold calleeOf
  rw [if_pos rfl]
  refine wpAny_mono h₁ (fun fx s₂ h₂ => ?_) fun _ _ x => x
  unfold methodCallPos
  refine wpAny_bind ?_
  rw [if_pos (by rw [beq_iff_eq.mp hl]; simp)]
  exact wpAny_pure h₂
end

section
variable {G : Gl} {d : Nat} {fi : FI}
def Prim1 (G : Gl) (d : Nat) (f : Value) (k : O → Option (O × List Prop)) : Prop :=
  ∀ x o ps, k x = some (o, ps) → All ps → ∀ (X : FC) (E : Value → Shared → Prop) (W : WS) (φ : Nat → List Addr) (s : Shared) (ρ : Loc), FS G d X → At X W φ s ρ → ∀ x', BR W s.heap x x' → ∀ Q, Aft W s Q o → wpAny X.C.M X.A (call f [x']) Q E s
noncomputable def eBi (x : Str) (f : Value) (hf : bootBuiltins x = some f) (hk : ∀ M h, KeepsIt M h f) (k : O → Option (O × List Prop)) (h : Prim1 G d f k) (a : T G d fi) (p' p : Pos) (hb : isBi G fi x = true) : T G d fi :=
  .mk' (.Call (.Name x p') [a.x] [] p) (fun σ => bd (a.pk σ) fun x σ => rt (k x) σ) rfl
    (a.po.bd (R := fun x ρ o ρ' => ∃ ps, k x = some (o, ps) ∧ All ps ∧ ρ = ρ') (fun x => .rt fun o ps ρ e q => ⟨ps, e, q, rfl⟩) fun _ x _ _ _ hx q => by
      obtain ⟨ps, q1, q2, rfl⟩ := q
      intro X E W φ s e S F Q kk
      refine PyProof.Rows.Call_ (bi_ok S F (e ▸ hb) hf ?_)
      rw [starEach_plain (xs := [a.x]) (fun y q => by cases List.mem_singleton.mp q; exact a.pl), backTo_plain]
      refine callW (K := X.C.K) (fun h _ => hk _ h) (PySem.Calls.spliced_cons (hx X E W φ s e S F _ fun x' W' φ' s' p' r' => PySem.Calls.spliced_nil ⟨p'.f.In S, ?_⟩))
      exact h _ _ _ q1 q2 X E W' φ' s' _ S p'.f _ r' _ (Aft.of p' kk)) fun _ => rfl
noncomputable def lenO (o : O) : Option Nat := O.casesOn o (fun v => V.casesOn v none (fun _ => none) (fun _ => none) (fun s => some s.length) (fun l => some l.length) (fun l => some l.length)) (fun r => some r.length) (fun r => some r.length)
theorem primLen : Prim1 G d (.builtin "len") fun x => (lenO x).bind fun n => some (.val (.int n), []) := by
  intro x o ps e q X E W φ s ρ S F x' r Q k
  have hsl := sizeLine_lt
  obtain ⟨n, e1, e⟩ := Option.bind_eq_some_iff.mp e
  cases e
  have lst : ∀ {l : List V} {a : Addr} {vs : Array Value} {m : Nat}, s.heap.get? a = some (lstO vs m) → VRs W s.heap l vs.toList → l.length ≤ sizeLine → l.length = n → wpAny X.C.M X.A (call (.builtin "len") [.ref a]) Q E s := fun h1 h3 h2 e => by
    have hs := h3.size
    refine Calls.call_len_list ⟨_, h1, rfl, _, rfl⟩ (by rw [hs]; omega) ?_
    rw [hs, e]; exact k.here F.f.wf ⟨_, rfl⟩
  cases x with
  | own r' => cases e1; obtain ⟨a, rfl, vs, m, h1, h2, h3⟩ := r; exact lst h1 h2 (by simpa using h3) (by simp)
  | own2 r' =>
    cases e1
    obtain ⟨a, as, rfl, vs, m, h1, h2, h3, h4, _⟩ := r
    have hs : vs.size = r'.length := by rw [← Array.length_toList, h2, List.length_reverse, List.length_map, h4.1]
    refine Calls.call_len_list ⟨_, h1, rfl, _, rfl⟩ (by rw [hs]; omega) ?_
    rw [hs]; exact k.here F.f.wf ⟨_, rfl⟩
  | val v =>
    cases v <;> first | cases e1 | skip
    · rename_i z
      obtain ⟨t, rfl, ok, hz⟩ := r
      have hlen : (⟨z.toArray⟩ : Str).length = z.length := by simp [Str.length]
      refine P.len_str (by rw [hlen]; omega) ?_
      rw [hlen]; exact k.here F.f.wf ⟨_, rfl⟩
    · obtain ⟨p, vs, m, rfl, _, h1, h2, h3⟩ := VR.tup r
      have hs := h3.size
      refine P.len_tuple h1 (by rw [hs]; omega) ?_
      rw [hs]; exact k.here F.f.wf ⟨_, rfl⟩
    · obtain ⟨p, vs, m, rfl, _, h1, h2, h3⟩ := VR.lst r
      exact lst h1 h3 h2 rfl
noncomputable def eLen : T G d fi → Pos → Pos → isBi G fi "len" = true → T G d fi := eBi "len" (.builtin "len") boot_len (fun M h => keeper_builtin M h _) _ primLen
theorem primListT : Prim1 G d (.type "list") fun x => x.val?.bind fun v => v.tup?.bind fun l => some (.own l.reverse, []) := by
  intro x o ps e q X E W φ s ρ S F x' r Q k
  obtain ⟨v, e1, e⟩ := Option.bind_eq_some_iff.mp e
  obtain ⟨l, e2, e⟩ := Option.bind_eq_some_iff.mp e
  cases e
  rw [O.val_of e1, V.tup_of e2] at r
  obtain ⟨p, vs, m, rfl, _, h1, h2, h3⟩ := VR.tup r
  exact call_list_seq p (T := "tuple") (.inr rfl) h1 rfl rfl (fun h' c' hk ho => k.listAt (t := s.toks) F.f.wf hk (fresh_size _) ho (by rw [List.reverse_reverse]; exact h3) (by rwa [List.length_reverse])) (by rw [h3.size]; exact h2)
noncomputable def eListT : T G d fi → Pos → Pos → isBi G fi "list" = true → T G d fi := eBi "list" (.type "list") boot_list (fun M h => keeper_type M h _) _ primListT
theorem primTup : Prim1 G d (.type "tuple") fun x => (listO x).bind fun l => some (.val (.tup l), []) := by
  intro x o ps e q X E W φ s ρ S F x' r Q k
  obtain ⟨l, e1, e⟩ := Option.bind_eq_some_iff.mp e
  cases e
  obtain ⟨a, vs, n, rfl, h1, h2, h3⟩ := r.list e1
  refine call_tuple_list ⟨_, h1, rfl, _, rfl⟩ (fun h' hk => ?_) (by rw [h3.size]; exact h2)
  have g := Gs.of (t := s.toks) F.f.wf hk
  have k' : Aft W { s with heap := h' } Q (.val (.tup l)) := fun v' W' s' g' r => k v' W' s' ⟨g.g.trans g'.g, g'.gens, g'.os, g'.tk⟩ r
  exact k'.tuple (t := s.toks) (fun a q => by obtain ⟨o, e⟩ := F.f.wf a q; exact ⟨o, hk a o e⟩) (VRs.ag (g.g.ag F.f.wf) h3) h2
noncomputable def eTupL : T G d fi → Pos → Pos → isBi G fi "tuple" = true → T G d fi := eBi "tuple" (.type "tuple") boot_tuple (fun M h => keeper_type M h _) _ primTup

noncomputable def kindO (o : O) : Kd := O.casesOn o (fun v => V.casesOn v .none (fun _ => .bool) (fun _ => .int) (fun _ => .str) (fun _ => .tup) (fun _ => .list)) (fun _ => .list) (fun _ => .list)
theorem isi_ok {X : FC} {W : WS} {φ : Nat → List Addr} {s : Shared} {ρ : Loc} {E : Value → Shared → Prop} {a : O} {a' : Value} {t : Ty} {Q : Value → Shared → Prop} (S : FS G d X) (F : At X W φ s ρ) (r : BR W s.heap a a') (ht : t ∈ G.ty)
    (fin : ∀ tk, s.toks ≤ tk → Q (.bool (isiK (kindO a) t)) { s with toks := tk }) : wpAny X.C.M X.A (call (.builtin "isinstance") [a', .type t.n]) Q E s := by
  have f0 := fin s.toks (Nat.le_refl _)
  have f1 := fin (s.toks + 1) (Nat.le_succ _)
  cases a with
  | own r' =>
    obtain ⟨p, rfl, vs, n, h1, _⟩ := r
    cases t
    · exact IsiPair.list_tuple h1 rfl f1
    · exact IsiPair.list_str h1 rfl f1
    · exact IsiPair.list_int h1 rfl f1
    · exact IsiPair.list_bool h1 rfl f1
    · exact IsiPair.list_list h1 rfl f0
  | own2 r' =>
    obtain ⟨p, as, rfl, vs, n, h1, _⟩ := r
    cases t
    · exact IsiPair.list_tuple h1 rfl f1
    · exact IsiPair.list_str h1 rfl f1
    · exact IsiPair.list_int h1 rfl f1
    · exact IsiPair.list_bool h1 rfl f1
    · exact IsiPair.list_list h1 rfl f0
  | val v =>
    cases v with
    | none =>
      cases r
      cases t
      · exact IsiPair.NoneType_tuple f1
      · exact IsiPair.NoneType_str f1
      · exact IsiPair.NoneType_int f1
      · exact IsiPair.NoneType_bool f1
      · exact IsiPair.NoneType_list f1
    | bool b =>
      cases r
      cases t
      · exact IsiPair.bool_tuple f1
      · exact IsiPair.bool_str f1
      · exact IsiPair.bool_int f0
      · exact IsiPair.bool_bool f0
      · exact IsiPair.bool_list f1
    | int i =>
      obtain ⟨_, rfl⟩ := r
      cases t
      · exact IsiPair.int_tuple f1
      · exact IsiPair.int_str f1
      · exact IsiPair.int_int f0
      · exact IsiPair.int_bool f1
      · exact IsiPair.int_list f1
    | str z =>
      obtain ⟨_, rfl, _⟩ := r
      cases t
      · exact IsiPair.str_tuple f1
      · exact IsiPair.str_str f0
      · exact IsiPair.str_int f1
      · exact IsiPair.str_bool f1
      · exact IsiPair.str_list f1
    | tup l =>
      obtain ⟨p, vs, m, rfl, _, h1, _⟩ := VR.tup r
      cases t
      · exact IsiPair.tuple_tuple h1 rfl f0
      · exact IsiPair.tuple_str h1 rfl f1
      · exact IsiPair.tuple_int h1 rfl f1
      · exact IsiPair.tuple_bool h1 rfl f1
      · exact IsiPair.tuple_list h1 rfl f1
    | lst l =>
      obtain ⟨p, vs, m, rfl, _, h1, _⟩ := VR.lst r
      cases t
      · exact IsiPair.list_tuple h1 rfl f1
      · exact IsiPair.list_str h1 rfl f1
      · exact IsiPair.list_int h1 rfl f1
      · exact IsiPair.list_bool h1 rfl f1
      · exact IsiPair.list_list h1 rfl f0
noncomputable def eIsi (a : T G d fi) (t : Ty) (p' p'' p : Pos) (h : (isBi G fi "isinstance" && isBi G fi t.s && G.ty.contains t) = true) : T G d fi :=
  .mk' (.Call (.Name "isinstance" p') [a.x, .Name t.s p''] [] p) (fun σ => bd (a.pk σ) fun x σ => pu (.val (.bool (isiK (kindO x) t))) σ) rfl
    (a.po.bd (R := fun x ρ o ρ' => o = .val (.bool (isiK (kindO x) t)) ∧ ρ = ρ') (fun x => .pu fun _ => ⟨rfl, rfl⟩) fun _ x _ _ _ hx q => by
      obtain ⟨rfl, rfl⟩ := q
      rw [Bool.and_eq_true, Bool.and_eq_true, List.contains_iff_mem] at h
      intro X E W φ s e S F Q kk
      refine PyProof.Rows.Call_ (bi_ok S F (e ▸ h.1.1) boot_isinstance ?_)
      rw [starEach_plain (xs := [a.x, .Name t.s p'']) (fun y q => by
        rcases List.mem_cons.mp q with rfl | q
        · exact a.pl
        · cases List.mem_singleton.mp q; rfl), backTo_plain]
      refine callW (K := X.C.K) (fun h _ => keeper_builtin _ h _) (PySem.Calls.spliced_cons (hx X E W φ s e S F _ fun x' W' φ' s' p' r' => PySem.Calls.spliced_cons (bi_ok S p'.f (e ▸ h.1.2) (boot_ty t) (PySem.Calls.spliced_nil ⟨p'.f.In S, ?_⟩))))
      exact isi_ok S p'.f r' h.2 fun tk ht => kk _ _ _ _ ⟨p'.f.toks tk ht, p'.ag, p'.vl⟩ (.val rfl)) fun _ => rfl

def CallOK (G : Gl) (d : Nat) (a : Addr) (args : List V) (o : O) : Prop := ∀ (C : Cx) (A : Around) (W : WS) (s : Shared) (vals : List Value) (R : Result → Shared → Prop), GOk G C → A.handled = none → A.depth + 2 * d + 9 ≤ recursionLimit → A.units + 20 * d + deep + 90 < cLine →
  (∀ b o, C.h.get? b = some o → s.heap.get? b = some o) → s.gens = #[] → (∀ f, G.fd.lookup a = some f → f.fi.pos = true → 0 < s.toks) → s.os = C.os → (∀ a, W a → ∃ o, s.heap.get? a = some o) → VRs W s.heap args vals → Aft W s (fun v' s' => R (.ok (.ret v')) s') o → codeAny C.M A (.call (.ref a) ⟨vals, []⟩) R s
def tkOk (G : Gl) (b : Bool) (a : Addr) : Bool := match G.fd.lookup a with
  | some f => !f.fi.pos || b
  | none => true
theorem tkOk_of {G : Gl} {b : Bool} {a : Addr} {f : FD} (h : tkOk G b a = true) (hf : G.fd.lookup a = some f) (hp : f.fi.pos = true) : b = true := by
  unfold tkOk at h; rw [hf] at h; simpa [hp] using h
noncomputable def eCall (x : Str) (a : Addr) (r : Rw G d fi) (p' p : Pos) (h : (fi.isGlob x && (G.fn.lookup x == some a) && tkOk G fi.pos a) = true) : T G d fi :=
  .mk' (.Call (.Name x p') r.xs [] p) (fun σ => bd (r.ev σ) fun vs σ => told Tk.r? (fun _ o => CallOK G d a vs o) id (fun _ ρ => ρ) σ) rfl
    (r.eo.bd (R := fun vs ρ o ρ' => CallOK G d a vs o ∧ ρ = ρ') (fun vs => Ok.told (f := Tk.r?) (p := fun _ o => CallOK G d a vs o) (r := id) (ρ := fun _ ρ => ρ) fun o ρ q => ⟨q, rfl⟩) fun _ vs _ o _ hs q => by
      obtain ⟨q, rfl⟩ := q
      rw [Bool.and_eq_true, Bool.and_eq_true, beq_iff_eq] at h
      intro X E W φ s e S F Q kk
      obtain ⟨g1, g2⟩ := S.g.fn x a h.1.2
      refine PyProof.Rows.Call_ (glob_ok S F (e ▸ h.1.1) g1 ?_)
      rw [r.back]
      refine callW (K := X.C.K) (fun h hX => PySem.W.keeps_K g2 h hX) (hs.2 X E W φ s e S F _ fun vs' W' φ' s' p' r' => ⟨p'.f.In S, wpAny_call ?_⟩)
      exact q X.C X.A W' s' _ _ S.g S.hd (by have := S.dp; omega) (by have := S.un; omega) (p'.f.keep S) p'.f.gens (fun f hf hp => p'.f.tk (e ▸ tkOk_of h.2 hf hp)) p'.f.os p'.f.f.wf r' (Aft.of p' kk)) fun _ => rfl
end
end Mine
end

section
open PySem
set_option autoImplicit false
set_option linter.unusedVariables false
namespace Mine
open PySem.W (Looks keepIn)

def asI : Option Nat → Option Int := Option.map fun n => (n : Int)
noncomputable def cut {α : Type} (l : List α) (lo hi : Option Nat) : List α := (Option.casesOn hi l fun h => l.take h : List α).drop (Option.casesOn lo 0 id)
section
variable {M : Model} {A : Around} {E : Value → Shared → Prop} {s : Shared}
theorem wpAny_slicePartIndex {v : Value} {k : Option Int} {Q : Option Int → Shared → Prop} (hv : IsPart v k) (h : Q k s) : wpAny M A (Builtin.Slice.slicePartIndex v) Q E s := by
  cases hv with
  | none => exact wpAny_pure h
  | int i t =>
    unfold Builtin.Slice.slicePartIndex
    rw [if_neg (show ¬ ((Value.int i t == Value.none) = true) from Bool.false_ne_true)]
    refine wpAny_bind (wpAny_specialOf (T := "int") (typeIs_int s i t) F.slot_int_index.lookup ?_)
    simp only [Option.isNone_some, Bool.false_eq_true, if_false]
    exact wpAny_bind (wpAny_of_eq (a := i) rfl (wpAny_pure h))
end
theorem cut_eq {α : Type} (l : List α) (lo hi : Option Nat) : cut l lo hi = (l.drop (min (lo.getD 0) l.length)).take (min (hi.getD l.length) l.length - min (lo.getD 0) l.length) := by
  have e : ∀ a : Nat, (lo.getD 0) = a → cut l lo hi = (Option.casesOn hi l fun h => l.take h : List α).drop a := by intro a h; subst h; cases lo <;> rfl
  rw [e _ rfl]
  generalize lo.getD 0 = a
  cases hi with
  | none =>
    show l.drop a = _
    simp only [Option.getD_none, Nat.min_self]
    rw [List.take_of_length_le (by rw [List.length_drop]; omega)]
    by_cases h : a ≤ l.length
    · rw [Nat.min_eq_left h]
    · rw [Nat.min_eq_right (by omega), List.drop_of_length_le (by omega), List.drop_of_length_le (Nat.le_refl _)]
  | some b =>
    show (l.take b).drop a = _
    simp only [Option.getD_some]
    by_cases h : a ≤ l.length
    · rw [Nat.min_eq_left h, List.drop_take]
      by_cases h2 : b ≤ l.length
      · rw [Nat.min_eq_left h2]
      · rw [Nat.min_eq_right (by omega), List.take_of_length_le (by rw [List.length_drop]; omega), List.take_of_length_le (by rw [List.length_drop]; omega)]
    · have h3 : min a l.length = l.length := by omega
      rw [h3, List.drop_of_length_le (by rw [List.length_take]; omega), List.drop_of_length_le (Nat.le_refl _)]; simp
theorem slicePick_cut (items : Array Value) (lo hi : Option Nat) : slicePick items (asI lo) (asI hi) none = (cut items.toList lo hi).toArray := by
  rw [slicePick_plain, cut_eq]
  cases lo <;> cases hi <;> simp [asI, clipAt_nat]
theorem cut_length_le {α : Type} (l : List α) (lo hi : Option Nat) : (cut l lo hi).length ≤ l.length := by
  rw [cut_eq, List.length_take, List.length_drop]; omega
theorem VRs.cut {W : WS} {h : Heap} {l : List V} {l' : List Value} (r : VRs W h l l') (lo hi : Option Nat) : VRs W h (Mine.cut l lo hi) (Mine.cut l' lo hi) := by
  unfold Mine.cut
  cases hi with
  | none => exact r.drop _
  | some n => exact (r.take n).drop _
theorem str_cut (z : List Nat) (lo hi : Option Nat) : (Builtin.Str.strSliceIndices (asI lo) (asI hi) 1 z.length).filterMap (z.toArray[·]?) = Mine.cut z lo hi ∧ (Builtin.Str.strSliceIndices (asI lo) (asI hi) 1 z.length).length = (Mine.cut z lo hi).length := by
  have h : Builtin.Str.strSliceIndices (asI lo) (asI hi) 1 z.length = sliceRange (sliceBounds (asI lo) (asI hi) none z.length).1 (sliceBounds (asI lo) (asI hi) none z.length).2.1 1 := by
    cases lo <;> cases hi <;> rfl
  rw [h, sliceBounds_plain]
  simp only
  rw [sliceRange_one, pick_run, cut_eq, List.length_map, List.length_range, List.length_take, List.length_drop]
  cases lo <;> cases hi <;> simp [asI, clipAt_nat] <;> omega

def PR (x : Option Int) (v : Value) : Prop := Option.casesOn x (v = .none) fun i => ∃ t, v = .int i t
noncomputable def bds (x : Option Int) : Option Nat := Option.casesOn x none fun i => some i.toNat
noncomputable def bdo (x : Option Int) (ps : List Prop) : List Prop := Option.casesOn x ps fun i => (0 ≤ i ∧ i ≤ 1000000) :: ps
theorem bdo_all {x : Option Int} {ps : List Prop} (h : All (bdo x ps)) : All ps ∧ ∀ v, PR x v → IsPart v (asI (bds x)) ∧ ∃ q : Option (Int × Tok), v = partValue q ∧ q.map (·.1) = asI (bds x) := by
  cases x with
  | none => exact ⟨h, fun v r => by cases r; exact ⟨.none, none, rfl, rfl⟩⟩
  | some i =>
    have h1 : 0 ≤ i := h.1.1
    have e : asI (bds (some i)) = some i := congrArg some (Int.toNat_of_nonneg h1)
    refine ⟨h.2, fun v r => ?_⟩
    obtain ⟨t, rfl⟩ := r
    rw [e]
    exact ⟨.int i t, some (i, t), rfl, rfl⟩

section
variable {G : Gl} {d : Nat} {fi : FI}
def BdG (G : Gl) (d : Nat) (fi : FI) (x : Option Expr) (ρ : Loc) (b : Option Int) (ρ' : Loc) : Prop := ∀ (X : FC) (E : Value → Shared → Prop) (W : WS) (φ : Nat → List Addr) (s : Shared), X.fi = fi → FS G d X → At X W φ s ρ →
  ∀ Q : Value → Shared → Prop, (∀ v' W' φ' s', Pst X W s W' φ' s' ρ' → PR b v' → Q v' s') → wpAny X.C.M X.A (evalPart x X.env) Q E s
structure Bd (G : Gl) (d : Nat) (fi : FI) where
  x : Option Expr
  ev : St → Option (Option Int × St)
  eo : Ok ev (BdG G d fi x)
noncomputable def dNone : Bd G d fi := ⟨none, pu none, .pu fun _ X E W φ s e S F Q k => wpAny_pure (k _ _ _ _ (.refl F) rfl)⟩
noncomputable def dSome (a : T G d fi) : Bd G d fi := ⟨some a.x, fun σ => bd (a.ev σ) fun x σ => x.frz.int?.bind fun i => pu (some i) σ,
  a.eo.bd (R := fun x ρ b ρ' => ∃ i, x.frz = .int i ∧ b = some i ∧ ρ = ρ') (fun x σ b σ' e q => by
    obtain ⟨i, e1, e⟩ := Option.bind_eq_some_iff.mp e; cases e; exact ⟨q, i, V.int_of e1, rfl, rfl⟩) fun _ x _ _ _ h q X E W φ s e S F Q k => by
      obtain ⟨i, hx, rfl, rfl⟩ := q
      exact h.v X E W φ s e S F _ fun v' W' φ' s' p' r' => k _ _ _ _ p' (by rw [hx] at r'; exact r')⟩
noncomputable def kSlc (v : V) (lo hi : Option Int) : Option (O × List Prop) := V.casesOn v none (fun _ => none) (fun _ => none) (fun z => some (.val (.str (cut z (bds lo) (bds hi))), bdo lo (bdo hi []))) (fun l => some (.val (.tup (cut l (bds lo) (bds hi))), bdo lo (bdo hi [])))
  (fun l => some (.own (cut l (bds lo) (bds hi)).reverse, bdo lo (bdo hi [])))

theorem adjust_eq (lo hi : Option Nat) (n : Nat) : Builtin.Slice.sliceAdjust (asI lo) (asI hi) 1 (n : Int) = (((min (lo.getD 0) n : Nat) : Int), ((min (hi.getD n) n : Nat) : Int)) := by
  unfold Builtin.Slice.sliceAdjust asI
  cases lo <;> cases hi <;> simp <;> omega
theorem places_eq (a b : Nat) : Builtin.Slice.slicePlaces (a : Int) (b : Int) 1 = b - a := by
  unfold Builtin.Slice.slicePlaces
  simp only [Int.zero_lt_one, if_true, gt_iff_lt]
  split <;> omega
theorem range_pick (xs : Array Value) (a k : Nat) : ((List.range k).filterMap fun (i : Nat) => xs[((a : Int) + (i : Int) * 1).toNat]?) = (xs.toList.drop a).take k := by
  rw [← pick_run xs a k, List.filterMap_map]
  congr 1
  funext i
  have : ((a : Int) + (i : Int) * 1).toNat = a + i := by omega
  rw [this]; rfl
theorem tuple_getitem_slice (l : Addr) (items : Array Value) (n : Nat) (a : Addr) (vl vu : Value) (lo hi : Option Nat) (pl : IsPart vl (asI lo)) (pu : IsPart vu (asI hi)) (hz : items.size ≤ sizeLine) :
    Meets (Builtin.«tuple.__getitem__» ⟨[.ref l, .ref a], []⟩)
      (fun _ R s => s.heap.get? l = some (tupO items n) ∧ s.heap.IsSliceOf a vl vu .none ∧ (cut items.toList lo hi = items.toList → R (.ok (.ret (.ref l))) s) ∧
        R (.ok (.ret (.ref s.heap.objs.size))) { s with heap := s.heap.push (tupO (cut items.toList lo hi).toArray 0) }) :=
  .of_wp fun prog w A R s h => by
    obtain ⟨hl, hs, h1, h2⟩ := h
    obtain ⟨os, hos, hcs, hds⟩ := id hs
    have hTs : s.TypeIs (.ref a) "slice" := ⟨os, hos, hcs⟩
    have hT : s.TypeIs (.ref l) "tuple" := ⟨_, hl, rfl⟩
    unfold Builtin.«tuple.__getitem__»
    show wpAny _ _ (Builtin.Tuple.tupleItemsOf (.ref l) >>= _) _ _ s
    refine wpAny_bind (wpAny_tupleItemsOf hl rfl ?_)
    refine wpAny_bind (wpAny_typeOf hTs ?_)
    rw [if_pos (by decide)]
    unfold Builtin.Slice.sliceApplied Builtin.Slice.sliceFields
    refine wpAny_bind (wpAny_bind (wpAny_bind (wpAny_field hos hds (x := vl) rfl (wpAny_bind (wpAny_field hos hds (x := vu) rfl (wpAny_bind (wpAny_field hos hds (x := .none) rfl (wpAny_pure ?_))))))))
    refine wpAny_bind (wpAny_slicePartIndex .none ?_)
    rw [if_neg (by decide)]
    refine wpAny_bind (wpAny_slicePartIndex pl (wpAny_bind (wpAny_slicePartIndex pu (wpAny_bind (wpAny_pure ?_)))))
    simp only [Option.getD_none]
    rw [adjust_eq]
    refine wpAny_pure ?_
    simp only [places_eq]
    have hc : ((List.range (min (hi.getD items.size) items.size - min (lo.getD 0) items.size)).filterMap fun (k : Nat) => items[(((min (lo.getD 0) items.size : Nat) : Int) + (k : Int) * 1).toNat]?) = cut items.toList lo hi := by
      rw [range_pick, cut_eq]; simp
    have fin : wpAny (model prog w) A.in1 (do let x ← Builtin.Tuple.tupleExact ((List.range (min (hi.getD items.size) items.size - min (lo.getD 0) items.size)).filterMap fun (k : Nat) => items[(((min (lo.getD 0) items.size : Nat) : Int) + (k : Int) * 1).toNat]?).toArray; ret x)
        (fun fin s' => ∃ v, fin = .done (.ret v) ∧ R (.ok (.ret v)) s') (fun e s' => R (.error e) s') s := by
      rw [hc]
      refine wpAny_bind (wpAny_newObj_type (wpAny_pure ⟨_, rfl, h2⟩) ?_)
      show (cut items.toList lo hi).toArray.size ≤ sizeLine
      rw [List.size_toArray]
      exact Nat.le_trans (cut_length_le _ _ _) (by simpa using hz)
    refine wpAny_ite ?_
    split
    · rename_i q
      simp only [Bool.and_eq_true, beq_iff_eq] at q
      refine wpAny_bind (wpAny_bind (wpAny_typeOf hT (wpAny_pure ?_)))
      rw [if_pos (by decide)]
      refine wpAny_bind (wpAny_rule (wpAny_pure ⟨_, rfl, h1 ?_⟩))
      rw [cut_eq]
      have h0 : min (lo.getD 0) items.toList.length = 0 := by have := q.1.1; simp at this ⊢; omega
      rw [h0, List.drop_zero]
      refine List.take_of_length_le ?_
      have := q.2
      simp only [Array.length_toList] at h0 ⊢
      omega
    · exact fin

theorem slc_ok {C : Cx} {A : Around} {E : Value → Shared → Prop} {W : WS} {s : Shared} {v : V} {v' vl vu : Value} {lo hi : Option Int} {o : O} {ps : List Prop} {value : Expr} {lower upper : Option Expr} {p : Pos} {Q : Value → Shared → Prop} {sl : Addr} (wf : ∀ a, W a → ∃ o, s.heap.get? a = some o) (r : VR W s.heap v v')
    (rl : PR lo vl) (ru : PR hi vu) (e : kSlc v lo hi = some (o, ps)) (hq : All ps) (hsl : s.heap.IsSliceOf sl vl vu .none) (k : Aft W s Q o) : wpAny C.M A (PyProof.Rows.subscriptTail value (.Slice lower upper none p) v' (.ref sl)) Q E s := by
  have hss := sizeLine_lt
  have hsub : ∀ o i : Value, subscripted (.Slice lower upper none p) false o i = operate [i, o] (getItem o i) := fun _ _ => rfl
  cases v <;> first | cases e | skip
  · rename_i z
    obtain ⟨hq, b1⟩ := bdo_all hq
    obtain ⟨_, ql, rfl, ql2⟩ := b1 _ rl
    obtain ⟨_, qu, rfl, qu2⟩ := (bdo_all hq).2 _ ru
    obtain ⟨t1, rfl, ok, hz⟩ := r
    generalize bds lo = nlo at *
    generalize bds hi = nhi at *
    have hcl := cut_length_le z nlo nhi
    obtain ⟨hc1, hc2⟩ := str_cut z nlo nhi
    have hpk : slicePicked ⟨z.toArray⟩ ql qu none = Builtin.Str.strSliceIndices (asI nlo) (asI nhi) 1 z.length := by
      unfold slicePicked
      rw [ql2, qu2]; simp [Str.length]
    have hok : PyData.strOk ⟨(Mine.cut z nlo nhi).toArray⟩ = true := strOk_of ok fun c hc => by
      rw [cut_eq] at hc; exact List.mem_of_mem_drop (List.mem_of_mem_take hc)
    refine PyProof.Rows.tail_any (T := "str") (typeIs_str s _ t1) F.slot_str_getitem.lookup (wpAny_getItem_str_slice (l := ql) (u := qu) (st := none) ?_ rfl ?_) (hsub _ _)
    · obtain ⟨o, a1, a2, a3⟩ := hsl; exact ⟨o, a1, a2, a3⟩
    · unfold sliceMade
      rw [hpk]
      split
      · rename_i q
        simp only [Option.map_none, Option.getD_none, beq_self_eq_true, Bool.true_and, beq_iff_eq] at q
        rw [hc2] at q
        have hcz : Mine.cut z nlo nhi = z := by
          have q : (Mine.cut z nlo nhi).length = z.length := by simpa [Str.length] using q
          rw [cut_eq, List.length_take, List.length_drop] at q
          rw [cut_eq]
          have h0 : z.length = 0 ∨ min (nlo.getD 0) z.length = 0 := by omega
          rcases h0 with h0 | h0
          · rw [List.length_eq_zero_iff.mp h0]; simp
          · rw [h0, List.drop_zero]; exact List.take_of_length_le (by omega)
        rw [hcz] at k
        exact k.here (t := s.toks) wf ⟨_, rfl, ok, hz⟩
      · have hm : ((Builtin.Str.strSliceIndices (asI nlo) (asI nhi) 1 z.length).filterMap ((⟨z.toArray⟩ : Str).cps[·]?)) = Mine.cut z nlo nhi := hc1
        rw [hm]
        exact ⟨by simp [Str.length]; omega, k.here wf ⟨_, rfl, hok, by omega⟩⟩
  · rename_i l
    obtain ⟨hq, b1⟩ := bdo_all hq
    obtain ⟨pl, _⟩ := b1 _ rl
    obtain ⟨pu, _⟩ := (bdo_all hq).2 _ ru
    obtain ⟨ad, vs, n, rfl, hw, h1, h2, h3⟩ := VR.tup r
    generalize bds lo = nlo at *
    generalize bds hi = nhi at *
    have hcr := h3.cut nlo nhi
    have hcl := cut_length_le l nlo nhi
    refine PyProof.Rows.tail_any (T := "tuple") ⟨_, h1, rfl⟩ F.slot_tuple_getitem.lookup (getItem_meets ⟨_, h1, rfl⟩ (by decide) F.slot_tuple_getitem F.entry_tuple_getitem (F.args_tuple_getitem_2 _ _)
      (tuple_getitem_slice ad vs n sl vl vu nlo nhi pl pu (by rw [h3.size]; exact h2)) ⟨h1, hsl, fun hw' => ?_, ?_⟩) (hsub _ _)
    · refine k.here (t := s.toks) wf ⟨ad, vs, n, rfl, hw, h1, by omega, ?_⟩
      rw [hw'] at hcr; exact hcr
    · exact k.tuple (t := s.toks) wf (by simpa using hcr) (by omega)
  · rename_i l
    obtain ⟨hq, b1⟩ := bdo_all hq
    obtain ⟨pl, _⟩ := b1 _ rl
    obtain ⟨pu, _⟩ := (bdo_all hq).2 _ ru
    obtain ⟨ad, vs, n, rfl, hw, h1, h2, h3⟩ := VR.lst r
    generalize bds lo = nlo at *
    generalize bds hi = nhi at *
    have hcr := h3.cut nlo nhi
    have hcl := cut_length_le l nlo nhi
    refine PyProof.Rows.tail_any (T := "list") ⟨_, h1, rfl⟩ F.slot_list_getitem.lookup (wpAny_getItem_list_slice ⟨_, h1, rfl, _, rfl⟩ hsl pl pu .none (by simp) (k.list (t := s.toks) wf ?_ (by rw [List.length_reverse]; omega)) (by rw [h3.size]; exact h2)) (hsub _ _)
    rw [slicePick_cut, List.reverse_reverse]; simpa using hcr
noncomputable def eSlc (a : T G d fi) (lo hi : Bd G d fi) (p' p : Pos) : T G d fi :=
  .mk' (.Subscript a.x (.Slice lo.x hi.x none p') p) (fun σ => bd (a.ev σ) fun x σ => bd (lo.ev σ) fun l σ => bd (hi.ev σ) fun h σ => rt (kSlc x.frz l h) σ) rfl
    (a.eo.bd (R := fun x ρ o ρ' => ∃ l h ρ₁ ps, BdG G d fi lo.x ρ l ρ₁ ∧ BdG G d fi hi.x ρ₁ h ρ' ∧ kSlc x.frz l h = some (o, ps) ∧ All ps) (fun x => lo.eo.bd (R := fun l ρ o ρ' => ∃ h ps, BdG G d fi hi.x ρ h ρ' ∧ kSlc x.frz l h = some (o, ps) ∧ All ps)
      (fun l => hi.eo.bd (R := fun h ρ o ρ' => ∃ ps, kSlc x.frz l h = some (o, ps) ∧ All ps ∧ ρ = ρ') (fun h => .rt fun o ps ρ e q => ⟨ps, e, q, rfl⟩) fun _ h _ _ _ z q => by obtain ⟨ps, q1, q2, rfl⟩ := q; exact ⟨h, ps, z, q1, q2⟩)
      fun _ l ρ₁ _ _ z q => by obtain ⟨h, ps, q1, q2, q3⟩ := q; exact ⟨l, h, ρ₁, ps, z, q1, q2, q3⟩) fun _ x _ _ _ z q => by
      obtain ⟨l, h, ρ₁, ps, hl, hh, q1, q2⟩ := q
      intro X E W φ s e S F Q kk
      refine PyProof.Rows.Subscript_ (z.v X E W φ s e S F _ fun x' W₁ φ₁ s₁ p₁ r₁ => wpAny_Slice (hl X E W₁ φ₁ s₁ e S p₁.f _ fun l' W₂ φ₂ s₂ p₂ r₂ => hh X E W₂ φ₂ s₂ e S p₂.f _ fun h' W₃ φ₃ s₃ p₃ r₃ => wpAny_pure ?_))
      have hk : ∀ a o, s₃.heap.get? a = some o → (s₃.heap.push { cls := .type "slice", data := .fields #[l', h', .none] }).get? a = some o := fun _ _ q => Heap.get?_push_of_some _ q
      have g := Gs.of (t := s₃.toks) p₃.f.f.wf hk
      have p4 := Pst.gs p₃.f g
      exact slc_ok (s := { s₃ with heap := _ }) p4.f.f.wf (((r₁.ag p₂.ag).ag p₃.ag).ag p4.ag) r₂ r₃ q1 q2 (Heap.IsSliceOf.new ..) (Aft.of (((p₁.trans p₂).trans p₃).trans p4) kk)) fun _ => rfl
end
end Mine
end

section
open PySem
set_option autoImplicit false
set_option linter.unusedVariables false
namespace Mine
open PySem.W (Looks keepIn)

theorem rev_pick (z : List Nat) : (Builtin.Str.strSliceIndices none none (-1) z.length).filterMap (z.toArray[·]?) = z.reverse := by
  have h : Builtin.Str.strSliceIndices none none (-1) z.length = (List.range z.length).map fun (k : Nat) => z.length - 1 - k := by
    show sliceRange ((z.length : Int) - 1) (-1) (-1) = _
    unfold sliceRange
    have hc : (if ((z.length : Int) - 1) > -1 then ((z.length : Int) - 1 - -1 - -1 - 1) / (- -1) else 0).toNat = z.length := by
      have e : ((z.length : Int) - 1 - -1 - -1 - 1) / (- -1) = z.length := by
        rw [show (- -1 : Int) = 1 by decide, Int.ediv_one]; omega
      rw [e]; split <;> omega
    simp only [show ¬ ((-1 : Int) > 0) by decide, if_false, hc]
    refine List.map_congr_left fun k hk => ?_
    rw [List.mem_range] at hk
    omega
  rw [h, List.filterMap_map]
  have key : ∀ n ≤ z.length, (List.range n).filterMap ((fun x => z.toArray[x]?) ∘ fun k => z.length - 1 - k) = (z.reverse).take n := by
    intro n
    induction n with
    | zero => intro _; simp
    | succ n ih =>
      intro hn
      rw [List.range_succ, List.filterMap_append, ih (by omega), List.take_add_one]
      congr 1
      have : n < z.length := by omega
      rw [List.getElem?_reverse this]
      simp only [List.filterMap_cons, List.filterMap_nil, Function.comp, List.getElem?_toArray]
      cases z[z.length - 1 - n]? <;> rfl
  rw [key z.length (Nat.le_refl _), ← List.length_reverse, List.take_length]

section
variable {G : Gl} {d : Nat} {fi : FI}
noncomputable def eRev (a : T G d fi) (k : Nat) (p1 p2 p' p : Pos) : T G d fi :=
  .mk' (.Subscript a.x (.Slice none none (some (.UnaryOp .USub (.Constant (.int 1) k p1) p2)) p') p) (fun σ => bd (a.ev σ) fun x σ => rt (x.frz.str?.bind fun z => some (.val (.str z.reverse), [])) σ) rfl
    (a.eo.bd (R := fun x ρ o ρ' => ∃ z, x.frz = .str z ∧ o = .val (.str z.reverse) ∧ ρ = ρ') (fun x => .rt fun o ps ρ e q => by
      obtain ⟨z, e1, e⟩ := Option.bind_eq_some_iff.mp e; cases e; exact ⟨z, V.str_of e1, rfl, rfl⟩) fun _ x _ _ _ h q => by
      obtain ⟨z, hx, rfl, rfl⟩ := q
      intro X E W φ s e S F Q kk
      refine PyProof.Rows.Subscript_ (h.v X E W φ s e S F _ fun x' W' φ' s' p' r' => wpAny_Slice ?_)
      refine wpAny_pure (wpAny_pure (wpAny_UnaryOp (wpAny_Constant_int (PySem.P.neg_int ?_))))
      rw [hx] at r'
      obtain ⟨t, rfl, ok, hz⟩ := r'
      have hk : ∀ a o, s'.heap.get? a = some o → (s'.heap.push { cls := .type "slice", data := .fields #[.none, .none, .int (-1) (s'.toks + 1)] }).get? a = some o := fun _ _ q => Heap.get?_push_of_some _ q
      have p4 := Pst.gs p'.f (Gs.of (t := s'.toks + 1 + 1) p'.f.f.wf hk (Nat.le_add_right _ 2))
      refine PyProof.Rows.tail_any (T := "str") (ops := [_, _]) (typeIs_str _ _ t) PySem.F.slot_str_getitem.lookup (wpAny_getItem_str_slice (l := none) (u := none) (st := some (-1, s'.toks + 1)) ⟨_, Heap.get?_push_size _ rfl, rfl, rfl⟩ rfl ?_) rfl
      unfold sliceMade
      rw [if_neg (by simp)]
      have hm : (slicePicked ⟨z.toArray⟩ none none (some (-1, s'.toks + 1))).filterMap ((⟨z.toArray⟩ : Str).cps[·]?) = z.reverse := by
        have e : slicePicked ⟨z.toArray⟩ none none (some (-1, s'.toks + 1)) = Builtin.Str.strSliceIndices none none (-1) z.length := by
          unfold slicePicked; simp [Str.length]
        rw [e]; exact rev_pick z
      rw [hm]
      have hok : PyData.strOk ⟨z.reverse.toArray⟩ = true := strOk_of ok fun c hc => by simpa using hc
      exact ⟨by simp [Str.length]; omega, (Aft.of (p'.trans p4) kk).here p4.f.f.wf ⟨_, rfl, hok, by simpa using hz⟩⟩) fun _ => rfl

noncomputable def textsOf (l : List V) : Option (List (List Nat)) := @List.rec V (fun _ => Option (List (List Nat))) (some []) (fun v _ r => v.str?.bind fun s => r.bind fun t => some (s :: t)) l
noncomputable def joinS (sep : List Nat) (l : List (List Nat)) : List Nat := @List.rec (List Nat) (fun _ => List Nat) [] (fun x r t => List.casesOn r x fun _ _ => x ++ sep ++ t) l
theorem strs_are {W : WS} {h : Heap} : ∀ {l : List V} {l' : List Value} {ss : List (List Nat)}, VRs W h l l' → textsOf l = some ss → PyProof.Rows.StrsAre l' (ss.map fun z => (⟨z.toArray⟩ : Str)) ∧ ∀ z ∈ ss, PyData.strOk ⟨z.toArray⟩ = true
  | [], _, _, r, e => by cases r; cases e; exact ⟨.nil, by simp⟩
  | v :: l, _, _, r, e => by
    obtain ⟨v', r', rfl, rv, rl⟩ := VRs.inv r
    obtain ⟨z, e1, e⟩ := Option.bind_eq_some_iff.mp e
    obtain ⟨t, e2, e⟩ := Option.bind_eq_some_iff.mp e
    cases e
    rw [V.str_of e1] at rv
    obtain ⟨tk, rfl, ok, _⟩ := rv
    obtain ⟨a, b⟩ := strs_are rl e2
    exact ⟨.cons _ _ a, fun y hy => (List.mem_cons.mp hy).elim (fun e => e ▸ ok) (b y)⟩
theorem join_eq (sep : List Nat) : ∀ ss : List (List Nat), Txt.join ⟨sep.toArray⟩ (ss.map fun z => (⟨z.toArray⟩ : Str)) = ⟨(joinS sep ss).toArray⟩
  | [] => rfl
  | [x] => rfl
  | x :: y :: r => by
    have ih := join_eq sep (y :: r)
    have : Txt.join ⟨sep.toArray⟩ ((x :: y :: r).map fun z => (⟨z.toArray⟩ : Str)) = (⟨x.toArray⟩ : Str) ++ ⟨sep.toArray⟩ ++ Txt.join ⟨sep.toArray⟩ ((y :: r).map fun z => (⟨z.toArray⟩ : Str)) := by
      simp only [Txt.join, StrLaws.glued_eq_join, List.map_cons, Str.join]
    rw [this, ih, str_append, str_append]
    rfl
theorem join_mem (sep : List Nat) : ∀ ss : List (List Nat), ∀ c ∈ joinS sep ss, c ∈ sep ∨ ∃ z ∈ ss, c ∈ z
  | [], c, h => nomatch h
  | [x], c, h => .inr ⟨x, List.mem_cons_self, h⟩
  | x :: y :: r, c, h => by
    rcases List.mem_append.mp (show c ∈ x ++ sep ++ joinS sep (y :: r) from h) with h | h
    · rcases List.mem_append.mp h with h | h
      · exact .inr ⟨x, List.mem_cons_self, h⟩
      · exact .inl h
    · rcases join_mem sep (y :: r) c h with h | ⟨z, hz, hc⟩
      · exact .inl h
      · exact .inr ⟨z, List.mem_cons_of_mem _ hz, hc⟩
theorem join_len (sep : List Nat) : ∀ ss : List (List Nat), (joinS sep ss).length ≤ (ss.map List.length).sum + ss.length * sep.length
  | [] => Nat.zero_le _
  | [x] => by show x.length ≤ _; simp
  | x :: y :: r => by
    have ih := join_len sep (y :: r)
    show (x ++ sep ++ joinS sep (y :: r)).length ≤ _
    simp only [List.length_append, List.map_cons, List.sum_cons, List.length_cons] at ih ⊢
    have : (r.length + 1 + 1) * sep.length = (r.length + 1) * sep.length + sep.length := by rw [Nat.add_mul (r.length + 1) 1, Nat.one_mul]
    omega
theorem join_post {s : Shared} {sep : Str} {Q : Value → Shared → Prop} : ∀ (l : List (Str × Tok)), (Txt.join sep (l.map (·.1))).length ≤ sizeLine → (∀ t' k, s.toks ≤ k → Q (.str (Txt.join sep (l.map (·.1))) t') { s with toks := k }) → (joinMade sep l).post Q s
  | [], h, q => ⟨h, q _ _ (Nat.le_succ _)⟩
  | [p], _, q => q p.2 s.toks (Nat.le_refl _)
  | _ :: _ :: _, h, q => ⟨h, q _ _ (Nat.le_succ _)⟩
theorem join_mono {prog : Program} {w : World} {A : Around} {E : Value → Shared → Prop} {s : Shared} {x : Str} {t : Tok} {Q : Value → Shared → Prop} {D : Addr} {items : Array Value} {ys : List Str} (hl : s.heap.IsList D items) (hi : PyProof.Rows.StrsAre items.toList ys)
    (hok : (ys.map (·.length)).sum + ys.length * x.length ≤ 16777216) (h : ∀ t' k, s.toks ≤ k → Q (.str (Txt.join x ys) t') { s with toks := k }) : wpAny (model prog w) A (call (.builtin "str.join") [.str x t, .ref D]) Q E s := by
  obtain ⟨l, hv, ht⟩ := PyProof.Rows.strsAre_values hi
  have e : items = (strValues l).toArray := by rw [← hv]
  subst e ht
  have hk := PyProof.Rows.joinOk_of hok
  unfold JoinOk at hk
  rw [Bool.not_eq_true'] at hk
  exact call_meets F.slot_str_join (typeIs_str _ _ _) F.entry_str_join (F.args_str_join_2 _ _) (meets_str_join_list x t D l hk) ⟨hl, join_post l (joinFit_length hk) h⟩
theorem meth_str {X : FC} {E : Value → Shared → Prop} {s : Shared} {vv : Value} {pl : Sem Bool} {Q : Value × List Value → Shared → Prop} (hT : s.TypeIs vv "str") (hd : ∀ a, vv = .ref a → ∃ o, s.heap.get? a = some o ∧ o.dict = none) (h : Q (.builtin "str.join", [vv]) s) :
    wpAny X.C.M X.A (getMethod vv "join" pl) Q E s := getMethod_builtin hT PySem.F.plainAttrs_str PySem.F.slot_str_join PySem.F.type_str_join hd h
noncomputable def kJoin (x y : V) : Option (O × List Prop) := x.str?.bind fun sep => y.lst?.bind fun l => (textsOf l).bind fun ss => some (.val (.str (joinS sep ss)), [(ss.map List.length).sum + ss.length * sep.length ≤ room])
noncomputable def eJoin (x : Str) (sep : List Nat) (k : Nat) (sp : Pos) (b : T G d fi) (ap p : Pos) (ex : x = ⟨sep.toArray⟩) (h : (PyData.strOk ⟨sep.toArray⟩ && Nat.ble sep.length 1000 && (ap.endLine == p.line)) = true) : T G d fi :=
  .mk' (.Call (.Attribute (.Constant (.str x) k sp) "join" ap) [b.x] [] p) (fun σ => bd (b.ev σ) fun y σ => rt (kJoin (.str sep) y.frz) σ) rfl
    (b.eo.bd (R := fun y ρ o ρ' => ∃ ps, kJoin (.str sep) y.frz = some (o, ps) ∧ All ps ∧ ρ = ρ') (fun x => .rt fun o ps ρ e q => ⟨ps, e, q, rfl⟩) fun _ y _ _ _ hy q => by
      obtain ⟨ps, q1, q2, rfl⟩ := q
      subst ex
      rw [Bool.and_eq_true, Bool.and_eq_true] at h
      intro X E W φ s e S F Q kk
      refine method_call rfl (fun z q => by cases List.mem_singleton.mp q; exact b.pl) h.2 rfl fun pl => wpAny_Constant_str ?_
      generalize hvv : Value.str { cps := sep.toArray } s.toks = vv
      refine meth_str (by rw [← hvv]; exact typeIs_str _ _ _) (fun a q => by rw [← hvv] at q; cases q) (callW (K := X.C.K) (fun h _ => keeper_builtin _ h _) (PySem.Calls.spliced_cons (hy.v X E W φ { s with toks := s.toks + 1 } e S (F.toks _ (Nat.le_succ _)) _ fun y' W' φ' s' p' r' => PySem.Calls.spliced_nil ⟨p'.f.In S, ?_⟩)))
      subst hvv
      obtain ⟨_, z1, q1⟩ := Option.bind_eq_some_iff.mp q1
      cases z1
      obtain ⟨l, e1, q1⟩ := Option.bind_eq_some_iff.mp q1
      obtain ⟨ss, e2, q1⟩ := Option.bind_eq_some_iff.mp q1
      cases q1
      rw [V.lst_of e1] at r'
      obtain ⟨a, vs, n, rfl, _, h1, h2, h3⟩ := VR.lst r'
      obtain ⟨a1, a2⟩ := strs_are h3 e2
      have hjl := join_len sep ss
      have hq := Nat.le_trans q2.1 room_le
      refine join_mono ⟨_, h1, rfl, _, rfl⟩ a1 ?_ fun t' kk' hkk => ?_
      · have e2 : ((ss.map fun z => (⟨z.toArray⟩ : Str)).map (·.length)) = ss.map List.length := by simp [Str.length, Function.comp]
        rw [e2, List.length_map]
        have e3 : (⟨sep.toArray⟩ : Str).length = sep.length := by simp [Str.length]
        rw [e3]; exact hq
      · rw [join_eq]
        have p2 : Pst X W s W' φ' s' _ := ⟨p'.f, p'.ag, p'.vl⟩
        refine (Aft.of p2 kk).here p'.f.f.wf (show VR W' s'.heap (.str (joinS sep ss)) _ from ⟨_, rfl, ?_, by omega⟩)
        have ok := h.1.1
        simp [PyData.strOk]
        intro c hc
        rcases join_mem sep ss c hc with h | ⟨z, hz, hcz⟩
        · simp [PyData.strOk] at ok; exact ok c h
        · have := a2 z hz; simp [PyData.strOk] at this; exact this c hcz) fun _ => rfl

noncomputable def popV (i : Nat) (σ : St) : Option (O × St) := (slot σ.ρ i).bind fun o => O.casesOn o (fun _ => none) (fun r => List.casesOn r none fun v r => some (.val v, ⟨σ.ρ.set i (some (.own r)), σ.tp, σ.ob⟩)) fun _ => none
noncomputable def ePop (x : Str) (i : Nat) (xp ap p : Pos) (h : (fi.isVar x i && (ap.endLine == p.line)) = true) : T G d fi :=
  .mk' (.Call (.Attribute (.Name x xp) "pop" ap) [] [] p) (popV i) rfl (by
    intro σ a σ' e q
    obtain ⟨o, e1, e⟩ := Option.bind_eq_some_iff.mp e
    rw [Bool.and_eq_true] at h
    cases o with
    | val v => cases e
    | own2 r => cases e
    | own r =>
      cases r with
      | nil => cases e
      | cons v r =>
        cases e
        refine ⟨q, fun X E W φ s ef S F Q kk => method_call rfl (fun z q => by cases q) h.2 rfl fun pl => load_ok S F (ef ▸ h.1) (slot_some e1) fun x' hx hn hv rr => ?_⟩
        obtain ⟨ad, hp, rfl, vs, n, h1, h2, h3⟩ := rr
        refine getMethod_builtin (T := "list") ⟨_, h1, rfl⟩ PySem.F.plainAttrs_list PySem.F.slot_list_pop PySem.F.type_list_pop (fun a q => by cases q; exact ⟨_, h1, rfl⟩) ?_
        refine callW (K := X.C.K) (fun h _ => keeper_builtin _ h _) (PySem.Calls.spliced_nil ⟨F.In S, ?_⟩)
        have hs := h2.size
        rw [List.length_reverse] at hs
        have hz : vs.size - 1 = r.length := by rw [hs]; rfl
        rw [List.reverse_cons] at h2
        obtain ⟨v', g1, g2⟩ := h2.get (i := r.length) (v := v) (by rw [← List.length_reverse]; exact List.getElem?_concat_length)
        refine call_meets PySem.F.slot_list_pop ⟨_, h1, rfl⟩ PySem.F.entry_list_pop (PySem.F.args_list_pop_1 _) (MeetsSeq.list_pop_last ad vs n v' (by rw [hz, ← Array.getElem?_toList]; exact g1) (by rw [hs]; exact h3)) ⟨h1, ?_⟩
        have hd : (vs.eraseIdxIfInBounds (vs.size - 1)).toList = vs.toList.take r.length := by
          have : r.length + 1 = vs.toList.length := by rw [Array.length_toList]; exact hs.symm
          rw [Array.toList_eraseIdxIfInBounds, hz, List.eraseIdx_eq_dropLast this, List.dropLast_eq_take, ← this]; rfl
        have ht := h2.take r.length
        rw [show ((r.reverse ++ [v]).take r.length) = r.reverse by rw [← List.length_reverse]; exact List.take_left] at ht
        have hsb : Heap.SameBut ad s.heap (s.heap.update ad (Obj.mapSeq fun xs => xs.eraseIdxIfInBounds (vs.size - 1))) := Heap.SameBut.update ..
        obtain ⟨A, B⟩ := F.turn (x := x) (i := i) (t := s.toks) (r := r) (fun y hy => S.ti y x i hy hx) hp hsb hv (Heap.get?_update_self _ h1 rfl) (by rw [hd]; exact ht) (Nat.le_of_succ_le h3)
        refine kk _ _ _ _ ⟨A, B, fun y w hw => ?_⟩ (.val (g2.ag B))
        have hno := F.f.notOwn h1
        obtain ⟨q, m, ⟨o, es, ep, e, z⟩, hm⟩ | ⟨q, c, hc, o, e, z⟩ := hw
        · exact .inl ⟨q, m, ⟨o, es, ep, (hsb.2 _ (Ne.symm hno.1)).trans e, z⟩, hm⟩
        · exact .inr ⟨q, c, hc, o, (hsb.2 c fun e => hno.2 y (e ▸ hc)).trans e, z⟩) fun _ => rfl
end
end Mine
end

section
open PySem
set_option autoImplicit false
set_option linter.unusedVariables false
namespace Mine
open PySem.W (Looks keepIn)

structure Fre (X : FC) (W : WS) (φ : Nat → List Addr) (a : Addr) : Prop where
  pin : X.pin a = none
  w : ¬ W a
  mu : ¬ Mut X φ a
  nc : ∀ x, X.env.cells.lookup x ≠ some a
noncomputable def FC.pinned (X : FC) (a : Addr) (o : Obj) : FC := { X with pin := fun b => if b = a then some o else X.pin b, W0 := fun b => b ≠ a ∧ X.W0 b }

section
variable {G : Gl} {d : Nat} {X : FC} {W : WS} {φ : Nat → List Addr} {s : Shared} {ρ : Loc} {h' : Heap} {a : Addr} {o : Obj}
theorem Fre.of (F : At X W φ s ρ) (e : s.heap.get? a = none) : Fre X W φ a := by
  have nc : ∀ x, X.env.cells.lookup x ≠ some a := fun x m => by obtain ⟨o, _, z, _⟩ := F.f.cells x a m; rw [e] at z; cases z
  refine ⟨?_, fun q => ?_, fun m => ?_, nc⟩
  · cases q : X.pin a with
    | none => rfl
    | some o => have := F.f.pin a o q; rw [e] at this; cases this
  · obtain ⟨o, z⟩ := F.f.wf a q; rw [e] at z; cases z
  · rcases m with m | ⟨_, x, m⟩ | ⟨i, m⟩
    · obtain ⟨o, _, _, z, _⟩ := F.f.ns; rw [← m, e] at z; cases z
    · exact nc x m
    · obtain ⟨_, _, z⟩ := F.ow i a m; rw [e] at z; cases z
theorem At.move (F : At X W φ s ρ) {D : Addr → Prop} (f : ∀ b, D b → Fre X W φ b) {W' : WS} {t : Nat} (hk : ∀ b o, ¬ D b → s.heap.get? b = some o → h'.get? b = some o) (hw : ∀ b, W b → W' b) (wf : ∀ b, W' b → ∃ o, h'.get? b = some o) (nw : ∀ b o, ¬ D b → s.heap.get? b = some o → W' b → W b) (ht : s.toks ≤ t := by first | exact Nat.le_refl _ | assumption | exact Nat.le_succ _ | omega | (dsimp only; omega) | (dsimp only at *; omega)) :
    At X W' φ { s with heap := h', toks := t } ρ ∧ Ag W s.heap W' h' ∧ ∀ x v, Val X.env s.heap x v → Val X.env h' x v := by
  have ne : ∀ b, W b → ¬ D b := fun b q e => (f b e).w q
  have nm : ∀ b, Mut X φ b → ¬ D b := fun b q e => (f b e).mu q
  have ag : Ag W s.heap W' h' := ⟨hw, fun b q => by obtain ⟨o, e⟩ := F.f.wf b q; exact (hk b o (ne b q) e).trans e.symm⟩
  have val : ∀ x v, Val X.env s.heap x v → Val X.env h' x v := fun x v r => by
    obtain ⟨q, m, ⟨o, es, ep, e, z⟩, hm⟩ | ⟨q, c, hc, o, e, z⟩ := r
    · exact .inl ⟨q, m, ⟨o, es, ep, hk _ _ (nm _ (.inl rfl)) e, z⟩, hm⟩
    · exact .inr ⟨q, c, hc, o, hk _ _ (fun e => (f c e).nc x hc) e, z⟩
  have ow : ∀ i b, b ∈ φ i → ¬ D b := fun i b q => nm b (.inr (.inr ⟨i, q⟩))
  have np : ∀ b o, X.pin b = some o → ¬ D b := fun b o e q => by rw [(f b q).pin] at e; cases e
  refine ⟨⟨F.gens, F.os, ⟨fun b o e => hk b o (np b o e) (F.f.pin b o e), fun b q => ⟨(F.f.mu b q).1, fun w => (F.f.mu b q).2 ?_⟩, wf, fun b o e w => F.f.w0 b o e (nw b o (np b o e) (F.f.pin b o e) w), F.f.dis, ?_, fun x c q => ?_⟩, fun x i hx o ho hn => ?_, fun i b q => ?_, fun h => Nat.lt_of_lt_of_le (F.tk h) ht⟩, ag, val⟩
  · have : ∃ o, s.heap.get? b = some o := by
      rcases q with q | ⟨_, x, q⟩ | ⟨i, q⟩
      · obtain ⟨o, _, _, e, _⟩ := F.f.ns; exact ⟨o, q ▸ e⟩
      · obtain ⟨o, _, e, _⟩ := F.f.cells x b q; exact ⟨o, e⟩
      · obtain ⟨_, _, e⟩ := F.ow i b q; exact ⟨_, e⟩
    obtain ⟨o, e⟩ := this
    exact nw b o (nm b q) e w
  · obtain ⟨o, es, ep, e, z⟩ := F.f.ns; exact ⟨o, es, ep, hk _ _ (nm _ (.inl rfl)) e, z⟩
  · obtain ⟨o, v, e, z⟩ := F.f.cells x c q; exact ⟨o, v, hk c o (fun e => (f c e).nc x q) e, z⟩
  · obtain ⟨v', p, r⟩ := F.lr x i hx o ho hn
    exact ⟨v', val _ _ p, r.ag ag fun b q => by obtain ⟨_, _, e⟩ := F.ow i b q; exact (hk b _ (ow i b q) e).trans e.symm⟩
  · obtain ⟨vs, n, e⟩ := F.ow i b q; exact ⟨vs, n, hk b _ (ow i b q) e⟩
theorem At.loose (F : At X W φ s ρ) (f : Fre X W φ a) {t : Nat} (hk : ∀ b o, b ≠ a → s.heap.get? b = some o → h'.get? b = some o) (ht : s.toks ≤ t := by first | exact Nat.le_refl _ | assumption | exact Nat.le_succ _ | omega | (dsimp only; omega) | (dsimp only at *; omega)) :
    At X W φ { s with heap := h', toks := t } ρ ∧ Ag W s.heap W h' ∧ ∀ x v, Val X.env s.heap x v → Val X.env h' x v :=
  F.move (D := (· = a)) (fun b q => q ▸ f) hk (fun _ q => q) (fun b q => by obtain ⟨o, e⟩ := F.f.wf b q; exact ⟨o, hk b o (fun z => f.w (z ▸ q)) e⟩) (fun _ _ _ _ q => q) ht
theorem At.pinned (F : At X W φ s ρ) (f : Fre X W φ a) (e : s.heap.get? a = some o) : At (X.pinned a o) W φ s ρ where
  gens := F.gens
  os := F.os
  f := { F.f with
    pin := fun b o' q => by
      dsimp only [FC.pinned] at q
      split at q
      · rename_i z; cases q; rw [z]; exact e
      · exact F.f.pin b o' q
    mu := fun b q => by
      have q : Mut X φ b := q
      have z : b ≠ a := fun z => f.mu (z ▸ q)
      exact ⟨(if_neg z).trans (F.f.mu b q).1, (F.f.mu b q).2⟩
    w0 := fun b o' q w => by
      dsimp only [FC.pinned] at q ⊢
      split at q
      · rename_i z; exact absurd (z ▸ w) f.w
      · rename_i z; exact ⟨z, F.f.w0 b o' q w⟩ }
  lr := F.lr
  ow := F.ow
  tk := F.tk
theorem FC.pinned_ne {b : Addr} (h : b ≠ a) : (X.pinned a o).pin b = X.pin b := if_neg h
theorem FC.pinned_same : (X.pinned a o).pin a = some o := if_pos rfl
theorem At.unpin (F : At (X.pinned a o) W φ s ρ) (hp : X.pin a = none) (nc : ∀ x, X.env.cells.lookup x ≠ some a) : At X W φ s ρ ∧ Fre X W φ a ∧ s.heap.get? a = some o := by
  have ne : ∀ b, Mut X φ b → b ≠ a := fun b q e => by have := (F.f.mu b q).1; rw [e, FC.pinned_same] at this; cases this
  refine ⟨⟨F.gens, F.os, { F.f with pin := fun b o' q => F.f.pin b o' ?_, mu := fun b q => ⟨?_, (F.f.mu b q).2⟩, w0 := fun b o' q w => (F.f.w0 b o' ?_ w).2 }, F.lr, F.ow, F.tk⟩, ⟨hp, fun w => (F.f.w0 a o FC.pinned_same w).1 rfl, fun q => ne a q rfl, nc⟩, F.f.pin a o FC.pinned_same⟩
  · rw [FC.pinned_ne fun e => by rw [e, hp] at q; cases q]; exact q
  · rw [← FC.pinned_ne (ne b q)]; exact (F.f.mu b q).1
  · rw [FC.pinned_ne fun e => by rw [e, hp] at q; cases q]; exact q
theorem FS.pinned (S : FS G d X) (hp : X.pin a = none) : FS G d (X.pinned a o) :=
  ⟨S.g, fun b o' q => by rw [FC.pinned_ne fun e => by have := S.base b o' q; rw [e, hp] at this; cases this]; exact S.base b o' q, S.hd, S.dp, S.un, S.fn, S.gl, S.bi, S.nm, S.cel, S.inj, S.ti⟩
theorem RO.unpin {r : O} {v' : Value} {h : Heap} (x : RO (X.pinned a o) W φ h r v') : RO X W φ h r v' := by
  obtain ⟨p, x, y⟩ := x
  refine ⟨p, x, fun b q => ⟨(y b q).1, (y b q).2.1, ?_⟩⟩
  have z := (y b q).2.2
  rwa [FC.pinned_ne fun e => by rw [e, FC.pinned_same] at z; cases z] at z
end

noncomputable def rangeL (a : Int) (n : Nat) : List V := @Nat.rec (fun _ => Int → List V) (fun _ => []) (fun _ f a => .int a :: f (a + 1)) n a
noncomputable def range2L (a : Int) (n : Nat) : List V := @Nat.rec (fun _ => Int → List V) (fun _ => []) (fun _ f a => .int a :: f (a + 2)) n a
noncomputable def signsL (l : List Nat) : List V := @List.rec Nat (fun _ => List V) [] (fun c _ r => .str [c] :: r) l
inductive ItR (W : WS) (h : Heap) (it : Addr) : List V → Prop
  | list {a : Addr} {vs : Array Value} {n i : Nat} {l : List V} : h.IsListIter it a i → W a → h.get? a = some (lstO vs n) → VRs W h l (vs.toList.drop i) → ItR W h it l
  | rev {a : Addr} {vs : Array Value} {n i : Nat} {l : List V} : h.IsRevIter it a ((i : Int) - 1) → W a → h.get? a = some (lstO vs n) → i ≤ vs.size → VRs W h l (vs.toList.take i).reverse → ItR W h it l
  | range {a : Int} {n : Nat} : IsRangeIter h it a n 1 → ItR W h it (rangeL a n)
  | tup {a : Addr} {vs : Array Value} {n i : Nat} {l : List V} : h.IsTupleIter it a i → W a → h.get? a = some (tupO vs n) → VRs W h l (vs.toList.drop i) → ItR W h it l
  | range2 {a : Int} {n : Nat} : IsRangeIter h it a n 2 → ItR W h it (range2L a n)
  | str {b : Bool} {z : List Nat} {t : Tok} {i : Nat} {l : List V} : h.IsStrIter it (Bool.casesOn b "str_iterator" "str_ascii_iterator") ⟨z.toArray⟩ t i → PyData.strOk ⟨z.toArray⟩ = true → l = signsL (z.drop i) → ItR W h it l
section
variable {X : FC} {W : WS} {φ : Nat → List Addr} {s : Shared} {ρ : Loc} {it : Addr} {E : Value → Shared → Prop}
theorem ItR.ag {h h' : Heap} {W' : WS} {l : List V} (I : ItR W h it l) (g : Ag W h W' h') (e : h'.get? it = h.get? it) : ItR W' h' it l := by
  cases I with
  | list hit w ha r => obtain ⟨o, a, b⟩ := hit; exact .list ⟨o, e.trans a, b⟩ (g.w _ w) ((g.k _ w).trans ha) (r.ag g)
  | rev hit w ha hi r => obtain ⟨o, a, b⟩ := hit; exact .rev ⟨o, e.trans a, b⟩ (g.w _ w) ((g.k _ w).trans ha) hi (r.ag g)
  | range hit => exact .range (e.trans hit)
  | tup hit w ha r => obtain ⟨o, a, b⟩ := hit; exact .tup ⟨o, e.trans a, b⟩ (g.w _ w) ((g.k _ w).trans ha) (r.ag g)
  | range2 hit => exact .range2 (e.trans hit)
  | str hit ok r => obtain ⟨o, a, b⟩ := hit; exact .str ⟨o, e.trans a, b⟩ ok r
theorem ItR.at {h : Heap} {l : List V} (I : ItR W h it l) : ∃ o, h.get? it = some o := by
  cases I with
  | list hit w ha r => obtain ⟨o, a, b⟩ := hit; exact ⟨o, a⟩
  | rev hit w ha hi r => obtain ⟨o, a, b⟩ := hit; exact ⟨o, a⟩
  | range hit => exact ⟨_, hit⟩
  | tup hit w ha r => obtain ⟨o, a, b⟩ := hit; exact ⟨o, a⟩
  | range2 hit => exact ⟨_, hit⟩
  | str hit _ _ => obtain ⟨o, a, b⟩ := hit; exact ⟨o, a⟩
theorem ItR.self {l : List V} {C : Cx} {A : Around} {Q : Value → Shared → Prop} (I : ItR W s.heap it l) (h : Q (.ref it) s) : wpAny C.M A (pyIter (.ref it)) Q E s := by
  cases I with
  | list hit _ _ _ => exact wpAny_pyIter_listiter hit h
  | rev hit _ _ _ _ => exact wpAny_pyIter_revIter hit h
  | range hit => exact wpAny_pyIter_rangeiter hit h
  | tup hit _ _ _ => exact wpAny_pyIter_tupleiter hit h
  | range2 hit => exact wpAny_pyIter_rangeiter hit h
  | @str b _ _ _ _ hit _ _ => cases b with
    | false => exact wpAny_pyIter_striter_wide hit h
    | true => exact wpAny_pyIter_striter_ascii hit h
theorem ItR.next {l : List V} {Q : Option Value → Shared → Prop} (hh : X.A.handled = none) (F : At X W φ s ρ) (f : Fre X W φ it) (I : ItR W s.heap it l)
    (k : ∀ s', At X W φ s' ρ → Ag W s.heap W s'.heap → (∀ b o, b ≠ it → s.heap.get? b = some o → s'.heap.get? b = some o) → @List.casesOn V (fun _ => Prop) l (Q none s') (fun v r => ∀ v', VR W s'.heap v v' → ItR W s'.heap it r → Q (some v') s')) :
    wpAny X.C.M X.A (pyNext (.ref it)) Q E s := by
  have go : ∀ {h' : Heap} {t : Nat}, s.toks ≤ t → (∀ b o, b ≠ it → s.heap.get? b = some o → h'.get? b = some o) → Ag W s.heap W h' ∧ @List.casesOn V (fun _ => Prop) l (Q none { s with heap := h', toks := t }) (fun v r => ∀ v', VR W h' v v' → ItR W h' it r → Q (some v') { s with heap := h', toks := t }) := fun {h' t} ht hk => by
    obtain ⟨A, B, _⟩ := F.loose (t := t) f hk ht; exact ⟨B, k _ A B hk⟩
  have go' : ∀ {h' : Heap} {t : Nat}, Heap.SameBut it s.heap h' → s.toks ≤ t → _ := fun {h' t} hs ht => go (h' := h') (t := t) ht fun b o q e => (hs.2 b q).trans e
  cases I with
  | @list a vs n i l hit w ha r =>
    cases l with
    | nil =>
      refine wpAny_pyNext_list_end hh hit ⟨_, ha, rfl, _, rfl⟩ ?_ fun h' he' => (go (t := s.toks) (Nat.le_refl _) fun b o q e => he' b o q e).2
      have := congrArg List.length (show vs.toList.drop i = [] from r)
      rw [List.length_drop, Array.length_toList] at this
      exact Array.getElem?_eq_none (by simp at this; omega)
    | cons v l =>
      obtain ⟨v', r', e, rv, rl⟩ := VRs.inv r
      have hv : vs[i]? = some v' := by rw [← Array.getElem?_toList, ← Nat.add_zero i, ← List.getElem?_drop, e]; rfl
      have hr : r' = vs.toList.drop (i + 1) := by rw [← List.drop_drop, e]; rfl
      refine wpAny_pyNext_list_item hit ⟨_, ha, rfl, _, rfl⟩ hv fun h' hit' hs' => ?_
      obtain ⟨g, k⟩ := go' (t := s.toks) hs' (Nat.le_refl _)
      exact k v' (rv.ag g) (.list hit' w ((g.k _ w).trans ha) (hr ▸ rl.ag g))
  | @tup a vs n i l hit w ha r =>
    cases l with
    | nil =>
      refine wpAny_pyNext_tuple_end hh hit ⟨_, ha, rfl, _, rfl⟩ ?_ fun h' he' => (go (t := s.toks) (Nat.le_refl _) fun b o q e => he' b o q e).2
      have := congrArg List.length (show vs.toList.drop i = [] from r)
      rw [List.length_drop, Array.length_toList] at this
      exact Array.getElem?_eq_none (by simp at this; omega)
    | cons v l =>
      obtain ⟨v', r', e, rv, rl⟩ := VRs.inv r
      have hv : vs[i]? = some v' := by rw [← Array.getElem?_toList, ← Nat.add_zero i, ← List.getElem?_drop, e]; rfl
      have hr : r' = vs.toList.drop (i + 1) := by rw [← List.drop_drop, e]; rfl
      refine wpAny_pyNext_tuple_item hit ⟨_, ha, rfl, _, rfl⟩ hv fun h' hit' hs' => ?_
      obtain ⟨g, k⟩ := go' (t := s.toks) hs' (Nat.le_refl _)
      exact k v' (rv.ag g) (.tup hit' w ((g.k _ w).trans ha) (hr ▸ rl.ag g))
  | @rev a vs n i l hit w ha hi r =>
    cases i with
    | zero =>
      have hl : l = [] := by cases l with
        | nil => rfl
        | cons v l => obtain ⟨_, _, e, _⟩ := VRs.inv r; cases e
      subst hl
      exact wpAny_pyNext_rev_end hh (by simpa using hit) fun h' he' => (go (t := s.toks) (Nat.le_refl _) fun b o q e => he' b o q e).2
    | succ i =>
      have hlt : i < vs.toList.length := by rw [Array.length_toList]; exact hi
      rw [List.take_succ_eq_append_getElem hlt, List.reverse_append] at r
      cases l with
      | nil => cases (show _ = [] from r)
      | cons v l =>
        obtain ⟨v', r', e, rv, rl⟩ := VRs.inv r
        cases e
        have hit1 : s.heap.IsRevIter it a (i : Int) := by have : ((i + 1 : Nat) : Int) - 1 = i := by omega
                                                          rw [this] at hit; exact hit
        refine wpAny_pyNext_rev_item hit1 ⟨_, ha, rfl, _, rfl⟩ (x := vs.toList[i]) (by simp [hlt]) fun h' hit' hs' => ?_
        obtain ⟨g, k⟩ := go' (t := s.toks) hs' (Nat.le_refl _)
        exact k _ (rv.ag g) (.rev hit' w ((g.k _ w).trans ha) (Nat.le_of_succ_le hi) (rl.ag g))
  | @range a n hit =>
    cases n with
    | zero => exact wpAny_pyNext_range_end hh hit (by simp) fun h' he' => (go (t := s.toks) (Nat.le_refl _) fun b o q e => he' b o q e).2
    | succ n =>
      refine wpAny_pyNext_range_item hit (by omega) fun h' hit' hs' => ?_
      obtain ⟨g, k⟩ := go' (t := s.toks + 1) hs' (Nat.le_succ _)
      refine k _ ⟨_, rfl⟩ (.range ?_)
      have : ((n + 1 : Nat) : Int) - 1 = n := by omega
      rw [this] at hit'; exact hit'
  | @range2 a n hit =>
    cases n with
    | zero => exact wpAny_pyNext_range_end hh hit (by simp) fun h' he' => (go (t := s.toks) (Nat.le_refl _) fun b o q e => he' b o q e).2
    | succ n =>
      refine wpAny_pyNext_range_item hit (by omega) fun h' hit' hs' => ?_
      obtain ⟨g, k⟩ := go' (t := s.toks + 1) hs' (Nat.le_succ _)
      refine k _ ⟨_, rfl⟩ (.range2 ?_)
      have : ((n + 1 : Nat) : Int) - 1 = n := by omega
      rw [this] at hit'; exact hit'
  | @str b z t i l hit ok r =>
    cases hz : z.drop i with
    | nil =>
      rw [hz] at r
      subst r
      have hi : z.length ≤ i := by
        have := congrArg List.length hz
        rw [List.length_drop, List.length_nil] at this; omega
      cases b with
      | false => exact wpAny_pyNext_wide_end hh hit (by simp; omega) fun h' he' => (go (t := s.toks) (Nat.le_refl _) fun b o q e => he' b o q e).2
      | true => exact wpAny_pyNext_ascii_end hh hit (by simp; omega) fun h' he' => (go (t := s.toks) (Nat.le_refl _) fun b o q e => he' b o q e).2
    | cons c l' =>
      rw [hz] at r
      subst r
      have hc : z[i]? = some c := by rw [← Nat.add_zero i, ← List.getElem?_drop, hz]; rfl
      have hr : l' = z.drop (i + 1) := by rw [← List.drop_drop, hz]; rfl
      have hv : VR W s.heap (.str [c]) (.str ⟨#[c]⟩ s.toks) := ⟨_, rfl, strOk_of ok fun x hx => by simp at hx; subst hx; exact List.mem_of_getElem? hc, by show 1 ≤ sizeLine; decide⟩
      cases b with
      | false =>
        refine wpAny_pyNext_wide_item hit (c := c) (by simpa using hc) fun h' hit' hs' => ?_
        obtain ⟨g, k⟩ := go' (t := s.toks + 1) hs' (Nat.le_succ _)
        exact k _ (hv.ag g) (.str (b := false) hit' ok (hr ▸ rfl))
      | true =>
        refine wpAny_pyNext_ascii_item hit (c := c) (by simpa using hc) fun h' hit' hs' => ?_
        obtain ⟨g, k⟩ := go' (t := s.toks + 1) hs' (Nat.le_succ _)
        exact k _ (hv.ag g) (.str (b := true) hit' ok (hr ▸ rfl))
end

def ItG (G : Gl) (d : Nat) (fi : FI) (x : Expr) (ρ : Loc) (l : List V) (ρ' : Loc) : Prop := ∀ (X : FC) (E : Value → Shared → Prop) (W : WS) (φ : Nat → List Addr) (s : Shared), X.fi = fi → FS G d X → At X W φ s ρ →
  ∀ Q : Value → Shared → Prop, (∀ it W' φ' s', Pst X W s W' φ' s' ρ' → Fre X W' φ' it → ItR W' s'.heap it l → Q (.ref it) s') → wpAny X.C.M X.A (eval x X.env) (fun v s₁ => wpAny X.C.M X.A (pyIter v) Q E s₁) E s
structure It (G : Gl) (d : Nat) (fi : FI) where
  x : Expr
  ev : St → Option (List V × St)
  pl : plainX x = true
  eo : Ok ev (ItG G d fi x)
section
variable {G : Gl} {d : Nat} {fi : FI}
theorem Pst.push {X : FC} {W W' : WS} {φ' : Nat → List Addr} {s s' : Shared} {ρ' : Loc} (p : Pst X W s W' φ' s' ρ') (o : Obj) (t : Nat) (ht : s'.toks ≤ t := by first | exact Nat.le_refl _ | assumption | exact Nat.le_succ _ | omega | (dsimp only; omega) | (dsimp only at *; omega)) : Pst X W s W' φ' { s' with heap := s'.heap.push o, toks := t } ρ' ∧ Fre X W' φ' s'.heap.objs.size :=
  ⟨p.trans (.gs p.f (Gs.of p.f.f.wf (fun _ _ q => Heap.get?_push_of_some _ q) ht)), .of p.f (fresh_size _)⟩
noncomputable def iList (a : T G d fi) : It G d fi := ⟨a.x, fun σ => bd (a.ev σ) fun x σ => x.frz.lst?.bind fun l => pu l σ, a.pl,
  a.eo.bd (R := fun x ρ l ρ' => x.frz = .lst l ∧ ρ = ρ') (fun x σ l σ' e q => by obtain ⟨i, e1, e⟩ := Option.bind_eq_some_iff.mp e; cases e; exact ⟨q, V.lst_of e1, rfl⟩) fun _ x _ l _ h q X E W φ s e S F Q k => by
    obtain ⟨hx, rfl⟩ := q
    refine h.v X E W φ s e S F _ fun v' W' φ' s' p' r' => ?_
    rw [hx] at r'
    obtain ⟨b, vs, n, rfl, hw, h1, h2, h3⟩ := VR.lst r'
    refine wpAny_pyIter_list ⟨_, h1, rfl, _, rfl⟩ ?_
    obtain ⟨p2, f⟩ := p'.push { cls := .type "list_iterator", data := .fields #[.ref b, .int 0 0] } s'.toks
    have g : Ag W' s'.heap W' (s'.heap.push { cls := .type "list_iterator", data := .fields #[.ref b, .int 0 0] }) := (Gs.of (t := s'.toks) p'.f.f.wf fun _ _ q => Heap.get?_push_of_some _ q).g.ag p'.f.f.wf
    exact k _ _ _ _ p2 f (.list (i := 0) ⟨_, Heap.get?_push_size _ rfl, rfl, rfl⟩ hw ((g.k _ hw).trans h1) (h3.ag g))⟩
noncomputable def iTup (a : T G d fi) : It G d fi := ⟨a.x, fun σ => bd (a.ev σ) fun x σ => x.frz.tup?.bind fun l => pu l σ, a.pl,
  a.eo.bd (R := fun x ρ l ρ' => x.frz = .tup l ∧ ρ = ρ') (fun x σ l σ' e q => by obtain ⟨i, e1, e⟩ := Option.bind_eq_some_iff.mp e; cases e; exact ⟨q, V.tup_of e1, rfl⟩) fun _ x _ l _ h q X E W φ s e S F Q k => by
    obtain ⟨hx, rfl⟩ := q
    refine h.v X E W φ s e S F _ fun v' W' φ' s' p' r' => ?_
    rw [hx] at r'
    obtain ⟨b, vs, n, rfl, hw, h1, h2, h3⟩ := VR.tup r'
    refine wpAny_pyIter_tuple ⟨_, h1, rfl, _, rfl⟩ ?_
    obtain ⟨p2, f⟩ := p'.push { cls := .type "tuple_iterator", data := .fields #[.ref b, .int 0 0] } s'.toks
    have g : Ag W' s'.heap W' (s'.heap.push { cls := .type "tuple_iterator", data := .fields #[.ref b, .int 0 0] }) := (Gs.of (t := s'.toks) p'.f.f.wf fun _ _ q => Heap.get?_push_of_some _ q).g.ag p'.f.f.wf
    exact k _ _ _ _ p2 f (.tup (i := 0) ⟨_, Heap.get?_push_size _ rfl, rfl, rfl⟩ hw ((g.k _ hw).trans h1) (h3.ag g))⟩
noncomputable def iRev (a : T G d fi) (p' p : Pos) (hb : isBi G fi "reversed" = true) : It G d fi := ⟨.Call (.Name "reversed" p') [a.x] [] p, fun σ => bd (a.ev σ) fun x σ => O.casesOn x (fun v => v.lst?.bind fun l => pu l.reverse σ) (fun r => pu r σ) fun _ => none, rfl,
  a.eo.bd (R := fun x ρ l ρ' => x.frz = .lst l.reverse ∧ ρ = ρ') (fun x σ l σ' e q => by
    cases x with
    | val v => obtain ⟨i, e1, e⟩ := Option.bind_eq_some_iff.mp e; cases e; exact ⟨q, by rw [List.reverse_reverse]; exact V.lst_of e1, rfl⟩
    | own2 r => cases e
    | own r => cases e; exact ⟨q, rfl, rfl⟩) fun _ x _ l _ h q X E W φ s e S F Q k => by
    obtain ⟨hx, rfl⟩ := q
    refine PyProof.Rows.Call_ (bi_ok S F (e ▸ hb) boot_reversed ?_)
    rw [starEach_plain (xs := [a.x]) (fun y q => by cases List.mem_singleton.mp q; exact a.pl), backTo_plain]
    refine callW (K := X.C.K) (fun h _ => keeper_type _ h _) (PySem.Calls.spliced_cons (h.v X E W φ s e S F _ fun v' W' φ' s' p' r' => PySem.Calls.spliced_nil ⟨p'.f.In S, ?_⟩))
    rw [hx] at r'
    obtain ⟨b, vs, n, rfl, hw, h1, h2, h3⟩ := VR.lst r'
    have hit : (s'.heap.push (revObj b ((vs.size : Int) - 1))).IsRevIter s'.heap.objs.size b ((vs.size : Int) - 1) := ⟨_, Heap.get?_push_size _ rfl, rfl, rfl⟩
    refine call_reversed_list ⟨_, h1, rfl, _, rfl⟩ (wpAny_pyIter_revIter hit ?_)
    obtain ⟨p2, f⟩ := p'.push (revObj b ((vs.size : Int) - 1)) s'.toks
    have g : Ag W' s'.heap W' (s'.heap.push (revObj b ((vs.size : Int) - 1))) := (Gs.of (t := s'.toks) p'.f.f.wf fun _ _ q => Heap.get?_push_of_some _ q).g.ag p'.f.f.wf
    refine k _ _ _ _ p2 f (.rev (i := vs.size) hit hw ((g.k _ hw).trans h1) (Nat.le_refl _) ?_)
    rw [← Array.length_toList, List.take_length]
    have : ∀ {l : List V} {l' : List Value}, VRs W' (s'.heap.push (revObj b ((vs.size : Int) - 1))) l l' → VRs W' (s'.heap.push (revObj b ((vs.size : Int) - 1))) l.reverse l'.reverse := by
      intro l
      induction l with
      | nil => intro l' r; cases r; exact rfl
      | cons v l ih => intro l' r; obtain ⟨v', r', rfl, x, y⟩ := VRs.inv r; rw [List.reverse_cons, List.reverse_cons]; exact (ih y).snoc x
    have z := this (h3.ag g)
    rwa [List.reverse_reverse] at z⟩
theorem range_small {a b : Int} (ha : a.natAbs ≤ 1000000) (hb : b.natAbs ≤ 1000000) : Builtin.Range.small a b 1 = true := by
  simp only [Builtin.Range.small, Builtin.Range.rangeFitsLong, Builtin.Range.rangeSize, Bool.and_eq_true, Bool.or_eq_true, decide_eq_true_eq]
  refine ⟨⟨⟨⟨⟨?_, ?_⟩, ?_, ?_⟩, ?_, ?_⟩, ?_, ?_⟩, .inr ?_⟩ <;> (try simp) <;> (try split) <;> (try simp) <;> omega
noncomputable def rangeV (vs : List V) : Option ((Int × Int) × List Prop) := List.casesOn vs none fun v r => v.int?.bind fun a => List.casesOn r (some ((0, a), [a.natAbs ≤ 1000000])) fun u r => u.int?.bind fun b => List.casesOn r (some ((a, b), [a.natAbs ≤ 1000000 ∧ b.natAbs ≤ 1000000])) fun _ _ => none
theorem range_ok {C : Cx} {A : Around} {E : Value → Shared → Prop} {W : WS} {s : Shared} {args : List V} {vals : List Value} {x : Int × Int} {ps : List Prop} {Q : Value → Shared → Prop} (r : VRs W s.heap args vals) (e : rangeV args = some (x, ps)) (q : All ps)
    (k : ∀ t u v tk, s.toks ≤ tk → Builtin.Range.small x.1 x.2 1 = true → Builtin.Range.rangeSize x.1 x.2 1 = (x.2 - x.1).toNat → (x.2 - x.1).toNat ≤ 2 ^ 24 →
      Q (.ref s.heap.objs.size) { s with heap := s.heap.push { cls := .type "range", data := .fields #[.int x.1 t, .int x.2 u, .int 1 v] }, toks := tk }) : wpAny C.M A (call (.type "range") vals) Q E s := by
  have hsz : ∀ a b : Int, Builtin.Range.rangeSize a b 1 = (b - a).toNat := fun a b => by simp only [Builtin.Range.rangeSize]; simp; split <;> omega
  cases args with
  | nil => cases e
  | cons v args =>
    obtain ⟨v', r', rfl, rv, rr⟩ := VRs.inv r
    obtain ⟨a, e1, e⟩ := Option.bind_eq_some_iff.mp e
    rw [V.int_of e1] at rv
    obtain ⟨t, rfl⟩ := rv
    cases args with
    | nil =>
      cases e; obtain rfl : r' = [] := rr
      have q1 : a.natAbs ≤ 1000000 := q.1
      exact call_range_1 (k _ _ _ _ (by first | exact Nat.le_refl _ | assumption | exact Nat.le_succ _ | omega | (dsimp only; omega) | (dsimp only at *; omega)) (range_small (show (0 : Int).natAbs ≤ 1000000 by decide) q1) (hsz _ _) (by dsimp only; omega))
    | cons u args =>
      obtain ⟨u', r2, rfl, ru, rr2⟩ := VRs.inv rr
      obtain ⟨b, e2, e⟩ := Option.bind_eq_some_iff.mp e
      rw [V.int_of e2] at ru
      obtain ⟨t2, rfl⟩ := ru
      cases args with
      | nil =>
        cases e; obtain rfl : r2 = [] := rr2
        have q1 : a.natAbs ≤ 1000000 ∧ b.natAbs ≤ 1000000 := q.1
        exact call_range_2 (k _ _ _ _ (by first | exact Nat.le_refl _ | assumption | exact Nat.le_succ _ | omega | (dsimp only; omega) | (dsimp only at *; omega)) (range_small q1.1 q1.2) (hsz _ _) (by dsimp only; omega))
      | cons _ _ => cases e
noncomputable def iRange (r : Rw G d fi) (p' p : Pos) (hb : isBi G fi "range" = true) : It G d fi := ⟨.Call (.Name "range" p') r.xs [] p, fun σ => bd (r.ev σ) fun vs σ => rt ((rangeV vs).bind fun x => some (rangeL x.1.1 (x.1.2 - x.1.1).toNat, x.2)) σ, rfl,
  r.eo.bd (R := fun vs ρ l ρ' => ∃ x ps, rangeV vs = some (x, ps) ∧ All ps ∧ l = rangeL x.1 (x.2 - x.1).toNat ∧ ρ = ρ') (fun vs => .rt fun l ps ρ e q => by
    obtain ⟨x, e1, e⟩ := Option.bind_eq_some_iff.mp e; cases e; exact ⟨x.1, x.2, e1, q, rfl, rfl⟩) fun _ vs _ l _ hs q X E W φ s e S F Q k => by
    obtain ⟨x, ps, q1, q2, rfl, rfl⟩ := q
    refine PyProof.Rows.Call_ (bi_ok S F (e ▸ hb) boot_range ?_)
    rw [r.back]
    refine callW (K := X.C.K) (fun h _ => keeper_type _ h _) (hs.2 X E W φ s e S F _ fun vs' W' φ' s' p' r' => ⟨p'.f.In S, range_ok r' q1 q2 fun t u v tk htk hsm hn _ => wpAny_pyIter_range (Heap.get?_push_size _ rfl) hsm ?_⟩)
    rw [hn]
    obtain ⟨p2, _⟩ := p'.push { cls := .type "range", data := .fields #[.int x.1 t, .int x.2 u, .int 1 v] } tk
    obtain ⟨p3, f⟩ := p2.push _ tk
    exact k _ _ _ _ p3 f (.range (Heap.get?_push_size _ rfl))⟩
theorem rangeL_length : ∀ (n : Nat) (a : Int), (rangeL a n).length = n
  | 0, _ => rfl
  | n + 1, a => congrArg (· + 1) (rangeL_length n (a + 1))
theorem rangeL_items {W : WS} {h : Heap} : ∀ (n : Nat) (a : Int) (l : List Value), l.length = n → (∀ (i : Nat) (v : Value), l[i]? = some v → ∃ t, v = .int (a + (i : Int) * 1) t) → VRs W h (rangeL a n) l
  | 0, a, l, hl, _ => by cases l with | nil => exact rfl | cons _ _ => cases hl
  | n + 1, a, [], hl, _ => by cases hl
  | n + 1, a, v :: l, hl, h => by
    obtain ⟨t, rfl⟩ := h 0 v rfl
    refine VRs.cons ⟨t, by simp⟩ (rangeL_items n (a + 1) l (Nat.succ.inj hl) fun i u hu => ?_)
    obtain ⟨t', q⟩ := h (i + 1) u hu
    exact ⟨t', by rw [q]; congr 1; omega⟩
noncomputable def eListR (r : Rw G d fi) (p' p'' p2 p : Pos) (hb : (isBi G fi "list" && isBi G fi "range") = true) : T G d fi :=
  .mk' (.Call (.Name "list" p') [.Call (.Name "range" p'') r.xs [] p2] [] p) (fun σ => bd (r.ev σ) fun vs σ => rt ((rangeV vs).bind fun x => some (.own (rangeL x.1.1 (x.1.2 - x.1.1).toNat).reverse, x.2)) σ) rfl
    (r.eo.bd (R := fun vs ρ o ρ' => ∃ x ps, rangeV vs = some (x, ps) ∧ All ps ∧ o = .own (rangeL x.1 (x.2 - x.1).toNat).reverse ∧ ρ = ρ') (fun vs => .rt fun l ps ρ e q => by
      obtain ⟨x, e1, e⟩ := Option.bind_eq_some_iff.mp e; cases e; exact ⟨x.1, x.2, e1, q, rfl, rfl⟩) fun _ vs _ o _ hs q X E W φ s e S F Q k => by
      obtain ⟨x, ps, q1, q2, rfl, rfl⟩ := q
      rw [Bool.and_eq_true] at hb
      refine PyProof.Rows.Call_ (bi_ok S F (e ▸ hb.1) boot_list ?_)
      show wpAny _ X.A (callWith p (.type "list") [] (plainArgs [.Call (.Name "range" p'') r.xs [] p2] X.env) []) Q E s
      refine callW (K := X.C.K) (fun h _ => keeper_type _ h _) (PySem.Calls.spliced_cons (PyProof.Rows.Call_ (bi_ok S F (e ▸ hb.2) boot_range ?_)))
      rw [r.back]
      refine callW (K := X.C.K) (fun h _ => keeper_type _ h _) (hs.2 X E W φ s e S F _ fun vs' W' φ' s' p' r' => ⟨p'.f.In S, range_ok r' q1 q2 fun t u v tk htk hsm hn hlen => PySem.Calls.spliced_nil ?_⟩)
      obtain ⟨p2, _⟩ := p'.push { cls := .type "range", data := .fields #[.int x.1 t, .int x.2 u, .int 1 v] } tk
      refine ⟨p2.f.In S, wpAny_with_toks (Nat.le_refl _) (call_list_range S.hd (Heap.get?_push_size _ rfl) hsm hn hlen fun h' tk' acc c' hk hget hit htk' => ?_)⟩
      refine (Aft.of p2 k).listAt (t := tk') p2.f.f.wf hk (fresh_size _) hget ?_ ?_ htk'
      · rw [List.reverse_reverse]; exact rangeL_items _ _ acc.toList (by rw [Array.length_toList]; exact hit.1) fun i v hv => hit.2 i v (by simpa using hv)
      · rw [List.length_reverse, rangeL_length]; exact Nat.le_trans hlen (by decide)) fun _ => rfl
noncomputable def iStr (a : T G d fi) : It G d fi := ⟨a.x, fun σ => bd (a.ev σ) fun x σ => x.frz.str?.bind fun z => pu (signsL z) σ, a.pl,
  a.eo.bd (R := fun x ρ l ρ' => ∃ z, x.frz = .str z ∧ l = signsL z ∧ ρ = ρ') (fun x σ l σ' e q => by obtain ⟨z, e1, e⟩ := Option.bind_eq_some_iff.mp e; cases e; exact ⟨q, z, V.str_of e1, rfl, rfl⟩) fun _ x _ l _ h q X E W φ s e S F Q k => by
    obtain ⟨z, hx, rfl, rfl⟩ := q
    refine h.v X E W φ s e S F _ fun v' W' φ' s' p' r' => ?_
    rw [hx] at r'
    obtain ⟨t, rfl, ok, _⟩ := r'
    refine wpAny_pyIter_strU ?_
    obtain ⟨p2, f⟩ := p'.push { cls := .type (strIterType ⟨z.toArray⟩), data := .fields #[.str ⟨z.toArray⟩ t, .int 0 0] } s'.toks
    refine k _ _ _ _ p2 f (.str (b := (⟨z.toArray⟩ : Str).cps.all (· < 128)) (z := z) (t := t) (i := 0) ⟨_, Heap.get?_push_size _ rfl, ?_, rfl⟩ ok rfl)
    show Value.type (strIterType _) = _
    unfold strIterType
    cases (⟨z.toArray⟩ : Str).cps.all (· < 128) <;> rfl⟩
noncomputable def range2V (vs : List V) : Option (Int × List Prop) := List.casesOn vs none fun a r => List.casesOn r none fun b r => List.casesOn r none fun c r => List.casesOn r (a.int?.bind fun a => b.int?.bind fun b => c.int?.bind fun c => some (b, [a = 0 ∧ 0 ≤ b ∧ b ≤ 1000000 ∧ c = 2])) fun _ _ => none
noncomputable def iRange2 (r : Rw G d fi) (p' p : Pos) (hb : isBi G fi "range" = true) : It G d fi := ⟨.Call (.Name "range" p') r.xs [] p, fun σ => bd (r.ev σ) fun vs σ => rt ((range2V vs).bind fun x => some (range2L 0 ((x.1.toNat + 1) / 2), x.2)) σ, rfl,
  r.eo.bd (R := fun vs ρ l ρ' => ∃ b, vs = [.int 0, .int b, .int 2] ∧ 0 ≤ b ∧ b ≤ 1000000 ∧ l = range2L 0 ((b.toNat + 1) / 2) ∧ ρ = ρ') (fun vs => .rt fun l ps ρ e q => by
    obtain ⟨x, e1, e⟩ := Option.bind_eq_some_iff.mp e; cases e
    cases vs with
    | nil => cases e1
    | cons a vs =>
    cases vs with
    | nil => cases e1
    | cons b vs =>
    cases vs with
    | nil => cases e1
    | cons c vs =>
    cases vs with
    | cons _ _ => cases e1
    | nil =>
    obtain ⟨i, a1, e1⟩ := Option.bind_eq_some_iff.mp e1
    obtain ⟨j, a2, e1⟩ := Option.bind_eq_some_iff.mp e1
    obtain ⟨k, a3, e1⟩ := Option.bind_eq_some_iff.mp e1
    cases e1
    obtain ⟨rfl, q1, q2, rfl⟩ := q.1
    exact ⟨j, by rw [V.int_of a1, V.int_of a2, V.int_of a3], q1, q2, rfl, rfl⟩) fun _ vs _ l _ hs q X E W φ s e S F Q k => by
    obtain ⟨b, rfl, q1, q2, rfl, rfl⟩ := q
    refine PyProof.Rows.Call_ (bi_ok S F (e ▸ hb) boot_range ?_)
    rw [r.back]
    refine callW (K := X.C.K) (fun h _ => keeper_type _ h _) (hs.2 X E W φ s e S F _ fun vs' W' φ' s' p' r' => ⟨p'.f.In S, ?_⟩)
    obtain ⟨v1, l1, rfl, ⟨t1, rfl⟩, r1⟩ := VRs.inv r'
    obtain ⟨v2, l2, rfl, ⟨t2, rfl⟩, r2⟩ := VRs.inv r1
    obtain ⟨v3, l3, rfl, ⟨t3, rfl⟩, r3⟩ := VRs.inv r2
    obtain rfl : l3 = [] := r3
    have hn : Builtin.Range.rangeSize 0 b 2 = (((b.toNat + 1) / 2 : Nat) : Int) := by
      simp only [Builtin.Range.rangeSize]; simp; split <;> omega
    have hsm : Builtin.Range.small 0 b 2 = true := by
      simp only [Builtin.Range.small, hn, Builtin.Range.rangeFitsLong, Bool.and_eq_true, Bool.or_eq_true, decide_eq_true_eq]
      refine ⟨⟨⟨⟨⟨?_, ?_⟩, ?_, ?_⟩, ?_, ?_⟩, ?_, ?_⟩, .inr ?_⟩ <;> (try simp) <;> omega
    refine call_range_3 (by decide) (wpAny_pyIter_range (Heap.get?_push_size _ rfl) hsm ?_) (Or.inl (PyProof.noPylong_small (by omega)))
    rw [hn]
    obtain ⟨p2, _⟩ := p'.push { cls := .type "range", data := .fields #[.int 0 t1, .int b t2, .int 2 t3] } s'.toks
    obtain ⟨p3, f⟩ := p2.push _ s'.toks
    exact k _ _ _ _ p3 f (.range2 (Heap.get?_push_size _ rfl))⟩
end
end Mine
end

section
open PySem
set_option autoImplicit false
set_option linter.unusedVariables false
namespace Mine
open PySem.W (Looks keepIn)

def FlR (X : FC) (W : WS) (φ : Nat → List Addr) (h : Heap) (fl : Fl) (f : Flow) : Prop := Fl.casesOn fl (f = .next) fun o => ∃ v', f = .ret v' ∧ RO X W φ h o v'
def AfS (X : FC) (W : WS) (s : Shared) (fl : Fl) (ρ' : Loc) (Q : Flow → Shared → Prop) : Prop := ∀ f W' φ' s', At X W' φ' s' ρ' → Ag W s.heap W' s'.heap → FlR X W' φ' s'.heap fl f → Q f s'
section
variable (G : Gl) (d : Nat) (fi : FI)
def ExG (x : Stmt) (ρ : Loc) (fl : Fl) (ρ' : Loc) : Prop := ∀ (X : FC) (E : Value → Shared → Prop) (W : WS) (φ : Nat → List Addr) (s : Shared), X.fi = fi → X.cm = true → FS G d X → At X W φ s ρ →
  ∀ Q : Flow → Shared → Prop, AfS X W s fl ρ' Q → wpAny X.C.M X.A (exec x X.env) Q E s
def ExsG (xs : List Stmt) (ρ : Loc) (fl : Fl) (ρ' : Loc) : Prop := ∀ (X : FC) (E : Value → Shared → Prop) (W : WS) (φ : Nat → List Addr) (s : Shared), X.fi = fi → X.cm = true → FS G d X → At X W φ s ρ →
  ∀ Q : Flow → Shared → Prop, AfS X W s fl ρ' Q → wpAny X.C.M X.A (execs xs X.env) Q E s
def WhilOK (c : Expr) (b : List Stmt) (ρ : Loc) (fl : Fl) (ρ' : Loc) : Prop := ∀ (X : FC) (W : WS) (φ : Nat → List Addr) (s : Shared), X.fi = fi → X.cm = true → FS G d X → At X W φ s ρ →
  ∀ R : Result → Shared → Prop, AfS X W s fl ρ' (fun f s' => R (.ok f) s') → codeAny X.C.M X.A (.whileLoop c b [] X.env) R s
def ForOK (t : Expr) (b : List Stmt) (l : List V) (ρ : Loc) (fl : Fl) (ρ' : Loc) : Prop := ∀ (X : FC) (W : WS) (φ : Nat → List Addr) (s : Shared) (it : Addr), X.fi = fi → X.cm = true → FS G d X → At X W φ s ρ → Fre X W φ it → ItR W s.heap it l →
  ∀ R : Result → Shared → Prop, AfS X W s fl ρ' (fun f s' => R (.ok f) s') → codeAny X.C.M X.A (.forLoop t (.ref it) b [] X.env) R s
end
structure SS (G : Gl) (d : Nat) (fi : FI) where
  x : Stmt
  ex : St → Option (Fl × St)
  eo : Ok ex (ExG G d fi x)
structure SL (G : Gl) (d : Nat) (fi : FI) where
  xs : List Stmt
  ex : St → Option (Fl × St)
  eo : Ok ex (ExsG G d fi xs)

theorem noSwap {x : Expr} (h : isComp x = false) (t : Option Expr) (n : Nat) (env : Env) : swapsWith x t n env = pure false := by
  cases x <;> first | rfl | cases h
theorem noSet {x : Expr} (h : plainX x = true) (env : Env) (v : Value) : foldedSetIterable x env v = pure v := by
  cases x <;> first | rfl | cases h

section
variable {G : Gl} {d : Nat} {fi : FI}
noncomputable def lNil : SL G d fi := ⟨[], pu .next, .pu fun ρ X E W φ s e c S F Q k => wpAny_execs_nil (k _ _ _ _ F (.refl ..) rfl)⟩
noncomputable def lCons (a : SS G d fi) (b : SL G d fi) : SL G d fi := ⟨a.x :: b.xs, fun σ => bd (a.ex σ) fun fl σ => Fl.casesOn fl (b.ex σ) fun o => pu (.ret o) σ,
  a.eo.bd (R := fun f ρ fl ρ' => Fl.casesOn (motive := fun _ => Prop) f (ExsG G d fi b.xs ρ fl ρ') fun o => fl = .ret o ∧ ρ = ρ') (fun f => by
    cases f with
    | next => exact b.eo
    | ret o => exact .pu fun _ => ⟨rfl, rfl⟩) fun ρ f ρ₁ fl ρ' h q X E W φ s e c S F Q k => wpAny_execs_cons (h X E W φ s e c S F _ fun f' W' φ' s' A B C => by
    cases f with
    | next => cases C; exact q X E W' φ' s' e c S A Q fun g W2 φ2 s2 A2 B2 C2 => k _ _ _ _ A2 (B.trans B2) C2
    | ret o =>
      obtain ⟨rfl, rfl⟩ := q
      obtain ⟨v', rfl, r⟩ := C
      exact k _ _ _ _ A B ⟨v', rfl, r⟩)⟩

noncomputable def sExpr (a : T G d fi) (p : Pos) (hc : isComp a.x = false) : SS G d fi := ⟨.Expr a.x p, fun σ => bd (a.ev σ) fun _ σ => pu .next σ,
  a.eo.bd (R := fun _ ρ fl ρ' => fl = .next ∧ ρ = ρ') (fun _ => .pu fun _ => ⟨rfl, rfl⟩) fun _ _ _ _ _ h q X E W φ s e c S F Q k => by
    obtain ⟨rfl, rfl⟩ := q
    exact wpAny_Expr_any (h X E W φ s e S F _ fun v' W' φ' s' p' r' => k _ _ _ _ p'.f p'.ag rfl) (by unfold interactive; rw [S.fn]; rfl) (noSwap hc _ _ _)⟩
noncomputable def setL (i : Nat) (o : O) (σ : St) : Option (Fl × St) := some (.next, ⟨σ.ρ.set i (some o), σ.tp, σ.ob⟩)
theorem Ok.setL {i : Nat} {o : O} {S : Loc → Fl → Loc → Prop} (k : ∀ ρ, S ρ .next (ρ.set i (some o))) : Ok (setL i o) S := fun σ a σ' e h => by cases e; exact ⟨h, k _⟩
noncomputable def sAsg (x : Str) (i : Nat) (a : T G d fi) (p' p : Pos) (h : (fi.isOwn x i && !isComp a.x) = true) : SS G d fi := ⟨.Assign [.Name x p'] a.x p, fun σ => bd (a.ev σ) fun o σ => setL i o σ,
  a.eo.bd (R := fun o ρ fl ρ' => fl = .next ∧ ρ' = ρ.set i (some o)) (fun _ => .setL fun _ => ⟨rfl, rfl⟩) fun _ _ _ _ _ ha q X E W φ s e c S F Q k => by
    obtain ⟨rfl, rfl⟩ := q
    rw [Bool.and_eq_true, Bool.not_eq_true'] at h
    exact wpAny_Assign_Name (ha X E W φ s e S F _ fun v' W' φ' s' p' r' => store_ok S (.inr c) p'.f r' (e ▸ h.1) fun φ2 s2 A B => k _ _ _ _ A (p'.ag.trans B) rfl) (noSwap h.2 _ _ _)⟩
noncomputable def setN (is : List (Str × Nat × Pos)) (vs : List V) (ρ : Loc) : Option Loc := @List.rec (Str × Nat × Pos) (fun _ => List V → Loc → Option Loc) (fun vs ρ => List.casesOn vs (some ρ) fun _ _ => none) (fun i _ f vs ρ => List.casesOn vs none fun v vs => f vs (ρ.set i.2.1 (some (.val v)))) is vs ρ
abbrev nmX (is : List (Str × Nat × Pos)) : List Expr := is.map fun i => .Name i.1 i.2.2
theorem setN_ok {X : FC} {E : Value → Shared → Prop} (S : FS G d X) (c : X.cm = true) : ∀ {is : List (Str × Nat × Pos)} {vs : List V} {vs' : List Value} {ρ ρ' : Loc} {W : WS} {φ : Nat → List Addr} {s : Shared} {Q : Unit → Shared → Prop}, (is.all fun i => X.fi.isOwn i.1 i.2.1) = true → At X W φ s ρ → VRs W s.heap vs vs' → setN is vs ρ = some ρ' →
    (∀ φ' s', At X W φ' s' ρ' → Ag W s.heap W s'.heap → Q () s') → wpAny X.C.M X.A (assignInOrder ((assignEach (nmX is) X.env).map (·.2)) vs') Q E s
  | [], [], _, ρ, ρ', W, φ, s, Q, h, F, r, e, k => by cases r; cases e; exact wpAny_pure (k _ _ F (.refl ..))
  | [], _ :: _, _, ρ, ρ', W, φ, s, Q, h, F, r, e, k => by cases e
  | _ :: _, [], _, ρ, ρ', W, φ, s, Q, h, F, r, e, k => by cases e
  | i :: is, v :: vs, _, ρ, ρ', W, φ, s, Q, h, F, r, e, k => by
    obtain ⟨v', r', rfl, rv, rr⟩ := VRs.inv r
    rw [List.all_cons, Bool.and_eq_true] at h
    show wpAny _ X.A (do holding r' (assign (.Name i.1 i.2.2) X.env v'); assignInOrder ((assignEach (nmX is) X.env).map (·.2)) r') Q E s
    exact wpAny_bind (wpAny_holding (wpAny_assign_Name (store_ok S (.inr c) F (.val rv) h.1 fun φ' s' A B => setN_ok S c h.2 A (rr.ag B) e fun φ2 s2 A2 B2 => k _ _ A2 (B.trans B2))))
theorem setN_len : ∀ {is : List (Str × Nat × Pos)} {vs : List V} {ρ ρ' : Loc}, setN is vs ρ = some ρ' → is.length = vs.length
  | [], [], _, _, _ => rfl
  | [], _ :: _, _, _, e => nomatch e
  | _ :: _, [], _, _, e => nomatch e
  | _ :: _, _ :: vs, _, _, e => congrArg (· + 1) (setN_len (vs := vs) e)
theorem nmX_each (env : Env) : ∀ is : List (Str × Nat × Pos), (assignEach (nmX is) env).length = is.length ∧ (assignEach (nmX is) env).findIdx? (·.1) = none
  | [] => ⟨rfl, rfl⟩
  | i :: is => by
    have e : assignEach (nmX (i :: is)) env = (false, assign (.Name i.1 i.2.2) env) :: assignEach (nmX is) env := rfl
    rw [e, List.findIdx?_cons, (nmX_each env is).2]
    exact ⟨congrArg (· + 1) (nmX_each env is).1, rfl⟩
noncomputable def sUnp (is : List (Str × Nat × Pos)) (a : T G d fi) (k0 : Nat) (p' p : Pos) (h : ((is.all fun i => fi.isOwn i.1 i.2.1) && !isComp a.x) = true) (hw : ∀ env, swappedStores [.Tuple (nmX is) k0 p'] a.x env = pure none) : SS G d fi :=
  ⟨.Assign [.Tuple (nmX is) k0 p'] a.x p, fun σ => bd (a.ev σ) fun o σ => o.frz.tup?.bind fun vs => (setN is vs σ.ρ).bind fun ρ => some (.next, ⟨ρ, σ.tp, σ.ob⟩),
  a.eo.bd (R := fun o ρ fl ρ' => ∃ vs, o.frz = .tup vs ∧ setN is vs ρ = some ρ' ∧ fl = .next) (fun o σ f σ' e q => by
    obtain ⟨vs, e1, e⟩ := Option.bind_eq_some_iff.mp e
    obtain ⟨ρ, e2, e⟩ := Option.bind_eq_some_iff.mp e
    cases e; exact ⟨q, vs, V.tup_of e1, e2, rfl⟩) fun _ o _ _ _ ha q X E W φ s e c S F Q k => by
    obtain ⟨vs, hx, hs, rfl⟩ := q
    rw [Bool.and_eq_true, Bool.not_eq_true'] at h
    refine wpAny_Assign_stores (ha.v X E W φ s e S F _ fun v' W' φ' s' p' r' => ?_) (by unfold swapsWithSole; exact noSwap h.2 _ _ _) (hw _)
    rw [hx] at r'
    obtain ⟨b, ws, n, rfl, _, h1, h2, h3⟩ := VR.tup r'
    obtain ⟨z1, z2⟩ := nmX_each X.env is
    refine wpAny_assign_Tuple (x1 := k0) S.hd ⟨_, h1, rfl, _, rfl⟩ (by rw [z1, h3.size, setN_len hs]) z2 fun h' he' => ?_
    have g := Gs.of (t := s'.toks) p'.f.f.wf fun b o q => he' b o (fun z => absurd (Heap.lt_size q) (by rw [z]; exact Nat.lt_irrefl _)) q
    exact setN_ok S c (e ▸ h.1) (p'.f.gs g) (h3.ag (g.g.ag p'.f.f.wf)) hs fun φ2 s2 A B => k _ _ _ _ A ((p'.ag.trans (g.g.ag p'.f.f.wf)).trans B) rfl⟩
noncomputable def sIte (f : Bool) (c : T G d fi) (a b : SL G d fi) (p : Pos) : SS G d fi := ⟨.If c.x a.xs b.xs p, fun σ => bd (c.tr σ) fun t σ => bd (dec f t σ) fun t σ => Bool.casesOn t (b.ex σ) (a.ex σ),
  c.to.bd (R := fun t ρ fl ρ' => Bool.casesOn (motive := fun _ => Prop) t (ExsG G d fi b.xs ρ fl ρ') (ExsG G d fi a.xs ρ fl ρ')) (fun t => (Ok.dec f t).bd (R := fun t ρ fl ρ' => Bool.casesOn (motive := fun _ => Prop) t (ExsG G d fi b.xs ρ fl ρ') (ExsG G d fi a.xs ρ fl ρ')) (fun t => by
    cases t
    · exact b.eo
    · exact a.eo) fun _ t _ _ _ h q => by obtain ⟨rfl, rfl⟩ := h; exact q) fun _ t _ _ _ h q X E W φ s e c S F Q k => wpAny_If (h X E W φ s e S F _ fun W' φ' s' p' => by
    cases t
    · exact q X E W' φ' s' e c S p'.f Q fun g W2 φ2 s2 A2 B2 C2 => k _ _ _ _ A2 (p'.ag.trans B2) C2
    · exact q X E W' φ' s' e c S p'.f Q fun g W2 φ2 s2 A2 B2 C2 => k _ _ _ _ A2 (p'.ag.trans B2) C2)⟩
noncomputable def sRet (a : T G d fi) (p : Pos) : SS G d fi := ⟨.Return (some a.x) p, fun σ => bd (a.ev σ) fun o σ => pu (.ret o) σ,
  a.eo.bd (R := fun o ρ fl ρ' => fl = .ret o ∧ ρ = ρ') (fun _ => .pu fun _ => ⟨rfl, rfl⟩) fun _ _ _ _ _ h q X E W φ s e c S F Q k => by
    obtain ⟨rfl, rfl⟩ := q
    exact wpAny_Return_some (h X E W φ s e S F _ fun v' W' φ' s' p' r' => k _ _ _ _ p'.f p'.ag ⟨_, rfl, r'⟩)⟩
noncomputable def sRetV (x : Str) (i : Nat) (xp p : Pos) (h : fi.isVar x i = true) : SS G d fi := ⟨.Return (some (.Name x xp)) p, fun σ => (slot σ.ρ i).bind fun o => some (.ret o, ⟨σ.ρ.set i none, σ.tp, σ.ob⟩), by
  intro σ a σ' e q
  obtain ⟨o, e1, e⟩ := Option.bind_eq_some_iff.mp e
  cases e
  refine ⟨q, fun X E W φ s ef c S F Q k => wpAny_Return_some (load_ok S F (ef ▸ h) (slot_some e1) fun v' hx hn hv r => ?_)⟩
  have F1 : At X W (upd φ i []) s (σ.ρ.set i none) := F.drop i (fun j o q w => by rwa [List.getElem?_set_ne (Ne.symm q)] at w) fun y hy o w => by
    rw [List.getElem?_set] at w
    split at w
    · split at w <;> cases w
    · rename_i q; exact absurd rfl q
  refine k _ _ _ _ F1 (.refl ..) ⟨_, rfl, φ i, r, fun b q => ?_⟩
  have hm := F.f.mu b (.inr (.inr ⟨i, q⟩))
  obtain ⟨vs, n, he⟩ := F.ow i b q
  have hno := F.f.notOwn he
  refine ⟨hm.2, fun m => ?_, hm.1⟩
  rcases m with m | ⟨_, y, m⟩ | ⟨j, m⟩
  · exact hno.1 m
  · exact hno.2 y m
  · by_cases ej : j = i
    · rw [ej, upd_same] at m; cases m
    · rw [upd_ne _ _ ej] at m; exact ej (F.f.dis j i b m q)⟩
noncomputable def sWhil (c : T G d fi) (b : SL G d fi) (p : Pos) : SS G d fi := ⟨.While c.x b.xs [] p, told Tk.l? (fun ρ x => WhilOK G d fi c.x b.xs ρ x.1 x.2) (·.1) (fun x _ => x.2),
  .told fun x ρ h X E W φ s e cm S F Q k => wpAny_While (h X W φ s e cm S F _ k)⟩
noncomputable def sFor (x : Str) (it : It G d fi) (b : SL G d fi) (p' p : Pos) : SS G d fi := ⟨.For (.Name x p') it.x b.xs [] p, fun σ => bd (it.ev σ) fun l σ => told Tk.l? (fun ρ y => ForOK G d fi (.Name x p') b.xs l ρ y.1 y.2) (·.1) (fun y _ => y.2) σ,
  it.eo.bd (R := fun l ρ fl ρ' => ForOK G d fi (.Name x p') b.xs l ρ fl ρ') (fun l => .told fun y ρ h => h) fun _ l _ _ _ h q X E W φ s e c S F Q k => wpAny_For (h X E W φ s e S F _ fun a W' φ' s' p2 f I => q X W' φ' s' a e c S p2.f f I _ fun g W3 φ3 s3 A B C => k _ _ _ _ A (p2.ag.trans B) C) (noSet it.pl _)⟩
end
end Mine
end

section
open PySem
set_option autoImplicit false
set_option linter.unusedVariables false
namespace Mine
open PySem.W (Looks keepIn)

noncomputable def ownAt (ρ : Loc) (i : Nat) : Option (List V) := (slot ρ i).bind fun o => O.casesOn o (fun _ => none) some fun _ => none
theorem ownAt_some {ρ : Loc} {i : Nat} {r : List V} (e : ownAt ρ i = some r) : ρ[i]? = some (some (.own r)) := by
  obtain ⟨o, e1, e⟩ := Option.bind_eq_some_iff.mp e
  cases o with
  | val v => cases e
  | own2 r' => cases e
  | own r' => cases e; exact slot_some e1
noncomputable def setR (r : List V) (i : Int) (v : V) : Option (List V) := Int.casesOn i (fun n => (r.reverse[n]?).bind fun _ => some (r.reverse.set n v).reverse) (fun n => (r[n]?).bind fun _ => some (r.set n v))
theorem rev_set (r : List V) (n : Nat) (v : V) (h : n < r.length) : (r.set n v).reverse = r.reverse.set (r.length - 1 - n) v := by
  apply List.ext_getElem?
  intro j
  by_cases hj : j < r.length
  · rw [List.getElem?_reverse (by rwa [List.length_set]), List.length_set, List.getElem?_set, List.getElem?_set, List.getElem?_reverse hj]
    by_cases e : n = r.length - 1 - j
    · rw [if_pos e, if_pos (by omega), if_pos (by omega), if_pos (by rw [List.length_reverse]; omega)]
    · rw [if_neg e, if_neg (by omega)]
  · rw [List.getElem?_eq_none (by rw [List.length_reverse, List.length_set]; omega), List.getElem?_eq_none (by rw [List.length_set, List.length_reverse]; omega)]

section
variable {G : Gl} {d : Nat} {fi : FI}
noncomputable def sApp (x : Str) (i : Nat) (a : T G d fi) (xp ap cp p : Pos) (h : (fi.isVar x i && (ap.endLine == cp.line)) = true) : SS G d fi :=
  ⟨.Expr (.Call (.Attribute (.Name x xp) "append" ap) [a.x] [] cp) p, fun σ => (ownAt σ.ρ i).bind fun _ => bd (a.ev σ) fun y σ => (ownAt σ.ρ i).bind fun r => some (.next, ⟨σ.ρ.set i (some (.own (y.frz :: r))), σ.tp, (r.length < room) :: σ.ob⟩), by
    intro σ f σ' e q
    obtain ⟨o0, e0, e⟩ := Option.bind_eq_some_iff.mp e
    obtain ⟨⟨y, σ₁⟩, e1, e⟩ := Option.bind_eq_some_iff.mp e
    obtain ⟨r, e2, e⟩ := Option.bind_eq_some_iff.mp e
    rw [Bool.and_eq_true] at h
    cases e
    obtain ⟨q2, hk⟩ := a.eo σ y σ₁ e1 q.2
    refine ⟨q2, fun X E W φ s ef c S F Q k => wpAny_Expr_any (method_call rfl (fun z q => by cases List.mem_singleton.mp q; exact a.pl) h.2 rfl fun pl => load_ok S F (ef ▸ h.1) (ownAt_some e0) fun x' hx hn hv rr => ?_) (by unfold interactive; rw [S.fn]; rfl) rfl⟩
    obtain ⟨a0, _, rfl, vs0, n0, z0, _⟩ := rr
    refine getMethod_builtin (T := "list") ⟨_, z0, rfl⟩ PySem.F.plainAttrs_list PySem.F.slot_list_append PySem.F.type_list_append (fun a q => by cases q; exact ⟨_, z0, rfl⟩) ?_
    refine callW (K := X.C.K) (fun h _ => keeper_builtin _ h _) (PySem.Calls.spliced_cons (hk.v X E W φ s ef S F _ fun y' W' φ' s' p' r' => PySem.Calls.spliced_nil ⟨p'.f.In S, ?_⟩))
    obtain ⟨ad, hp, ea, vs, n, h1, h2, h3⟩ := still p'.f hx hn (p'.vl _ _ hv) (ownAt_some e2)
    cases ea
    have hs := h2.size
    rw [List.length_reverse] at hs
    refine call_meets PySem.F.slot_list_append ⟨_, h1, rfl⟩ PySem.F.entry_list_append (PySem.F.args_list_append_2 _ _) (list_append a0 vs n _ (by rw [hs]; exact h3)) ⟨h1, ?_⟩
    have q1 : r.length < room := q.1
    have := room_le
    obtain ⟨A, B⟩ := p'.f.turn (x := x) (i := i) (t := s'.toks) (r := y.frz :: r) (h' := s'.heap.update a0 (Obj.mapSeq (·.push y'))) (fun z hz => S.ti z x i hz hx) hp (Heap.SameBut.update ..) (p'.vl _ _ hv) (Heap.get?_update_self _ h1 rfl)
      (by rw [Array.toList_push, List.reverse_cons]; exact h2.snoc r') (by rw [List.length_cons]; omega)
    exact k _ _ _ _ A (p'.ag.trans B) rfl⟩
noncomputable def sSet (x : Str) (i : Nat) (kx a : T G d fi) (xp sp p : Pos) (h : (fi.isVar x i && !isComp a.x) = true) : SS G d fi :=
  ⟨.Assign [.Subscript (.Name x xp) kx.x sp] a.x p, fun σ => bd (a.ev σ) fun y σ => (ownAt σ.ρ i).bind fun _ => bd (kx.ev σ) fun z σ => (ownAt σ.ρ i).bind fun r => z.frz.int?.bind fun j => (setR r j y.frz).bind fun r' => some (.next, ⟨σ.ρ.set i (some (.own r')), σ.tp, σ.ob⟩), by
    intro σ f σ' e q
    obtain ⟨⟨y, σ₁⟩, e1, e⟩ := Option.bind_eq_some_iff.mp e
    obtain ⟨o0, e0, e⟩ := Option.bind_eq_some_iff.mp e
    obtain ⟨⟨z, σ₂⟩, e2, e⟩ := Option.bind_eq_some_iff.mp e
    obtain ⟨r, e3, e⟩ := Option.bind_eq_some_iff.mp e
    obtain ⟨j, e4, e⟩ := Option.bind_eq_some_iff.mp e
    obtain ⟨r', e5, e⟩ := Option.bind_eq_some_iff.mp e
    rw [Bool.and_eq_true, Bool.not_eq_true'] at h
    cases e
    obtain ⟨q1, hz⟩ := kx.eo _ _ _ e2 q
    obtain ⟨q2, hy⟩ := a.eo _ _ _ e1 q1
    refine ⟨q2, fun X E W φ s ef c S F Q k => wpAny_Assign_Subscript (hy.v X E W φ s ef S F _ fun y' W1 φ1 s1 p1 r1 => load_ok S p1.f (ef ▸ h.1) (ownAt_some e0) fun x' hx hn hv rr => hz.v X E W1 φ1 s1 ef S p1.f _ fun z' W2 φ2 s2 p2 r2 => ?_) (noSwap h.2 _ _ _)⟩
    dsimp only at e4; rw [V.int_of e4] at r2
    obtain ⟨t, rfl⟩ := r2
    obtain ⟨ad, hp, rfl, vs, n, h1, h2, h3⟩ := still p2.f hx hn (p2.vl _ _ hv) (ownAt_some e3)
    have hs := h2.size
    rw [List.length_reverse] at hs
    have hsl := sizeLine_lt
    have ry := r1.ag p2.ag
    have fin : ∀ m : Nat, r'.length = r.length → r'.reverse = r.reverse.set m y.frz → Q .next { s2 with heap := s2.heap.update ad (Obj.mapSeq (·.setIfInBounds m y')) } := fun m hl hr => by
      obtain ⟨A, B⟩ := p2.f.turn (x := x) (i := i) (t := s2.toks) (r := r') (h' := s2.heap.update ad (Obj.mapSeq (·.setIfInBounds m y'))) (fun z hz => S.ti z x i hz hx) hp (Heap.SameBut.update ..) (p2.vl _ _ hv) (Heap.get?_update_self _ h1 rfl)
        (by rw [Array.toList_setIfInBounds, hr]; exact h2.set m ry) (by rw [hl]; exact h3)
      exact k _ _ _ _ A ((p1.ag.trans p2.ag).trans B) rfl
    cases j with
    | ofNat m =>
      obtain ⟨w, e6, e5⟩ := Option.bind_eq_some_iff.mp e5
      cases e5
      have hm := (List.getElem?_eq_some_iff.mp e6).1
      rw [List.length_reverse] at hm
      exact PySem.W.ki_setAt h1 (Int.natCast_nonneg m) (by show (m : Int) < _; omega) (by rw [hs]; exact Int.ofNat_lt.mpr hm) (fin m (by simp) (by rw [List.reverse_reverse]))
    | negSucc m =>
      obtain ⟨w, e6, e5⟩ := Option.bind_eq_some_iff.mp e5
      cases e5
      have hm := (List.getElem?_eq_some_iff.mp e6).1
      refine PySem.W.ki_setBack h1 (by omega) (by rw [hs]; omega) (by omega) ?_
      have he : (Int.negSucc m + (vs.size : Int)).toNat = r.length - 1 - m := by rw [hs]; omega
      rw [he]
      exact fin _ (List.length_set ..) (rev_set r m _ hm)⟩

section
variable {M : Model} {A : Around} {R : Result → Shared → Prop} {s : Shared}
theorem code_while {test : Expr} {body : List Stmt} {env : Env} {prog : Program} {w : World}
    (h : wpAny (model prog w) A (isTrue test env (eval test env)) (fun b s₂ =>
        if b then wpAny (model prog w) A (execs body env) (fun f s₃ => match f with
            | .next | .cont => codeAny (model prog w) A (.whileLoop test body [] env) R s₃
            | .brk => R (.ok .next) s₃
            | .ret v => R (.ok (.ret v)) s₃) (notedBy (model prog w) A env fun e s' => R (.error e) s') s₂
        else R (.ok .next) s₂)
        (notedBy (model prog w) A env fun e s' => R (.error e) s') s) : codeAny (model prog w) A (.whileLoop test body [] env) R s := by
  refine codeAny_of_tree ?_
  show wpAny _ A ((whileTurn test body [] env).onRaise (fun x => do noteFrame x env; theTreesLotGoes x)) _ _ s
  refine wpAny_noted ?_
  simp only [whileTurn]
  refine wpAny_bind (wpAny_mono h (fun b s₂ h₂ => ?_) fun _ _ h' => h')
  cases b with
  | false =>
    simp only [Bool.false_eq_true, if_false] at h₂ ⊢
    exact wpAny_bind (wpAny_execs_nil (wpAny_pure h₂))
  | true =>
    simp only [if_true] at h₂ ⊢
    refine wpAny_bind (wpAny_mono h₂ (fun f s₃ h₃ => ?_) fun _ _ h' => h')
    cases f with
    | next => exact wpAny_pure ⟨rfl, h₃⟩
    | cont => exact wpAny_pure ⟨rfl, h₃⟩
    | brk => exact wpAny_pure h₃
    | ret v => exact wpAny_pure h₃
theorem code_for {x : Str} {p' : Pos} {it : Value} {body : List Stmt} {env : Env} {prog : Program} {w : World}
    (h : wpAny (model prog w) A (pyNext it) (fun r s₁ => match r with
      | none => R (.ok .next) s₁
      | some v => wpAny (model prog w) A (storeName env x v) (fun _ s₂ => wpAny (model prog w) A (execs body env) (fun f s₃ => match f with
            | .next | .cont => codeAny (model prog w) A (.forLoop (.Name x p') it body [] env) R s₃
            | .brk => R (.ok .next) s₃
            | .ret v => R (.ok (.ret v)) s₃) (notedBy (model prog w) A env fun e s' => R (.error e) s') s₂) (notedBy (model prog w) A env fun e s' => R (.error e) s') s₁) (notedBy (model prog w) A env fun e s' => R (.error e) s') s) :
    codeAny (model prog w) A (.forLoop (.Name x p') it body [] env) R s := by
  refine codeAny_of_tree ?_
  show wpAny _ A ((forTurn (.Name x p') it body [] env).onRaise (fun x => do noteFrame x env; theTreesLotGoes x)) _ _ s
  refine wpAny_noted ?_
  simp only [forTurn]
  refine wpAny_bind (wpAny_standAt (wpAny_bind (wpAny_onRaise (wpAny_mono h (fun r s₁ h₁ => ?_) fun _ _ h' => wpAny_standAt h'))))
  cases r with
  | none => exact wpAny_pure ⟨rfl, codeAny_block (wpAny_execs_nil h₁)⟩
  | some v =>
    refine wpAny_bind (wpAny_pure ?_)
    refine wpAny_bind (wpAny_mono (wpAny_assign_Name h₁) (fun _ s₂ h₂ => wpAny_bind (wpAny_mono h₂ (fun f s₃ h₃ => ?_) fun _ _ h' => h')) fun _ _ h' => h')
    cases f with
    | next => exact wpAny_pure ⟨rfl, h₃⟩
    | cont => exact wpAny_pure ⟨rfl, h₃⟩
    | brk => exact wpAny_pure h₃
    | ret v => exact wpAny_pure h₃
end
noncomputable def turn (c : T G d fi) (b : SL G d fi) (f : Bool) (σ : St) : Option (Option Fl × St) := bd (c.tr σ) fun t σ => bd (dec f t σ) fun t σ => Bool.casesOn t (pu none σ) (bd (b.ex σ) fun fl σ => pu (some fl) σ)
theorem turn_ok (c : T G d fi) (b : SL G d fi) (f : Bool) : Ok (turn c b f) fun ρ r ρ' => ∀ fl ρ'', Option.casesOn (motive := fun _ => Prop) r (fl = .next ∧ ρ'' = ρ') (fun g => Fl.casesOn (motive := fun _ => Prop) g (WhilOK G d fi c.x b.xs ρ' fl ρ'') fun o => fl = .ret o ∧ ρ'' = ρ') → WhilOK G d fi c.x b.xs ρ fl ρ'' :=
  c.to.bd (R := fun t ρ r ρ' => Bool.casesOn (motive := fun _ => Prop) t (r = none ∧ ρ = ρ') (∃ g, r = some g ∧ ExsG G d fi b.xs ρ g ρ')) (fun t => (Ok.dec f t).bd (R := fun t ρ r ρ' => Bool.casesOn (motive := fun _ => Prop) t (r = none ∧ ρ = ρ') (∃ g, r = some g ∧ ExsG G d fi b.xs ρ g ρ')) (fun t => by
    cases t
    · exact .pu fun _ => ⟨rfl, rfl⟩
    · exact b.eo.bd (R := fun g ρ r ρ' => r = some g ∧ ρ = ρ') (fun g => .pu fun _ => ⟨rfl, rfl⟩) fun _ g _ _ _ h q => by obtain ⟨rfl, rfl⟩ := q; exact ⟨g, rfl, h⟩) fun _ t _ _ _ h q => by obtain ⟨rfl, rfl⟩ := h; exact q)
    fun ρ t ρ₁ r ρ' h q fl ρ'' k X W φ s e cm S F R kk => code_while (h X _ W φ s e S F _ fun W' φ' s' p' => by
      cases t with
      | false =>
        obtain ⟨rfl, rfl⟩ := q
        obtain ⟨rfl, rfl⟩ := k
        exact kk _ _ _ _ p'.f p'.ag rfl
      | true =>
        obtain ⟨g, rfl, hb⟩ := q
        refine hb X _ W' φ' s' e cm S p'.f _ fun f W2 φ2 s2 A2 B2 C2 => ?_
        cases g with
        | next => cases C2; exact k X W2 φ2 s2 e cm S A2 R fun f W3 φ3 s3 A3 B3 C3 => kk _ _ _ _ A3 ((p'.ag.trans B2).trans B3) C3
        | ret o =>
          obtain ⟨rfl, rfl⟩ := k
          obtain ⟨v', rfl, ro⟩ := C2
          exact kk _ _ _ _ A2 (p'.ag.trans B2) ⟨v', rfl, ro⟩)
theorem for_nil {x : Str} {p' : Pos} {b : List Stmt} {ρ : Loc} : ForOK G d fi (.Name x p') b [] ρ .next ρ := fun X W φ s it e cm S F f I R k =>
  code_for (I.next S.hd F f fun s' A B C => k _ _ _ _ A B rfl)
theorem for_ok {x : Str} {p' : Pos} {i : Nat} (hx : fi.isOwn x i = true) (b : SL G d fi) (v : V) (l : List V) : Ok (fun σ => b.ex ⟨σ.ρ.set i (some (.val v)), σ.tp, σ.ob⟩) fun ρ g ρ' => ∀ fl ρ'', Fl.casesOn (motive := fun _ => Prop) g (ForOK G d fi (.Name x p') b.xs l ρ' fl ρ'') (fun o => fl = .ret o ∧ ρ'' = ρ') → ForOK G d fi (.Name x p') b.xs (v :: l) ρ fl ρ'' := by
  intro σ g σ' e q
  obtain ⟨q1, hb⟩ := b.eo _ _ _ e q
  refine ⟨q1, fun fl ρ'' k X W φ s it ef cm S F f I R kk => code_for (I.next S.hd F f fun s' A B C => fun v' rv I' => ?_)⟩
  obtain ⟨o, ho⟩ := I'.at
  refine store_ok (X := X.pinned it o) (S.pinned f.pin) (.inr cm) (A.pinned f ho) (.val rv) (ef ▸ hx) fun φ2 s2 A2 B2 => ?_
  refine hb (X.pinned it o) _ W φ2 s2 ef cm (S.pinned f.pin) A2 _ fun g' W3 φ3 s3 A3 B3 C3 => ?_
  obtain ⟨A4, f4, h4⟩ := A3.unpin f.pin f.nc
  have ag := B2.trans B3
  cases g with
  | next => cases C3; exact k X W3 φ3 s3 it ef cm S A4 f4 (I'.ag ag (h4.trans ho.symm)) R fun f W3 φ3 s3 A3 B3 C3 => kk _ _ _ _ A3 ((B.trans ag).trans B3) C3
  | ret r =>
    obtain ⟨rfl, rfl⟩ := k
    obtain ⟨v', rfl, ro⟩ := C3
    exact kk _ _ _ _ A4 (B.trans ag) ⟨v', rfl, ro.unpin⟩

theorem cellsFrom_acc : ∀ (names : List (Str × NameKind)) (n : Nat) (acc : List (Str × Addr)) (x : Str), (acc.lookup x).isSome = true → ((cellsFrom n names acc).lookup x).isSome = true
  | [], _, _, _, h => h
  | (y, k) :: r, n, acc, x, h => by
    unfold cellsFrom
    split
    · refine cellsFrom_acc r _ _ x ?_
      rw [List.lookup_cons]; split <;> first | rfl | exact h
    · exact cellsFrom_acc r n acc x h
theorem cellsFrom_has : ∀ (names : List (Str × NameKind)) (n : Nat) (acc : List (Str × Addr)) (x : Str), names.lookup x = some .cell → ((cellsFrom n names acc).lookup x).isSome = true
  | [], _, _, _, h => by cases h
  | (y, k) :: r, n, acc, x, h => by
    rw [List.lookup_cons] at h
    unfold cellsFrom
    cases q : x == y with
    | true =>
      rw [q] at h; cases h
      rw [if_pos (by decide)]
      refine cellsFrom_acc r _ _ x ?_
      rw [List.lookup_cons, q]; rfl
    | false =>
      rw [q] at h
      split <;> exact cellsFrom_has r _ _ x h
section
variable {kindOf : Str → Option NameKind}
theorem bindL_not {q : Str} : ∀ (ps : List Str) (vals : List Value) (m : Str → Option Value), q ∉ ps → bindL kindOf (ps.zip vals) m q = m q
  | [], _, _, _ => rfl
  | _ :: _, [], _, _ => rfl
  | a :: ps, b :: vals, m, hq => by
    rw [List.zip_cons_cons, bindL, bindL_not ps vals _ fun z => hq (List.mem_cons_of_mem _ z)]
    split
    · exact if_neg (fun e : q = a => hq (e ▸ List.mem_cons_self))
    · rfl
theorem bindC_not {q : Str} : ∀ (ps : List Str) (vals : List Value) (m : Str → Option Value), q ∉ ps → bindC kindOf (ps.zip vals) m q = m q
  | [], _, _, _ => rfl
  | _ :: _, [], _, _ => rfl
  | a :: ps, b :: vals, m, hq => by
    rw [List.zip_cons_cons, bindC, bindC_not ps vals _ fun z => hq (List.mem_cons_of_mem _ z)]
    split
    · rfl
    · exact if_neg (fun e : q = a => hq (e ▸ List.mem_cons_self))
theorem bindL_lookup : ∀ (ps : List Str) (vals : List Value) (m : Str → Option Value) (i : Nat) (p : Str) (v : Value), ps.Nodup → ps[i]? = some p → vals[i]? = some v → kindOf p = some .local → bindL kindOf (ps.zip vals) m p = some v
  | [], _, _, _, _, _, _, h, _, _ => nomatch h
  | q :: ps, [], _, i, _, _, _, _, h, _ => nomatch h
  | q :: ps, u :: vals, m, 0, p, v, hn, h1, h2, hk => by
    cases h1; cases h2
    rw [List.zip_cons_cons, bindL, if_pos hk, bindL_not _ _ _ (List.nodup_cons.mp hn).1]; exact if_pos rfl
  | q :: ps, u :: vals, m, i + 1, p, v, hn, h1, h2, hk => by
    rw [List.zip_cons_cons, bindL]
    exact bindL_lookup ps vals _ i p v (List.nodup_cons.mp hn).2 h1 h2 hk
theorem bindC_lookup : ∀ (ps : List Str) (vals : List Value) (m : Str → Option Value) (i : Nat) (p : Str) (v : Value), ps.Nodup → ps[i]? = some p → vals[i]? = some v → kindOf p ≠ some .local → bindC kindOf (ps.zip vals) m p = some v
  | [], _, _, _, _, _, _, h, _, _ => nomatch h
  | q :: ps, [], _, i, _, _, _, _, h, _ => nomatch h
  | q :: ps, u :: vals, m, 0, p, v, hn, h1, h2, hk => by
    cases h1; cases h2
    rw [List.zip_cons_cons, bindC, if_neg hk, bindC_not _ _ _ (List.nodup_cons.mp hn).1]; exact if_pos rfl
  | q :: ps, u :: vals, m, i + 1, p, v, hn, h1, h2, hk => by
    rw [List.zip_cons_cons, bindC]
    exact bindC_lookup ps vals _ i p v (List.nodup_cons.mp hn).2 h1 h2 hk
end
theorem cells_toks {prog : Program} {w : World} {A : Around} {s : Shared} {R : Result → Shared → Prop} {a : Addr} {o : Obj} {fd : FuncData} {body : List Stmt} {vals : List Value} {binds : List (Str × Value)}
    (hroom : A.depth < recursionLimit) (ho : s.heap.get? a = some o) (hdata : o.data = .func fd) (hlim : s.heap.NoLimit) (hcd : s.heap.CodeRec fd.code fd.qualname)
    (hbody : fd.body = .stmts body) (hbind : bindArgs fd ⟨vals, []⟩ = pure binds) (hclo : fd.closure = [])
    (hkind : ∀ x ∈ binds, fd.scope.names.lookup x.1 = some .local ∨ (fd.scope.names.lookup x.1 = some .cell ∧ ((cellsFrom (s.heap.objs.size + 1) fd.scope.names []).lookup x.1).isSome = true))
    (h : ∀ s₁, InCallC s (callEnvC fd s.heap.objs.size a).locals (bindL (callEnvC fd s.heap.objs.size a).kindOf binds fun _ => none) (callEnvC fd s.heap.objs.size a).cells
        (bindC (callEnvC fd s.heap.objs.size a).kindOf binds fun _ => none) s₁ → s.toks ≤ s₁.toks →
      wpAny (model prog w) (A.deeper (callEnvC fd s.heap.objs.size a)) (execs body (callEnvC fd s.heap.objs.size a)) (fun f s' => R (.ok (.ret (match f with | .ret v => v | _ => .none))) s')
        (fun e s' => wpAny (model prog w) (A.deeper (callEnvC fd s.heap.objs.size a)) (leaving (callEnvC fd s.heap.objs.size a) e) (fun _ s'' => R (.error e) s'') (fun e' s'' => R (.error e') s'') s') s₁)
    (hco : fd.scope.isCoroutine = false) (hgen : fd.scope.isGenerator = false) (hk : fd.scope.kind = .function) :
    codeAny (model prog w) A (.call (.ref a) ⟨vals, []⟩) R s := by
  refine codeAny_call_function hroom ho hdata hco hgen hbody hcd ?_
  rw [hbind, hclo]
  refine wpAny_pure (wpAny_with_toks (Nat.le_refl _) (wpAny_newFunctionEnv_cells hk hkind fun env he s' x ht => ?_))
  subst he
  exact ⟨hlim.keeps x.toInCall.keep, codeAny_func (h s' x ht)⟩
noncomputable def loc0 (args : List V) (n : Nat) : Loc := args.map (fun v => some (.val v)) ++ List.replicate n none
theorem call_gen {a : Addr} {f : FD} {args : List V} {n : Nat} (hf : G.fd.lookup a = some f) (hn : args.length = f.ps.length) {C : Cx} {A : Around} {W : WS} {s : Shared} {vals : List Value} {R : Result → Shared → Prop} (g : GOk G C) (hh : A.handled = none) (hdp : A.depth + 2 * (d + 1) + 9 ≤ recursionLimit)
    (hun : A.units + 20 * (d + 1) + deep + 90 < cLine) (hkeep : ∀ b o, C.h.get? b = some o → s.heap.get? b = some o) (hgens : s.gens = #[]) (htk : f.fi.pos = true → 0 < s.toks) (hos : s.os = C.os) (wf : ∀ a, W a → ∃ o, s.heap.get? a = some o) (r : VRs W s.heap args vals)
    (h : ∀ env s₁, env.frame = some env.locals → env.locals = s.heap.objs.size → FS G d ⟨C, A.deeper env, env, f.fi, s.heap.get?, W, true⟩ → At ⟨C, A.deeper env, env, f.fi, s.heap.get?, W, true⟩ W (fun _ => []) s₁ (loc0 args n) →
      wpAny C.M (A.deeper env) (execs f.st env) (fun f s' => R (.ok (.ret (match f with | .ret v => v | _ => .none))) s') (fun e s' => wpAny C.M (A.deeper env) (leaving env e) (fun _ s'' => R (.error e) s'') (fun e' s'' => R (.error e') s'') s') s₁) :
    codeAny C.M A (.call (.ref a) ⟨vals, []⟩) R s := by
  obtain ⟨ob, fd, fo⟩ := g.fd a f hf
  have hlen : vals.length = f.ps.length := r.length.trans hn
  have hkind : ∀ x ∈ f.ps.zip vals, fd.scope.names.lookup x.1 = some .local ∨ (fd.scope.names.lookup x.1 = some .cell ∧ ((cellsFrom (s.heap.objs.size + 1) fd.scope.names []).lookup x.1).isSome = true) := fun x hx => by
    rw [fo.names]
    rcases fo.own x.1 (List.of_mem_zip hx).1 with q | q
    · exact .inl q
    · exact .inr ⟨q, cellsFrom_has _ _ _ _ q⟩
  refine cells_toks (by omega) (hkeep _ _ fo.at_) fo.dat (g.nolimit.keeps hkeep) (fo.rec_.keeps hkeep) fo.body (fo.bind vals hlen) fo.clo hkind (fun s₁ IC ht1 => ?_) fo.co fo.gen fo.kind
  generalize he : callEnvC fd s.heap.objs.size a = env at IC ⊢
  have hL : env.locals = s.heap.objs.size := by rw [← he]; rfl
  have hNm : env.scope.names = f.fi.names := by rw [← he]; exact fo.names
  have hcs : env.cells = cellsFrom (s.heap.objs.size + 1) fd.scope.names [] := by rw [← he]; rfl
  obtain ⟨h₁, tk, rfl⟩ := IC.toInCall.same
  have hk := IC.toInCall.keep
  have cAbove : ∀ x c, env.cells.lookup x = some c → s.heap.objs.size ≤ c := fun x c hc => by
    have := IC.above x c (mem_of_lookup hc); rw [hL] at this; exact Nat.le_of_lt this
  have hko : ∀ x, env.kindOf x = f.fi.names.lookup x := fun x => by unfold Env.kindOf; rw [hNm]
  let X : FC := ⟨C, A.deeper env, env, f.fi, s.heap.get?, W, true⟩
  have S : FS G d X := by
    refine ⟨g, hkeep, hh, ?_, ?_, ?_, ?_, ?_, hNm, ?_, ?_, fo.inj⟩
    · show A.depth + 1 + 2 * d + 10 ≤ _; omega
    · show A.units + 3 + 20 * d + deep + 100 < _; omega
    · show env.scope.kind = _; rw [← he]; exact fo.kind
    · show env.globals = _; rw [← he]; exact fo.gl
    · show env.builtins = _; rw [← he]; exact fo.bi
    · rintro x (q | q)
      · have q : f.fi.names.lookup x = some .cell := q
        rw [← fo.names] at q
        have := cellsFrom_has fd.scope.names (s.heap.objs.size + 1) [] x q
        rw [← hcs] at this
        exact Option.isSome_iff_exists.mp this
      · exact absurd rfl (fo.free _ (mem_of_lookup q))
    · intro x y c hx hy; exact name_of_addr IC.apart (mem_of_lookup hx) (mem_of_lookup hy)
  have gs : Gs W s W { s with heap := h₁, toks := tk } := Gs.of wf hk ht1
  have nof : ∀ b, s.heap.objs.size ≤ b → s.heap.get? b = none ∧ ¬ W b := fun b q => ⟨none_of_le q, fun w => by obtain ⟨_, z⟩ := wf b w; rw [none_of_le q] at z; cases z⟩
  have F : At X W (fun _ => []) { s with heap := h₁, toks := tk } (loc0 args n) := by
    refine ⟨hgens, hos, ⟨hk, ?_, gs.g.wf, fun _ _ _ q => q, fun _ _ _ q => (by cases q), ?_, ?_⟩, ?_, fun _ _ q => (by cases q), fun h => Nat.lt_of_lt_of_le (htk h) ht1⟩
    · rintro b (q | ⟨_, x, q⟩ | ⟨i, q⟩)
      · exact nof b (by rw [show b = env.locals from q, hL]; exact Nat.le_refl _)
      · exact nof b (cAbove x b q)
      · cases q
    · obtain ⟨o, es, ep, h1, h2, h3, _⟩ := IC.toInCall.ns; exact ⟨o, es, ep, h1, h2, h3⟩
    · intro x c hc; obtain ⟨o, h1, h2⟩ := IC.cell x c hc; exact ⟨o, _, h1, h2⟩
    · intro x i hx w hw hkd
      have hx : f.fi.tbl.lookup x = some i := hx
      unfold loc0 at hw
      have hi : i < args.length := by
        rcases Nat.lt_or_ge i args.length with q | q
        · exact q
        · rw [List.getElem?_append_right (by rwa [List.length_map]), List.getElem?_replicate] at hw
          split at hw <;> cases hw
      rw [List.getElem?_append_left (by rwa [List.length_map]), List.getElem?_map, Option.map_eq_some_iff] at hw
      obtain ⟨w', hw1, hw2⟩ := hw
      cases hw2
      obtain ⟨u, hu, hr⟩ := r.get hw1
      obtain ⟨p, hp⟩ : ∃ p, f.ps[i]? = some p := ⟨_, List.getElem?_eq_getElem (by rw [← hn]; exact hi)⟩
      obtain rfl : x = p := fo.inj x p i hx (fo.at0 i p hp)
      refine ⟨u, ?_, rfl, hr.ag (gs.g.ag wf)⟩
      rcases fo.own x (List.mem_of_getElem? hp) with q | q
      · exact .inl ⟨(hko x).trans q, _, IC.toInCall.ns, bindL_lookup f.ps vals _ i x u fo.nodup hp hu ((hko x).trans q)⟩
      · have hc := cellsFrom_has fd.scope.names (s.heap.objs.size + 1) [] x (by rw [fo.names]; exact q)
        rw [← hcs] at hc
        obtain ⟨c, hc⟩ := Option.isSome_iff_exists.mp hc
        refine .inr ⟨.inl ((hko x).trans q), c, hc, ?_⟩
        have := IC.cell x c hc
        rw [bindC_lookup f.ps vals _ i x u fo.nodup hp hu (by rw [hko, q]; decide)] at this
        exact this
  exact h env _ (by rw [← he]; rfl) hL S F
theorem call_of {a : Addr} {f : FD} {args : List V} {o : O} {n : Nat} {g : Fl} {ρ' : Loc} (hf : G.fd.lookup a = some f) (hn : args.length = f.ps.length) (h : ExsG G d f.fi f.st (loc0 args n) g ρ') (hg : g = .ret o ∨ (g = .next ∧ o = .val .none)) : CallOK G (d + 1) a args o := by
  intro C A W s vals R g hh hdp hun hkeep hgens htk hos wf r k
  refine codeAny_with_toks (Nat.le_refl _) ?_
  refine call_gen (n := n) hf hn g hh hdp hun hkeep hgens (htk f hf) hos wf r fun env s₁ _ _ S F => ?_
  refine h ⟨C, A.deeper env, env, f.fi, s.heap.get?, W, true⟩ _ W _ _ rfl rfl S F _ fun fw W' φ' s' A' B' C' => ?_
  intro tle
  have gs' : Gs W s W' s' := ⟨⟨fun b o e => A'.f.pin b o e, fun a q => B'.w a q, A'.f.wf, fun b o e q => A'.f.w0 b o e q⟩, A'.gens.trans hgens.symm, A'.os.trans hos.symm, tle⟩
  rcases hg with rfl | ⟨rfl, rfl⟩
  · obtain ⟨v', rfl, p, ro, hp⟩ := C'
    refine k v' W' s' gs' ?_
    cases o with
    | val v => exact ro.2
    | own r' =>
      obtain ⟨b, rfl, rfl, z⟩ := ro
      obtain ⟨w1, _, w3⟩ := hp b List.mem_cons_self
      exact ⟨b, rfl, w3, w1, z⟩
    | own2 r' =>
      obtain ⟨b, as, rfl, rfl, z⟩ := ro
      exact ⟨b, as, rfl, fun c q => ⟨(hp c q).2.2, (hp c q).1⟩, z⟩
  · cases C'
    exact k _ W' s' gs' rfl
end
end Mine
end

section
open PySem
set_option autoImplicit false
set_option linter.unusedVariables false
namespace Mine
open PySem.W (Looks keepIn)

def relab (outer names : List (Str × NameKind)) : List (Str × NameKind) := names.map fun (n, k) => if (k == .free && outer.lookup n == some .cell) then (n, .cell) else (n, k)
def FI.inner (fi : FI) (sc : Scope) (x : Str) (i : Nat) : FI := ⟨relab fi.names sc.names, (x, i) :: fi.tbl, fi.pos⟩
def compName (fi : FI) (sc : Scope) (x : Str) (y : Str × NameKind) : Bool := match y.2 with
  | .local => sc.names.lookup y.1 == some .local && (y.1 == x || (fi.tbl.lookup y.1).isNone)
  | .free => sc.names.lookup y.1 == some .free && (fi.names.lookup y.1 == some .cell || fi.names.lookup y.1 == some .free)
  | .cell => false
  | _ => (fi.tbl.lookup y.1).isNone
def compOk (fi : FI) (sc : Scope) (x : Str) (i : Nat) : Bool := sc.kind == .function && sc.names.lookup x == some .local && (sc.names.all (compName fi sc x)) && (fi.tbl.all fun p => p.2 != i)
theorem relab_lookup (outer : List (Str × NameKind)) (y : Str) : ∀ names : List (Str × NameKind), (relab outer names).lookup y = (names.lookup y).map fun k => if (k == .free && outer.lookup y == some .cell) then .cell else k
  | [] => rfl
  | (n, k) :: r => by
    have ih := relab_lookup outer y r
    show List.lookup y ((if (k == .free && outer.lookup n == some .cell) then (n, .cell) else (n, k)) :: relab outer r) = _
    have e : (if (k == .free && outer.lookup n == some .cell) then (n, NameKind.cell) else (n, k)) = (n, if (k == .free && outer.lookup n == some .cell) then NameKind.cell else k) := by split <;> rfl
    rw [e, List.lookup_cons, List.lookup_cons, ih]
    cases q : y == n with
    | true => rw [beq_iff_eq.mp q]; rfl
    | false => rfl
theorem relabel_names {fi : FI} {env : Env} (sc : Scope) (hf : env.scope.kind = .function) (hn : env.scope.names = fi.names) : (relabel sc env).names = relab fi.names sc.names := by
  unfold relabel relab
  simp only [hf, Env.kindOf, hn, beq_self_eq_true, Bool.and_true]
structure CompC (fi : FI) (sc : Scope) (x : Str) (i : Nat) : Prop where
  kind : sc.kind = .function
  own : sc.names.lookup x = some .local
  names : ∀ y, y ∈ sc.names → compName fi sc x y = true
  new : ∀ y j, fi.tbl.lookup y = some j → j ≠ i
theorem CompC.of {fi : FI} {sc : Scope} {x : Str} {i : Nat} (h : compOk fi sc x i = true) : CompC fi sc x i := by
  simp only [compOk, Bool.and_eq_true, beq_iff_eq, List.all_eq_true, bne_iff_ne, ne_eq] at h
  exact ⟨h.1.1.1, h.1.1.2, h.1.2, fun y j hy => h.2 (y, j) (mem_of_lookup hy)⟩
section
variable {fi : FI} {sc : Scope} {x : Str} {i : Nat}
theorem CompC.cell (h : CompC fi sc x i) : ∀ y ∈ sc.names, y.2 ≠ .cell := fun y hy q => by
  have := h.names y hy; unfold compName at this; rw [q] at this; cases this
theorem CompC.local (h : CompC fi sc x i) : ∀ y ∈ sc.names, y.2 = .local → sc.names.lookup y.1 = some .local := fun y hy q => by
  have := h.names y hy; unfold compName at this; rw [q] at this
  exact beq_iff_eq.mp (Bool.and_eq_true_iff.mp this).1
theorem CompC.free (h : CompC fi sc x i) {y : Str} (hy : sc.names.lookup y = some .free) : fi.names.lookup y = some .cell ∨ fi.names.lookup y = some .free := by
  have := h.names _ (mem_of_lookup hy); unfold compName at this
  simp only [Bool.and_eq_true, beq_iff_eq, Bool.or_eq_true] at this; exact this.2
theorem CompC.isFree (h : CompC fi sc x i) {y : Str} {j : Nat} (hne : y ≠ x) (hy : fi.tbl.lookup y = some j) (hk : (fi.inner sc x i).names.lookup y ≠ none) : sc.names.lookup y = some .free := by
  have hk : (relab fi.names sc.names).lookup y ≠ none := hk
  rw [relab_lookup] at hk
  cases z : sc.names.lookup y with
  | none => rw [z] at hk; exact absurd rfl hk
  | some kd =>
    have := h.names _ (mem_of_lookup z)
    unfold compName at this
    cases kd with
    | free => rfl
    | cell => cases this
    | «local» =>
      simp only [Bool.and_eq_true, Bool.or_eq_true, beq_iff_eq] at this
      rcases this.2 with z1 | z1
      · exact absurd z1 hne
      · rw [hy] at z1; cases z1
    | globalExplicit => dsimp only at this; rw [hy] at this; cases this
    | globalImplicit => dsimp only at this; rw [hy] at this; cases this
theorem CompC.cells (h : CompC fi sc x i) {y : Str} (hy : (fi.inner sc x i).names.lookup y = some .cell ∨ (fi.inner sc x i).names.lookup y = some .free) : sc.names.lookup y = some .free := by
  have hy : (relab fi.names sc.names).lookup y = some .cell ∨ (relab fi.names sc.names).lookup y = some .free := hy
  rw [relab_lookup] at hy
  cases z : sc.names.lookup y with
  | none => rw [z] at hy; rcases hy with q | q <;> cases q
  | some kd =>
    rw [z] at hy
    cases kd with
    | free => rfl
    | cell => exact absurd rfl (h.cell _ (mem_of_lookup z))
    | _ => rcases hy with q | q <;> cases q
end
theorem closure_ok (env : Env) : ∀ (names : List (Str × NameKind)), (∀ y ∈ names, y.2 = .free → ∃ c, env.cells.lookup y.1 = some c) → ∀ acc : List (Str × Addr),
    ∃ cl : List (Str × Addr), (forIn names acc fun (y : Str × NameKind) cs => if (y.2 == NameKind.free) = true then do let a ← cellOf env y.1; pure (ForInStep.yield ((y.1, a) :: cs)) else pure (ForInStep.yield cs) : Sem (List (Str × Addr))) = pure cl ∧
      (∀ n c, (n, c) ∈ cl → (n, c) ∈ acc ∨ env.cells.lookup n = some c) ∧ (∀ y ∈ names, y.2 = .free → (cl.lookup y.1).isSome = true) ∧ (∀ n, (acc.lookup n).isSome = true → (cl.lookup n).isSome = true)
  | [], _, acc => ⟨acc, rfl, fun n c h => .inl h, fun y h => (by cases h), fun n h => h⟩
  | (n, k) :: r, h, acc => by
    by_cases q : k = .free
    · subst q
      obtain ⟨c, hc⟩ := h (n, .free) List.mem_cons_self rfl
      obtain ⟨cl, e, h1, h2, h3⟩ := closure_ok env r (fun y hy => h y (List.mem_cons_of_mem _ hy)) ((n, c) :: acc)
      refine ⟨cl, ?_, fun m d hd => ?_, fun y hy hk => ?_, fun m hm => h3 m ?_⟩
      · rw [List.forIn_cons]
        have e1 : cellOf env n = pure c := by unfold cellOf; rw [hc]
        simp only [beq_self_eq_true, if_true, e1]
        exact e
      · rcases h1 m d hd with z | z
        · rcases List.mem_cons.mp z with z | z
          · cases z; exact .inr hc
          · exact .inl z
        · exact .inr z
      · rcases List.mem_cons.mp hy with z | z
        · subst z; exact h3 n (by rw [List.lookup_cons, beq_self_eq_true]; rfl)
        · exact h2 y z hk
      · rw [List.lookup_cons]; split <;> first | rfl | exact hm
    · obtain ⟨cl, e, h1, h2, h3⟩ := closure_ok env r (fun y hy => h y (List.mem_cons_of_mem _ hy)) acc
      refine ⟨cl, ?_, h1, fun y hy hk => ?_, h3⟩
      · rw [List.forIn_cons]
        have : (k == NameKind.free) = false := by simpa using q
        simp only [this, Bool.false_eq_true, if_false]
        exact e
      · rcases List.mem_cons.mp hy with z | z
        · subst z; exact absurd hk q
        · exact h2 y z hk
theorem closureFor_ok {env : Env} {scope : Scope} (h : ∀ y ∈ scope.names, y.2 = .free → ∃ c, env.cells.lookup y.1 = some c) :
    ∃ cl : List (Str × Addr), closureFor scope env = pure cl ∧ (∀ n c, cl.lookup n = some c → env.cells.lookup n = some c) ∧ (∀ y ∈ scope.names, y.2 = .free → (cl.lookup y.1).isSome = true) := by
  obtain ⟨cl, e, h1, h2, _⟩ := closure_ok env scope.names h []
  refine ⟨cl, ?_, fun n c hc => (h1 n c (mem_of_lookup hc)).elim (fun z => nomatch z) id, h2⟩
  have : closureFor scope env = (forIn scope.names ([] : List (Str × Addr)) fun (y : Str × NameKind) cs => if (y.2 == NameKind.free) = true then do let a ← cellOf env y.1; pure (ForInStep.yield ((y.1, a) :: cs)) else pure (ForInStep.yield cs) : Sem (List (Str × Addr))) >>= fun cs => pure cs := rfl
  rw [this, e]; rfl

section
variable {A : Around} {R : Result → Shared → Prop} {s : Shared}
noncomputable def TestsW (M : Model) (A : Around) (E : Value → Shared → Prop) (env : Env) (cs : List Expr) (Q : Bool → Shared → Prop) (s : Shared) : Prop := List.casesOn cs (Q true s) fun c cs => List.casesOn cs (wpAny M A (isTrue c env (eval c env)) Q E s) fun _ _ => False
theorem code_comp {elt iter : Expr} {cs : List Expr} {x : Str} {px : Pos} {scope : Scope} {pos : Pos} {it acc : Value} {env : Env} {prog : Program} {w : World}
    (h : wpAny (model prog w) A (pyNext it) (fun r s₁ => match r with
      | none => R (.ok .next) s₁
      | some v => wpAny (model prog w) A (storeName env x v) (fun _ s₂ => TestsW (model prog w) A (notedBy (model prog w) A env fun e s' => R (.error e) s') env cs (fun ok s₃ => Bool.casesOn (motive := fun _ => Prop) ok (codeAny (model prog w) A (.compLoop (.ListComp elt [⟨.Name x px, iter, cs, 0⟩] scope pos) 0 it acc env) R s₃) (wpAny (model prog w) A (eval elt env) (fun y s₄ =>
              wpAny (model prog w) A (call (.builtin "list.append") [acc, y]) (fun _ s₅ => codeAny (model prog w) A (.compLoop (.ListComp elt [⟨.Name x px, iter, cs, 0⟩] scope pos) 0 it acc env) R s₅) (notedBy (model prog w) A env fun e s' => R (.error e) s') s₄) (notedBy (model prog w) A env fun e s' => R (.error e) s') s₃)) s₂) (notedBy (model prog w) A env fun e s' => R (.error e) s') s₁) (notedBy (model prog w) A env fun e s' => R (.error e) s') s) :
    codeAny (model prog w) A (.compLoop (.ListComp elt [⟨.Name x px, iter, cs, 0⟩] scope pos) 0 it acc env) R s := by
  refine codeAny_of_tree ?_
  show wpAny _ A ((compTurn (.ListComp elt [⟨.Name x px, iter, cs, 0⟩] scope pos) 0 it acc env).onRaise (fun x => do noteFrame x env; theTreesLotGoes x)) _ _ s
  refine wpAny_noted ?_
  rw [compTurn_list]
  refine wpAny_bind (wpAny_standAt (wpAny_bind (wpAny_mono h (fun r s₁ h₁ => ?_) fun _ _ h' => h')))
  cases r with
  | none => exact wpAny_pure h₁
  | some v =>
    refine wpAny_bind (wpAny_pure ?_)
    refine wpAny_bind (wpAny_mono (wpAny_assign_Name h₁) (fun _ s₂ h₂ => ?_) fun _ _ h' => h')
    cases cs with
    | nil =>
      refine wpAny_bind (wpAny_tests_nil ?_)
      exact wpAny_bind (wpAny_bind (wpAny_mono h₂ (fun x s₄ h₄ => wpAny_bind (wpAny_mono h₄ (fun _ s₅ h₅ => wpAny_pure (wpAny_pure ⟨rfl, h₅⟩)) fun _ _ h' => h')) fun _ _ h' => h'))
    | cons c cs =>
      cases cs with
      | nil =>
        refine wpAny_bind (wpAny_tests_one (wpAny_mono h₂ (fun ok s₃ h₃ => ?_) fun _ _ h' => h'))
        cases ok with
        | true => exact wpAny_bind (wpAny_bind (wpAny_mono h₃ (fun x s₄ h₄ => wpAny_bind (wpAny_mono h₄ (fun _ s₅ h₅ => wpAny_pure (wpAny_pure ⟨rfl, h₅⟩)) fun _ _ h' => h')) fun _ _ h' => h'))
        | false => exact wpAny_bind (wpAny_pure (wpAny_pure ⟨rfl, h₃⟩))
      | cons => cases h₂
end

noncomputable def TestsG (G : Gl) (d : Nat) (fi : FI) (cs : List Expr) (ρ : Loc) (t : Bool) : Prop := List.casesOn cs (t = true) fun c cs => List.casesOn cs (TrG G d fi c ρ t ρ) fun _ _ => False
noncomputable def CompI (G : Gl) (d : Nat) (fi : FI) (cs : List Expr) (elt : Expr) (i : Nat) (ρ : Loc) (l vs : List V) : Prop :=
  @List.rec V (fun _ => List V → Prop) (fun vs => vs = []) (fun v _ ih vs => (∃ w r, vs = w :: r ∧ TestsG G d fi cs (ρ.set i (some (.val v))) true ∧ EvV G d fi elt (ρ.set i (some (.val v))) w (ρ.set i (some (.val v))) ∧ ih r) ∨ (TestsG G d fi cs (ρ.set i (some (.val v))) false ∧ ih vs)) l vs
abbrev CompL (G : Gl) (d : Nat) (fi : FI) (elt : Expr) (i : Nat) (ρ : Loc) (l vs : List V) : Prop := CompI G d fi [] elt i ρ l vs
noncomputable def shr (ρ : Loc) : Loc := ρ.map fun o => o.bind fun o => O.casesOn o (fun v => some (.val v)) (fun _ => none) fun _ => none
theorem shr_get {ρ : Loc} {j : Nat} {o : O} (e : (shr ρ)[j]? = some (some o)) : ∃ v, o = .val v ∧ ρ[j]? = some (some (.val v)) := by
  unfold shr at e
  rw [List.getElem?_map] at e
  obtain ⟨o', e1, e2⟩ := Option.map_eq_some_iff.mp e
  cases o' with
  | none => cases e2
  | some o' => cases o' with
    | own r => cases e2
    | own2 r => cases e2
    | val v => cases e2; exact ⟨v, rfl, e1⟩

section
variable {G : Gl} {d : Nat} {fi : FI}
theorem TestsG.go {cs : List Expr} {ρ : Loc} {t : Bool} (h : TestsG G d fi cs ρ t) {X : FC} {E : Value → Shared → Prop} {W : WS} {φ : Nat → List Addr} {s : Shared} {Q : Bool → Shared → Prop} (e : X.fi = fi) (S : FS G d X) (F : At X W φ s ρ)
    (k : ∀ W' φ' s', Pst X W s W' φ' s' ρ → Q t s') : TestsW X.C.M X.A E X.env cs Q s := by
  cases cs with
  | nil => cases h; exact k _ _ _ (.refl F)
  | cons c cs => cases cs with
    | nil => exact h X E W φ s e S F Q k
    | cons => cases h
theorem comp_loop {elt iter : Expr} {cs : List Expr} {x : Str} {px : Pos} {i : Nat} {sc : Scope} {pos : Pos} {ρ₀ : Loc} (hx : fi.isOwn x i = true) (hl : fi.names.lookup x = some .local) : ∀ {l vs : List V} {r : List V} {ρ : Loc} {X : FC} {W : WS} {φ : Nat → List Addr} {s : Shared} {it acc : Addr} {R : Result → Shared → Prop},
    CompI G d fi cs elt i ρ₀ l vs → X.fi = fi → FS G d X → (∀ o, ρ.set i o = ρ₀.set i o) → At X W φ s ρ → Fre X W φ it → ItR W s.heap it l → Fre X W φ acc → acc ≠ it → OwnAt W s.heap acc r → l.length + r.length ≤ room →
    (∀ W' φ' s' ρ', At X W' φ' s' ρ' → Ag W s.heap W' s'.heap → Fre X W' φ' acc → OwnAt W' s'.heap acc (vs.reverse ++ r) → R (.ok .next) s') → codeAny X.C.M X.A (.compLoop (.ListComp elt [⟨.Name x px, iter, cs, 0⟩] sc pos) 0 (.ref it) (.ref acc) X.env) R s := by
  intro l
  induction l with
  | nil =>
    intro vs r ρ X W φ s it acc R h e S hρ F f I fa hne O hr k
    cases h
    refine code_comp (I.next S.hd F f fun s' A B C => k _ _ _ _ A B fa ?_)
    obtain ⟨vs, n, e, _⟩ := id O
    exact O.ag B ((C acc _ hne e).trans e.symm)
  | cons v l ih =>
    intro vs r ρ X W φ s it acc R h e S hρ F f I fa hne O hr k
    refine code_comp (I.next S.hd F f fun s' A B C => fun v' rv I' => ?_)
    obtain ⟨o, ho⟩ := I'.at
    obtain ⟨zs, n, he, _⟩ := id O
    have he1 := C acc _ hne he
    have O1 := O.ag B (he1.trans he.symm)
    have F1 := A.pinned f ho
    have fa1 : Fre (X.pinned it o) W φ acc := ⟨by rw [FC.pinned_ne hne]; exact fa.pin, fa.w, fa.mu, fa.nc⟩
    have F2 := F1.pinned fa1 he1
    have S1 : FS G d (X.pinned it o) := S.pinned f.pin
    have S2 : FS G d ((X.pinned it o).pinned acc (lstO zs n)) := S1.pinned fa1.pin
    refine store_ok (X := (X.pinned it o).pinned acc (lstO zs n)) S2 (.inl (show X.fi.names.lookup x = _ by rw [e]; exact hl)) F2 (.val rv) (show X.fi.isOwn x i = true by rw [e]; exact hx) fun φ2 s2 A2 B2 => ?_
    rw [hρ] at A2
    rw [List.length_cons] at hr
    have := room_le
    rcases h with ⟨w, ws, rfl, ht, hw, hl'⟩ | ⟨ht, hl'⟩
    · refine ht.go (X := (X.pinned it o).pinned acc (lstO zs n)) e S2 A2 fun Wt φt st pt => ?_
      refine hw ((X.pinned it o).pinned acc (lstO zs n)) _ Wt φt st e S2 pt.f _ fun w' W3 φ3 s3 p3 r3 => ?_
      obtain ⟨A4, fa4, h4⟩ := p3.f.unpin fa1.pin fa.nc
      obtain ⟨A5, f5, h5⟩ := A4.unpin f.pin f.nc
      have fa5 : Fre X W3 φ3 acc := ⟨fa.pin, fa4.w, fa4.mu, fa.nc⟩
      have ag := (B2.trans pt.ag).trans p3.ag
      have O3 := O1.ag ag (h4.trans he1.symm)
      obtain ⟨vs, m, g1, g2, g3⟩ := O3
      have hs := g2.size
      rw [List.length_reverse] at hs
      refine call_meets PySem.F.slot_list_append ⟨_, g1, rfl⟩ PySem.F.entry_list_append (PySem.F.args_list_append_2 _ _) (list_append acc vs m _ (by rw [hs]; exact g3)) ⟨g1, ?_⟩
      have hsb : Heap.SameBut acc s3.heap (s3.heap.update acc (Obj.mapSeq (·.push w'))) := Heap.SameBut.update ..
      obtain ⟨A6, B6, _⟩ := A5.loose fa5 (t := s3.toks) fun b o q e => (hsb.2 b q).trans e
      refine ih hl' e S (ρ := ρ₀.set i (some (.val v))) (fun o => by rw [List.set_set]) A6 f5 (I'.ag (ag.trans B6) ((hsb.2 it (Ne.symm hne)).trans (h5.trans ho.symm))) fa5 hne (r := w :: r) ⟨_, _, Heap.get?_update_self _ g1 rfl, ?_, ?_⟩ (by rw [List.length_cons]; omega) fun W' φ' s' ρ' a b c d => k W' φ' s' ρ' a ((B.trans (ag.trans B6)).trans b) c ?_
      · rw [Array.toList_push, List.reverse_cons]; exact (g2.snoc r3).ag B6
      · rw [List.length_cons]; omega
      · rw [List.reverse_cons, List.append_assoc]; exact d
    · refine ht.go (X := (X.pinned it o).pinned acc (lstO zs n)) e S2 A2 fun W3 φ3 s3 p3 => ?_
      obtain ⟨A4, fa4, h4⟩ := p3.f.unpin fa1.pin fa.nc
      obtain ⟨A5, f5, h5⟩ := A4.unpin f.pin f.nc
      have fa5 : Fre X W3 φ3 acc := ⟨fa.pin, fa4.w, fa4.mu, fa.nc⟩
      have ag := B2.trans p3.ag
      exact ih hl' e S (ρ := ρ₀.set i (some (.val v))) (fun o => by rw [List.set_set]) A5 f5 (I'.ag ag (h5.trans ho.symm)) fa5 hne (O1.ag ag (h4.trans he1.symm)) (by omega) fun W' φ' s' ρ' a b c d => k W' φ' s' ρ' a ((B.trans ag).trans b) c d

theorem comp_core {elt : Expr} {cs : List Expr} {x : Str} {px : Pos} {i : Nat} {sc : Scope} {pos pos' : Pos} {it : It G d fi} {ρ ρ₁ : Loc} {l vs : List V} (hc : CompC fi sc x i) (h1 : ItG G d fi it.x ρ l ρ₁) (h2 : CompI G d (fi.inner sc x i) cs elt i ((shr ρ₁).set i none) l vs) (hr : l.length ≤ room)
    {X : FC} {E : Value → Shared → Prop} {W : WS} {φ : Nat → List Addr} {s : Shared} {use : Option (Value → Sem Unit)} {Q : Value → Shared → Prop} (e : X.fi = fi) (S : FS G d X) (F : At X W φ s ρ)
    (k : ∀ acc C W' φ' s', Pst X W s W' φ' s' ρ₁ → Fre X W' φ' C → (∃ m, s'.heap.Ns C m) → acc ≠ C → Fre X W' φ' acc → OwnAt W' s'.heap acc vs.reverse → compPost X.C.M X.A E use Q (.ref acc) C (.ok .next) s') :
    wpAny X.C.M X.A (comprehension (.ListComp elt [⟨.Name x px, it.x, cs, 0⟩] sc pos) sc X.env pos' (newList []) false (eval it.x X.env) use) Q E s := by
  subst e
  obtain ⟨cl, hcl, hcl1, hcl2⟩ := closureFor_ok (env := X.env) (scope := sc) fun y hy q => S.cel y.1 (hc.free (by
    have := hc.names y hy; unfold compName at this; rw [q] at this; exact beq_iff_eq.mp (Bool.and_eq_true_iff.mp this).1))
  refine wpAny_comprehension_free (g := ⟨.Name x px, it.x, cs, 0⟩) (gs := []) rfl (noSet it.pl X.env) hcl hc.kind hc.local ?_
  refine h1 X E W φ s rfl S F _ fun a W1 φ1 s1 p1 f1 I1 => wpAny_newObj_type ?_
  refine wpAny_newFunctionEnv hc.cell (by intro y hy; cases hy) (fun h3 hns hsb => ?_) hc.kind
  generalize hh2 : s1.heap.push { cls := .type "list", data := .seq ([] : List Value).toArray } = h2' at hns hsb ⊢
  have hz2 : h2'.objs.size = s1.heap.objs.size + 1 := by rw [← hh2]; exact Heap.size_push ..
  have hk2 : ∀ b o, s1.heap.get? b = some o → h2'.get? b = some o := fun b o q => by rw [← hh2]; exact Heap.get?_push_of_some _ q
  have hk3 : ∀ b o, h2'.get? b = some o → h3.get? b = some o := fun b o q => (hsb.2 b (fun z => absurd (Heap.lt_size q) (by rw [z]; exact Nat.lt_irrefl _))).trans (Heap.get?_push_of_some _ q)
  have ha3 : h3.get? s1.heap.objs.size = some (lstO ([] : List Value).toArray 0) := hk3 _ _ (by rw [← hh2]; exact Heap.get?_push_size _ rfl)
  have g3 : Gs W1 s1 W1 { s1 with heap := h3, toks := s1.toks + ([] : List (Str × Value)).length } := Gs.of p1.f.f.wf fun b o q => hk3 b o (hk2 b o q)
  have F3 := p1.f.gs g3
  have n1 : s1.heap.get? s1.heap.objs.size = none := fresh_size _
  have n2 : s1.heap.get? h2'.objs.size = none := none_of_le (by rw [hz2]; exact Nat.le_succ _)
  have fa : Fre X W1 φ1 s1.heap.objs.size := .of p1.f n1
  have fC : Fre X W1 φ1 h2'.objs.size := .of p1.f n2
  obtain ⟨io, hio⟩ := I1.at
  have ita : s1.heap.objs.size ≠ a := fun q => by rw [q, hio] at n1; cases n1
  have itC : a ≠ h2'.objs.size := fun q => by rw [← q, hio] at n2; cases n2
  have aC : s1.heap.objs.size ≠ h2'.objs.size := by rw [hz2]; exact Nat.ne_of_lt (Nat.lt_succ_self _)
  -- the comprehension's frame
  generalize hce : ({ newEnv sc h2'.objs.size X.env.globals cl X.env.qual none .none (some X.env) builtinsNs with scope := relabel sc X.env } : Env) = cenv
  have cL : cenv.locals = h2'.objs.size := by rw [← hce]; rfl
  have cC : cenv.cells = cl := by rw [← hce]; rfl
  have cN : cenv.scope.names = relab X.fi.names sc.names := by rw [← hce]; exact relabel_names sc S.fn S.nm
  let Y : FC := ⟨X.C, X.A, cenv, X.fi.inner sc x i, fun b => if b = s1.heap.objs.size ∨ b = h2'.objs.size ∨ b = a then none else h3.get? b, W1, false⟩
  have pinY : ∀ b o, s1.heap.get? b = some o → b ≠ a → Y.pin b = some o := fun b o q z => by
    have e1 : ¬ (b = s1.heap.objs.size ∨ b = h2'.objs.size ∨ b = a) := by
      rintro (w | w | w)
      · rw [w, n1] at q; cases q
      · rw [w, n2] at q; cases q
      · exact z w
    exact (if_neg e1).trans (hk3 b o (hk2 b o q))
  have cellv : ∀ y c, cl.lookup y = some c → ∃ o v, h3.get? c = some o ∧ o.data = .cell v := fun y c q => F3.f.cells y c (hcl1 y c q)
  have SY : FS G d Y := by
    refine ⟨S.g, fun b o q => pinY b o (p1.f.keep S b o q) fun z => ?_, S.hd, S.dp, S.un, ?_, ?_, ?_, cN, fun y q => ?_, ?_, ?_⟩
    · have := S.base b o q; rw [z, f1.pin] at this; cases this
    · show cenv.scope.kind = _; rw [← hce]; exact hc.kind
    · show cenv.globals = _; rw [← hce]; exact S.gl
    · show cenv.builtins = _; rw [← hce]; exact S.bi
    · show ∃ c, cenv.cells.lookup y = some c
      rw [cC]; exact Option.isSome_iff_exists.mp (hcl2 (y, .free) (mem_of_lookup (hc.cells q)) rfl)
    · intro y z c hy hz
      have hy : cenv.cells.lookup y = some c := hy
      have hz : cenv.cells.lookup z = some c := hz
      rw [cC] at hy hz
      exact S.inj y z c (hcl1 y c hy) (hcl1 z c hz)
    · intro y z j hy hz
      have hy : ((x, i) :: X.fi.tbl).lookup y = some j := hy
      have hz : ((x, i) :: X.fi.tbl).lookup z = some j := hz
      rw [List.lookup_cons] at hy hz
      split at hy <;> split at hz
      · rename_i q1 _ q2; rw [beq_iff_eq.mp q1, beq_iff_eq.mp q2]
      · cases hy; exact absurd rfl (hc.new z _ hz)
      · cases hz; exact absurd rfl (hc.new y _ hy)
      · exact S.ti y z j hy hz
  have FY : At Y W1 (fun _ => []) { s1 with heap := h3, toks := s1.toks + ([] : List (Str × Value)).length } ((shr ρ₁).set i none) := by
    refine ⟨F3.gens, F3.os, ⟨fun b o q => ?_, ?_, F3.f.wf, fun _ _ _ q => q, fun _ _ _ q => (by cases q), ?_, fun y c q => ?_⟩, fun y j hy o ho hkd => ?_, fun _ _ q => (by cases q), F3.tk⟩
    · have q : (if b = s1.heap.objs.size ∨ b = h2'.objs.size ∨ b = a then none else h3.get? b) = some o := q
      split at q
      · cases q
      · exact q
    · rintro b (q | ⟨q, _⟩ | ⟨_, q⟩)
      · have q : b = h2'.objs.size := q.trans cL
        exact ⟨if_pos (.inr (.inl q)), fun w => fC.w (q ▸ w)⟩
      · cases q
      · cases q
    · obtain ⟨o, es, ep, e1, e2, e3, _⟩ := hns
      exact ⟨o, es, ep, (show h3.get? cenv.locals = _ by rw [cL]; exact e1), e2, e3⟩
    · have q : cenv.cells.lookup y = some c := q
      rw [cC] at q; exact cellv y c q
    · have hy : ((x, i) :: X.fi.tbl).lookup y = some j := hy
      have hkd : (X.fi.inner sc x i).names.lookup y ≠ none := by
        have hkd : cenv.kindOf y ≠ none := hkd
        unfold Env.kindOf at hkd; rw [cN] at hkd; exact hkd
      rw [List.lookup_cons] at hy
      split at hy
      · cases hy
        rw [List.getElem?_set] at ho
        split at ho
        · split at ho <;> cases ho
        · rename_i q; exact absurd rfl q
      · rename_i q
        have hj : j ≠ i := hc.new y j hy
        rw [List.getElem?_set_ne (Ne.symm hj)] at ho
        obtain ⟨v, rfl, ho2⟩ := shr_get ho
        have hfree := hc.isFree (fun e => by rw [e, beq_self_eq_true] at q; cases q) hy hkd
        have hout := hc.free hfree
        have hk2 : X.env.kindOf y ≠ none := by rw [S.kind]; rcases hout with z | z <;> rw [z] <;> simp
        obtain ⟨v', a1, a2⟩ := F3.lr y j hy _ ho2 hk2
        refine ⟨v', ?_, rfl, a2.2⟩
        rcases a1 with ⟨b1, _⟩ | ⟨b1, c, b2, b3⟩
        · rw [S.kind] at b1; rcases hout with z | z <;> rw [z] at b1 <;> cases b1
        · have hcy : cl.lookup y = some c := by
            obtain ⟨c', hc'⟩ := Option.isSome_iff_exists.mp (hcl2 (y, .free) (mem_of_lookup hfree) rfl)
            have := hcl1 y c' hc'
            rw [b2] at this; cases this; exact hc'
          refine .inr ⟨?_, c, (show cenv.cells.lookup y = _ by rw [cC]; exact hcy), b3⟩
          show cenv.kindOf y = _ ∨ cenv.kindOf y = _
          unfold Env.kindOf; rw [cN, relab_lookup, hfree]
          by_cases z : (NameKind.free == NameKind.free && X.fi.names.lookup y == some .cell) = true
          · left; exact congrArg some (if_pos z)
          · right; exact congrArg some (if_neg z)
  have fY : ∀ b, Fre X W1 φ1 b → (b = s1.heap.objs.size ∨ b = h2'.objs.size ∨ b = a) → b ≠ h2'.objs.size → Fre Y W1 (fun _ => []) b := fun b f q hb => by
    refine ⟨if_pos q, f.w, ?_, fun y z => ?_⟩
    · rintro (z | ⟨z, _⟩ | ⟨_, z⟩)
      · exact hb (z.trans cL)
      · cases z
      · cases z
    · have z : cenv.cells.lookup y = some b := z
      rw [cC] at z
      exact f.nc y (hcl1 y b z)
  have I3 : ItR W1 h3 a l := I1.ag (g3.g.ag p1.f.f.wf) ((hk3 _ _ (hk2 _ _ hio)).trans hio.symm)
  have O3 : OwnAt W1 h3 s1.heap.objs.size [] := ⟨_, _, ha3, rfl, Nat.zero_le _⟩
  have hxl : (X.fi.inner sc x i).names.lookup x = some .local := by
    show (relab _ _).lookup x = _
    rw [relab_lookup, hc.own]; rfl
  have hxo : (X.fi.inner sc x i).isOwn x i = true := by
    unfold FI.isOwn
    rw [hxl, show (X.fi.inner sc x i).tbl.lookup x = some i by show List.lookup x ((x, i) :: _) = _; rw [List.lookup_cons, beq_self_eq_true], beq_self_eq_true]; rfl
  have loop : codeAny X.C.M X.A (.compLoop (.ListComp elt [⟨.Name x px, it.x, cs, 0⟩] sc pos) 0 (.ref a) (.ref s1.heap.objs.size) cenv) (compPost X.C.M X.A E use Q (.ref s1.heap.objs.size) h2'.objs.size) { s1 with heap := h3, toks := s1.toks + ([] : List (Str × Value)).length } := by
    refine comp_loop hxo hxl h2 (X := Y) rfl SY (fun _ => rfl) FY (fY a f1 (.inr (.inr rfl)) itC) I3 (fY _ fa (.inl rfl) aC) ita O3 (by simpa using hr) fun W' φ' s' ρ' A' B' fa' O' => ?_
    have A2 := A'.f
    obtain ⟨A4, B4, V4⟩ := p1.f.move (D := (· = a)) (W' := W') (h' := s'.heap) (t := s1.toks) (fun b q => q ▸ f1) (fun b o q z => A2.pin b o (pinY b o z q)) (fun b q => B'.w b q) A2.wf fun b o q z w => A2.w0 b o (pinY b o z q) w
    have A5 : At X W' φ1 s' ρ₁ := ⟨A'.gens, A'.os, A4.f, A4.lr, A4.ow, A'.tk⟩
    have nm : ∀ b, Fre X W1 φ1 b → ¬ W' b → Fre X W' φ1 b := fun b f w => ⟨f.pin, w, f.mu, f.nc⟩
    refine k _ _ W' φ1 s' ⟨A5, p1.ag.trans B4, fun y v q => V4 y v (p1.vl y v q)⟩ (nm _ fC (A2.mu _ (.inl cL.symm)).2) ?_ aC (nm _ fa fa'.w) (by rw [List.append_nil] at O'; exact O')
    obtain ⟨o, es, ep, e1, e2, e3⟩ := A2.ns
    have e1 : s'.heap.get? cenv.locals = some o := e1
    rw [cL] at e1
    exact ⟨fun y => nsFind es y, o, es, ep, e1, e2, e3, fun _ => rfl⟩
  exact codeAny_compStart_list loop (I3.self (s := { s1 with heap := h3, toks := s1.toks + ([] : List (Str × Value)).length }) loop)
theorem comp_left {X : FC} {W W' : WS} {φ' : Nat → List Addr} {s s' : Shared} {ρ₁ : Loc} {C acc : Addr} {r : List V} {h' : Heap} (p : Pst X W s W' φ' s' ρ₁) (fC : Fre X W' φ' C) (hne : acc ≠ C) (fa : Fre X W' φ' acc) (O : OwnAt W' s'.heap acc r) (hs : Heap.SameBut C s'.heap h') :
    Pst X W s W' φ' { s' with heap := h' } ρ₁ ∧ RO X W' φ' h' (.own r) (.ref acc) := by
  obtain ⟨A, B, V⟩ := p.f.loose fC (t := s'.toks) fun b o q e => (hs.2 b q).trans e
  refine ⟨⟨A, p.ag.trans B, fun x v q => V x v (p.vl x v q)⟩, [acc], ⟨acc, rfl, rfl, O.ag B (hs.2 acc hne)⟩, fun b q => ?_⟩
  cases List.mem_singleton.mp q
  exact ⟨fa.w, fa.mu, fa.pin⟩
noncomputable def CompS (G : Gl) (d : Nat) (fi : FI) (elt : Expr) (i : Nat) (l : List V) (ρ : Loc) (vs : List V) : Prop := CompL G d fi elt i ((shr ρ).set i none) l vs ∧ l.length ≤ room
noncomputable def CompT (G : Gl) (d : Nat) (fi : FI) (cs : List Expr) (elt : Expr) (i : Nat) (l : List V) (ρ : Loc) (vs : List V) : Prop := CompI G d fi cs elt i ((shr ρ).set i none) l vs ∧ l.length ≤ room
noncomputable def evComp (it : It G d fi) (cs : List Expr) (elt : Expr) (fi' : FI) (i : Nat) (σ : St) : Option (O × St) := bd (it.ev σ) fun l σ => told Tk.vs? (fun ρ vs => CompT G d fi' cs elt i l ρ vs) (fun vs => O.own vs.reverse) (fun _ ρ => ρ) σ
theorem evComp_ok {it : It G d fi} {cs : List Expr} {elt : Expr} {fi' : FI} {i : Nat} : Ok (evComp it cs elt fi' i) fun ρ o ρ' => ∃ l vs, ItG G d fi it.x ρ l ρ' ∧ CompT G d fi' cs elt i l ρ' vs ∧ o = .own vs.reverse :=
  it.eo.bd (R := fun l ρ o ρ' => ∃ vs, CompT G d fi' cs elt i l ρ vs ∧ o = .own vs.reverse ∧ ρ = ρ') (fun l => .told fun vs ρ q => ⟨vs, q, rfl, rfl⟩) fun _ l _ _ _ h q => by
    obtain ⟨vs, q1, q2, rfl⟩ := q; exact ⟨l, vs, h, q1, q2⟩
noncomputable def eCompI (x : Str) (i : Nat) (px : Pos) (it : It G d fi) (sc : Scope) (cs : List Expr) (elt : T G d (fi.inner sc x i)) (pos : Pos) (h : compOk fi sc x i = true) : T G d fi :=
  .mk' (.ListComp elt.x [⟨.Name x px, it.x, cs, 0⟩] sc pos) (evComp it cs elt.x (fi.inner sc x i) i) rfl (evComp_ok.mono fun ρ o ρ' q X E W φ s e S F Q k => by
    obtain ⟨l, vs, h1, h2, rfl⟩ := q
    rw [eval_ListComp]
    refine comp_core (use := none) (it := it) (.of h) h1 h2.1 h2.2 e S F fun acc C W' φ' s' p fC hn hne fa O => ?_
    obtain ⟨m, hn⟩ := hn
    refine ⟨m, hn, fun h' hs => ?_⟩
    obtain ⟨p2, r⟩ := comp_left p fC hne fa O hs
    exact k _ _ _ _ p2 r) fun _ => rfl
noncomputable def eComp (x : Str) (i : Nat) (px : Pos) (it : It G d fi) (sc : Scope) (elt : T G d (fi.inner sc x i)) (pos : Pos) (h : compOk fi sc x i = true) : T G d fi := eCompI x i px it sc [] elt pos h
noncomputable def sAsgI (y : Str) (j : Nat) (p' p : Pos) (x : Str) (i : Nat) (px : Pos) (it : It G d fi) (sc : Scope) (cs : List Expr) (elt : T G d (fi.inner sc x i)) (pos : Pos)
    (h : (compOk fi sc x i && fi.isOwn y j && (fi.names.lookup y == some .local && p'.line == pos.line && !(sc.names.any fun (n, k) => n == y && (k == .local || k == .cell)))) = true) : SS G d fi :=
  ⟨.Assign [.Name y p'] (.ListComp elt.x [⟨.Name x px, it.x, cs, 0⟩] sc pos) p, fun σ => bd (evComp it cs elt.x (fi.inner sc x i) i σ) fun o σ => setL j o σ,
  evComp_ok.bd (R := fun o ρ fl ρ' => fl = .next ∧ ρ' = ρ.set j (some o)) (fun _ => .setL fun _ => ⟨rfl, rfl⟩) fun ρ o ρ₁ fl ρ' q q' X E W φ s e c S F Q k => by
    obtain ⟨l, vs, h1, h2, rfl⟩ := q
    obtain ⟨rfl, rfl⟩ := q'
    rw [Bool.and_eq_true, Bool.and_eq_true] at h
    have hsw : swapsWith (.ListComp elt.x [⟨.Name x px, it.x, cs, 0⟩] sc pos) (some (.Name y p')) p.line X.env = pure true := by
      show (pure (X.env.blockKind == .function && X.env.kindOf y == some .local && p'.line == pos.line && !(sc.names.any fun (n, k) => n == y && (k == .local || k == .cell))) : Sem Bool) = _
      rw [S.kind, e, show X.env.blockKind = .function by unfold Env.blockKind; rw [S.fn]; rfl, beq_self_eq_true, Bool.true_and, h.2]
    rw [exec_Assign_Name_used _ _ _ _ hsw]
    refine wpAny_bind (wpAny_standAt (wpAny_bind ?_))
    show wpAny _ X.A (do let _ ← comprehension (.ListComp elt.x [⟨.Name x px, it.x, cs, 0⟩] sc pos) sc X.env _ (newList []) false (eval it.x X.env) (some (assign (.Name y p') X.env))) _ _ s
    refine wpAny_bind (wpAny_mono (comp_core (use := some (assign (.Name y p') X.env)) (Q := fun _ s' => Q .next s') (it := it) (.of h.1.1) h1 h2.1 h2.2 e S F fun acc C W' φ' s' p2 fC hn hne fa O => ?_) (fun _ s' hq => wpAny_pure (wpAny_pure hq)) fun _ _ e => e)
    obtain ⟨m, hn⟩ := hn
    obtain ⟨o, es, ep, e1, e2, e3, _⟩ := hn
    show wpAny _ X.A (assign (.Name y p') X.env (.ref acc)) _ _ _
    have ro : RO (X.pinned C o) W' φ' s'.heap (.own vs.reverse) (.ref acc) := ⟨[acc], ⟨acc, rfl, rfl, O⟩, fun b q => by cases List.mem_singleton.mp q; exact ⟨fa.w, fa.mu, by rw [FC.pinned_ne hne]; exact fa.pin⟩⟩
    refine wpAny_assign_Name (store_ok (X := X.pinned C o) (S.pinned fC.pin) (.inr c) (p2.f.pinned fC e1) ro (show X.fi.isOwn y j = true by rw [e]; exact h.1.2) fun φ2 s2 A B => ?_)
    obtain ⟨A2, fC2, e4⟩ := A.unpin fC.pin fC.nc
    refine ⟨fun y => nsFind es y, ⟨o, es, ep, e4, e2, e3, fun _ => rfl⟩, fun h' hs => ?_⟩
    obtain ⟨A3, B3, _⟩ := A2.loose fC2 (t := s2.toks) fun b o q e => (hs.2 b q).trans e
    exact k _ _ _ _ A3 ((p2.ag.trans B).trans B3) rfl⟩
noncomputable def sAsgC (y : Str) (j : Nat) (p' p : Pos) (x : Str) (i : Nat) (px : Pos) (it : It G d fi) (sc : Scope) (elt : T G d (fi.inner sc x i)) (pos : Pos)
    (h : (compOk fi sc x i && fi.isOwn y j && (fi.names.lookup y == some .local && p'.line == pos.line && !(sc.names.any fun (n, k) => n == y && (k == .local || k == .cell)))) = true) : SS G d fi := sAsgI y j p' p x i px it sc [] elt pos h
end
end Mine
end

section
open PySem
set_option autoImplicit false
set_option linter.unusedVariables false
namespace Mine
open PySem.W (Frag kitOne keepIn Looks)

theorem texts_reads {W : WS} {h : Heap} : ∀ {l : List V} {l' : List Value} {ss : List (List Nat)}, VRs W h l l' → textsOf l = some ss → (∃ as, ReadsAll h l' (ss.map fun z => PyData.str ⟨z.toArray⟩) as) ∧ PyData.canLayAll0 (ss.map fun z => PyData.str ⟨z.toArray⟩) = true ∧ PyData.depthAll (ss.map fun z => PyData.str ⟨z.toArray⟩) = 0
  | [], _, _, r, e => by cases r; cases e; exact ⟨⟨_, .nil⟩, rfl, rfl⟩
  | v :: l, _, _, r, e => by
    obtain ⟨v', r', rfl, rv, rl⟩ := VRs.inv r
    obtain ⟨z, e1, e⟩ := Option.bind_eq_some_iff.mp e
    obtain ⟨t, e2, e⟩ := Option.bind_eq_some_iff.mp e
    cases e
    rw [V.str_of e1] at rv
    obtain ⟨tk, rfl, ok, _⟩ := rv
    obtain ⟨⟨as, a⟩, b, c⟩ := texts_reads rl e2
    refine ⟨⟨_, .cons (.str _ tk) a⟩, ?_, ?_⟩
    · show (PyData.canLay0 (.str ⟨z.toArray⟩) && PyData.canLayAll0 _) = true
      rw [b, Bool.and_true]; simpa [PyData.canLay0] using ok
    · show max (PyData.depth (.str ⟨z.toArray⟩)) (PyData.depthAll _) = 0
      rw [c]; rfl
section
variable {G : Gl} {d : Nat} {fi : FI}
noncomputable def kIn (x : V) (y : O) : Option (Bool × List Prop) := y.val?.bind fun y => x.str?.bind fun z => y.tup?.bind fun l => (textsOf l).bind fun ss => some (ss.any fun t => t == z, [])
theorem primIn : PrimC G d .In kIn := by
  intro x y t ps e q X E W φ s ρ S F x' y' rx ry Q k
  obtain ⟨v, e1, e⟩ := Option.bind_eq_some_iff.mp e
  obtain ⟨z, e2, e⟩ := Option.bind_eq_some_iff.mp e
  obtain ⟨l, e3, e⟩ := Option.bind_eq_some_iff.mp e
  obtain ⟨ss, e4, e⟩ := Option.bind_eq_some_iff.mp e
  cases e; rw [O.val_of e1, V.tup_of e3] at ry; rw [V.str_of e2] at rx
  obtain ⟨tk, rfl, ok, _⟩ := rx
  obtain ⟨a, vs, n, rfl, _, h1, h2, h3⟩ := VR.tup ry
  obtain ⟨⟨as, ra⟩, b, c⟩ := texts_reads h3 e4
  refine SeqAt.in_tuple_reads (.tuple h1 rfl rfl ra) (.str _ tk) b (by simpa [PyData.canLay0] using ok) (by rw [c]; have := S.u; simp; omega) ?_
  have he : (ss.map fun z => PyData.str ⟨z.toArray⟩).any (fun y => PyData.eqv y (.str ⟨z.toArray⟩)) = ss.any fun t => t == z := by
    rw [List.any_map]
    congr 1
    funext t
    show PyData.eqv (.str ⟨t.toArray⟩) (.str ⟨z.toArray⟩) = (t == z)
    by_cases q : t = z
    · subst q; simp [PyData.eqv]
    · have q' : (t == z) = false := by simpa using q
      rw [q']
      simp [PyData.eqv, q]
  rw [he]; exact k s.toks (Nat.le_refl _)
noncomputable def eIn : T G d fi → T G d fi → Pos → T G d fi := eCmp .In kIn primIn

noncomputable def eTell (a : T G d fi) : T G d fi :=
  have eo : Ok (fun σ => bd (a.ev σ) fun o σ => told Tk.r? (fun _ o' => o = o') id (fun _ ρ => ρ) σ) (EvG G d fi a.x) := a.eo.bd (R := fun o ρ o' ρ' => o = o' ∧ ρ = ρ') (fun o => Ok.told (f := Tk.r?) (p := fun _ o' => o = o') (r := id) (ρ := fun _ ρ => ρ) fun o' ρ q => ⟨q, rfl⟩) fun _ _ _ _ _ h q => by
    obtain ⟨rfl, rfl⟩ := q; exact h
  ⟨a.x, _, a.pk, a.tr, a.pl, eo, a.po, a.to⟩

noncomputable def namesAt (p : Program) (k : Nat) : List (Str × NameKind) := match p.main.body[k]? with
  | some (.FunctionDef _ _ _ _ _ _ sc _ _ _) => sc.names
  | _ => []
noncomputable def bodyAt (p : Program) (k : Nat) : List Stmt := match p.main.body[k]? with
  | some (.FunctionDef _ _ b _ _ _ _ _ _ _) => b
  | _ => []
noncomputable def obs {α : Type} (r : Option (α × St)) : List Prop := Option.casesOn r [] fun p => p.2.ob
noncomputable def out {α : Type} (r : Option (α × St)) : Option (α × Loc × List Tk) := r.bind fun p => some (p.1, p.2.ρ, p.2.tp)
theorem Ok.run {α : Type} {f : St → Option (α × St)} {S : Loc → α → Loc → Prop} (h : Ok f S) {ρ ρ' : Loc} {tp : List Tk} {a : α} {P : Prop} (e : out (f ⟨ρ, tp, []⟩) = some (a, ρ', [])) (o : All (obs (f ⟨ρ, tp, []⟩)) = P) (p : P) : S ρ a ρ' := by
  subst o
  obtain ⟨⟨a', ρ2, tp2, ob2⟩, e1, e2⟩ := Option.bind_eq_some_iff.mp e
  cases e2
  have : All ob2 := by rw [e1] at p; exact p
  exact (h _ _ _ e1 this).2
theorem call_run {a : Addr} {f : FD} {args : List V} {o : O} {n : Nat} {ρ' : Loc} {tp : List Tk} {P : Prop} (B : SL G d f.fi) (hf : G.fd.lookup a = some f) (hB : B.xs = f.st) (hn : args.length = f.ps.length)
    (e : out (B.ex ⟨loc0 args n, tp, []⟩) = some (.ret o, ρ', [])) (ob : All (obs (B.ex ⟨loc0 args n, tp, []⟩)) = P) (p : P) : CallOK G (d + 1) a args o :=
  call_of hf hn (hB ▸ B.eo.run e ob p) (.inl rfl)
end
end Mine
end

section
open PySem PySem.W
set_option autoImplicit false
set_option linter.unusedVariables false
namespace Mine
open PySem.W (Frag kitOne keepIn Looks)

theorem items_ints {R : WRecords} : ∀ {xs : List WData}, WShape.hasItems R xs .int = true → ∃ ns : List Int, xs = ns.map .int
  | [], _ => ⟨[], rfl⟩
  | x :: xs, h => by
    simp only [WShape.hasItems, Bool.and_eq_true] at h
    obtain ⟨i, rfl⟩ := hasW_int h.1
    obtain ⟨ns, rfl⟩ := items_ints h.2
    exact ⟨i :: ns, rfl⟩
theorem law_args {l : OpenLaw} (hm : l.most = some 63) (hb : l.bound = none) {args : List WData} (hpre : l.row.toRowW.claim.pre args = true) : ∃ ns : List Int, args = [.list (ns.map .int)] ∧ ns.length ≤ 63 := by
  obtain ⟨h1, h2⟩ := pre_splitW hpre
  obtain ⟨d, r, rfl, h3, h4⟩ := hasAllW_cons (e := .list .int) (es := []) h1
  obtain rfl := hasAllW_nil h4
  obtain ⟨xs, rfl, h5⟩ := hasW_list h3
  obtain ⟨ns, rfl⟩ := items_ints h5
  refine ⟨ns, rfl, ?_⟩
  have h2' : l.pre.holds [] { args := [.list (ns.map .int)] } = true := h2
  unfold OpenLaw.pre at h2'
  rw [hm, hb] at h2'
  by_cases q : ns.length ≤ 63
  · exact q
  · exfalso
    have hl : less? (WData.int 63) (WData.int (ns.length : Int)) = some true := by
      simp [less?, Num.less?]; omega
    simp [WTm.holds, WTm.value, hl] at h2'
theorem reads_ints {W : WS} {h : Heap} {P : Params} : ∀ {ns : List Int} {vs : List Value}, WellAll P h vs (ns.map .int) → VRs W h (ns.map .int) vs
  | [], _, .nil => rfl
  | n :: ns, _, .cons h r => by cases h with | int i t => exact .cons ⟨t, rfl⟩ (reads_ints r)

noncomputable def codeChk (K : Frag) (cd : Value) (q : Str) : Bool := match cd with
  | .ref c => (match K.lookup c with
    | some o => (match o.data with
      | .fields vs => (match (vs[1]? : Option Value) with
        | some (.str z _) => z == q
        | _ => false)
      | _ => false)
    | none => false)
  | _ => false
theorem codeChk_of {K : Frag} {h : Heap} (X : K.In h) {cd : Value} {q : Str} (e : codeChk K cd q = true) : h.CodeRec cd q := by
  unfold codeChk at e
  split at e
  · split at e
    · rename_i o ho
      split at e
      · rename_i vs hd
        split at e
        · rename_i z t hz
          rw [beq_iff_eq.mp e] at hz
          exact ⟨_, o, vs, t, rfl, X _ _ ho, hd, hz⟩
        · cases e
      · cases e
    · cases e
  · cases e
noncomputable def fdOf (K : Frag) (a : Addr) : Option FuncData := (K.lookup a).bind fun o => match o.data with
  | .func fd => some fd
  | _ => none
noncomputable def fdChk (K : Frag) (f : FD) (fd : FuncData) : Bool :=
  fd.closure.isEmpty && fd.globals == mainGlobals && fd.builtins == builtinsNs && !fd.scope.isCoroutine && !fd.scope.isGenerator && fd.scope.kind == .function && codeChk K fd.code fd.qualname &&
  fd.params.posonlyargs.isEmpty && fd.params.args.map (·.arg) == f.ps && fd.params.vararg.isNone && fd.params.kwonlyargs.isEmpty && fd.params.kwarg.isNone && fd.defaults == .none &&
  decide f.ps.Nodup && (f.ps.all fun p => f.fi.names.lookup p == some .local || f.fi.names.lookup p == some .cell) && (f.fi.names.all fun x => x.2 != .free) &&
  (f.ps.zipIdx.all fun x => f.fi.tbl.lookup x.1 == some x.2) && decide ((f.fi.tbl.map (·.2)).Nodup)
noncomputable def bodyIs (K : Frag) (a : Addr) : Option (FuncBody × List (Str × NameKind)) := (fdOf K a).bind fun fd => some (fd.body, fd.scope.names)
structure FnAt (K : Frag) (a : Addr) (f : FD) : Prop where
  body : bodyIs K a = some (.stmts f.st, f.fi.names)
  chk : (Option.casesOn (fdOf K a) false fun fd => fdChk K f fd : Bool) = true
theorem zip_lookup : ∀ (ps : List Str) (vals : List Value), ps.Nodup → vals.length = ps.length → (ps.filterMap fun n => ((ps.zip vals).lookup n).map (n, ·)) = ps.zip vals := by
  have key : ∀ (ps : List Str) (vals : List Value) (pre : List (Str × Value)), (∀ p ∈ ps, pre.lookup p = none) → ps.Nodup → vals.length = ps.length → (ps.filterMap fun n => ((pre ++ ps.zip vals).lookup n).map (n, ·)) = ps.zip vals := by
    intro ps
    induction ps with
    | nil => intro vals pre _ _ _; rfl
    | cons p ps ih =>
      intro vals pre hpre hn hl
      cases vals with
      | nil => cases hl
      | cons v vals =>
        rw [List.zip_cons_cons, List.filterMap_cons]
        have e : ((pre ++ (p, v) :: ps.zip vals).lookup p).map (p, ·) = some (p, v) := by
          rw [List.lookup_append, hpre p List.mem_cons_self]; simp
        rw [e]
        have := ih vals (pre ++ [(p, v)]) (fun q hq => ?_) (List.nodup_cons.mp hn).2 (by simpa using hl)
        · rw [List.append_assoc] at this
          simp only [List.singleton_append] at this
          rw [this]
        · rw [List.lookup_append, hpre q (List.mem_cons_of_mem _ hq)]
          have hne : (q == p) = false := by
            rw [beq_eq_false_iff_ne]; rintro rfl; exact (List.nodup_cons.mp hn).1 hq
          simp [List.lookup_cons, hne]
  intro ps vals hn hl
  have := key ps vals [] (fun _ _ => rfl) hn hl
  simpa using this
theorem zip_some : ∀ (ps : List Str) (vals : List Value), vals.length = ps.length → ∀ p ∈ ps, ((ps.zip vals).lookup p).isSome = true
  | [], _, _, p, h => by cases h
  | q :: ps, [], hl, _, _ => by cases hl
  | q :: ps, v :: vals, hl, p, h => by
    rw [List.zip_cons_cons, List.lookup_cons]
    split
    · rfl
    · rename_i z
      rcases List.mem_cons.mp h with r | r
      · rw [r, beq_self_eq_true] at z; cases z
      · exact zip_some ps vals (by simpa using hl) p r
theorem bind_plain {fd : FuncData} {as : List Arg} {d : List Expr} {kd : List (Option Expr)} (hp : fd.params = { posonlyargs := [], args := as, vararg := none, kwonlyargs := [], kw_defaults := kd, kwarg := none, defaults := d }) (hd : fd.defaults = .none)
    (hn : (as.map (·.arg)).Nodup) (vals : List Value) (hl : vals.length = (as.map (·.arg)).length) : bindArgs fd ⟨vals, []⟩ = pure ((as.map (·.arg)).zip vals) := by
  have hmiss : ((as.map (·.arg)).filter fun n => (((as.map (·.arg)).zip vals).lookup n).isNone) = [] := by
    rw [List.filter_eq_nil_iff]
    intro p hp q
    have := zip_some (as.map (·.arg)) vals hl p hp
    cases z : ((as.map (·.arg)).zip vals).lookup p with
    | none => rw [z] at this; cases this
    | some v => rw [z] at q; cases q
  have hseq : seqItems? Value.none = pure none := rfl
  have hz := zip_lookup (as.map (·.arg)) vals hn hl
  unfold bindArgs
  rw [hp, hd, hseq]
  have hle : ¬ vals.length > (as.map (·.arg)).length := by omega
  simp only [List.map_nil, List.nil_append, List.forIn_nil, pure_bind, Option.getD_none, List.length_nil, Nat.zero_sub, List.drop_nil, Nat.sub_zero, List.zip_nil_right, List.append_nil, List.take_length]
  simp [hmiss, hz]
  intro q
  rw [List.length_map] at hl
  omega
theorem fn_of {C : Cx} {a : Addr} {f : FD} (X : C.K.In C.h) (h : FnAt C.K a f) : ∃ o fd, FnOk C a f o fd := by
  have h0 := h.body
  unfold bodyIs fdOf at h0
  obtain ⟨fd, e1, e2⟩ := Option.bind_eq_some_iff.mp h0
  obtain ⟨o, ho, e4⟩ := Option.bind_eq_some_iff.mp e1
  have hfd : fdOf C.K a = some fd := e1
  have hc := h.chk
  rw [hfd] at hc
  have h : fdChk C.K f fd = true := hc
  obtain ⟨b1, b2⟩ := Prod.mk.inj (Option.some.inj e2)
  split at e4
  · rename_i fd' hd
    cases e4
    unfold fdChk at h
    simp only [Bool.and_eq_true, Bool.not_eq_true', beq_iff_eq, decide_eq_true_eq, List.isEmpty_iff, Option.isNone_iff_eq_none, List.all_eq_true, Bool.or_eq_true, bne_iff_ne, ne_eq] at h
    obtain ⟨⟨⟨⟨⟨⟨⟨⟨⟨⟨⟨⟨⟨⟨⟨⟨⟨h2, h3⟩, h4⟩, h5⟩, h6⟩, h7⟩, h8⟩, h9⟩, h10⟩, h11⟩, h12⟩, h13⟩, h14⟩, h16⟩, h17⟩, h18⟩, h19⟩, h20⟩ := h
    refine ⟨o, fd, ⟨X _ _ ho, hd, b1, h2, h3, h4, h5, h6, h7, codeChk_of X h8, ?_, h16, b2, h17, h18, ?_, ?_⟩⟩
    · intro vals hl
      rw [← h10] at hl h16 ⊢
      refine bind_plain (as := fd.params.args) (d := fd.params.defaults) (kd := fd.params.kw_defaults) ?_ h14 h16 vals hl
      generalize fd.params = pp at h9 h11 h12 h13
      obtain ⟨a1, a2, a3, a4, a5, a6, a7⟩ := pp
      dsimp only at h9 h11 h12 h13
      subst h9 h11 h12 h13; rfl
    · intro i p hp
      exact h19 (p, i) (by rw [List.mem_zipIdx_iff_getElem?]; simpa using hp)
    · intro y z j hy hz
      have m1 := mem_of_lookup hy
      have m2 := mem_of_lookup hz
      obtain ⟨a, la, ea⟩ := List.getElem_of_mem m1
      obtain ⟨b, lb, eb⟩ := List.getElem_of_mem m2
      have : (f.fi.tbl.map (·.2))[a]'(by simpa using la) = (f.fi.tbl.map (·.2))[b]'(by simpa using lb) := by
        rw [List.getElem_map, List.getElem_map, ea, eb]
      have hab : a = b := (List.getElem_inj h20).mp this
      subst hab
      rw [ea] at eb
      exact (Prod.mk.inj eb).1
  · cases e4

noncomputable def topOf (K : Frag) : Array DictEntry := match K.lookup mainGlobals with
  | some o => (match o.data with
    | .dict es _ => es
    | _ => #[])
  | none => #[]
noncomputable def isTop (K : Frag) : Bool := match K.lookup mainGlobals with
  | some o => (match o.data with
    | .dict _ _ => true
    | _ => false)
  | none => false
theorem top_of {K : Frag} {h : Heap} {mg : Str → Option Value} (X : K.In h) (g : h.Ns mainGlobals mg) (e : isTop K = true) (x : Str) : mg x = nsFind (topOf K) x := by
  obtain ⟨o, es, ep, h1, h2, h3, h4⟩ := g
  unfold isTop at e
  split at e
  · rename_i o' ho
    split at e
    · rename_i es' ep' hd
      have h1' := X _ _ ho
      rw [h1] at h1'
      cases h1'
      rw [hd] at h2
      cases h2
      unfold topOf
      rw [ho]
      dsimp only
      rw [hd]
      exact (h4 x).symm
    · cases e
  · cases e
theorem mem_fd {a : Addr} {f : FD} : ∀ {l : List (Addr × FD)}, l.lookup a = some f → (a, f) ∈ l
  | [], e => nomatch e
  | (b, g) :: l, e => by
    rw [List.lookup_cons] at e
    split at e
    · rename_i q; cases e; rw [beq_iff_eq.mp q]; exact List.mem_cons_self
    · exact List.mem_cons_of_mem _ (mem_fd e)
structure GChk (G : Gl) (K : Frag) : Prop where
  top : isTop K = true
  fn : (G.fn.all fun x => nsFind (topOf K) x.1 == some (.ref x.2) && keepIn K (.ref x.2)) = true
  bn : (G.bn.all fun x => nsFind (topOf K) x == none && x != "__name__") = true
  isi : (([.none, .bool, .int, .str, .tup, .list] : List Kd).all fun k => G.ty.all fun t => kitOne K k.v (.type t.n) == some (isiK k t)) = true
  fd : ∀ a f, (a, f) ∈ G.fd → FnAt K a f
theorem GChk.ok {G : Gl} {C : Cx} (c : GChk G C.K) (X : C.K.In C.h) (g : C.h.Ns mainGlobals C.mg) (b : C.h.Ns builtinsNs C.mb) (bi : ∀ x : Str, x ≠ "__name__" → C.mb x = bootBuiltins x) (nl : C.h.NoLimit) (hmo : G.mo C) : GOk G C where
  X := X
  g := g
  b := b
  bi := bi
  nolimit := nl
  isi := fun k t ht => beq_iff_eq.mp (List.all_eq_true.mp (List.all_eq_true.mp c.isi k (by cases k <;> decide)) t ht)
  bn := fun x hx => by
    have := List.all_eq_true.mp c.bn x hx
    rw [Bool.and_eq_true, beq_iff_eq, bne_iff_ne] at this
    rw [top_of X g c.top]; exact this
  fn := fun x a hx => by
    have := List.all_eq_true.mp c.fn _ (mem_of_lookup hx)
    rw [Bool.and_eq_true, beq_iff_eq] at this
    rw [top_of X g c.top]; exact this
  fd := fun a f hf => fn_of X (c.fd a f (mem_fd hf))
  mo := hmo

theorem join {l : OpenLaw} {q : Program} {loose : List Str} {XP : (Str → Option Value) → Heap → Prop} {K : Params → Frag} {as' : List Addr} {e' : ∀ P, as' = (K P).map (·.1)} {d : DefRec} {kwd : List (Str × Expr)} (G : Gl) (a : Addr) (dep : Nat)
    (hm : l.most = some 63) (hb : l.bound = none) (hname : G.fn.lookup d.name = some a) (hdep : dep ≤ 100) (hpos : tkOk G false a = true := by rfl)
    (chk : ∀ P, GChk G (K P)) (mo : ∀ (P : Params) (C : Cx), C.K = K P → C.w.params = P → C.K.In C.h → (∀ x, C.mg x = nsFind (topOf (K P)) x) → G.mo C)
    (law : ∀ ns : List Int, ns.length ≤ 63 → CallOK G dep a [.lst (ns.map .int)] (.val (.bool true))) :
    WalkO q loose XP (kHook K as' e').says l.row.toRowW d kwd fun f vs => PySem.call f vs := by
  intro w s₀ s₁ mg mb G' Y fa o pm cd doc dV kV ho hd hcd hD hmg hg args vals as hpre hlay hrd hwl hlo
  have KX := kIn_of Y
  obtain ⟨ns, rfl, hlen⟩ := law_args hm hb hpre
  cases hwl with | cons hw1 hw2 =>
  cases hw2
  cases hw1 with | @list b vs xs hob hitems =>
  let C : Cx := ⟨K w.params, s₁.heap, s₁.os, l.row.toRowW.prog, w, mg, mb⟩
  have g : GOk G C := GChk.ok (C := C) (chk w.params) KX G'.T.g G'.T.b G'.T.builtins G'.T.nolimit (mo w.params C rfl rfl KX (top_of (K := K w.params) KX G'.T.g (chk w.params).top))
  have hfa : fa = a := by
    have z : some (Value.ref fa) = some (Value.ref a) := hmg.symm.trans (g.fn _ _ hname).1
    cases z; rfl
  subst hfa
  have hz : (ns.map V.int).length ≤ sizeLine := by rw [List.length_map, sizeLine_eq]; omega
  have rv : VRs (fun x => x = b) s₁.heap [.lst (ns.map .int)] [.ref b] := .cons ⟨b, vs.toArray, 0, rfl, rfl, hob, hz, (List.toList_toArray (as := vs)).symm ▸ reads_ints hitems⟩ rfl
  refine wpAny_call (law ns hlen C callerA _ s₁ [.ref b] _ g rfl (by show 1 + 300 + 2 * dep + 9 ≤ 1000; omega) (by show 4 + 20 * dep + 2000 + 90 < 9900; omega) (fun _ _ e => e) hg (fun f hf hp => nomatch tkOk_of hpos hf hp) rfl (fun x q => ⟨_, q ▸ hob⟩) rv fun v' W' s' gs r => ?_)
  cases r
  refine GoodW.toG ⟨.inl ⟨.bool true, .bool true, [], rfl, ?_, .bool true, ?_, ?_⟩, gs.g.k, gs.os, gs.gens.trans hg⟩
  · intro cls; rfl
  · show (WShape.has [] (.bool true) .bool && WTm.holds [] (.eq .res (.lit (.bool true))) { args := _, res := some (.bool true), after := _ }) = true
    simp [WShape.has, WShape.arms, WTm.holds, WTm.value, same]
  · intro _; exact ⟨List.nodup_nil, fun a ha => by cases ha⟩
end Mine
end

section
open PySem
set_option autoImplicit false
set_option linter.unusedVariables false
namespace Mine
section
variable {G : Gl} {d : Nat} {fi : FI}
noncomputable def res (r : Option (Fl × St)) : Option O := r.bind fun p => Fl.casesOn p.1 none fun o => List.casesOn p.2.tp (some o) fun _ _ => none
theorem res_of {r : Option (Fl × St)} {o : O} (e : res r = some o) : ∃ ρ ob, r = some (.ret o, ⟨ρ, [], ob⟩) := by
  obtain ⟨⟨f, ρ, tp, ob⟩, e1, e⟩ := Option.bind_eq_some_iff.mp e
  cases f with
  | next => cases e
  | ret o' =>
    cases tp with
    | nil => cases e; exact ⟨ρ, ob, e1⟩
    | cons => cases e
theorem call_go {a : Addr} {f : FD} {args : List V} {o : O} {n : Nat} {tp : List Tk} {P : Prop} (B : SL G d f.fi) (hf : G.fd.lookup a = some f) (hB : B.xs = f.st) (hn : args.length = f.ps.length)
    (e : res (B.ex ⟨loc0 args n, tp, []⟩) = some o) (ob : All (obs (B.ex ⟨loc0 args n, tp, []⟩)) = P) (p : P) : CallOK G (d + 1) a args o := by
  obtain ⟨ρ, o', h⟩ := res_of e
  subst ob
  have q : All o' := by rw [h] at p; exact p
  exact call_of hf hn (hB ▸ (B.eo _ _ _ h q).2) (.inl rfl)
section
variable {c : T G d fi} {b : SL G d fi} {ρ ρ' ρ'' : Loc} {fl : Fl} {tp : List Tk} {P : Prop}
theorem whil_go (f : Bool) (e : out (turn c b f ⟨ρ, tp, []⟩) = some (some .next, ρ', [])) (o : All (obs (turn c b f ⟨ρ, tp, []⟩)) = P) (p : P) (h : WhilOK G d fi c.x b.xs ρ' fl ρ'') : WhilOK G d fi c.x b.xs ρ fl ρ'' :=
  (turn_ok c b f).run e o p fl ρ'' h
theorem whil_end (f : Bool) (e : out (turn c b f ⟨ρ, tp, []⟩) = some (none, ρ', [])) (o : All (obs (turn c b f ⟨ρ, tp, []⟩)) = P) (p : P) : WhilOK G d fi c.x b.xs ρ .next ρ' :=
  (turn_ok c b f).run e o p .next ρ' ⟨rfl, rfl⟩
theorem for_go {x : Str} {p' : Pos} {i : Nat} {v : V} {l : List V} (hx : fi.isOwn x i = true) (e : out (b.ex ⟨ρ.set i (some (.val v)), tp, []⟩) = some (.next, ρ', [])) (o : All (obs (b.ex ⟨ρ.set i (some (.val v)), tp, []⟩)) = P) (p : P)
    (h : ForOK G d fi (.Name x p') b.xs l ρ' fl ρ'') : ForOK G d fi (.Name x p') b.xs (v :: l) ρ fl ρ'' :=
  (for_ok hx b v l).run (ρ := ρ) e o p fl ρ'' h
theorem comp_nil {elt : Expr} {i : Nat} : CompL G d fi elt i ρ [] [] := rfl
theorem comp_go {elt : T G d fi} {i : Nat} {v : V} {l vs : List V} {o : O} (e : out (elt.ev ⟨ρ.set i (some (.val v)), tp, []⟩) = some (o, ρ.set i (some (.val v)), [])) (ob : All (obs (elt.ev ⟨ρ.set i (some (.val v)), tp, []⟩)) = P) (p : P)
    (h : CompL G d fi elt.x i ρ l vs) : CompL G d fi elt.x i ρ (v :: l) (o.frz :: vs) := .inl ⟨_, _, rfl, rfl, (elt.eo.run e ob p).v, h⟩
theorem comp_keep {c elt : T G d fi} {i : Nat} {v : V} {l vs : List V} {o : O} {tp' : List Tk} {P' : Prop} (e' : out (c.tr ⟨ρ.set i (some (.val v)), tp', []⟩) = some (true, ρ.set i (some (.val v)), [])) (ob' : All (obs (c.tr ⟨ρ.set i (some (.val v)), tp', []⟩)) = P') (p' : P')
    (e : out (elt.ev ⟨ρ.set i (some (.val v)), tp, []⟩) = some (o, ρ.set i (some (.val v)), [])) (ob : All (obs (elt.ev ⟨ρ.set i (some (.val v)), tp, []⟩)) = P) (p : P)
    (h : CompI G d fi [c.x] elt.x i ρ l vs) : CompI G d fi [c.x] elt.x i ρ (v :: l) (o.frz :: vs) := .inl ⟨_, _, rfl, c.to.run e' ob' p', (elt.eo.run e ob p).v, h⟩
theorem comp_skip {c elt : T G d fi} {i : Nat} {v : V} {l vs : List V} {tp' : List Tk} {P' : Prop} (e' : out (c.tr ⟨ρ.set i (some (.val v)), tp', []⟩) = some (false, ρ.set i (some (.val v)), [])) (ob' : All (obs (c.tr ⟨ρ.set i (some (.val v)), tp', []⟩)) = P') (p' : P')
    (h : CompI G d fi [c.x] elt.x i ρ l vs) : CompI G d fi [c.x] elt.x i ρ (v :: l) vs := .inr ⟨c.to.run e' ob' p', h⟩
def WhP (c : T G d fi) (b : SL G d fi) (ρ : Loc) (Φ : Fl → Loc → Prop) : Prop := ∃ fl ρ', WhilOK G d fi c.x b.xs ρ fl ρ' ∧ Φ fl ρ'
theorem whp_go {Φ : Fl → Loc → Prop} (f : Bool) (e : out (turn c b f ⟨ρ, tp, []⟩) = some (some .next, ρ', [])) (o : All (obs (turn c b f ⟨ρ, tp, []⟩)) = P) (p : P) (h : WhP c b ρ' Φ) : WhP c b ρ Φ := by
  obtain ⟨fl, ρ2, h1, h2⟩ := h
  exact ⟨fl, ρ2, whil_go f e o p h1, h2⟩
theorem whp_end {Φ : Fl → Loc → Prop} (f : Bool) (e : out (turn c b f ⟨ρ, tp, []⟩) = some (none, ρ', [])) (o : All (obs (turn c b f ⟨ρ, tp, []⟩)) = P) (p : P) (h : Φ .next ρ') : WhP c b ρ Φ := ⟨_, _, whil_end f e o p, h⟩
end
end
end Mine
end

section
open PySem
set_option autoImplicit false
set_option linter.unusedVariables false
namespace Mine
open PySem.W (Frag kitOne keepIn Looks)
noncomputable def dpt (v : V) : Nat := @V.rec (fun _ => Nat) (fun _ => Nat) 0 (fun _ => 0) (fun _ => 0) (fun _ => 0) (fun _ n => n + 1) (fun _ n => n + 1) 0 (fun _ _ a b => max a b) v
noncomputable def dpts (l : List V) : Nat := @V.rec_1 (fun _ => Nat) (fun _ => Nat) 0 (fun _ => 0) (fun _ => 0) (fun _ => 0) (fun _ n => n + 1) (fun _ n => n + 1) 0 (fun _ _ a b => max a b) l
theorem dat_of (v : V) : ∃ x : PyData, ∀ (W : WS) (h : Heap) (v' : Value), VR W h v v' → (∃ as, Reads h v' x as) ∧ x.canLay0 = true ∧ x.depth ≤ dpt v :=
  V.rec (motive_1 := fun v => ∃ x : PyData, ∀ (W : WS) (h : Heap) (v' : Value), VR W h v v' → (∃ as, Reads h v' x as) ∧ x.canLay0 = true ∧ x.depth ≤ dpt v)
    (motive_2 := fun l => ∃ xs : List PyData, ∀ (W : WS) (h : Heap) (l' : List Value), VRs W h l l' → (∃ as, ReadsAll h l' xs as) ∧ PyData.canLayAll0 xs = true ∧ PyData.depthAll xs ≤ dpts l)
    ⟨.none, fun W h v' r => by cases r; exact ⟨⟨_, .none⟩, rfl, Nat.zero_le _⟩⟩
    (fun b => ⟨.bool b, fun W h v' r => by cases r; exact ⟨⟨_, .bool _⟩, rfl, Nat.zero_le _⟩⟩)
    (fun i => ⟨.int i, fun W h v' r => by obtain ⟨t, rfl⟩ := r; exact ⟨⟨_, .int _ _⟩, rfl, Nat.zero_le _⟩⟩)
    (fun z => ⟨.str ⟨z.toArray⟩, fun W h v' r => by obtain ⟨t, rfl, ok, _⟩ := r; exact ⟨⟨_, .str _ _⟩, by simpa [PyData.canLay0] using ok, Nat.zero_le _⟩⟩)
    (fun l ih => by
      obtain ⟨xs, ih⟩ := ih
      refine ⟨.tuple xs, fun W h v' r => ?_⟩
      obtain ⟨a, vs, n, rfl, _, h1, _, h3⟩ := VR.tup r
      obtain ⟨⟨as, A⟩, B, C⟩ := ih W h _ h3
      refine ⟨⟨as, .tuple h1 rfl rfl A⟩, by simpa [PyData.canLay0] using B, ?_⟩
      show PyData.depthAll xs + 1 ≤ dpts l + 1
      exact Nat.succ_le_succ C)
    (fun l ih => by
      obtain ⟨xs, ih⟩ := ih
      refine ⟨.list xs, fun W h v' r => ?_⟩
      obtain ⟨a, vs, n, rfl, _, h1, _, h3⟩ := VR.lst r
      obtain ⟨⟨as, A⟩, B, C⟩ := ih W h _ h3
      refine ⟨⟨_, .list h1 rfl rfl A⟩, by simpa [PyData.canLay0] using B, ?_⟩
      show PyData.depthAll xs + 1 ≤ dpts l + 1
      exact Nat.succ_le_succ C)
    ⟨[], fun W h l' r => by cases r; exact ⟨⟨_, .nil⟩, rfl, Nat.zero_le _⟩⟩
    (fun v l iv il => by
      obtain ⟨x, iv⟩ := iv
      obtain ⟨xs, il⟩ := il
      refine ⟨x :: xs, fun W h l' r => ?_⟩
      obtain ⟨v', r', rfl, rv, rl⟩ := VRs.inv r
      obtain ⟨⟨as, A⟩, B, C⟩ := iv W h _ rv
      obtain ⟨⟨bs, A'⟩, B', C'⟩ := il W h _ rl
      refine ⟨⟨_, .cons A A'⟩, ?_, ?_⟩
      · show (x.canLay0 && PyData.canLayAll0 xs) = true
        rw [B, B']; rfl
      · show max x.depth (PyData.depthAll xs) ≤ max (dpt v) (dpts l)
        omega) v
section
variable {G : Gl} {d : Nat} {fi : FI}
noncomputable def kSame (b : Bool) (x : V) (y : O) : Option (Bool × List Prop) := y.val?.bind fun y => some (b, [x = y ∧ dpt x ≤ 1900])
theorem primSame : PrimC G d .Eq (kSame true) ∧ PrimC G d .NotEq (kSame false) := by
  constructor
  all_goals
    intro x y t ps e q X E W φ s ρ S F x' y' rx ry Q k
    obtain ⟨v, e1, e⟩ := Option.bind_eq_some_iff.mp e
    cases e
    obtain ⟨rfl, hd⟩ := q.1
    rw [O.val_of e1] at ry
    obtain ⟨z, hz⟩ := dat_of x
    obtain ⟨⟨as, A⟩, B, C⟩ := hz W s.heap x' rx
    obtain ⟨⟨bs, A'⟩, _, _⟩ := hz W s.heap y' ry
    have hu : X.A.units + min z.depth z.depth < cLine := by have := S.u; unfold deep at this; omega
  · exact SeqAt.compareEq_reads A A' B B hu (by rw [SeqAt.eqv_refl z B]; exact k s.toks (Nat.le_refl _))
  · exact SeqAt.compareNe_reads A A' B B hu (by rw [SeqAt.eqv_refl z B]; exact k s.toks (Nat.le_refl _))
noncomputable def eEqS : T G d fi → T G d fi → Pos → T G d fi := eCmp .Eq (kSame true) primSame.1
noncomputable def eNeS : T G d fi → T G d fi → Pos → T G d fi := eCmp .NotEq (kSame false) primSame.2
noncomputable def eGe : T G d fi → T G d fi → Pos → T G d fi := eCmp .GtE (kOrd fun i j => decide (i ≥ j)) (primOrd fun _ _ _ _ _ _ _ _ _ k => P.ge_int k)
noncomputable def eLe : T G d fi → T G d fi → Pos → T G d fi := eCmp .LtE (kOrd fun i j => decide (i ≤ j)) (primOrd fun _ _ _ _ _ _ _ _ _ k => P.le_int k)

noncomputable def kAddT (x y : V) : Option (O × List Prop) := x.tup?.bind fun i => y.tup?.bind fun j => some (.val (.tup (i ++ j)), [(i ++ j).length ≤ room])
theorem primAddT : Prim2 G d (binaryOp .Add) kAddT := by
  intro x y o ps e q X E W φ s ρ S F x' y' rx ry Q k
  obtain ⟨i, e1, e⟩ := Option.bind_eq_some_iff.mp e
  obtain ⟨j, e2, e⟩ := Option.bind_eq_some_iff.mp e
  cases e
  rw [V.tup_of e1] at rx; rw [V.tup_of e2] at ry
  obtain ⟨a, vs, n, rfl, _, h1, z1, r1⟩ := VR.tup rx
  obtain ⟨b, ws, m, rfl, _, h2, z2, r2⟩ := VR.tup ry
  have hz := Nat.le_trans q.1 room_le
  by_cases c1 : vs.isEmpty = true
  · refine concat_meets ⟨_, h1, rfl⟩ ⟨_, h2, rfl⟩ noFill_tuple_add seq_tuple_add PySem.F.slot_tuple_add PySem.F.entry_tuple_add (PySem.F.args_tuple_add_2 _ _) (PyProof.Rows.tuple_addW0 a b vs ws n m none none #[] #[] c1) ⟨h1, h2, ?_⟩
    have : i = [] := by
      have h0 := r1.size; rw [Array.isEmpty_iff] at c1; rw [c1] at h0
      exact List.length_eq_zero_iff.mp h0.symm
    subst this
    exact k.here (t := s.toks) F.f.wf ry
  · by_cases c2 : ws.isEmpty = true
    · refine concat_meets ⟨_, h1, rfl⟩ ⟨_, h2, rfl⟩ noFill_tuple_add seq_tuple_add PySem.F.slot_tuple_add PySem.F.entry_tuple_add (PySem.F.args_tuple_add_2 _ _) (PyProof.Rows.tuple_addW1 a b vs ws n m none none #[] #[] c1 c2) ⟨h1, h2, ?_⟩
      have : j = [] := by
        have h0 := r2.size; rw [Array.isEmpty_iff] at c2; rw [c2] at h0
        exact List.length_eq_zero_iff.mp h0.symm
      subst this
      rw [List.append_nil] at k
      exact k.here (t := s.toks) F.f.wf rx
    · refine concat_meets ⟨_, h1, rfl⟩ ⟨_, h2, rfl⟩ noFill_tuple_add seq_tuple_add PySem.F.slot_tuple_add PySem.F.entry_tuple_add (PySem.F.args_tuple_add_2 _ _) (PyProof.Rows.tuple_addW2 a b vs ws n m none none #[] #[] c1 c2 (by rw [r1.size, r2.size, ← List.length_append]; exact hz)) ⟨h1, h2, ?_⟩
      exact k.tuple (t := s.toks) F.f.wf (by rw [Array.toList_append]; exact r1.append r2) hz
noncomputable def eAddT : T G d fi → T G d fi → Pos → T G d fi := eBin .Add kAddT primAddT

noncomputable def kIsN (x : V) (y : O) : Option (Bool × List Prop) := y.val?.bind fun y => V.casesOn y (some (V.casesOn x true (fun _ => false) (fun _ => false) (fun _ => false) (fun _ => false) (fun _ => false), [])) (fun _ => none) (fun _ => none) (fun _ => none) (fun _ => none) (fun _ => none)
theorem primIsN : PrimC G d .Is kIsN := by
  intro x y t ps e q X E W φ s ρ S F x' y' rx ry Q k
  obtain ⟨v, e1, e⟩ := Option.bind_eq_some_iff.mp e
  rw [O.val_of e1] at ry
  cases v <;> cases e
  cases ry
  have k := k s.toks (Nat.le_refl _)
  cases x with
  | none => cases rx; exact wpAny_is_self rfl k
  | bool b => cases rx; exact PyProof.Rows.is_bool_none k
  | int i => obtain ⟨_, rfl⟩ := rx; exact PyProof.Rows.is_int_none k
  | str z => obtain ⟨_, rfl, _⟩ := rx; exact PyProof.Rows.is_str_none k
  | tup l => obtain ⟨p, _, _, rfl, _⟩ := VR.tup rx; exact PyProof.Rows.is_ref_none k
  | lst l => obtain ⟨p, _, _, rfl, _⟩ := VR.lst rx; exact PyProof.Rows.is_ref_none k
noncomputable def eIs : T G d fi → T G d fi → Pos → T G d fi := eCmp .Is kIsN primIsN
end
end Mine
end

section
open PySem
set_option autoImplicit false
set_option linter.unusedVariables false
namespace Mine
open PySem.W (Frag kitOne keepIn Looks)
open PyProof.Rows (StrsAre)
theorem texts_are {W : WS} {h : Heap} : ∀ {l : List V} {l' : List Value} {ss : List (List Nat)}, VRs W h l l' → textsOf l = some ss → StrsAre l' (ss.map fun z => (⟨z.toArray⟩ : Str))
  | [], _, _, r, e => by cases r; cases e; exact .nil
  | v :: l, _, _, r, e => by
    obtain ⟨v', r', rfl, rv, rl⟩ := VRs.inv r
    obtain ⟨z, e1, e⟩ := Option.bind_eq_some_iff.mp e
    obtain ⟨t, e2, e⟩ := Option.bind_eq_some_iff.mp e
    cases e
    rw [V.str_of e1] at rv
    obtain ⟨tk, rfl, ok, _⟩ := rv
    exact .cons _ tk (texts_are rl e2)
theorem strs_rev : ∀ {l : List Value} {ys : List Str}, StrsAre l ys → StrsAre l.reverse ys.reverse := by
  have app : ∀ {l : List Value} {ys : List Str} {m : List Value} {zs : List Str}, StrsAre l ys → StrsAre m zs → StrsAre (l ++ m) (ys ++ zs) := by
    intro l ys m zs h k
    induction h with
    | nil => exact k
    | cons y t _ ih => exact .cons y t ih
  intro l ys h
  induction h with
  | nil => exact .nil
  | cons y t _ ih => rw [List.reverse_cons, List.reverse_cons]; exact app ih (.cons y t .nil)
theorem any_str (z : List Nat) : ∀ ss : List (List Nat), (ss.map fun z => (⟨z.toArray⟩ : Str)).any (· == ⟨z.toArray⟩) = ss.any (· == z)
  | [] => rfl
  | t :: ss => by
    rw [List.map_cons, List.any_cons, List.any_cons, any_str z ss]
    congr 1
    by_cases q : t = z
    · subst q; simp
    · have q' : (t == z) = false := by simpa using q
      rw [q', beq_eq_false_iff_ne]
      intro e; exact q (by simpa using e)
section
variable {G : Gl} {d : Nat} {fi : FI}
noncomputable def textsIn (y : O) : Option (List (List Nat)) := O.casesOn y (fun v => V.casesOn v none (fun _ => none) (fun _ => none) (fun _ => none) textsOf textsOf) textsOf fun _ => none
noncomputable def kInT (n : Bool) (x : V) (y : O) : Option (Bool × List Prop) := x.str?.bind fun z => (textsIn y).bind fun ss => some (Bool.casesOn n (ss.any (· == z)) (!ss.any (· == z)), [])
theorem primInT : PrimC G d .In (kInT false) ∧ PrimC G d .NotIn (kInT true) := by
  constructor
  all_goals
    intro x y t ps e q X E W φ s ρ S F x' y' rx ry Q k
    obtain ⟨z, e1, e⟩ := Option.bind_eq_some_iff.mp e
    obtain ⟨ss, e2, e⟩ := Option.bind_eq_some_iff.mp e
    cases e
    rw [V.str_of e1] at rx
    obtain ⟨tk, rfl, ok, _⟩ := rx
    have k := k s.toks (Nat.le_refl _)
    have ea := any_str z ss
    cases y with
    | own r =>
      obtain ⟨a, rfl, vs, n, h1, h2, h3⟩ := ry
      have hs := strs_rev (texts_are (l := r.reverse.reverse) (l' := vs.toList.reverse) (ss := ss) (by
        rw [List.reverse_reverse]
        have : ∀ {l : List V} {l' : List Value}, VRs W s.heap l l' → VRs W s.heap l.reverse l'.reverse := by
          intro l
          induction l with
          | nil => intro l' r; cases r; exact rfl
          | cons v l ih => intro l' r; obtain ⟨v', r', rfl, rv, rl⟩ := VRs.inv r; rw [List.reverse_cons, List.reverse_cons]; exact (ih rl).snoc rv
        have := this h2
        rwa [List.reverse_reverse] at this) (by rw [List.reverse_reverse]; exact e2))
      rw [List.reverse_reverse] at hs
      have er : (ss.map fun z => (⟨z.toArray⟩ : Str)).reverse.any (· == ⟨z.toArray⟩) = ss.any (· == z) := by rw [List.any_reverse]; exact ea
      first
      | exact PyProof.Rows.in_list_strs (vs := vs.toList) ⟨_, h1, rfl, _, rfl⟩ hs (by rw [er]; exact k)
      | exact PyProof.Rows.notin_list_strs (vs := vs.toList) ⟨_, h1, rfl, _, rfl⟩ hs (by rw [er]; exact k)
    | own2 r => cases e2
    | val v =>
      cases v with
      | none => cases e2
      | bool => cases e2
      | int => cases e2
      | str => cases e2
      | tup l =>
        obtain ⟨a, vs, n, rfl, _, h1, h2, h3⟩ := VR.tup ry
        have hs := texts_are h3 e2
        first
        | exact PyProof.Rows.in_tuple_strs ⟨_, h1, rfl, _, rfl⟩ hs (by rw [ea]; exact k)
        | exact PyProof.Rows.notin_tuple_strs ⟨_, h1, rfl, _, rfl⟩ hs (by rw [ea]; exact k)
      | lst l =>
        obtain ⟨a, vs, n, rfl, _, h1, h2, h3⟩ := VR.lst ry
        have hs := texts_are h3 e2
        first
        | exact PyProof.Rows.in_list_strs (vs := vs.toList) ⟨_, h1, rfl, _, rfl⟩ hs (by rw [ea]; exact k)
        | exact PyProof.Rows.notin_list_strs (vs := vs.toList) ⟨_, h1, rfl, _, rfl⟩ hs (by rw [ea]; exact k)
noncomputable def eInT : T G d fi → T G d fi → Pos → T G d fi := eCmp .In (kInT false) primInT.1
noncomputable def eNotIn : T G d fi → T G d fi → Pos → T G d fi := eCmp .NotIn (kInT true) primInT.2
noncomputable def evP (a b : T G d fi) (p : V → O → Bool → Prop) (σ : St) : Option (Bool × St) := bd (a.ev σ) fun x σ => bd (b.pk σ) fun y σ => told Tk.b? (fun _ t => p x.frz y t) id (fun _ ρ => ρ) σ
def PrimP (G : Gl) (d : Nat) (op : CmpOp) (p : V → O → Bool → Prop) : Prop :=
  ∀ x y t, p x y t → ∀ (X : FC) (E : Value → Shared → Prop) (W : WS) (φ : Nat → List Addr) (s : Shared) (ρ : Loc), FS G d X → At X W φ s ρ → ∀ x' y', VR W s.heap x x' → BR W s.heap y y' →
    ∀ Q : Value → Shared → Prop, (∀ tk, s.toks ≤ tk → Q (.bool t) { s with toks := tk }) → wpAny X.C.M X.A (compareOp op x' y') Q E s
theorem evP_ok {op : CmpOp} {p : V → O → Bool → Prop} (h : PrimP G d op p) (a b : T G d fi) : Ok (evP a b p) (CmG G d fi op a.x b.x) :=
  a.eo.bd (R := fun u ρ t ρ' => ∃ v, PkG G d fi b.x ρ v ρ' ∧ p u.frz v t) (fun u => b.po.bd (R := fun v ρ t ρ' => p u.frz v t ∧ ρ = ρ') (fun v => Ok.told (f := Tk.b?) (p := fun _ t => p u.frz v t) (r := id) (ρ := fun _ ρ => ρ) fun t ρ q => ⟨q, rfl⟩)
    fun _ v _ _ _ h q => by obtain ⟨q1, rfl⟩ := q; exact ⟨v, h, q1⟩) fun _ u _ t _ h1 q => by
      obtain ⟨v, h2, q1⟩ := q
      exact fun X E W φ s e S F Q kk => h1.v X E W φ s e S F _ fun u' W₁ φ₁ s₁ p₁ r₁ => h2 X E W₁ φ₁ s₁ e S p₁.f _ fun v' W₂ φ₂ s₂ p₂ r₂ =>
        h _ _ _ q1 X E W₂ φ₂ s₂ _ S p₂.f _ _ (r₁.ag p₂.ag) r₂ _ fun tk htk => kk _ _ _ ⟨p₂.f.toks tk htk, p₁.ag.trans p₂.ag, (p₁.trans p₂).vl⟩
noncomputable def eCmpP (op : CmpOp) (p : V → O → Bool → Prop) (h : PrimP G d op p) (a b : T G d fi) (q : Pos) : T G d fi := .cmp op a.x b.x q b.pl (evP a b p) (evP_ok h a b)
def InP (n : Bool) (x : V) (y : O) (t : Bool) : Prop := kInT n x y = some (t, [])
theorem primP {op : CmpOp} {k : V → O → Option (Bool × List Prop)} (h : PrimC G d op k) : PrimP G d op (fun x y t => k x y = some (t, [])) := fun x y t e X E W φ s ρ S F x' y' rx ry Q kk => h x y t [] e trivial X E W φ s ρ S F x' y' rx ry Q kk
noncomputable def eInP : T G d fi → T G d fi → Pos → T G d fi := eCmpP .In (InP false) (primP primInT.1)
noncomputable def eNotInP : T G d fi → T G d fi → Pos → T G d fi := eCmpP .NotIn (InP true) (primP primInT.2)
noncomputable def sExt (x : Str) (i : Nat) (a : T G d fi) (xp ap cp p : Pos) (h : (fi.isVar x i && (ap.endLine == cp.line)) = true) : SS G d fi :=
  ⟨.Expr (.Call (.Attribute (.Name x xp) "extend" ap) [a.x] [] cp) p, fun σ => (ownAt σ.ρ i).bind fun _ => bd (a.ev σ) fun y σ => y.frz.lst?.bind fun l => (ownAt σ.ρ i).bind fun r => some (.next, ⟨σ.ρ.set i (some (.own (l.reverse ++ r))), σ.tp, (l.length + r.length < room) :: σ.ob⟩), by
    intro σ f σ' e q
    obtain ⟨o0, e0, e⟩ := Option.bind_eq_some_iff.mp e
    obtain ⟨⟨y, σ₁⟩, e1, e⟩ := Option.bind_eq_some_iff.mp e
    obtain ⟨l, e3, e⟩ := Option.bind_eq_some_iff.mp e
    obtain ⟨r, e2, e⟩ := Option.bind_eq_some_iff.mp e
    rw [Bool.and_eq_true] at h
    cases e
    obtain ⟨q2, hk⟩ := a.eo σ y σ₁ e1 q.2
    refine ⟨q2, fun X E W φ s ef c S F Q k => wpAny_Expr_any (method_call rfl (fun z q => by cases List.mem_singleton.mp q; exact a.pl) h.2 rfl fun pl => load_ok S F (ef ▸ h.1) (ownAt_some e0) fun x' hx hn hv rr => ?_) (by unfold interactive; rw [S.fn]; rfl) rfl⟩
    obtain ⟨a0, _, rfl, vs0, n0, z0, _⟩ := rr
    refine getMethod_builtin (T := "list") ⟨_, z0, rfl⟩ PySem.F.plainAttrs_list PySem.F.slot_list_extend PySem.F.type_list_extend (fun a q => by cases q; exact ⟨_, z0, rfl⟩) ?_
    refine callW (K := X.C.K) (fun h _ => keeper_builtin _ h _) (PySem.Calls.spliced_cons (hk.v X E W φ s ef S F _ fun y' W' φ' s' p' r' => PySem.Calls.spliced_nil ⟨p'.f.In S, ?_⟩))
    obtain ⟨ad, hp, ea, vs, n, h1, h2, h3⟩ := still p'.f hx hn (p'.vl _ _ hv) (ownAt_some e2)
    cases ea
    have hs := h2.size
    rw [List.length_reverse] at hs
    rw [V.lst_of e3] at r'
    obtain ⟨b, ws, m, rfl, _, g1, g2, g3⟩ := VR.lst r'
    have hs2 := g3.size
    have q1 : l.length + r.length < room := q.1
    have := room_le
    have hz : vs.size + ws.size ≤ sizeLine := by omega
    refine call_meets PySem.F.slot_list_extend ⟨_, h1, rfl⟩ PySem.F.entry_list_extend (PySem.F.args_list_extend_2 _ _) (AutoSeq1.list_extend_list_list_0 a0 vs n b ws m (PyProof.Rows.extend_door hz) (by omega)) ⟨h1, g1, ?_⟩
    obtain ⟨A, B⟩ := p'.f.turn (x := x) (i := i) (t := s'.toks) (r := l.reverse ++ r) (h' := s'.heap.update a0 (Obj.mapSeq (· ++ ws))) (fun z hz => S.ti z x i hz hx) hp (Heap.SameBut.update ..) (p'.vl _ _ hv) (Heap.get?_update_self _ h1 rfl)
      (by rw [Array.toList_append, List.reverse_append, List.reverse_reverse]; exact h2.append g3) (by rw [List.length_append, List.length_reverse]; omega)
    exact k _ _ _ _ A (p'.ag.trans B) rfl⟩
end
end Mine
end

section
open PySem
set_option autoImplicit false
set_option linter.unusedVariables false
namespace Mine
open PySem.W (Frag kitOne keepIn Looks)

def Wh (h : Heap) : WS := fun a => ∃ o, h.get? a = some o
def GVal (C : Cx) (x : Str) (v : V) : Prop := ∃ v', C.mg x = some v' ∧ VR (Wh C.h) C.h v v'
def GDic (C : Cx) (x : Str) (kvs : List (List Nat × Int)) : Prop := ∃ a kws, C.mg x = some (.ref a) ∧ C.h.DictOf (strKind C.prog C.w) a kws ∧ ∀ z i, kvs.lookup z = some i → ∃ t, valueAt kws ⟨z.toArray⟩ = some (.int i t)
section
variable {G : Gl} {d : Nat} {fi : FI}
theorem Wh.ag {X : FC} {W : WS} {φ : Nat → List Addr} {s : Shared} {ρ : Loc} (S : FS G d X) (F : At X W φ s ρ) : Ag (Wh X.C.h) X.C.h (Wh X.C.h) s.heap := ⟨fun _ q => q, fun a ⟨o, q⟩ => (F.keep S a o q).trans q.symm⟩
noncomputable def lStuck (xs : List Stmt) : SL G d fi := ⟨xs, fun _ => none, .none fun _ => rfl⟩
theorem for_ret {x : Str} {p' : Pos} {i : Nat} {v : V} {l : List V} {b : SL G d fi} {ρ ρ' : Loc} {tp : List Tk} {P : Prop} {o' : O} (hx : fi.isOwn x i = true) (e : out (b.ex ⟨ρ.set i (some (.val v)), tp, []⟩) = some (.ret o', ρ', [])) (o : All (obs (b.ex ⟨ρ.set i (some (.val v)), tp, []⟩)) = P) (p : P) :
    ForOK G d fi (.Name x p') b.xs (v :: l) ρ (.ret o') ρ' := (for_ok hx b v l).run (ρ := ρ) e o p (.ret o') ρ' ⟨rfl, rfl⟩
noncomputable def sAsgK (y : Str) (j : Nat) (p' p : Pos) (x : Str) (i : Nat) (px : Pos) (it : It G d fi) (sc : Scope) (elt : T G d (fi.inner sc x i)) (pos : Pos) (h : (compOk fi sc x i && fi.isOwn y j && (fi.names.lookup y != some .local)) = true) : SS G d fi :=
  have hc : compOk fi sc x i = true := by rw [Bool.and_eq_true, Bool.and_eq_true] at h; exact h.1.1
  ⟨.Assign [.Name y p'] (eComp x i px it sc elt pos hc).x p, fun σ => bd ((eComp x i px it sc elt pos hc).ev σ) fun o σ => setL j o σ,
  (eComp x i px it sc elt pos hc).eo.bd (R := fun o ρ fl ρ' => fl = .next ∧ ρ' = ρ.set j (some o)) (fun _ => .setL fun _ => ⟨rfl, rfl⟩) fun _ _ _ _ _ ha q X E W φ s e c S F Q k => by
    obtain ⟨rfl, rfl⟩ := q
    rw [Bool.and_eq_true, Bool.and_eq_true, bne_iff_ne] at h
    refine wpAny_Assign_Name (ha X E W φ s e S F _ fun v' W' φ' s' p' r' => store_ok S (.inr c) p'.f r' (e ▸ h.1.2) fun φ2 s2 A B => k _ _ _ _ A (p'.ag.trans B) rfl) ?_
    show (pure (X.env.blockKind == .function && X.env.kindOf y == some .local && p'.line == pos.line && !(sc.names.any fun (n, k) => n == y && (k == .local || k == .cell))) : Sem Bool) = _
    have hk : (X.env.kindOf y == some .local) = false := by rw [S.kind, e, beq_eq_false_iff_ne]; exact h.2
    rw [hk, Bool.and_false, Bool.false_and, Bool.false_and]⟩
noncomputable def eVarF (x : Str) (i : Nat) (p : Pos) (h : fi.isVar x i = true) : T G d fi := .mk' (.Name x p) (evVar i) rfl (evVar_ok h) fun _ => rfl
noncomputable def eGlobI (x : Str) (i : Int) (p : Pos) (h : fi.isGlob x = true) (hv : ∀ C, G.mo C → GVal C x (.int i)) : T G d fi :=
  .mk' (.Name x p) (pu (.val (.int i))) rfl (.pu fun ρ X E W φ s e S F Q k => by
    obtain ⟨v', e1, t, rfl⟩ := hv X.C S.g.mo
    exact glob_ok S F (e ▸ h) e1 (k _ _ _ _ (.refl F) (.val ⟨t, rfl⟩))) fun _ => rfl
noncomputable def eGlobS (x : Str) (z : List Nat) (p : Pos) (h : fi.isGlob x = true) (hv : ∀ C, G.mo C → GVal C x (.str z)) : T G d fi :=
  .mk' (.Name x p) (pu (.val (.str z))) rfl (.pu fun ρ X E W φ s e S F Q k => by
    obtain ⟨v', e1, t, rfl, ok⟩ := hv X.C S.g.mo
    exact glob_ok S F (e ▸ h) e1 (k _ _ _ _ (.refl F) (.val ⟨t, rfl, ok⟩))) fun _ => rfl
noncomputable def evIn (n : Bool) (ss : List (List Nat)) (a : T G d fi) (σ : St) : Option (Bool × St) := bd (a.ev σ) fun u σ => u.frz.str?.bind fun z => told Tk.b? (fun _ t => t = Bool.casesOn n (ss.any (· == z)) (!ss.any (· == z))) id (fun _ ρ => ρ) σ
theorem evIn_ok (n : Bool) (a : T G d fi) (x : Str) (l : List V) (ss : List (List Nat)) (xp : Pos) (h : fi.isGlob x = true) (hl : textsOf l = some ss) (hv : ∀ C, G.mo C → GVal C x (.tup l)) :
    Ok (evIn n ss a) (CmG G d fi (Bool.casesOn n .In .NotIn) a.x (.Name x xp)) :=
  a.eo.bd (R := fun u ρ t ρ' => ∃ z, u.frz = .str z ∧ t = Bool.casesOn n (ss.any (· == z)) (!ss.any (· == z)) ∧ ρ = ρ') (fun u σ t σ' e q => by
    obtain ⟨z, e1, e⟩ := Option.bind_eq_some_iff.mp e
    obtain ⟨q1, q2, q3⟩ := Ok.told (f := Tk.b?) (p := fun _ t => t = Bool.casesOn n (ss.any (· == z)) (!ss.any (· == z))) (r := id) (ρ := fun _ ρ => ρ) (S := fun ρ t ρ' => t = Bool.casesOn n (ss.any (· == z)) (!ss.any (· == z)) ∧ ρ = ρ') (fun t ρ q => ⟨q, rfl⟩) σ t σ' e q
    exact ⟨q1, z, V.str_of e1, q2, q3⟩) fun _ u _ t _ h1 q X E W φ s e S F Q kk => by
    obtain ⟨z, e1, rfl, rfl⟩ := q
    obtain ⟨v', m1, r⟩ := hv X.C S.g.mo
    refine h1.v X E W φ s e S F _ fun u' W₁ φ₁ s₁ p₁ r₁ => glob_ok S p₁.f (e ▸ h) m1 ?_
    rw [e1] at r₁
    obtain ⟨tk, rfl, ok, _⟩ := r₁
    obtain ⟨a, vs, m, rfl, _, h1, h2, h3⟩ := VR.tup (VR.ag (Wh.ag S p₁.f) r)
    have hs := texts_are h3 hl
    have ea := any_str z ss
    have kk := kk _ _ _ p₁
    cases n with
    | false => exact PyProof.Rows.in_tuple_strs ⟨_, h1, rfl, _, rfl⟩ hs (by rw [ea]; exact kk)
    | true => exact PyProof.Rows.notin_tuple_strs ⟨_, h1, rfl, _, rfl⟩ hs (by rw [ea]; exact kk)
noncomputable def eInG (n : Bool) (a : T G d fi) (x : Str) (l : List V) (ss : List (List Nat)) (xp p : Pos) (h : fi.isGlob x = true) (hl : textsOf l = some ss) (hv : ∀ C, G.mo C → GVal C x (.tup l)) : T G d fi :=
  .cmp (Bool.casesOn n .In .NotIn) a.x (.Name x xp) p rfl (evIn n ss a) (evIn_ok n a x l ss xp h hl hv)
noncomputable def eDicG (x : Str) (kvs : List (List Nat × Int)) (k : T G d fi) (xp p : Pos) (h : fi.isGlob x = true) (hv : ∀ C, G.mo C → GDic C x kvs) : T G d fi :=
  .mk' (.Subscript (.Name x xp) k.x p) (fun σ => bd (k.ev σ) fun y σ => y.frz.str?.bind fun z => (kvs.lookup z).bind fun i => pu (.val (.int i)) σ) rfl
    (k.eo.bd (R := fun y ρ o ρ' => ∃ z i, y.frz = .str z ∧ kvs.lookup z = some i ∧ o = .val (.int i) ∧ ρ = ρ') (fun y σ o σ' e q => by
      obtain ⟨z, e1, e⟩ := Option.bind_eq_some_iff.mp e
      obtain ⟨i, e2, e⟩ := Option.bind_eq_some_iff.mp e
      cases e; exact ⟨q, z, i, V.str_of e1, e2, rfl, rfl⟩) fun _ y _ _ _ hk q X E W φ s e S F Q kk => by
      obtain ⟨z, i, e1, e2, rfl, rfl⟩ := q
      obtain ⟨a, kws, m1, hd, hz⟩ := hv X.C S.g.mo
      obtain ⟨t, ht⟩ := hz z i e2
      refine PyProof.Rows.Subscript_ (glob_ok S F (e ▸ h) m1 (hk.v X E W φ s e S F _ fun y' W₂ φ₂ s₂ p₂ r₂ => ?_))
      rw [e1] at r₂
      obtain ⟨u, rfl, _⟩ := r₂
      have hd2 := hd.keep (p₂.f.keep S)
      exact PyProof.Rows.tail_any (T := "dict") hd2.typeIs PySem.F.slot_dict_getitem.lookup (wpAny_getItem_of (knd := strKind X.C.prog X.C.w) (k := ⟨z.toArray⟩) (by simp [strKind, Value.isStrOf]) hd2.mapOf ht
        (kk _ _ _ _ ⟨p₂.f.toks (s₂.toks + 1) (Nat.le_succ _), p₂.ag, p₂.vl⟩ (.val ⟨t, rfl⟩))) (slice_plain k.pl _ _)) fun _ => rfl

noncomputable def evCh (f g : Int → Int → Bool) (a b c : T G d fi) (σ : St) : Option (Bool × St) :=
  bd (a.ev σ) fun x σ => bd (b.ev σ) fun y σ => x.frz.int?.bind fun i => y.frz.int?.bind fun j => bd (dec true (f i j) σ) fun t σ => Bool.casesOn t (pu false σ) (bd (c.ev σ) fun z σ => z.frz.int?.bind fun k => pu (g j k) σ)
def ChS (G : Gl) (d : Nat) (fi : FI) (f g : Int → Int → Bool) (a b c : Expr) (ρ : Loc) (t : Bool) (ρ' : Loc) : Prop := ∃ x i ρ₁ y j ρ₂, EvG G d fi a ρ x ρ₁ ∧ x.frz = .int i ∧ EvG G d fi b ρ₁ y ρ₂ ∧ y.frz = .int j ∧
  ((f i j = false ∧ t = false ∧ ρ' = ρ₂) ∨ (f i j = true ∧ ∃ z k, EvG G d fi c ρ₂ z ρ' ∧ z.frz = .int k ∧ t = g j k))
theorem evCh_ok (f g : Int → Int → Bool) (a b c : T G d fi) : Ok (evCh f g a b c) (ChS G d fi f g a.x b.x c.x) := by
  intro σ t σ' e q
  obtain ⟨⟨x, σ₁⟩, e1, e⟩ := Option.bind_eq_some_iff.mp e
  obtain ⟨⟨y, σ₂⟩, e2, e⟩ := Option.bind_eq_some_iff.mp e
  obtain ⟨i, e3, e⟩ := Option.bind_eq_some_iff.mp e
  obtain ⟨j, e4, e⟩ := Option.bind_eq_some_iff.mp e
  obtain ⟨⟨t', σ₃⟩, e5, e⟩ := Option.bind_eq_some_iff.mp e
  cases t' with
  | false =>
    cases e
    obtain ⟨q3, z1, z2⟩ := Ok.dec true (f i j) _ _ _ e5 q
    obtain ⟨q2, h2⟩ := b.eo _ _ _ e2 q3
    obtain ⟨q1, h1⟩ := a.eo _ _ _ e1 q2
    exact ⟨q1, x, i, _, y, j, _, h1, V.int_of e3, h2, V.int_of e4, .inl ⟨z1.symm, rfl, z2.symm⟩⟩
  | true =>
    obtain ⟨⟨z, σ₄⟩, e6, e⟩ := Option.bind_eq_some_iff.mp e
    obtain ⟨k, e7, e⟩ := Option.bind_eq_some_iff.mp e
    cases e
    obtain ⟨q4, h3⟩ := c.eo _ _ _ e6 q
    obtain ⟨q3, z1, z2⟩ := Ok.dec true (f i j) _ _ _ e5 q4
    obtain ⟨q2, h2⟩ := b.eo _ _ _ e2 q3
    obtain ⟨q1, h1⟩ := a.eo _ _ _ e1 q2
    exact ⟨q1, x, i, _, y, j, _, h1, V.int_of e3, h2, V.int_of e4, .inr ⟨z1.symm, z, k, z2 ▸ h3, V.int_of e7, rfl⟩⟩
abbrev OrdOp (op : CmpOp) (f : Int → Int → Bool) : Prop := ∀ (C : Cx) (A : Around) (E : Value → Shared → Prop) (s : Shared) (i j : Int) (t u : Tok) (Q : Value → Shared → Prop), Q (.bool (f i j)) s → wpAny C.M A (compareOp op (.int i t) (.int j u)) Q E s
noncomputable def eChn (op op' : CmpOp) (f g : Int → Int → Bool) (hf : OrdOp op f) (hg : OrdOp op' g) (a b c : T G d fi) (p : Pos) (hm : lastMarks [op, op'] [b.x, c.x] = false) : T G d fi :=
  have ev : Ok (fun σ => bd (evCh f g a b c σ) fun t σ => pu (O.val (.bool t)) σ) (EvG G d fi (.Compare a.x [op, op'] [b.x, c.x] p)) :=
    (evCh_ok f g a b c).bd (R := fun t ρ o ρ' => o = .val (.bool t) ∧ ρ = ρ') (fun t => .pu fun _ => ⟨rfl, rfl⟩) fun _ t _ _ _ h q X E W φ s e S F Q k => by
      obtain ⟨rfl, rfl⟩ := q
      obtain ⟨x, i, ρ₁, y, j, ρ₂, h1, e1, h2, e2, h3⟩ := h
      refine PyProof.Rows.Compare_chain (h1.v X E W φ s e S F _ fun x' W₁ φ₁ s₁ p₁ r₁ => PyProof.Rows.chain_link (h2.v X E W₁ φ₁ s₁ e S p₁.f _ fun y' W₂ φ₂ s₂ p₂ r₂ => ?_)) hm
      rw [e1] at r₁; rw [e2] at r₂
      obtain ⟨t1, rfl⟩ := r₁; obtain ⟨t2, rfl⟩ := r₂
      refine hf _ _ _ _ _ _ _ _ _ (wpAny_truthy_bool ?_)
      rcases h3 with ⟨h3, rfl, rfl⟩ | ⟨h3, z, k', h4, e3, rfl⟩
      · rw [h3]; exact k _ _ _ _ (p₁.trans p₂) (.val rfl)
      · rw [h3]
        refine PyProof.Rows.chain_last (h4.v X E W₂ φ₂ s₂ e S p₂.f _ fun z' W₃ φ₃ s₃ p₃ r₃ => ?_)
        rw [e3] at r₃
        obtain ⟨t3, rfl⟩ := r₃
        exact hg _ _ _ _ _ _ _ _ _ (k _ _ _ _ ((p₁.trans p₂).trans p₃) (.val rfl))
  ⟨.Compare a.x [op, op'] [b.x, c.x] p, _, _, evCh f g a b c, rfl, ev, ev.mono fun _ _ _ h => h.pk, (evCh_ok f g a b c).mono fun ρ t ρ' h X E W φ s e S F Q k => by
      obtain ⟨x, i, ρ₁, y, j, ρ₂, h1, e1, h2, e2, h3⟩ := h
      refine PyProof.Rows.isTrue_chain (h1.v X E W φ s e S F _ fun x' W₁ φ₁ s₁ p₁ r₁ => PyProof.Rows.test_link (h2.v X E W₁ φ₁ s₁ e S p₁.f _ fun y' W₂ φ₂ s₂ p₂ r₂ => ?_)) hm
      rw [e1] at r₁; rw [e2] at r₂
      obtain ⟨t1, rfl⟩ := r₁; obtain ⟨t2, rfl⟩ := r₂
      refine hf _ _ _ _ _ _ _ _ _ (wpAny_truthy_bool ?_)
      rcases h3 with ⟨h3, rfl, rfl⟩ | ⟨h3, z, k', h4, e3, rfl⟩
      · rw [h3]; exact k _ _ _ (p₁.trans p₂)
      · rw [h3]
        refine PyProof.Rows.test_last (h4.v X E W₂ φ₂ s₂ e S p₂.f _ fun z' W₃ φ₃ s₃ p₃ r₃ => ?_)
        rw [e3] at r₃
        obtain ⟨t3, rfl⟩ := r₃
        exact hg _ _ _ _ _ _ _ _ _ (wpAny_truthy_bool (k _ _ _ ((p₁.trans p₂).trans p₃)))⟩
noncomputable def eLtLt (a b c : T G d fi) (p : Pos) (hm : lastMarks [.Lt, .Lt] [b.x, c.x] = false) : T G d fi := eChn .Lt .Lt (fun i j => decide (i < j)) (fun i j => decide (i < j)) (fun _ _ _ _ _ _ _ _ _ k => P.lt_int k) (fun _ _ _ _ _ _ _ _ _ k => P.lt_int k) a b c p hm
noncomputable def eLeLe (a b c : T G d fi) (p : Pos) (hm : lastMarks [.LtE, .LtE] [b.x, c.x] = false) : T G d fi := eChn .LtE .LtE (fun i j => decide (i ≤ j)) (fun i j => decide (i ≤ j)) (fun _ _ _ _ _ _ _ _ _ k => P.le_int k) (fun _ _ _ _ _ _ _ _ _ k => P.le_int k) a b c p hm

noncomputable def kNotInS (x : V) (y : O) : Option (Bool × List Prop) := y.val?.bind fun y => x.str?.bind fun c => y.str?.bind fun z => List.casesOn c none fun a r => List.casesOn r (some (!z.contains a, [])) fun _ _ => none
theorem primNotInS : PrimC G d .NotIn kNotInS := by
  intro x y t ps e q X E W φ s ρ S F x' y' rx ry Q k
  obtain ⟨v, e1, e⟩ := Option.bind_eq_some_iff.mp e
  obtain ⟨c, e2, e⟩ := Option.bind_eq_some_iff.mp e
  obtain ⟨z, e3, e⟩ := Option.bind_eq_some_iff.mp e
  rw [O.val_of e1, V.str_of e3] at ry; rw [V.str_of e2] at rx
  obtain ⟨t1, rfl, _⟩ := rx; obtain ⟨t2, rfl, _⟩ := ry
  cases c with
  | nil => cases e
  | cons a r =>
  cases r with
  | cons _ _ => cases e
  | nil =>
  cases e
  refine P.notIn_str ?_
  have := PySem.StrLaws.found_one ⟨z.toArray⟩ a
  rw [show (⟨[a].toArray⟩ : Str) = ⟨#[a]⟩ from rfl, this]
  have e : (decide (a ∈ (⟨z.toArray⟩ : Str).cps.toList)) = z.contains a := by simp
  rw [e]; exact k s.toks (Nat.le_refl _)
noncomputable def eNotInS : T G d fi → T G d fi → Pos → T G d fi := eCmp .NotIn kNotInS primNotInS

noncomputable def kMulS (x y : V) : Option (O × List Prop) := x.str?.bind fun z => y.int?.bind fun n => List.casesOn z none fun a r => List.casesOn r (some (.val (.str (List.replicate n.toNat a)), [1 ≤ n ∧ n ≤ 1000])) fun _ _ => none
theorem rep_flat (a : Nat) (n : Nat) : ((List.replicate n #[a]).foldl (· ++ ·) #[] : Array Nat) = (List.replicate n a).toArray := by
  have key : ∀ (n : Nat) (l : List Nat), (List.replicate n #[a]).foldl (· ++ ·) l.toArray = (l ++ List.replicate n a).toArray := by
    intro n
    induction n with
    | zero => intro l; simp
    | succ n ih =>
      intro l
      rw [List.replicate_succ, List.foldl_cons, List.replicate_succ]
      have := ih (l ++ [a])
      rw [show l.toArray ++ #[a] = (l ++ [a]).toArray by simp, this]
      simp
  exact key n []
theorem primMulS : Prim2 G d (binaryOp .Mult) kMulS := by
  intro x y o ps e q X E W φ s ρ S F x' y' rx ry Q k
  obtain ⟨z, e1, e⟩ := Option.bind_eq_some_iff.mp e
  obtain ⟨n, e2, e⟩ := Option.bind_eq_some_iff.mp e
  rw [V.str_of e1] at rx; rw [V.int_of e2] at ry
  obtain ⟨t1, rfl, ok, hz⟩ := rx; obtain ⟨t2, rfl⟩ := ry
  cases z with
  | nil => cases e
  | cons a r =>
  cases r with
  | cons _ _ => cases e
  | nil =>
  cases e
  obtain ⟨q1, q2⟩ : 1 ≤ n ∧ n ≤ 1000 := q.1
  have hok : PyData.strOk ⟨(List.replicate n.toNat a).toArray⟩ = true := strOk_of ok fun c hc => by
    have := List.eq_of_mem_replicate (by simpa using hc : c ∈ List.replicate n.toNat a); simp [this]
  have hlen : (List.replicate n.toNat a).length ≤ sizeLine := by rw [List.length_replicate, sizeLine_eq]; omega
  have hx : (⟨[a].toArray⟩ : Str).length = 1 := rfl
  refine P.mul_str (by rw [Bool.or_eq_false_iff, decide_eq_false_iff_not, decide_eq_false_iff_not]; omega) (fun _ _ => ?_) (fun _ _ => ?_) ?_
  · rw [hx]
    exact Int.not_lt.mpr ((Int.le_ediv_iff_mul_le (show 0 < n by omega)).mpr (by show ((1 : Nat) : Int) * n ≤ _; omega))
  · rw [hx]
    unfold Builtin.Str.tooLong
    rw [decide_eq_false_iff_not, sizeLine_eq]; omega
  · rw [if_neg (by omega)]
    split
    · rename_i h1
      have h1 : n = 1 := by simpa [hx] using h1
      subst h1
      exact k.here F.f.wf ⟨t1, rfl, ok, hz⟩
    · rw [show ((⟨[a].toArray⟩ : Str).cps) = #[a] from rfl, rep_flat]
      exact ⟨by simpa [Str.length] using hlen, k.here F.f.wf ⟨_, rfl, hok, hlen⟩⟩
noncomputable def eMulS : T G d fi → T G d fi → Pos → T G d fi := eBin .Mult kMulS primMulS
end
end Mine
end

section
open PySem
set_option autoImplicit false
set_option linter.unusedVariables false
namespace Mine
open PySem.W (Frag kitOne keepIn Looks)

abbrev mroV : List Value := [.type "ValueError", .type "Exception", .type "BaseException", .type "object"]
structure ExOk (C : Cx) (x : Str) (c : Addr) : Prop where
  mg : C.mg x = some (.ref c)
  obj : ∃ nm q N bs bm hdct sn sub ab col dd k0 k1 k2 k3 k5 newId Bn inN bmN mN, ExcBaseFacts Bn newId inN bmN ∧ mroV.contains (.type Bn) = true ∧ C.h.get? c = some (excClassObj nm q c N bs bm hdct sn sub ab col dd k0 k1 k2 k3 k5 newId) ∧ C.h.Ns N mN ∧ mN "__init__" = none ∧ OwnTail C.h mroV bm

structure FX (X : FC) (outer : List Env) : Prop where
  fr : X.A.frames = some (X.env :: outer)
  me : X.env.frame = some X.env.locals
  nw : X.C.h.get? X.env.locals = none
  out : ∀ h : Heap, (∀ a o, X.pin a = some o → h.get? a = some o) → h.FunFrames X.C.h outer
def PinUp (X : FC) (h : Heap) : Prop := ∀ b o, X.pin b = some o → (∀ vs, o.data ≠ .fields vs) → ∃ sl, h.get? b = some { o with slots := sl }
def Mde (X : FC) (outer : List Env) (c e : Addr) (s : Shared) : Prop := (∃ h vs, Heap.MadeExcOf h s.heap e (.ref c) vs ∧ X.C.h.StaysIn h ∧ h.FunFrames X.C.h (X.env :: outer) ∧ ∀ b o, X.pin b = some o → h.get? b = some o) ∧ s.gens = #[] ∧ s.os = X.C.os
def Hld (X : FC) (outer : List Env) (c e : Addr) (s : Shared) : Prop := (∃ a0, Heap.HeldW X.C.h (X.env :: outer) e (.ref c) a0 X.env.locals s.heap) ∧ PinUp X s.heap ∧ s.gens = #[] ∧ s.os = X.C.os
def Fly (C : Cx) (outer : List Env) (h : Heap) (c e : Addr) (s : Shared) : Prop := (∃ a0, Heap.FlyingW C.h outer e (.ref c) a0 s.heap) ∧ h.UpToSlots s.heap ∧ s.gens = #[] ∧ s.os = C.os
def Bas (C : Cx) (s : Shared) : Prop := (∀ a o, C.h.get? a = some o → s.heap.get? a = some o) ∧ s.gens = #[] ∧ s.os = C.os

section
variable {G : Gl} {d : Nat} {fi : FI} {X : FC} {outer : List Env} {c e : Addr} {s : Shared} {E : Value → Shared → Prop} {W : WS} {φ : Nat → List Addr} {ρ : Loc}
theorem FX.frames (S : FS G d X) (Z : FX X outer) (F : At X W φ s ρ) : s.heap.FunFrames X.C.h (X.env :: outer) := by
  obtain ⟨o, es, ep, ho, hd, _⟩ := F.f.ns
  exact ⟨by rw [S.fn]; decide, ⟨_, o, Z.me, Z.nw, ho, fun vs q => by rw [hd] at q; cases q⟩, Z.out _ F.f.pin⟩
theorem note_made {Q : Unit → Shared → Prop} (Z : FX X outer) (m : Mde X outer c e s) (k : ∀ s', Hld X outer c e s' → Q () s') : wpAny X.C.M X.A (noteFrame (.ref e) X.env) Q E s := by
  obtain ⟨⟨h, vs, hx, hkb, hl, hp⟩, hg, ho⟩ := m
  obtain ⟨t, he, htn, ht⟩ := hx.there
  have fresh : ∀ b, h.get? b = none → X.C.h.get? b = none := fun b hb => by
    cases hq : X.C.h.get? b with
    | none => rfl
    | some o' => have := hkb b o' hq; rw [hb] at this; cases this
  unfold noteFrame
  simp only [Z.me]
  refine wpAny_bind (wpAny_field (x := .none) he rfl rfl ?_)
  rw [if_neg (by decide)]
  refine wpAny_entryW (base := X.C.h) (a0 := .ref t) Z.fr (hl.of_keeps fun b o hb _ => ⟨o, hx.keeps b o hb, rfl⟩) Z.me he (fun b o hb => hx.keeps b o (hkb b o hb)) (fresh e hx.new) rfl (show 1 < 6 by decide) rfl fun h' hL => ?_
  obtain ⟨k1, k2, k3, k4⟩ := hL
  exact k _ ⟨⟨_, k1, fresh e hx.new, k2, k3⟩, fun b o hb hn => k4 b o (hx.keeps b o (hp b o hb)) hn, hg, ho⟩
theorem came_held (Z : FX X outer) (m : Hld X outer c e s) (k : ∀ s', Hld X outer c e s' → E (.ref e) s') : cameBackBy X.C.M X.A X.env E (.ref e) s := by
  obtain ⟨⟨a0, h1, h2, h3, h4⟩, hp, hg, ho⟩ := m
  obtain ⟨oe, vs, T, oT, ts, he, hc, hd, hv, hnT, hTe, hT, hdT, hts⟩ := id h4
  have hsz3 : 3 < ts.size := (Array.getElem?_eq_some_iff.mp hts).1
  unfold cameBackBy
  rw [Z.me]
  refine wpAny_bind (wpAny_field he hd hv ?_)
  rw [if_neg (show ¬ ((Value.ref T == Value.none) = true) from by simp)]
  have fin : wpAny X.C.M X.A (setFlight (.ref e) (some X.env.locals)) (fun _ s' => E (.ref e) s') E s := by
    have other : ∀ b, b ≠ T → (s.heap.update T (Obj.mapFields (·.setIfInBounds 3 ((some X.env.locals).elim Value.none fun f => rawInt f)))).get? b = s.heap.get? b := fun b hb => Heap.get?_update_other _ _ (Ne.symm hb)
    have noRecord : ∀ b o, s.heap.get? b = some o → (∀ vs, o.data ≠ .fields vs) → b ≠ T := fun b o hb hnf q => by
      rw [q, hT] at hb; injection hb with hb; subst hb; exact hnf ts hdT
    unfold setFlight
    refine wpAny_bind (wpAny_field he hd hv ?_)
    rw [if_pos (show (Value.ref T != Value.none) = true from by simp)]
    refine wpAny_setField hT hdT hsz3 (k _ ⟨⟨a0, fun b o hb => (other b fun q => by rw [q, hnT] at hb; cases hb).trans (h1 b o hb), h2, h3.of_keeps fun b o hb hnf => ⟨o, (other b (noRecord b o hb hnf)).trans hb, rfl⟩, ?_⟩, fun b o hb hn => ?_, hg, ho⟩)
    · exact ⟨oe, vs, T, _, _, (other e (Ne.symm hTe)).trans he, hc, hd, hv, hnT, hTe, Heap.get?_update_self _ hT (Obj.isFreed_of_fields (Obj.data_mapFields hdT _)), Obj.data_mapFields hdT _, by simp [hsz3]⟩
    · obtain ⟨sl, z⟩ := hp b o hb hn
      exact ⟨sl, (other b (noRecord b _ z hn)).trans z⟩
  first | exact fin | exact wpAny_bind (wpAny_pure fin)
theorem leave_held {Q : Unit → Shared → Prop} (Z : FX X outer) (m : Hld X outer c e s) (k : ∀ s' a0, Heap.FlyingW X.C.h outer e (.ref c) a0 s'.heap → PinUp X s'.heap → s'.gens = #[] → s'.os = X.C.os → Q () s') : wpAny X.C.M X.A (leaving X.env (.ref e)) Q E s := by
  obtain ⟨⟨a0, hh⟩, hp, hg, ho⟩ := m
  unfold leaving
  refine wpAny_bind (wpAny_noteFrame_againW Z.me hh.2.2.2 (wpAny_landsW hh fun h' hfl up => ?_))
  obtain ⟨k1, k2, ⟨_, _, k3⟩, k4⟩ := hfl
  refine k _ a0 ⟨k1, k2, k3, k4⟩ (fun b o hb hn => ?_) hg ho
  obtain ⟨sl, z⟩ := hp b o hb hn
  exact up b { o with slots := sl } z hn
end

section
variable (G : Gl) (d : Nat) (fi : FI) (cN : Addr)
def ErsG (xs : List Stmt) (ρ : Loc) : Prop := ∀ (X : FC) (E : Value → Shared → Prop) (W : WS) (φ : Nat → List Addr) (s : Shared) (outer : List Env), X.fi = fi → X.cm = true → FS G d X → FX X outer → At X W φ s ρ →
  ∀ Q : Flow → Shared → Prop, (∀ e s', Mde X outer cN e s' → E (.ref e) s') → wpAny X.C.M X.A (execs xs X.env) Q E s
def WhErr (c : Expr) (b : List Stmt) (ρ : Loc) : Prop := ∀ (X : FC) (W : WS) (φ : Nat → List Addr) (s : Shared) (outer : List Env), X.fi = fi → X.cm = true → FS G d X → FX X outer → At X W φ s ρ →
  ∀ R : Result → Shared → Prop, (∀ e s', Hld X outer cN e s' → R (.error (.ref e)) s') → codeAny X.C.M X.A (.whileLoop c b [] X.env) R s
def EhsG (xs : List Stmt) (ρ : Loc) : Prop := ∀ (X : FC) (E : Value → Shared → Prop) (W : WS) (φ : Nat → List Addr) (s : Shared) (outer : List Env), X.fi = fi → X.cm = true → FS G d X → FX X outer → At X W φ s ρ →
  ∀ Q : Flow → Shared → Prop, (∀ e s', Hld X outer cN e s' → E (.ref e) s') → wpAny X.C.M X.A (execs xs X.env) Q E s
def ExsW (xs : List Stmt) (ρ : Loc) : Prop := ∀ (X : FC) (E : Value → Shared → Prop) (W : WS) (φ : Nat → List Addr) (s : Shared) (outer : List Env), X.fi = fi → X.cm = true → FS G d X → FX X outer → At X W φ s ρ →
  ∀ Q : Flow → Shared → Prop, (∀ s', Bas X.C s' → Q (.ret (.bool true)) s') → wpAny X.C.M X.A (execs xs X.env) Q E s
def RCall (a : Addr) (args : List V) : Prop := ∀ (C : Cx) (A : Around) (W : WS) (s : Shared) (vals : List Value) (R : Result → Shared → Prop) (outer : List Env), GOk G C → A.handled = none → A.depth + 2 * d + 9 ≤ recursionLimit → A.units + 20 * d + deep + 90 < cLine →
  (∀ b o, C.h.get? b = some o → s.heap.get? b = some o) → s.gens = #[] → (∀ f, G.fd.lookup a = some f → f.fi.pos = true → 0 < s.toks) → s.os = C.os → (∀ a, W a → ∃ o, s.heap.get? a = some o) → VRs W s.heap args vals → A.frames = some outer → s.heap.FunFrames C.h outer →
  (∀ e s', Fly C outer s.heap cN e s' → R (.error (.ref e)) s') → codeAny C.M A (.call (.ref a) ⟨vals, []⟩) R s
def WCall (a : Addr) (args : List V) : Prop := ∀ (C : Cx) (A : Around) (W : WS) (s : Shared) (vals : List Value) (R : Result → Shared → Prop) (outer : List Env), GOk G C → A.handled = none → A.depth + 2 * d + 9 ≤ recursionLimit → A.units + 20 * d + deep + 90 < cLine →
  (∀ b o, C.h.get? b = some o → s.heap.get? b = some o) → s.gens = #[] → (∀ f, G.fd.lookup a = some f → f.fi.pos = true → 0 < s.toks) → s.os = C.os → (∀ a, W a → ∃ o, s.heap.get? a = some o) → VRs W s.heap args vals → A.frames = some outer → s.heap.FunFrames C.h outer →
  (∀ s', Bas C s' → R (.ok (.ret (.bool true))) s') → codeAny C.M A (.call (.ref a) ⟨vals, []⟩) R s
end
structure SE (G : Gl) (d : Nat) (fi : FI) (cN : Addr) where
  xs : List Stmt
  ex : St → Option (Unit × St)
  eo : Ok ex fun ρ _ _ => ErsG G d fi cN xs ρ
structure SH (G : Gl) (d : Nat) (fi : FI) (cN : Addr) where
  xs : List Stmt
  ex : St → Option (Unit × St)
  eo : Ok ex fun ρ _ _ => EhsG G d fi cN xs ρ
structure SW (G : Gl) (d : Nat) (fi : FI) where
  xs : List Stmt
  ex : St → Option (Unit × St)
  eo : Ok ex fun ρ _ _ => ExsW G d fi xs ρ

section
variable {G : Gl} {d : Nat} {fi : FI} {cN : Addr}
noncomputable def nextO (fl : Fl) (x : Option (Unit × St)) : Option (Unit × St) := Fl.casesOn fl x fun _ => none
noncomputable def xCons (a : SS G d fi) (b : SE G d fi cN) : SE G d fi cN := ⟨a.x :: b.xs, fun σ => bd (a.ex σ) fun fl σ => nextO fl (b.ex σ),
  a.eo.bd (R := fun f ρ _ _ => f = .next ∧ ErsG G d fi cN b.xs ρ) (fun f => by
    cases f with
    | next => exact b.eo.mono fun _ _ _ h => ⟨rfl, h⟩
    | ret o => exact .none fun _ => rfl) fun ρ f ρ₁ _ _ h q X E W φ s outer e c S Z F Q k => by
    obtain ⟨rfl, q⟩ := q
    exact wpAny_execs_cons (h X E W φ s e c S F _ fun f' W' φ' s' A B C => by cases C; exact q X E W' φ' s' outer e c S Z A Q k)⟩
noncomputable def xIf (f : Bool) (c : T G d fi) (a : SE G d fi cN) (b rest : List Stmt) (p : Pos) : SE G d fi cN := ⟨.If c.x a.xs b p :: rest, fun σ => bd (c.tr σ) fun t σ => bd (dec f t σ) fun t σ => Bool.casesOn t none (a.ex σ),
  c.to.bd (R := fun t ρ _ _ => t = true ∧ ErsG G d fi cN a.xs ρ) (fun t => (Ok.dec f t).bd (R := fun t ρ _ _ => t = true ∧ ErsG G d fi cN a.xs ρ) (fun t => by
    cases t
    · exact .none fun _ => rfl
    · exact a.eo.mono fun _ _ _ h => ⟨rfl, h⟩) fun _ t _ _ _ h q => by obtain ⟨rfl, rfl⟩ := h; exact q) fun _ t _ _ _ h q X E W φ s outer e c S Z F Q k => by
    obtain ⟨rfl, q⟩ := q
    exact wpAny_execs_cons (wpAny_If (h X E W φ s e S F _ fun W' φ' s' p' => q X E W' φ' s' outer e c S Z p'.f _ k))⟩
noncomputable def xRaise (x : Str) (m : Str) (k : Nat) (np sp cp p : Pos) (rest : List Stmt) (h : fi.isGlob x = true) (hc : ∀ C, G.mo C → ExOk C x cN) : SE G d fi cN :=
  ⟨.Raise (some (.Call (.Name x np) [.Constant (.str m) k sp] [] cp)) none p :: rest, pu (), .pu fun ρ X E W φ s outer e cm S Z F Q kk => wpAny_execs_cons (by
    obtain ⟨hm, nm, q, N, bs, bm, hdct, sn, sub, ab, col, dd, k0, k1, k2, k3, k5, newId, Bn, inN, bmN, mN, Fn, hBn, hC, hN, hni, T⟩ := hc X.C S.g.mo
    have hkp := F.keep S
    have hpl : backTo cp (starEach [.Constant (.str m) k sp] X.env) = plainArgs [.Constant (.str m) k sp] X.env := by
      rw [starEach_plain (xs := [.Constant (.str m) k sp]) (fun y q => by cases List.mem_singleton.mp q; rfl), backTo_plain]
    refine wpAny_Raise_call_subU (C := cN) (nm := nm) (q := q) (N := N) (bs := bs) (bm := bm) (hdct := hdct) (sn := sn) (sub := sub) (ab := ab) (col := col) (dd := dd) (k0 := k0) (k1 := k1) (k2 := k2) (k3 := k3) (k5 := k5) Fn hBn PySem.F.excBase_ValueError (T.hasType (by decide)) S.hd (by rw [hpl]; rfl) hni (glob_ok S F (e ▸ h) hm ⟨rfl, ?_⟩)
    rw [hpl]
    refine PySem.Calls.evalArgs_plain (PySem.Calls.spliced_cons (PySem.Calls.Constant_str (PySem.Calls.spliced_nil ⟨rfl, ?_, hkp _ _ hC, hN.keeps hkp, T.keeps hkp, fun h' ee hx => ?_⟩)))
    · show 1 ≤ sizeLine; decide
    · exact kk ee _ ⟨⟨s.heap, _, hx, hkp, Z.frames S F, F.f.pin⟩, F.gens, F.os⟩)⟩
noncomputable def turnE (c : T G d fi) (b : SE G d fi cN) (f : Bool) (σ : St) : Option (Unit × St) := bd (c.tr σ) fun t σ => bd (dec f t σ) fun t σ => Bool.casesOn t none (b.ex σ)
theorem turnE_ok (c : T G d fi) (b : SE G d fi cN) (f : Bool) : Ok (turnE c b f) fun ρ _ _ => WhErr G d fi cN c.x b.xs ρ :=
  c.to.bd (R := fun t ρ _ _ => t = true ∧ ErsG G d fi cN b.xs ρ) (fun t => (Ok.dec f t).bd (R := fun t ρ _ _ => t = true ∧ ErsG G d fi cN b.xs ρ) (fun t => by
    cases t
    · exact .none fun _ => rfl
    · exact b.eo.mono fun _ _ _ h => ⟨rfl, h⟩) fun _ t _ _ _ h q => by obtain ⟨rfl, rfl⟩ := h; exact q) fun _ t _ _ _ h q X W φ s outer e cm S Z F R k => by
    obtain ⟨rfl, q⟩ := q
    exact code_while (h X _ W φ s e S F _ fun W' φ' s' p' => q X _ W' φ' s' outer e cm S Z p'.f _ fun ee s2 m => note_made Z m fun s3 hh => k ee s3 hh)
theorem turn_er (c : T G d fi) (b : SL G d fi) (f : Bool) : Ok (turn c b f) fun ρ r ρ' => r = some .next → WhErr G d fi cN c.x b.xs ρ' → WhErr G d fi cN c.x b.xs ρ :=
  c.to.bd (R := fun t ρ r ρ' => r = some .next → t = true ∧ ExsG G d fi b.xs ρ .next ρ') (fun t => (Ok.dec f t).bd (R := fun t ρ r ρ' => r = some .next → t = true ∧ ExsG G d fi b.xs ρ .next ρ') (fun t => by
    cases t
    · exact .pu fun _ q => nomatch q
    · exact b.eo.bd (R := fun g ρ r ρ' => r = some g ∧ ρ = ρ') (fun g => .pu fun _ => ⟨rfl, rfl⟩) fun _ g _ _ _ h q => by obtain ⟨rfl, rfl⟩ := q; intro q; cases q; exact ⟨rfl, h⟩) fun _ t _ _ _ h q => by obtain ⟨rfl, rfl⟩ := h; exact q)
    fun ρ t ρ₁ r ρ' h q hr k X W φ s outer e cm S Z F R kk => by
      obtain ⟨rfl, hb⟩ := q hr
      exact code_while (h X _ W φ s e S F _ fun W' φ' s' p' => hb X _ W' φ' s' e cm S p'.f _ fun f W2 φ2 s2 A2 B2 C2 => by cases C2; exact k X W2 φ2 s2 outer e cm S Z A2 R kk)
section
variable {c : T G d fi} {b : SL G d fi} {ρ ρ' : Loc} {tp : List Tk} {P : Prop}
theorem whe_go (f : Bool) (e : out (turn c b f ⟨ρ, tp, []⟩) = some (some .next, ρ', [])) (o : All (obs (turn c b f ⟨ρ, tp, []⟩)) = P) (p : P) (h : WhErr G d fi cN c.x b.xs ρ') : WhErr G d fi cN c.x b.xs ρ :=
  (turn_er c b f).run e o p rfl h
theorem whe_now (b : SE G d fi cN) (f : Bool) (e : out (turnE c b f ⟨ρ, tp, []⟩) = some ((), ρ', [])) (o : All (obs (turnE c b f ⟨ρ, tp, []⟩)) = P) (p : P) : WhErr G d fi cN c.x b.xs ρ :=
  (turnE_ok c b f).run e o p
end
noncomputable def hCons (a : SS G d fi) (b : SH G d fi cN) : SH G d fi cN := ⟨a.x :: b.xs, fun σ => bd (a.ex σ) fun fl σ => nextO fl (b.ex σ),
  a.eo.bd (R := fun f ρ _ _ => f = .next ∧ EhsG G d fi cN b.xs ρ) (fun f => by
    cases f with
    | next => exact b.eo.mono fun _ _ _ h => ⟨rfl, h⟩
    | ret o => exact .none fun _ => rfl) fun ρ f ρ₁ _ _ h q X E W φ s outer e c S Z F Q k => by
    obtain ⟨rfl, q⟩ := q
    exact wpAny_execs_cons (h X E W φ s e c S F _ fun f' W' φ' s' A B C => by cases C; exact q X E W' φ' s' outer e c S Z A Q k)⟩
noncomputable def hWhil (c : T G d fi) (b : List Stmt) (p : Pos) (rest : List Stmt) : SH G d fi cN := ⟨.While c.x b [] p :: rest, fun σ => some ((), ⟨σ.ρ, σ.tp, WhErr G d fi cN c.x b σ.ρ :: σ.ob⟩), by
  intro σ a σ' e q
  cases e
  exact ⟨q.2, fun X E W φ s outer e cm S Z F Q k => wpAny_execs_cons (wpAny_While (q.1 X W φ s outer e cm S Z F _ fun ee s' m => came_held Z m fun s2 m2 => k ee s2 m2))⟩⟩
theorem FX.of {C : Cx} {A : Around} {env : Env} {f : FI} {s : Shared} {W : WS} {outer : List Env} (hkeep : ∀ b o, C.h.get? b = some o → s.heap.get? b = some o) (h1 : env.frame = some env.locals) (h2 : env.locals = s.heap.objs.size) (hfr : A.frames = some outer) (hl : s.heap.FunFrames C.h outer) :
    FX ⟨C, A.deeper env, env, f, s.heap.get?, W, true⟩ outer :=
  have nw : C.h.get? env.locals = none := by
    cases q : C.h.get? env.locals with
    | none => rfl
    | some o => have := hkeep _ o q; rw [h2, fresh_size] at this; cases this
  ⟨Around.frames_deeper hfr, h1, nw, fun h hp => hl.of_keeps fun b o hb _ => ⟨o, hp b o hb, rfl⟩⟩
theorem rcall_of {a : Addr} {f : FD} {args : List V} {n : Nat} (hf : G.fd.lookup a = some f) (hn : args.length = f.ps.length) (h : EhsG G d f.fi cN f.st (loc0 args n)) : RCall G (d + 1) cN a args := by
  intro C A W s vals R outer g hh hdp hun hkeep hgens htk hos wf r hfr hl k
  refine call_gen (n := n) hf hn g hh hdp hun hkeep hgens (htk f hf) hos wf r fun env s₁ e1 e2 S F => ?_
  have Z : FX ⟨C, A.deeper env, env, f.fi, s.heap.get?, W, true⟩ outer := .of hkeep e1 e2 hfr hl
  refine h ⟨C, A.deeper env, env, f.fi, s.heap.get?, W, true⟩ _ W _ s₁ outer rfl rfl S Z F _ fun e s' m => ?_
  exact leave_held Z m fun s2 a0 x1 x2 x3 x4 => k e s2 ⟨⟨a0, x1⟩, x2, x3, x4⟩
theorem rcall_go {a : Addr} {f : FD} {args : List V} {n : Nat} {tp : List Tk} {ρ' : Loc} {P : Prop} (B : SH G d f.fi cN) (hf : G.fd.lookup a = some f) (hB : B.xs = f.st) (hn : args.length = f.ps.length)
    (e : out (B.ex ⟨loc0 args n, tp, []⟩) = some ((), ρ', [])) (ob : All (obs (B.ex ⟨loc0 args n, tp, []⟩)) = P) (p : P) : RCall G (d + 1) cN a args :=
  rcall_of hf hn (hB ▸ B.eo.run e ob p)

noncomputable def tru (fl : Fl) (σ : St) : Option (Unit × St) := Fl.casesOn fl none fun o => O.casesOn o (fun v => v.bool?.bind fun t => some ((), ⟨σ.ρ, σ.tp, (t = true) :: σ.ob⟩)) (fun _ => none) fun _ => none
theorem At.bas {X : FC} {W : WS} {φ : Nat → List Addr} {s : Shared} {ρ : Loc} (F : At X W φ s ρ) (S : FS G d X) : Bas X.C s := ⟨F.keep S, F.gens, F.os⟩
noncomputable def wOf (b : SL G d fi) : SW G d fi := ⟨b.xs, fun σ => bd (b.ex σ) tru,
  b.eo.bd (R := fun f ρ _ _ => f = .ret (.val (.bool true))) (fun f σ u σ' e q => by
    cases f with
    | next => cases e
    | ret o =>
      cases o with
      | own r => cases e
      | own2 r => cases e
      | val v =>
        obtain ⟨t, e1, e⟩ := Option.bind_eq_some_iff.mp e
        cases e
        obtain ⟨q1, q2⟩ := q
        cases q1
        exact ⟨q2, by rw [V.bool_of e1]⟩) fun ρ f ρ₁ _ _ h q X E W φ s outer e c S Z F Q k => by
    subst q
    exact h X E W φ s e c S F Q fun f' W' φ' s' A B C => by
      obtain ⟨v', rfl, p, r, _⟩ := C
      cases r.2
      exact k _ (A.bas S)⟩
noncomputable def wCons (a : SS G d fi) (b : SW G d fi) : SW G d fi := ⟨a.x :: b.xs, fun σ => bd (a.ex σ) fun fl σ => nextO fl (b.ex σ),
  a.eo.bd (R := fun f ρ _ _ => f = .next ∧ ExsW G d fi b.xs ρ) (fun f => by
    cases f with
    | next => exact b.eo.mono fun _ _ _ h => ⟨rfl, h⟩
    | ret o => exact .none fun _ => rfl) fun ρ f ρ₁ _ _ h q X E W φ s outer e c S Z F Q k => by
    obtain ⟨rfl, q⟩ := q
    exact wpAny_execs_cons (h X E W φ s e c S F _ fun f' W' φ' s' A B C => by cases C; exact q X E W' φ' s' outer e c S Z A Q k)⟩
noncomputable def wIf (f : Bool) (c : T G d fi) (a rest : SW G d fi) (p : Pos) : SW G d fi := ⟨.If c.x a.xs [] p :: rest.xs, fun σ => bd (c.tr σ) fun t σ => bd (dec f t σ) fun t σ => Bool.casesOn t (rest.ex σ) (a.ex σ),
  c.to.bd (R := fun t ρ _ _ => Bool.casesOn (motive := fun _ => Prop) t (ExsW G d fi rest.xs ρ) (ExsW G d fi a.xs ρ)) (fun t => (Ok.dec f t).bd (R := fun t ρ _ _ => Bool.casesOn (motive := fun _ => Prop) t (ExsW G d fi rest.xs ρ) (ExsW G d fi a.xs ρ)) (fun t => by
    cases t
    · exact rest.eo
    · exact a.eo) fun _ t _ _ _ h q => by obtain ⟨rfl, rfl⟩ := h; exact q) fun _ t _ _ _ h q X E W φ s outer e c S Z F Q k => by
    refine wpAny_execs_cons (wpAny_If (h X E W φ s e S F _ fun W' φ' s' p' => ?_))
    cases t
    · exact wpAny_execs_nil (q X E W' φ' s' outer e c S Z p'.f Q k)
    · exact q X E W' φ' s' outer e c S Z p'.f _ fun s2 h2 => k s2 h2⟩
noncomputable def wRet (x : Str) (a : Addr) (r : Rw G d fi) (p' p pr : Pos) (rest : List Stmt) (h : (fi.isGlob x && (G.fn.lookup x == some a) && tkOk G fi.pos a) = true) : SW G d fi := ⟨.Return (some (.Call (.Name x p') r.xs [] p)) pr :: rest, fun σ => bd (r.ev σ) fun vs σ => some ((), ⟨σ.ρ, σ.tp, WCall G d a vs :: σ.ob⟩),
  r.eo.bd (R := fun vs ρ _ _ => WCall G d a vs) (fun vs σ u σ' e q => by cases e; exact ⟨q.2, q.1⟩) fun _ vs _ _ _ hs q X E W φ s outer e c S Z F Q k => by
    rw [Bool.and_eq_true, Bool.and_eq_true, beq_iff_eq] at h
    obtain ⟨g1, g2⟩ := S.g.fn x a h.1.2
    refine wpAny_execs_cons (wpAny_Return_some (PyProof.Rows.Call_ (glob_ok S F (e ▸ h.1.1) g1 ?_)))
    rw [r.back]
    refine callW (K := X.C.K) (fun h hX => PySem.W.keeps_K g2 h hX) (hs.2 X E W φ s e S F _ fun vs' W' φ' s' p' r' => ⟨p'.f.In S, wpAny_call ?_⟩)
    exact q X.C X.A W' s' _ _ _ S.g S.hd (by have := S.dp; omega) (by have := S.un; omega) (p'.f.keep S) p'.f.gens (fun f hf hp => p'.f.tk (e ▸ tkOk_of h.2 hf hp)) p'.f.os p'.f.f.wf r' Z.fr (Z.frames S p'.f) fun s2 h2 => k s2 h2⟩
theorem wcall_of {a : Addr} {f : FD} {args : List V} {n : Nat} (hf : G.fd.lookup a = some f) (hn : args.length = f.ps.length) (h : ExsW G d f.fi f.st (loc0 args n)) : WCall G (d + 1) a args := by
  intro C A W s vals R outer g hh hdp hun hkeep hgens htk hos wf r hfr hl k
  refine call_gen (n := n) hf hn g hh hdp hun hkeep hgens (htk f hf) hos wf r fun env s₁ e1 e2 S F => ?_
  exact h ⟨C, A.deeper env, env, f.fi, s.heap.get?, W, true⟩ _ W _ s₁ outer rfl rfl S (.of hkeep e1 e2 hfr hl) F _ fun s' b => k s' b
theorem wcall_go {a : Addr} {f : FD} {args : List V} {n : Nat} {tp : List Tk} {ρ' : Loc} {P : Prop} (B : SW G d f.fi) (hf : G.fd.lookup a = some f) (hB : B.xs = f.st) (hn : args.length = f.ps.length)
    (e : out (B.ex ⟨loc0 args n, tp, []⟩) = some ((), ρ', [])) (ob : All (obs (B.ex ⟨loc0 args n, tp, []⟩)) = P) (p : P) : WCall G (d + 1) a args :=
  wcall_of hf hn (hB ▸ B.eo.run e ob p)
end
end Mine
end

section
open PySem PySem.W
set_option autoImplicit false
set_option linter.unusedVariables false
namespace Mine
open PySem.W (Frag kitOne keepIn Looks)

section
variable {K : Frag} {prog : Program} {w : World} {A : Around} {E : Value → Shared → Prop} {s : Shared} {Q : Value → Shared → Prop}
theorem ans_true {x D : Addr} {cc : Value} (e : kitOne K (.ref D) cc = some true) : Answers (fun s => K.In s.heap ∧ ∃ o, s.heap.get? x = some o ∧ o.cls = .ref D) (.ref x) cc true := by
  intro dep tk prog w A R s hs
  obtain ⟨h0, g, d, tt, os⟩ := s
  obtain ⟨⟨X, o, hx, hc⟩, hq⟩ := hs
  have LT : Looks (model prog w) h0 (typeOf (.ref x)) (.ref D) := hc ▸ (Looks.ld hx).andThen .now
  unfold kitOne at e
  unfold Builtin.«isinstance.nested»
  refine wpAny_bind (LT.at ?_)
  by_cases q : ((Value.ref D) == cc) = true
  · rw [if_pos q]
    first
      | ((repeat lk); exact hq tt)
      | exact wpAny_bind (wpAny_rule (hq tt))
      | exact wpAny_bind (wpAny_rule (wpAny_pure (hq tt)))
  · rw [if_neg q] at e
    rw [if_neg q]
    obtain ⟨hty, his, hsub⟩ := kit_cls (M := model prog w) X e
    have LI : Looks (model prog w) h0 (isInstance (.ref x) cc) true := LT.andThen hsub
    refine wpAny_bind (hty.at ?_)
    rw [if_pos (by decide)]
    k_delta "plainIsInstance"
    refine wpAny_bind (wpAny_bind (his.at ?_))
    simp only [Bool.not_true, Bool.false_eq_true, if_false]
    refine wpAny_bind (LI.at ?_)
    first
      | exact wpAny_pure (wpAny_pure (hq tt))
      | (simp only [if_true]; first | exact wpAny_pure (wpAny_pure (hq tt)) | exact wpAny_pure (hq tt) | exact wpAny_bind (wpAny_pure (wpAny_pure (hq tt))))
theorem isi_exc {x D : Addr} {o : Obj} {cc : Value} (e : kitOne K (.ref D) cc = some true) (X : K.In s.heap) (hx : s.heap.get? x = some o) (hc : o.cls = .ref D) (h : ∀ tk, Q (.bool true) { s with toks := tk }) :
    wpAny (model prog w) A (call (.builtin "isinstance") [.ref x, cc]) Q E s :=
  call_isinstance (S := fun _ R s => (K.In s.heap ∧ ∃ o, s.heap.get? x = some o ∧ o.cls = .ref D) ∧ ∀ tk, R (.ok (.ret (.bool true))) { s with toks := tk })
    (fun prog w A R s hs => isinstance_outer (ans_true e 0 _ prog w A R s hs) (by intro q; cases q)) ⟨⟨X, o, hx, hc⟩, h⟩
end

structure RefOk (C : Cx) (cN cM : Addr) : Prop where
  ex : ExOk C "NoTree" cN
  mi : C.mg "MillError" = some (.ref cM)
  k1 : kitOne C.K (.ref cN) (.ref cM) = some true
  k2 : kitOne C.K (.ref cN) (.type "ValueError") = some true

section
variable {G : Gl} {d : Nat} {X : FC}
theorem isi_call {A : Around} {E : Value → Shared → Prop} {s : Shared} {Q : Value → Shared → Prop} {m : Str → Option Value} {ee cN : Addr} {oe : Obj} {y : Str} {cc : Value} {p p' p'' p3 : Pos} (S : FS G d X) (hk : ∀ b o, X.C.h.get? b = some o → s.heap.get? b = some o) (hn : s.heap.Ns X.env.locals m) (he : m "e" = some (.ref ee))
    (hke : X.fi.names.lookup ("e" : Str) = some .local) (hb : isBi G X.fi "isinstance" = true) (hy : ∀ (E : Value → Shared → Prop) (Q : Value → Shared → Prop), Q cc s → wpAny X.C.M A (eval (.Name y p'') X.env) Q E s) (hkit : kitOne X.C.K (.ref cN) cc = some true) (hx : s.heap.get? ee = some oe) (hc : oe.cls = .ref cN)
    (h : ∀ tk, Q (.bool true) { s with toks := tk }) : wpAny X.C.M A (eval (.Call (.Name "isinstance" p) [.Name "e" p', .Name y p''] [] p3) X.env) Q E s := by
  simp only [isBi, FI.isGlob, Bool.and_eq_true, beq_iff_eq, bne_iff_ne, ne_eq, List.contains_iff_mem] at hb
  obtain ⟨⟨h1, h2⟩, h3⟩ := hb
  obtain ⟨h4, h5⟩ := S.g.bn "isinstance" h3
  refine PyProof.Rows.Call_ (PySem.Calls.Name_function_global S.fn ((S.kind _).trans h1) (PySem.Calls.loadGlobal_builtin (mg := X.C.mg) (mb := X.C.mb) (by rw [S.gl]; exact S.g.g.keeps hk) h4 (by rw [S.bi]; exact S.g.b.keeps hk) ((S.g.bi _ h5).trans boot_isinstance) ?_) (by simpa using h2))
  rw [starEach_plain (xs := [.Name "e" p', .Name y p'']) (fun z q => by
    rcases List.mem_cons.mp q with rfl | q
    · rfl
    · cases List.mem_singleton.mp q; rfl), backTo_plain]
  exact callW (K := X.C.K) (fun h _ => keeper_builtin _ h _) (PySem.Calls.spliced_cons (wpAny_Name (wpAny_loadName_local S.fn ((S.kind _).trans hke) hn he (PySem.Calls.spliced_cons (hy _ _ (PySem.Calls.spliced_nil ⟨S.g.X.keeps hk, isi_exc hkit (S.g.X.keeps hk) hx hc h⟩))))))

theorem refused_ok {f : FD} {a aN cN cM : Addr} {v : V} {n : Nat} {nf nt : Str} {p1 p2 p3 p4 p5 p6 p7 p8 p9 p10 p11 p12 p13 p14 p15 p16 p17 : Pos} {r : List Stmt} (hf : G.fd.lookup a = some f) (hn : f.ps.length = 1)
    (hst : f.st = .Try [.Expr (.Call (.Name nf p1) [.Name nt p2] [] p3) p4] [.ExceptHandler (some (.Name "NoTree" p5)) (some "e") [.Return (some (.BoolOp .And [.Call (.Name "isinstance" p6) [.Name "e" p7, .Name "MillError" p8] [] p9, .Call (.Name "isinstance" p10) [.Name "e" p11, .Name "ValueError" p12] [] p13] p14)) p15] p16] [] [] p17 :: r)
    (hnf : (f.fi.isGlob nf && (G.fn.lookup nf == some aN)) = true) (hnt : f.fi.isVar nt 0 = true) (hg : (f.fi.isGlob "NoTree" && f.fi.isGlob "MillError" && isBi G f.fi "isinstance" && isBi G f.fi "ValueError" && f.fi.names.lookup ("e" : Str) == some .local) = true)
    (hc : ∀ C, G.mo C → RefOk C cN cM) (h : RCall G d cN aN [v]) (htk : tkOk G f.fi.pos aN = true := by rfl) : WCall G (d + 1) a [v] := by
  refine wcall_of (n := n) hf (by rw [hn]; rfl) ?_
  intro X E W φ s outer e cm S Z F Q k
  rw [Bool.and_eq_true, beq_iff_eq] at hnf
  simp only [Bool.and_eq_true, beq_iff_eq] at hg
  obtain ⟨⟨⟨⟨c1, c2⟩, c3⟩, c4⟩, c5⟩ := hg
  rw [← e] at hnf hnt c1 c2 c3 c4 c5
  obtain ⟨g1, g2⟩ := S.g.fn nf aN hnf.2
  obtain ⟨⟨hmN, nm, q, N, bs, bm, hdct, sn, sub, ab, col, dd, k0, k1, k2, k3, k5, newId, Bn, inN, bmN, mN, Fn, hBn, hC, hN, hni, T⟩, hmM, kit1, kit2⟩ := hc X.C S.g.mo
  have isg : ∀ {x : Str} {p : Pos} {v : Value} {A : Around} {E : Value → Shared → Prop} {Q : Value → Shared → Prop} {s : Shared}, X.fi.isGlob x = true → X.C.mg x = some v → (∀ b o, X.C.h.get? b = some o → s.heap.get? b = some o) → Q v s → wpAny X.C.M A (eval (.Name x p) X.env) Q E s := by
    intro x p v A E Q s hx hv hk h
    simp only [FI.isGlob, Bool.and_eq_true, beq_iff_eq, bne_iff_ne, ne_eq] at hx
    exact PySem.Calls.Name_function_global S.fn ((S.kind x).trans hx.1) (PySem.Calls.loadGlobal_global (mg := X.C.mg) (by rw [S.gl]; exact S.g.g.keeps hk) hv h) (by simpa using hx.2)
  rw [hst]
  refine wpAny_execs_cons (wpAny_Try_except (wpAny_execs_cons (wpAny_Expr_any (PyProof.Rows.Call_ (glob_ok S F hnf.1 g1 ?_)) (by unfold interactive; rw [S.fn]; rfl) rfl)))
  rw [starEach_plain (xs := [.Name nt p2]) (fun z q => by cases List.mem_singleton.mp q; rfl), backTo_plain]
  refine callW (K := X.C.K) (fun h hX => PySem.W.keeps_K g2 h hX) (PySem.Calls.spliced_cons (load_ok S F hnt (o := .val v) rfl fun v' _ _ _ rv => PySem.Calls.spliced_nil ⟨F.In S, wpAny_call ?_⟩))
  refine h X.C X.A W s [v'] _ _ S.g S.hd (by have := S.dp; omega) (by have := S.un; omega) (F.keep S) F.gens (fun f' hf' hp => F.tk (e.symm ▸ tkOk_of htk hf' hp)) F.os F.f.wf (.cons rv.2 rfl) Z.fr (Z.frames S F) fun ee s1 m => ?_
  obtain ⟨⟨a0, fl⟩, up, hgens, hos⟩ := m
  refine wpAny_looks_onW Z.fr Z.me fl fun h4 held4 up4 => wpAny_landsW held4 fun h5 fl5 up5 => ?_
  obtain ⟨o1, es, ep, ho1, hd1, hs1⟩ := F.f.ns
  have hn0 : s.heap.Ns X.env.locals (fun y => nsFind es y) := ⟨o1, es, ep, ho1, hd1, hs1, fun _ => rfl⟩
  have hn5 := ((up.trans up4).trans up5).ns hn0
  have kp5 : ∀ b o, X.C.h.get? b = some o → h5.get? b = some o := fl5.1
  obtain ⟨oe, he, hcls⟩ := fl5.there
  refine wpAny_handleBy_cons (codeAny_handlers_test (isg c1 hmN kp5 (wpAny_excMatches_sub_self (kp5 _ _ hC) he hcls (T.hasType (by decide)) ?_))) (by intro q; cases q)
  refine codeAny_handlers_suite_as (PyProof.Rows.lands_againW fl5 fun h6 fl6 up6 => ?_)
  have hke : X.env.kindOf "e" = some .local := (S.kind _).trans c5
  have hp : (X.env.scope.kind == .class || (X.env.scope.kind == .module && X.env.locals != X.env.globals)) = false := by rw [S.fn]; rfl
  refine wpAny_storeName_local hke (up6.ns hn5) (fun h7 hn7 sb7 => ?_) hp
  obtain ⟨oe6, vs6, he6, hcl6, hda6, _⟩ := fl6.first
  have nl : ∀ b o, X.C.h.get? b = some o → b ≠ X.env.locals := fun b o q z => by rw [z, Z.nw] at q; cases q
  have kp7 : ∀ b o, X.C.h.get? b = some o → h7.get? b = some o := fun b o q => (sb7.2 b (nl b o q)).trans (fl6.1 b o q)
  have hne : ee ≠ X.env.locals := fun z => by
    obtain ⟨o2, es2, ep2, ho2, hd2, _⟩ := up6.ns hn5
    rw [z, ho2] at he6; cases he6; rw [hd2] at hda6; cases hda6
  have he7 : h7.get? ee = some oe6 := (sb7.2 ee hne).trans he6
  refine wpAny_execs_cons (wpAny_Return_some ?_)
  show wpAny _ _ (eval _ X.env >>= fun v => standAt p14 >>= fun _ => holding [v] (truthy v) >>= fun t => _) _ _ _
  refine wpAny_bind (isi_call (ee := ee) (cN := cN) S kp7 hn7 (by simp) c5 c3 (fun E Q q => isg c2 hmM kp7 q) kit1 he7 hcl6 fun tk => wpAny_bind (wpAny_standAt (wpAny_bind (wpAny_holding (wpAny_truthy_bool ?_)))))
  refine isi_call (ee := ee) (cN := cN) S kp7 hn7 (by simp) c5 c3 (fun E Q q => ?_) kit2 he7 hcl6 fun tk2 => ?_
  · simp only [isBi, FI.isGlob, Bool.and_eq_true, beq_iff_eq, bne_iff_ne, ne_eq, List.contains_iff_mem] at c4
    obtain ⟨⟨z1, z2⟩, z3⟩ := c4
    obtain ⟨z4, z5⟩ := S.g.bn "ValueError" z3
    exact PySem.Calls.Name_function_global S.fn ((S.kind _).trans z1) (PySem.Calls.loadGlobal_builtin (mg := X.C.mg) (mb := X.C.mb) (by rw [S.gl]; exact S.g.g.keeps kp7) z4 (by rw [S.bi]; exact S.g.b.keeps kp7) ((S.g.bi _ z5).trans rfl) q) (by simpa using z2)
  · refine wpAny_nameGoes hke hn7 hp fun h9 m9 hn9 sb9 => ?_
    exact k _ ⟨fun b o q => (sb9.2 b (nl b o q)).trans (kp7 b o q), hgens, hos⟩
end
theorem joinW {l : OpenLaw} {q : Program} {loose : List Str} {XP : (Str → Option Value) → Heap → Prop} {K : Params → Frag} {as' : List Addr} {e' : ∀ P, as' = (K P).map (·.1)} {d : DefRec} {kwd : List (Str × Expr)} (G : Gl) (a : Addr) (dep : Nat)
    (hm : l.most = some 63) (hb : l.bound = none) (hname : G.fn.lookup d.name = some a) (hdep : dep ≤ 100) (hpos : tkOk G false a = true := by rfl)
    (chk : ∀ P, GChk G (K P)) (mo : ∀ (P : Params) (C : Cx), C.K = K P → C.w.params = P → C.K.In C.h → (∀ x, C.mg x = nsFind (topOf (K P)) x) → G.mo C)
    (law : ∀ ns : List Int, ns.length ≤ 63 → WCall G dep a [.lst (ns.map .int)]) :
    WalkO q loose XP (kHook K as' e').says l.row.toRowW d kwd fun f vs => PySem.call f vs := by
  intro w s₀ s₁ mg mb G' Y fa o pm cd doc dV kV ho hd hcd hD hmg hg args vals as hpre hlay hrd hwl hlo
  have KX := kIn_of Y
  obtain ⟨ns, rfl, hlen⟩ := law_args hm hb hpre
  cases hwl with | cons hw1 hw2 =>
  cases hw2
  cases hw1 with | @list b vs xs hob hitems =>
  let C : Cx := ⟨K w.params, s₁.heap, s₁.os, l.row.toRowW.prog, w, mg, mb⟩
  have g : GOk G C := GChk.ok (C := C) (chk w.params) KX G'.T.g G'.T.b G'.T.builtins G'.T.nolimit (mo w.params C rfl rfl KX (top_of (K := K w.params) KX G'.T.g (chk w.params).top))
  have hfa : fa = a := by
    have z : some (Value.ref fa) = some (Value.ref a) := hmg.symm.trans (g.fn _ _ hname).1
    cases z; rfl
  subst hfa
  have hz : (ns.map V.int).length ≤ sizeLine := by rw [List.length_map, sizeLine_eq]; omega
  have rv : VRs (fun x => x = b) s₁.heap [.lst (ns.map .int)] [.ref b] := .cons ⟨b, vs.toArray, 0, rfl, rfl, hob, hz, (List.toList_toArray (as := vs)).symm ▸ reads_ints hitems⟩ rfl
  refine wpAny_call (law ns hlen C callerA _ s₁ [.ref b] _ [] g rfl (by show 1 + 300 + 2 * dep + 9 ≤ 1000; omega) (by show 4 + 20 * dep + 2000 + 90 < 9900; omega) (fun _ _ e => e) hg (fun f hf hp => nomatch tkOk_of hpos hf hp) rfl (fun x q => ⟨_, q ▸ hob⟩) rv rfl trivial fun s' bs => ?_)
  refine GoodW.toG ⟨.inl ⟨.bool true, .bool true, [], rfl, ?_, .bool true, ?_, ?_⟩, bs.1, bs.2.2, bs.2.1⟩
  · intro cls; rfl
  · show (WShape.has [] (.bool true) .bool && WTm.holds [] (.eq .res (.lit (.bool true))) { args := _, res := some (.bool true), after := _ }) = true
    simp [WShape.has, WShape.arms, WTm.holds, WTm.value, same]
  · intro _; exact ⟨List.nodup_nil, fun a ha => by cases ha⟩
end Mine
end

section
open PySem PySem.W
set_option autoImplicit false
set_option linter.unusedVariables false
namespace Mine

noncomputable def intAt (K : Frag) (x : Str) (i : Int) : Bool := match nsFind (topOf K) x with
  | some (.int j _) => j == i
  | _ => false
noncomputable def strAt (K : Frag) (x : Str) (z : List Nat) : Bool := match nsFind (topOf K) x with
  | some (.str y _) => y == ⟨z.toArray⟩
  | _ => false
noncomputable def strsM : List Value → List (List Nat) → Bool
  | [], [] => true
  | .str x _ :: vs, z :: zs => (x == ⟨z.toArray⟩) && (PyData.strOk ⟨z.toArray⟩ && Nat.ble z.length 1000) && strsM vs zs
  | _, _ => false
noncomputable def tupAt (K : Frag) (a : Addr) (zs : List (List Nat)) : Bool := match K.lookup a with
  | some ⟨c, dd, .seq vs n, sl⟩ => c == .type "tuple" && dd.isNone && sl.size == 0 && strsM vs.toList zs && Nat.ble zs.length 1000
  | _ => false
noncomputable def entM : List DictEntry → List (List Nat × Int) → Bool
  | [], [] => true
  | ⟨_, .str x _, .int j _⟩ :: es, kv :: kvs => (x == ⟨kv.1.toArray⟩) && (j == kv.2) && entM es kvs
  | _, _ => false
noncomputable def dicAt (K : Frag) (a : Addr) (kvs : List (List Nat × Int)) : Bool := match K.lookup a with
  | some ⟨c, dd, .dict es ep, sl⟩ => c == .type "dict" && dd.isNone && sl.size == 0 && entM es.toList kvs
  | _ => false
noncomputable def hashesAt (K : Frag) (a : Addr) : List Int := match K.lookup a with
  | some ⟨_, _, .dict es _, _⟩ => es.toList.map (·.hash)
  | _ => []
noncomputable def nsOk (K : Frag) (a : Addr) : Bool := match K.lookup a with
  | some o => (match o.data with
    | .dict es _ => (es.toList.all fun e => match e.key with
      | .str _ _ => true
      | _ => false) && nsFind es "__init__" == none
    | _ => false)
  | none => false
noncomputable def clsAt (K : Frag) (c : Addr) (bm : List Value) (newId : String) : Bool := match K.lookup c with
  | some ⟨cl, dd, .cls cd, sl⟩ => cl == .type "type" && cd.mro == .ref c :: bm && !cd.hasDel && nsOk K cd.ns && sl.size == 6 && sl[4]? == some (some (.builtin newId))
  | _ => false

section
variable {K : Frag} {C : Cx} (X : K.In C.h) (hm : ∀ x, C.mg x = nsFind (topOf K) x)
include hm
theorem gval_int {x : Str} {i : Int} (h : intAt K x i = true) : GVal C x (.int i) := by
  unfold intAt at h
  split at h
  · rename_i j t e; rw [beq_iff_eq] at h; subst h; exact ⟨_, (hm x).trans e, t, rfl⟩
  · cases h
theorem gval_str {x : Str} {z : List Nat} (h : strAt K x z = true) (hk : (PyData.strOk ⟨z.toArray⟩ && Nat.ble z.length 1000) = true) : GVal C x (.str z) := by
  rw [Bool.and_eq_true] at hk
  have hl := Nat.le_of_ble_eq_true hk.2
  unfold strAt at h
  split at h
  · rename_i j t e; rw [beq_iff_eq] at h; subst h; exact ⟨_, (hm x).trans e, t, rfl, hk.1, by rw [sizeLine_eq]; omega⟩
  · cases h
omit hm
theorem strsM_ok {W : WS} {h : Heap} : ∀ {vs : List Value} {zs : List (List Nat)}, strsM vs zs = true → VRs W h (zs.map .str) vs
  | [], [], _ => rfl
  | [], _ :: _, e => nomatch e
  | v :: vs, [], e => by cases v <;> cases e
  | v :: vs, z :: zs, e => by
    unfold strsM at e
    split at e
    · rename_i h1 h2; cases h1
    · rename_i x t vs' z' zs' h1 h2
      cases h1; cases h2
      simp only [Bool.and_eq_true, beq_iff_eq] at e
      obtain ⟨⟨rfl, e2, e3⟩, e4⟩ := e
      have hl := Nat.le_of_ble_eq_true e3
      exact .cons ⟨t, rfl, e2, by rw [sizeLine_eq]; omega⟩ (strsM_ok e4)
    · cases e
include X hm
theorem gval_tup {x : Str} {a : Addr} {zs : List (List Nat)} (h1 : nsFind (topOf K) x = some (.ref a)) (h : tupAt K a zs = true) : GVal C x (.tup (zs.map .str)) := by
  unfold tupAt at h
  split at h
  · rename_i c dd vs n sl e
    simp only [Bool.and_eq_true, beq_iff_eq, Option.isNone_iff_eq_none] at h
    obtain ⟨⟨⟨⟨rfl, rfl⟩, h3⟩, h4⟩, h5⟩ := h
    have hsl : sl = #[] := Array.eq_empty_of_size_eq_zero h3
    subst hsl
    have hl := Nat.le_of_ble_eq_true h5
    exact ⟨_, (hm x).trans h1, a, vs, n, rfl, ⟨_, X _ _ e⟩, X _ _ e, by rw [List.length_map, sizeLine_eq]; omega, strsM_ok h4⟩
  · cases h
omit X hm
theorem entM_ok (prog : Program) (w : World) : ∀ {es : List DictEntry} {kvs : List (List Nat × Int)}, entM es kvs = true → es.map (·.hash) = kvs.map (fun kv => PyData.keyHash w.params ⟨kv.1.toArray⟩) →
    ∃ kws : List (Str × Value), Pairs (strKind prog w) es kws ∧ kws.map (·.1) = kvs.map (fun kv => (⟨kv.1.toArray⟩ : Str)) ∧ (∀ e ∈ es, ∃ k, (strKind prog w).is k e.key = true ∧ e.hash = (strKind prog w).hash k) ∧ ∀ z i, kvs.lookup z = some i → ∃ t, valueAt kws ⟨z.toArray⟩ = some (.int i t)
  | [], [], _, _ => ⟨[], .nil, rfl, fun _ q => (nomatch q), fun _ _ q => (nomatch q)⟩
  | [], _ :: _, e, _ => nomatch e
  | ⟨_, k, v⟩ :: es, [], e, _ => by cases k <;> cases v <;> cases e
  | e0 :: es, kv :: kvs, e, hh => by
    unfold entM at e
    split at e
    · rename_i h1 h2; cases h1
    · rename_i hs x t j t' es' kv' kvs' h1 h2
      cases h1; cases h2
      simp only [Bool.and_eq_true, beq_iff_eq] at e
      obtain ⟨⟨rfl, rfl⟩, e3⟩ := e
      rw [List.map_cons, List.map_cons, List.cons.injEq] at hh
      obtain ⟨kws, p1, p2, p3, p4⟩ := entM_ok prog w e3 hh.2
      have his : (strKind prog w).is ⟨kv.1.toArray⟩ (.str ⟨kv.1.toArray⟩ t) = true := by simp [strKind, Value.isStrOf]
      refine ⟨(⟨kv.1.toArray⟩, .int kv.2 t') :: kws, .cons his rfl p1, by rw [List.map_cons, List.map_cons, p2], fun e' q => ?_, fun z i q => ?_⟩
      · rcases List.mem_cons.mp q with rfl | q
        · exact ⟨_, his, hh.1⟩
        · exact p3 e' q
      · rw [List.lookup_cons] at q
        by_cases hz : z = kv.1
        · subst hz
          rw [beq_self_eq_true] at q
          cases q
          exact ⟨t', by simp [valueAt]⟩
        · have hz' : (z == kv.1) = false := by simpa using hz
          rw [hz'] at q
          obtain ⟨t2, q2⟩ := p4 z i q
          refine ⟨t2, ?_⟩
          rw [← q2]
          unfold valueAt
          have : ¬ (⟨kv.1.toArray⟩ : Str) = ⟨z.toArray⟩ := fun q => hz (by simpa using q.symm)
          rw [List.find?_cons_of_neg (by simpa using this)]
    · cases e
include X hm
theorem gdic_ok {x : Str} {a : Addr} {kvs : List (List Nat × Int)} (h1 : nsFind (topOf K) x = some (.ref a)) (h : dicAt K a kvs = true) (hh : hashesAt K a = kvs.map (fun kv => PyData.keyHash C.w.params ⟨kv.1.toArray⟩)) (hn : (kvs.map (fun kv => (⟨kv.1.toArray⟩ : Str))).Nodup) : GDic C x kvs := by
  unfold dicAt at h
  split at h
  · rename_i c dd es ep sl e
    simp only [Bool.and_eq_true, beq_iff_eq, Option.isNone_iff_eq_none] at h
    obtain ⟨⟨⟨rfl, rfl⟩, h3⟩, h4⟩ := h
    unfold hashesAt at hh
    rw [e] at hh
    obtain ⟨kws, p1, p2, p3, p4⟩ := entM_ok C.prog C.w h4 hh
    refine ⟨a, kws, (hm x).trans h1, ⟨_, es, ep, X _ _ e, ⟨rfl, rfl, Array.eq_empty_of_size_eq_zero h3⟩, rfl, fun e' q => p3 e' (by simpa using q), p1, by rw [p2]; exact hn⟩, p4⟩
  · cases h
omit hm
theorem ns_ok {a : Addr} (h : nsOk K a = true) : ∃ m, C.h.Ns a m ∧ m "__init__" = none := by
  unfold nsOk at h
  split at h
  · rename_i o e
    split at h
    · rename_i es ep hd
      rw [Bool.and_eq_true, beq_iff_eq] at h
      refine ⟨fun x => nsFind es x, ⟨o, es, ep, X _ _ e, hd, fun e' q => ?_, fun _ => rfl⟩, h.2⟩
      have := List.all_eq_true.mp h.1 e' (by simpa using q)
      split at this
      · rename_i n t q; exact ⟨n, t, q⟩
      · cases this
    · cases h
  · cases h
include hm
theorem ex_ok {x : Str} {c c2 : Addr} (h1 : nsFind (topOf K) x = some (.ref c)) (h : clsAt K c (.ref c2 :: mroV) "ValueError.__new__" = true) (h2 : clsAt K c2 mroV "ValueError.__new__" = true) : ExOk C x c := by
  refine ⟨(hm x).trans h1, ?_⟩
  unfold clsAt at h
  split at h
  · rename_i cl dd cd sl e
    simp only [Bool.and_eq_true, beq_iff_eq, Bool.not_eq_true'] at h
    obtain ⟨⟨⟨⟨⟨rfl, hmro⟩, hdel⟩, hns⟩, hsz⟩, hnew⟩ := h
    unfold clsAt at h2
    split at h2
    · rename_i cl2 dd2 cd2 sl2 e2
      simp only [Bool.and_eq_true, beq_iff_eq, Bool.not_eq_true'] at h2
      obtain ⟨⟨⟨⟨⟨rfl, hmro2⟩, hdel2⟩, hns2⟩, hsz2⟩, hnew2⟩ := h2
      obtain ⟨m, n1, n2⟩ := ns_ok X hns
      obtain ⟨m2, n3, n4⟩ := ns_ok X hns2
      obtain ⟨l⟩ := sl
      match l, hsz, hnew with
      | [k0, k1, k2, k3, k4, k5], _, hnew =>
        have hk4 : k4 = some (.builtin "ValueError.__new__") := by simpa using hnew
        subst hk4
        obtain ⟨nm, bs, mro, N, q, hdct, sn, sub, ab, col, hdel'⟩ := cd
        dsimp only at hmro hdel n1 hns
        subst hmro hdel
        exact ⟨nm, q, N, bs, _, hdct, sn, sub, ab, col, dd, k0, k1, k2, k3, k5, "ValueError.__new__", "ValueError", _, _, m, PySem.F.excBase_ValueError, by decide, X _ _ e, n1, n2, .own (X _ _ e2) n3 n4 .base⟩
    · cases h2
  · cases h
end
end Mine
end

section
open PySem
set_option autoImplicit false
set_option linter.unusedVariables false
namespace Mine
open PySem.W (Looks keepIn)
section
variable {X : FC} {W : WS} {φ : Nat → List Addr} {s : Shared} {ρ : Loc}
theorem At.put {x : Str} {i : Nat} {o : O} {v' : Value} {p : List Addr} (F : At X W (upd φ i []) s (ρ.set i none)) (ti : ∀ y, X.fi.tbl.lookup y = some i → y = x) (hv : Val X.env s.heap x v') (r : OR W s.heap p o v') (hp : ∀ a, a ∈ p → Fre X W (upd φ i []) a) :
    At X W (upd φ i p) s (ρ.set i (some o)) := by
  have case : ∀ j b, b ∈ upd φ i p j → (j = i ∧ b ∈ p) ∨ (j ≠ i ∧ b ∈ upd φ i [] j) := fun j b q => by
    by_cases ej : j = i
    · rw [ej, upd_same] at q; exact .inl ⟨ej, q⟩
    · rw [upd_ne _ _ ej] at q; exact .inr ⟨ej, by rw [upd_ne _ _ ej]; exact q⟩
  refine ⟨F.gens, F.os, { F.f with mu := fun b q => ?_, dis := fun j k b q q' => ?_ }, fun y j hy o' w hk => ?_, fun j b q => (case j b q).elim (fun z => r.isList b z.2) fun z => F.ow j b z.2, F.tk⟩
  · rcases q with q | q | ⟨j, q⟩
    · exact F.f.mu b (.inl q)
    · exact F.f.mu b (.inr (.inl q))
    · rcases case j b q with ⟨_, q⟩ | ⟨_, q⟩
      · exact ⟨(hp b q).pin, (hp b q).w⟩
      · exact F.f.mu b (.inr (.inr ⟨j, q⟩))
  · rcases case j b q with ⟨e, q⟩ | ⟨e, q⟩ <;> rcases case k b q' with ⟨e', q'⟩ | ⟨e', q'⟩
    · exact e.trans e'.symm
    · exact absurd (.inr (.inr ⟨k, q'⟩)) (hp b q).mu
    · exact absurd (.inr (.inr ⟨j, q⟩)) (hp b q').mu
    · exact F.f.dis j k b q q'
  · rcases set_get w with ⟨rfl, rfl⟩ | ⟨q, w⟩
    · cases ti y hy; exact ⟨v', hv, by rw [upd_same]; exact r⟩
    · obtain ⟨w', a, b⟩ := F.lr y j hy o' (by rwa [List.getElem?_set_ne (Ne.symm q)]) hk
      exact ⟨w', a, by rw [upd_ne _ _ q] at b ⊢; exact b⟩
theorem At.turn2 (F : At X W φ s ρ) {x : Str} {i : Nat} {h' : Heap} {t : Nat} (ti : ∀ y, X.fi.tbl.lookup y = some i → y = x) (hk : ∀ b o, b ∉ φ i → s.heap.get? b = some o → h'.get? b = some o) (ht : s.toks ≤ t := by first | exact Nat.le_refl _ | assumption | exact Nat.le_succ _ | omega | (dsimp only; omega) | (dsimp only at *; omega)) :
    Ag W s.heap W h' ∧ (∀ y v, Val X.env s.heap y v → Val X.env h' y v) ∧ ∀ {p : List Addr} {o : O} {v' : Value}, Val X.env s.heap x v' → OR W h' p o v' → (∀ b, b ∈ p → b ∈ φ i ∨ s.heap.get? b = none) → At X W (upd φ i p) { s with heap := h', toks := t } (ρ.set i (some o)) := by
  obtain ⟨F1, hf⟩ := F.free i
  have fr : ∀ b, b ∈ φ i → Fre X W (upd φ i []) b := fun b q => ⟨(hf b q).1, (hf b q).2.1, (hf b q).2.2.1, (hf b q).2.2.2⟩
  obtain ⟨F2, ag, val⟩ := F1.move (D := (· ∈ φ i)) (h' := h') (W' := W) (t := t) fr (fun b o q e => hk b o q e) (fun _ q => q) (fun b q => by obtain ⟨o, e⟩ := F1.f.wf b q; exact ⟨o, hk b o (fun z => (hf b z).2.1 q) e⟩) (fun _ _ _ _ q => q) ht
  refine ⟨ag, val, fun hv r hp => F2.put ti (val _ _ hv) r fun a q => ?_⟩
  rcases hp a q with z | z
  · exact fr a z
  · exact .of F1 z
end
noncomputable def own2At (ρ : Loc) (i : Nat) : Option (List (List V)) := (slot ρ i).bind fun o => O.casesOn o (fun _ => none) (fun _ => none) some
theorem own2At_some {ρ : Loc} {i : Nat} {r : List (List V)} (e : own2At ρ i = some r) : ρ[i]? = some (some (.own2 r)) := by
  obtain ⟨o, e1, e⟩ := Option.bind_eq_some_iff.mp e
  cases o with
  | val v => cases e
  | own r' => cases e
  | own2 r' => cases e; exact slot_some e1
section
variable {G : Gl} {d : Nat} {fi : FI}
noncomputable def eNew2 (ip p : Pos) : T G d fi := .mk' (.List [.List [] ip] p) (pu (.own2 [[]])) rfl (.pu fun ρ X E W φ s e S F Q k => by
  refine wpAny_List ?_
  rw [starEach_plain (xs := [.List [] ip]) (fun y q => by cases List.mem_singleton.mp q; rfl), backTo_plain]
  refine PySem.Calls.spliced_cons (wpAny_List (wpAny_pure ⟨Nat.zero_le _, PySem.Calls.spliced_nil ⟨by show 1 ≤ sizeLine; decide, ?_⟩⟩))
  have K := Aft.of (.refl F) k
  have hk : ∀ a o, s.heap.get? a = some o → ((s.heap.push (lstO ([] : List Value).toArray 0)).push (lstO [Value.ref s.heap.objs.size].toArray 0)).get? a = some o := fun _ _ q => Heap.get?_push_of_some _ (Heap.get?_push_of_some _ q)
  have wf := F.f.wf
  have nW : ∀ b, s.heap.get? b = none → ¬ W b := fun b e q => by obtain ⟨o, z⟩ := wf b q; rw [e] at z; cases z
  refine K _ W _ (Gs.of (t := s.toks) wf hk) ⟨_, [s.heap.objs.size], rfl, fun b q => ?_, _, 0, Heap.get?_push_size _ rfl, rfl, by show 1 ≤ sizeLine; decide, ⟨rfl, fun j a x ha hx => ?_⟩, ?_⟩
  · have : s.heap.get? b = none := by
      rcases List.mem_cons.mp q with rfl | q
      · exact none_of_le (by rw [Heap.size_push]; exact Nat.le_succ _)
      · cases List.mem_singleton.mp q; exact fresh_size _
    exact ⟨this, nW b this⟩
  · cases j with
    | zero => cases ha; cases hx; exact ⟨_, 0, Heap.get?_push_of_some _ (Heap.get?_push_size _ rfl), rfl, Nat.zero_le _⟩
    | succ j => cases ha
  · refine List.nodup_cons.mpr ⟨fun q => ?_, List.nodup_cons.mpr ⟨List.not_mem_nil, List.nodup_nil⟩⟩
    have := List.mem_singleton.mp q
    rw [Heap.size_push] at this
    exact absurd this (Nat.succ_ne_self _)) fun _ => rfl
theorem Own2At.size {W : WS} {h : Heap} {a : Addr} {as : List Addr} {r : List (List V)} {vs : Array Value} (h2 : vs.toList = (as.map Value.ref).reverse) (h4 : OwnL W h as r) : vs.size = r.length := by rw [← Array.length_toList, h2, List.length_reverse, List.length_map, h4.1]
noncomputable def sPush2 (x : Str) (i : Nat) (xp ap ip cp p : Pos) (h : (fi.isVar x i && (ap.endLine == cp.line)) = true) : SS G d fi :=
  ⟨.Expr (.Call (.Attribute (.Name x xp) "append" ap) [.List [] ip] [] cp) p, fun σ => (own2At σ.ρ i).bind fun r => some (.next, ⟨σ.ρ.set i (some (.own2 ([] :: r))), σ.tp, (r.length < room) :: σ.ob⟩), by
    intro σ f σ' e q
    obtain ⟨r, e2, e⟩ := Option.bind_eq_some_iff.mp e
    rw [Bool.and_eq_true] at h
    cases e
    refine ⟨q.2, fun X E W φ s ef c S F Q k => wpAny_Expr_any (method_call rfl (fun z q => by cases List.mem_singleton.mp q; rfl) h.2 rfl fun pl => load_ok S F (ef ▸ h.1) (own2At_some e2) fun x' hx hn hv rr => ?_) (by unfold interactive; rw [S.fn]; rfl) rfl⟩
    obtain ⟨a, as, hp, rfl, vs, n, h1, h2, h3, h4, h5⟩ := rr
    refine getMethod_builtin (T := "list") ⟨_, h1, rfl⟩ PySem.F.plainAttrs_list PySem.F.slot_list_append PySem.F.type_list_append (fun a q => by cases q; exact ⟨_, h1, rfl⟩) ?_
    have hs := Own2At.size (a := a) h2 h4
    have q1 : r.length < room := q.1
    have hrl := room_le
    have hin : X.C.K.In (s.heap.push (lstO ([] : List Value).toArray 0)) := (F.In S).keeps fun _ _ q => Heap.get?_push_of_some _ q
    refine callW (K := X.C.K) (fun h _ => keeper_builtin _ h _) (PySem.Calls.spliced_cons (wpAny_List (wpAny_pure ⟨Nat.zero_le _, PySem.Calls.spliced_nil ⟨hin, ?_⟩⟩)))
    have g1 : (s.heap.push (lstO ([] : List Value).toArray 0)).get? a = some (lstO vs n) := Heap.get?_push_of_some _ h1
    refine call_meets (s := { s with heap := s.heap.push (lstO ([] : List Value).toArray 0) }) PySem.F.slot_list_append ⟨_, g1, rfl⟩ PySem.F.entry_list_append (PySem.F.args_list_append_2 _ _) (list_append a vs n _ (by rw [hs]; exact h3)) ⟨g1, ?_⟩
    have hb : s.heap.get? s.heap.objs.size = none := fresh_size _
    have hab : a ≠ s.heap.objs.size := fun z => by rw [← z, h1] at hb; cases hb
    have sb : Heap.SameBut a (s.heap.push (lstO ([] : List Value).toArray 0)) ((s.heap.push (lstO ([] : List Value).toArray 0)).update a (Obj.mapSeq (·.push (.ref s.heap.objs.size)))) := Heap.SameBut.update ..
    obtain ⟨B, val, A⟩ := F.turn2 (x := x) (i := i) (t := s.toks) (h' := (s.heap.push (lstO ([] : List Value).toArray 0)).update a (Obj.mapSeq (·.push (.ref s.heap.objs.size)))) (fun z hz => S.ti z x i hz hx) (fun b o hb' e => (sb.2 b (fun z => hb' (by rw [hp, z]; exact List.mem_cons_self))).trans (Heap.get?_push_of_some _ e))
    refine k _ _ _ _ (A (p := a :: s.heap.objs.size :: as) (o := .own2 ([] :: r)) hv ⟨a, s.heap.objs.size :: as, rfl, rfl, _, _, Heap.get?_update_self _ g1 rfl, ?_, by rw [List.length_cons]; omega, ⟨by rw [List.length_cons, List.length_cons, h4.1], fun j b y hb' hy => ?_⟩, ?_⟩ fun b q => ?_) B rfl
    · show (vs.push (.ref s.heap.objs.size)).toList = _
      rw [Array.toList_push, h2, List.map_cons, List.reverse_cons]
    · cases j with
      | zero => cases hb'; cases hy; exact ⟨_, 0, (sb.2 _ (Ne.symm hab)).trans (Heap.get?_push_size _ rfl), rfl, Nat.zero_le _⟩
      | succ j =>
        have hb' : as[j]? = some b := hb'
        obtain ⟨ws, m, y1, y2, y3⟩ := h4.2 j b y hb' hy
        have hba : b ≠ a := fun z => (List.nodup_cons.mp h5).1 (z ▸ List.mem_of_getElem? hb')
        exact ⟨ws, m, (sb.2 b hba).trans (Heap.get?_push_of_some _ y1), y2.ag B, y3⟩
    · obtain ⟨n1, n2⟩ := List.nodup_cons.mp h5
      refine List.nodup_cons.mpr ⟨fun q => ?_, List.nodup_cons.mpr ⟨fun q => ?_, n2⟩⟩
      · rcases List.mem_cons.mp q with q | q
        · exact hab q
        · exact n1 q
      · have : s.heap.objs.size ∈ φ i := by rw [hp]; exact List.mem_cons_of_mem _ q
        obtain ⟨_, _, z⟩ := F.ow i _ this
        rw [hb] at z; cases z
    · rcases List.mem_cons.mp q with rfl | q
      · exact .inl (by rw [hp]; exact List.mem_cons_self)
      · rcases List.mem_cons.mp q with rfl | q
        · exact .inr hb
        · exact .inl (by rw [hp]; exact List.mem_cons_of_mem _ q)⟩
noncomputable def sApp2 (x : Str) (i : Nat) (y : Str) (j : Nat) (kk : Nat) (xp p1 p2 sp ap yp cp p : Pos) (h : (fi.isVar x i && fi.isVar y j && (ap.endLine == cp.line)) = true) : SS G d fi :=
  ⟨.Expr (.Call (.Attribute (.Subscript (.Name x xp) (.UnaryOp .USub (.Constant (.int 1) kk p1) p2) sp) "append" ap) [.Name y yp] [] cp) p, fun σ => (own2At σ.ρ i).bind fun r => List.casesOn r none fun r0 r => (slot σ.ρ j).bind fun o => o.val?.bind fun v => some (.next, ⟨σ.ρ.set i (some (.own2 ((v :: r0) :: r))), σ.tp, (r0.length < room) :: σ.ob⟩), by
    intro σ f σ' e q
    obtain ⟨r, e2, e⟩ := Option.bind_eq_some_iff.mp e
    rw [Bool.and_eq_true, Bool.and_eq_true] at h
    cases r with
    | nil => cases e
    | cons r0 r =>
    obtain ⟨o, e3, e⟩ := Option.bind_eq_some_iff.mp e
    obtain ⟨v, e4, e⟩ := Option.bind_eq_some_iff.mp e
    cases e
    cases O.val_of e4
    obtain ⟨_, hi⟩ := (eNeg (eInt 1 kk p1) p2 : T G d fi).eo ⟨σ.ρ, [], []⟩ (.val (.int (-1))) ⟨σ.ρ, [], []⟩ rfl trivial
    refine ⟨q.2, fun X E W φ s ef c S F Q k => wpAny_Expr_any (method_call rfl (fun z q => by cases List.mem_singleton.mp q; rfl) h.2 rfl fun pl => PyProof.Rows.Subscript_ (load_ok S F (ef ▸ h.1.1) (own2At_some e2) fun x' hx hn hv rr => hi.v X E W φ s ef S F _ fun i' W₁ φ₁ s₁ p₁ ri => ?_)) (by unfold interactive; rw [S.fn]; rfl) rfl⟩
    obtain ⟨ti, rfl⟩ := ri
    obtain ⟨a0, as0, _, rfl, _⟩ := rr
    have hv1 := p₁.vl _ _ hv
    obtain ⟨a, as, hp, ea, vs, n, h1, h2, h3, h4, h5⟩ := still p₁.f hx hn hv1 (own2At_some e2)
    cases ea
    have hs := Own2At.size (a := a0) h2 h4
    cases as with
    | nil => cases h4.1
    | cons b as =>
    obtain ⟨ws, m, y1, y2, y3⟩ := h4.2 0 b r0 rfl rfl
    have hsl := sizeLine_lt
    have hlast : vs[((-1 : Int) + vs.size).toNat]? = some (.ref b) := by
      have e5 : ((-1 : Int) + vs.size).toNat = (as.map Value.ref).reverse.length := by
        have := h4.1
        rw [List.length_reverse, List.length_map, hs]; simp at this ⊢; omega
      rw [e5, ← Array.getElem?_toList, h2, List.map_cons, List.reverse_cons, List.getElem?_concat_length]
    have hlen : (r0 :: r).length = r.length + 1 := rfl
    refine PyProof.Rows.tail_any (T := "list") ⟨_, h1, rfl⟩ PySem.F.slot_list_getitem.lookup (wpAny_getItem_list_neg ⟨_, h1, rfl, _, rfl⟩ (by decide) (by rw [hs]; omega) (by decide) hlast ?_) (slice_plain rfl _ _)
    refine getMethod_builtin (T := "list") ⟨_, y1, rfl⟩ PySem.F.plainAttrs_list PySem.F.slot_list_append PySem.F.type_list_append (fun a q => by cases q; exact ⟨_, y1, rfl⟩) ?_
    refine callW (K := X.C.K) (fun h _ => keeper_builtin _ h _) (PySem.Calls.spliced_cons (load_ok S p₁.f (ef ▸ h.1.2) (slot_some e3) fun w hw1 hw2 hw3 rw_ => PySem.Calls.spliced_nil ⟨p₁.f.In S, ?_⟩))
    have q1 : r0.length < room := q.1
    have hrl := room_le
    have hws := y2.size
    rw [List.length_reverse] at hws
    refine call_meets PySem.F.slot_list_append ⟨_, y1, rfl⟩ PySem.F.entry_list_append (PySem.F.args_list_append_2 _ _) (list_append b ws m _ (by rw [hws]; exact y3)) ⟨y1, ?_⟩
    have hab : a0 ≠ b := fun z => (List.nodup_cons.mp h5).1 (z ▸ List.mem_cons_self)
    have sb : Heap.SameBut b s₁.heap (s₁.heap.update b (Obj.mapSeq (·.push w))) := Heap.SameBut.update ..
    obtain ⟨B, val, A⟩ := p₁.f.turn2 (x := x) (i := i) (t := s₁.toks) (h' := s₁.heap.update b (Obj.mapSeq (·.push w))) (fun z hz => S.ti z x i hz hx) (fun c o hc e => (sb.2 c (fun z => hc (by rw [hp, z]; exact List.mem_cons_of_mem _ List.mem_cons_self))).trans e)
    refine k _ _ _ _ (A (p := a0 :: b :: as) (o := .own2 ((v :: r0) :: r)) hv1 ⟨a0, b :: as, rfl, rfl, vs, n, (sb.2 _ hab).trans h1, h2, h3, ⟨h4.1, fun j c y hc hy => ?_⟩, h5⟩ fun c q => .inl (by rw [hp]; exact q)) (p₁.ag.trans B) rfl
    cases j with
    | zero =>
      cases hc; cases hy
      refine ⟨_, _, Heap.get?_update_self _ y1 rfl, ?_, by rw [List.length_cons]; omega⟩
      show VRs _ _ _ (ws.push w).toList
      rw [Array.toList_push, List.reverse_cons]
      exact (y2.ag B).snoc (rw_.2.ag B)
    | succ j =>
      have hc' : as[j]? = some c := hc
      obtain ⟨us, m', x1, x2, x3⟩ := h4.2 (j + 1) c y hc hy
      have hcb : c ≠ b := fun z => (List.nodup_cons.mp (List.nodup_cons.mp h5).2).1 (z ▸ List.mem_of_getElem? hc')
      exact ⟨us, m', (sb.2 c hcb).trans x1, x2.ag B, x3⟩⟩
noncomputable def ePop2 (x : Str) (i : Nat) (xp ap p : Pos) (h : (fi.isVar x i && (ap.endLine == p.line)) = true) : T G d fi :=
  .mk' (.Call (.Attribute (.Name x xp) "pop" ap) [] [] p) (fun σ => (own2At σ.ρ i).bind fun r => List.casesOn r none fun r0 r => some (.own r0, ⟨σ.ρ.set i (some (.own2 r)), σ.tp, σ.ob⟩)) rfl (by
    intro σ o σ' e q
    obtain ⟨r, e2, e⟩ := Option.bind_eq_some_iff.mp e
    rw [Bool.and_eq_true] at h
    cases r with
    | nil => cases e
    | cons r0 r =>
    cases e
    refine ⟨q, fun X E W φ s ef S F Q kk => method_call rfl (fun z q => by cases q) h.2 rfl fun pl => load_ok S F (ef ▸ h.1) (own2At_some e2) fun x' hx hn hv rr => ?_⟩
    obtain ⟨a, as, hp, rfl, vs, n, h1, h2, h3, h4, h5⟩ := rr
    refine getMethod_builtin (T := "list") ⟨_, h1, rfl⟩ PySem.F.plainAttrs_list PySem.F.slot_list_pop PySem.F.type_list_pop (fun a q => by cases q; exact ⟨_, h1, rfl⟩) ?_
    refine callW (K := X.C.K) (fun h _ => keeper_builtin _ h _) (PySem.Calls.spliced_nil ⟨F.In S, ?_⟩)
    have hs := Own2At.size (a := a) h2 h4
    cases as with
    | nil => cases h4.1
    | cons b as =>
    have hal : as.length = r.length := Nat.succ.inj h4.1
    have hz : vs.size - 1 = as.length := by rw [hs, hal]; rfl
    obtain ⟨ws, m, y1, y2, y3⟩ := h4.2 0 b r0 rfl rfl
    have hlast : vs[vs.size - 1]? = some (.ref b) := by
      have e5 : vs.size - 1 = (as.map Value.ref).reverse.length := by rw [List.length_reverse, List.length_map]; exact hz
      rw [e5, ← Array.getElem?_toList, h2, List.map_cons, List.reverse_cons, List.getElem?_concat_length]
    have hlen : (r0 :: r).length = r.length + 1 := rfl
    refine call_meets PySem.F.slot_list_pop ⟨_, h1, rfl⟩ PySem.F.entry_list_pop (PySem.F.args_list_pop_1 _) (MeetsSeq.list_pop_last a vs n (.ref b) hlast (by rw [hs]; exact h3)) ⟨h1, ?_⟩
    have hd : (vs.eraseIdxIfInBounds (vs.size - 1)).toList = (as.map Value.ref).reverse := by
      have e6 : (as.map Value.ref).reverse.length + 1 = vs.toList.length := by rw [h2]; simp
      rw [Array.toList_eraseIdxIfInBounds, show vs.size - 1 = (as.map Value.ref).reverse.length by rw [List.length_reverse, List.length_map]; exact hz, List.eraseIdx_eq_dropLast e6, h2, List.map_cons, List.reverse_cons, List.dropLast_concat]
    obtain ⟨n1, n2⟩ := List.nodup_cons.mp h5
    obtain ⟨n3, n4⟩ := List.nodup_cons.mp n2
    have hab : b ≠ a := fun z => n1 (z ▸ List.mem_cons_self)
    have sb : Heap.SameBut a s.heap (s.heap.update a (Obj.mapSeq fun xs => xs.eraseIdxIfInBounds (vs.size - 1))) := Heap.SameBut.update ..
    obtain ⟨B, val, A⟩ := F.turn2 (x := x) (i := i) (t := s.toks) (h' := s.heap.update a (Obj.mapSeq fun xs => xs.eraseIdxIfInBounds (vs.size - 1))) (fun z hz => S.ti z x i hz hx) (fun c o hc e => (sb.2 c (fun z => hc (by rw [hp, z]; exact List.mem_cons_self))).trans e)
    have hsub : ∀ c, c ∈ a :: as → c ∈ φ i := fun c q => by
      rw [hp]
      rcases List.mem_cons.mp q with rfl | q
      · exact List.mem_cons_self
      · exact List.mem_cons_of_mem _ (List.mem_cons_of_mem _ q)
    have A' := A (p := a :: as) (o := .own2 r) hv ⟨a, as, rfl, rfl, _, _, Heap.get?_update_self _ h1 rfl, hd, by omega, ⟨hal, fun j c y hc hy => by
      have hc' : as[j]? = some c := hc
      obtain ⟨us, m', x1, x2, x3⟩ := h4.2 (j + 1) c y hc hy
      have hca : c ≠ a := fun z => n1 (z ▸ List.mem_cons_of_mem _ (List.mem_of_getElem? hc'))
      exact ⟨us, m', (sb.2 c hca).trans x1, x2.ag B, x3⟩⟩, List.nodup_cons.mpr ⟨fun q => n1 (List.mem_cons_of_mem _ q), n4⟩⟩ fun c q => .inl (hsub c q)
    refine kk _ _ _ _ ⟨A', B, val⟩ ⟨[b], ⟨b, rfl, rfl, ws, m, (sb.2 b hab).trans y1, y2.ag B, y3⟩, fun c q => ?_⟩
    cases List.mem_singleton.mp q
    have hbi : b ∈ φ i := by rw [hp]; exact List.mem_cons_of_mem _ List.mem_cons_self
    have hmu := F.f.mu b (.inr (.inr ⟨i, hbi⟩))
    have hno := F.f.notOwn y1
    refine ⟨hmu.2, fun z => ?_, hmu.1⟩
    rcases z with z | ⟨_, y, z⟩ | ⟨j, z⟩
    · exact hno.1 z
    · exact hno.2 y z
    · by_cases ej : j = i
      · rw [ej, upd_same] at z
        rcases List.mem_cons.mp z with z | z
        · exact hab z
        · exact n3 z
      · rw [upd_ne _ _ ej] at z; exact ej (F.f.dis j i b z hbi)) fun _ => rfl
end
end Mine
end

section
open PySem
set_option autoImplicit false
set_option linter.unusedVariables false
namespace Mine
open Sem (wp)
def Tks {α : Type} (t : Sem α) : Prop := ∀ (M : Model) (Γ : Ctx) (Q : α → Pos → Shared → Prop) (E : Value → Pos → Shared → Prop) (p : Pos) (s : Shared), wp M Γ t Q E p s → wp M Γ t (fun a p' s' => 1 ≤ s'.toks ∧ Q a p' s') E p s
section
variable {α β : Type}
theorem Tks.l {m : Sem α} {f : α → Sem β} (h : Tks m) : Tks (m >>= f) := fun M Γ Q E p s q => by
  rw [Sem.wp_bind'] at q ⊢
  refine Sem.wp_mono M Γ m (fun a p' s' z => ?_) (fun _ _ _ z => z) p s (h M Γ _ E p s q)
  exact Sem.wp_mono M Γ (f a) (fun _ _ _ z => z) (fun _ _ _ z => z.2) p' s' (Sem.wp_toks M Γ 1 (f a) Q E p' s' z.1 z.2)
theorem Tks.r {m : Sem α} {f : α → Sem β} (h : ∀ a, Tks (f a)) : Tks (m >>= f) := fun M Γ Q E p s q => by
  rw [Sem.wp_bind'] at q ⊢
  exact Sem.wp_mono M Γ m (fun a p' s' z => h a M Γ Q E p' s' z) (fun _ _ _ z => z) p s q
theorem Tks.hold {vs : List Value} {m : Sem α} (h : Tks m) : Tks (holding vs m) := fun M Γ Q E p s q => by
  rw [Sem.wp_holding] at q ⊢
  exact h M Γ Q E p s q
theorem Tks.on {M : Model} {A : Around} {t : Sem α} {Q : α → Shared → Prop} {E : Value → Shared → Prop} {s : Shared} (h : Tks t) (q : wpAny M A t (fun a s' => 0 < s'.toks → Q a s') E s) : wpAny M A t Q E s :=
  fun Γ p hΓ => Sem.wp_mono M Γ t (fun _ _ _ z => z.2 z.1) (fun _ _ _ z => z) p s (h M Γ _ _ p s (q Γ p hΓ))
end
theorem tks_int {i : Int} {k : Nat} {p : Pos} {env : Env} : Tks (eval (.Constant (.int i) k p) env) := fun M Γ Q E p s q => ⟨Nat.succ_pos _, q⟩
theorem tks_bin {a b : Expr} {op : Operator} {p : Pos} {env : Env} (h : Tks (eval b env)) : Tks (eval (.BinOp a op b p) env) :=
  show Tks (do let x ← eval a env; let y ← holding [x] (eval b env); standAt p; operate [x, y] (binaryOp op x y)) from .r fun _ => .l h.hold
theorem tks_sub {a b : Expr} {p : Pos} {env : Env} (h : Tks (eval b env)) : Tks (eval (.Subscript a b p) env) := by
  rw [eval_Subscript]; exact .r fun _ => .l h.hold
theorem tks_slice {a : Expr} {b c : Option Expr} {p : Pos} {env : Env} (h : Tks (eval a env)) : Tks (eval (.Slice (some a) b c p) env) := by
  rw [arm_eval_Slice]
  exact .l h
theorem tks_call {x : Str} {p' p : Pos} {a : Expr} {env : Env} (ha : plainX a = true) (h : Tks (eval a env)) : Tks (eval (.Call (.Name x p') [a] [] p) env) := by
  have e : eval (.Call (.Name x p') [a] [] p) env = (do callWith p (← eval (.Name x p') env) [] (backTo p (starEach [a] env)) (backToKw p (keywordEach [] env))) := rfl
  rw [e, starEach_plain (xs := [a]) (fun z q => by cases List.mem_singleton.mp q; exact ha), backTo_plain]
  refine .r fun f => ?_
  unfold callWith
  refine .l (.hold ?_)
  unfold evalArgs
  refine .l ?_
  refine .l ?_
  exact h
theorem tks_asg {x : Str} {p' p : Pos} {a : Expr} {env : Env} (hs : isComp a = false) (h : Tks (eval a env)) : Tks (exec (.Assign [.Name x p'] a p) env) := by
  have e : exec (.Assign [.Name x p'] a p) env = (do
    standAt p
    if ← swapsWithSole [.Name x p'] a p.line env then do
      evalThenUse a env fun v => assignAll v ((assignEach [.Name x p'] env).map (·.2))
      pure .next
    else do
      let v ← eval a env
      assignStores env v (← swappedStores [.Name x p'] a env) ((assignEach [.Name x p'] env).map (·.2))) := rfl
  rw [e]
  refine .r fun _ => ?_
  rw [show swapsWithSole [.Name x p'] a p.line env = pure false from (show swapsWith a (some (.Name x p')) p.line env = _ from noSwap hs _ _ _)]
  change Tks (eval a env >>= _)
  exact .l h
def FI.on (fi : FI) : FI := { fi with pos := true }
def FC.on (X : FC) : FC := { X with fi := X.fi.on }
section
variable {G : Gl} {d : Nat} {fi : FI}
theorem FS.on {X : FC} (S : FS G d X) : FS G d X.on := ⟨S.g, S.base, S.hd, S.dp, S.un, S.fn, S.gl, S.bi, S.nm, S.cel, S.inj, S.ti⟩
theorem F0.on {X : FC} {W : WS} {φ : Nat → List Addr} {h : Heap} (F : F0 X W φ h) : F0 X.on W φ h := ⟨F.pin, F.mu, F.wf, F.w0, F.dis, F.ns, F.cells⟩
theorem F0.off {X : FC} {W : WS} {φ : Nat → List Addr} {h : Heap} (F : F0 X.on W φ h) : F0 X W φ h := ⟨F.pin, F.mu, F.wf, F.w0, F.dis, F.ns, F.cells⟩
theorem At.on {X : FC} {W : WS} {φ : Nat → List Addr} {s : Shared} {ρ : Loc} (F : At X W φ s ρ) (h : 0 < s.toks) : At X.on W φ s ρ := ⟨F.gens, F.os, F.f.on, F.lr, F.ow, fun _ => h⟩
theorem At.off {X : FC} {W : WS} {φ : Nat → List Addr} {s : Shared} {ρ : Loc} (F : At X.on W φ s ρ) : At X W φ s ρ := ⟨F.gens, F.os, F.f.off, F.lr, F.ow, fun _ => F.tk rfl⟩
noncomputable def lTake (a : SS G d fi) (b : SL G d fi.on) (ht : ∀ env, Tks (exec a.x env)) : SL G d fi := ⟨a.x :: b.xs, fun σ => bd (a.ex σ) fun fl σ => Fl.casesOn fl (b.ex σ) fun o => pu (.ret o) σ,
  a.eo.bd (R := fun f ρ fl ρ' => Fl.casesOn (motive := fun _ => Prop) f (ExsG G d fi.on b.xs ρ fl ρ') fun o => fl = .ret o ∧ ρ = ρ') (fun f => by
    cases f with
    | next => exact b.eo
    | ret o => exact .pu fun _ => ⟨rfl, rfl⟩) fun ρ f ρ₁ fl ρ' h q X E W φ s e c S F Q k => by
    refine wpAny_execs_cons ((ht X.env).on (h X E W φ s e c S F _ ?_))
    intro f' W' φ' s' A B C tk
    cases f with
    | next => cases C; exact q X.on E W' φ' s' (congrArg FI.on e) c S.on (A.on tk) Q fun g W2 φ2 s2 A2 B2 C2 => k _ _ _ _ A2.off (B.trans B2) C2
    | ret o =>
      obtain ⟨rfl, rfl⟩ := q
      obtain ⟨v', rfl, r⟩ := C
      exact k _ _ _ _ A B ⟨v', rfl, r⟩⟩
end
end Mine
end

section
open PySem
set_option autoImplicit false
set_option linter.unusedVariables false
namespace Mine
noncomputable def cutAt (c : Nat) (l : List Nat) : List (List Nat) := @List.rec Nat (fun _ => List (List Nat)) [[]] (fun x _ q => if x = c then [] :: q else List.casesOn q [[x]] fun p ps => (x :: p) :: ps) l
theorem cutAt_cons (c x : Nat) (r : List Nat) : cutAt c (x :: r) = if x = c then [] :: cutAt c r else List.casesOn (cutAt c r) [[x]] fun p ps => (x :: p) :: ps := rfl
theorem cutAt_free (c : Nat) : ∀ p : List Nat, c ∉ p → cutAt c p = [p]
  | [], _ => rfl
  | x :: r, h => by rw [cutAt_cons, if_neg (fun e : x = c => h (e ▸ List.mem_cons_self)), cutAt_free c r fun q => h (List.mem_cons_of_mem _ q)]
theorem cutAt_app (c : Nat) (r : List Nat) : ∀ p : List Nat, c ∉ p → cutAt c (p ++ c :: r) = p :: cutAt c r
  | [], _ => by rw [List.nil_append, cutAt_cons, if_pos rfl]
  | x :: p, h => by rw [List.cons_append, cutAt_cons, if_neg (fun e : x = c => h (e ▸ List.mem_cons_self)), cutAt_app c r p fun q => h (List.mem_cons_of_mem _ q)]
theorem cutAt_join (c : Nat) : ∀ ps : List (List Nat), ps ≠ [] → (∀ p ∈ ps, c ∉ p) → cutAt c (joinS [c] ps) = ps
  | [], h, _ => absurd rfl h
  | [p], _, h => cutAt_free c p (h p List.mem_cons_self)
  | p :: q :: r, _, h => by
    show cutAt c (p ++ [c] ++ joinS [c] (q :: r)) = _
    rw [List.append_assoc, List.singleton_append, cutAt_app c _ p (h p List.mem_cons_self), cutAt_join c (q :: r) (by simp) fun z hz => h z (List.mem_cons_of_mem _ hz)]
theorem str_eta (x : Str) : (⟨x.cps.toList.toArray⟩ : Str) = x := by cases x; simp
theorem strs_eta (l : List Str) : (l.map (·.cps.toList)).map (fun z => (⟨z.toArray⟩ : Str)) = l := by
  rw [List.map_map]; conv => rhs; rw [← List.map_id l]
  exact List.map_congr_left fun x _ => str_eta x
theorem join_str (y : List Nat) (l : List Str) : Str.join ⟨y.toArray⟩ l = ⟨(joinS y (l.map (·.cps.toList))).toArray⟩ := by
  have := join_eq y (l.map (·.cps.toList))
  rw [strs_eta] at this
  rw [← this]; unfold Txt.join; rw [StrLaws.glued_eq_join]
theorem split_ne (x y : Str) : Txt.split x y ≠ [] := by
  unfold Txt.split
  split
  · simp
  · split
    · simp
    · rw [StrLaws.partsBetween_eq]
      obtain ⟨p, r, e⟩ := StrLaws.partsFrom_ne x y.length 0 (Builtin.Str.occurrences x y 0 x.length (x.length + 1))
      rw [e]; simp
theorem split_eq (c : Nat) (x : List Nat) : Txt.split ⟨x.toArray⟩ ⟨#[c]⟩ = (cutAt c x).map fun z => ⟨z.toArray⟩ := by
  have j := StrLaws.join_split ⟨x.toArray⟩ ⟨#[c]⟩
  have j' := join_str [c] (Txt.split ⟨x.toArray⟩ ⟨#[c]⟩)
  rw [show (⟨[c].toArray⟩ : Str) = ⟨#[c]⟩ from rfl, j] at j'
  have jx : x = joinS [c] ((Txt.split ⟨x.toArray⟩ ⟨#[c]⟩).map (·.cps.toList)) := by
    have := congrArg (fun z : Str => z.cps.toList) j'
    simpa using this
  have h : cutAt c x = (Txt.split ⟨x.toArray⟩ ⟨#[c]⟩).map (·.cps.toList) := by
    conv => lhs; rw [jx]
    refine cutAt_join c _ (by simpa using split_ne ⟨x.toArray⟩ ⟨#[c]⟩) fun p hp => ?_
    obtain ⟨q, hq, rfl⟩ := List.mem_map.mp hp
    exact StrLaws.split_free _ c q hq
  rw [h, strs_eta]
noncomputable def replS (y w z : List Nat) : List Nat := (Txt.replace ⟨z.toArray⟩ ⟨y.toArray⟩ ⟨w.toArray⟩).cps.toList
theorem repl_mk (y w z : List Nat) : Txt.replace ⟨z.toArray⟩ ⟨y.toArray⟩ ⟨w.toArray⟩ = ⟨(replS y w z).toArray⟩ := (str_eta _).symm
theorem repl_parts (y w z : List Nat) : ∃ ps : List (List Nat), ps ≠ [] ∧ z = joinS y ps ∧ replS y w z = joinS w ps := by
  unfold replS Txt.replace
  split
  · exact ⟨[z], by simp, rfl, by simp; rfl⟩
  · refine ⟨(Builtin.Str.partsBetween ⟨z.toArray⟩ (Builtin.Str.occurrences ⟨z.toArray⟩ ⟨y.toArray⟩ 0 (⟨z.toArray⟩ : Str).length ((⟨z.toArray⟩ : Str).length + 1)) (⟨y.toArray⟩ : Str).length).map (·.cps.toList), ?_, ?_, ?_⟩
    · rw [StrLaws.partsBetween_eq]
      obtain ⟨p, r, e⟩ := StrLaws.partsFrom_ne ⟨z.toArray⟩ (⟨y.toArray⟩ : Str).length 0 (Builtin.Str.occurrences ⟨z.toArray⟩ ⟨y.toArray⟩ 0 (⟨z.toArray⟩ : Str).length ((⟨z.toArray⟩ : Str).length + 1))
      rw [e]; simp
    · have := StrLaws.glued_between_self ⟨z.toArray⟩ ⟨y.toArray⟩ ((⟨z.toArray⟩ : Str).length + 1)
      rw [StrLaws.glued_eq_join, join_str] at this
      have := congrArg (fun z : Str => z.cps.toList) this
      simpa using this.symm
    · rw [StrLaws.glued_eq_join, join_str]
theorem repl_one (c : Nat) (w z : List Nat) : replS [c] w z = joinS w (cutAt c z) := by
  unfold replS
  rw [show (⟨[c].toArray⟩ : Str) = ⟨#[c]⟩ from rfl, StrLaws.replace_one, join_str, split_eq]
  simp [Function.comp_def]
theorem join_sub (y : List Nat) : ∀ (ps : List (List Nat)) (p : List Nat), p ∈ ps → ∀ c ∈ p, c ∈ joinS y ps
  | [], p, h, _, _ => nomatch h
  | [q], p, h, c, hc => by cases List.mem_singleton.mp h; exact hc
  | q :: r :: l, p, h, c, hc => by
    show c ∈ q ++ y ++ joinS y (r :: l)
    rcases List.mem_cons.mp h with rfl | h
    · exact List.mem_append_left _ (List.mem_append_left _ hc)
    · exact List.mem_append_right _ (join_sub y (r :: l) p h c hc)
theorem repl_mem (y w z : List Nat) (c : Nat) (h : c ∈ replS y w z) : c ∈ z ∨ c ∈ w := by
  obtain ⟨ps, _, e1, e2⟩ := repl_parts y w z
  rw [e2] at h
  rcases join_mem w ps c h with h | ⟨p, hp, hc⟩
  · exact .inr h
  · rw [e1]; exact .inl (join_sub y ps p hp c hc)
theorem repl_len (y w z : List Nat) (hz : z.length ≤ 1048576) (hw : w.length ≤ 14) : (replS y w z).length ≤ sizeLine := by
  have h1 : (z.length + 1) * w.length ≤ (z.length + 1) * 14 := Nat.mul_le_mul_left _ hw
  have e1 : (⟨z.toArray⟩ : Str).length = z.length := by simp [Str.length]
  have e2 : (⟨w.toArray⟩ : Str).length = w.length := by simp [Str.length]
  have e3 : (replS y w z).length = (Txt.replace ⟨z.toArray⟩ ⟨y.toArray⟩ ⟨w.toArray⟩).length := by simp [replS, Str.length]
  rw [e3]; unfold Txt.replace
  split
  · rw [e1, sizeLine_eq]; omega
  · exact fits_replaced _ (by rw [e1, e2]; omega)
section
variable {G : Gl} {d : Nat} {fi : FI}
theorem meth_repl {X : FC} {E : Value → Shared → Prop} {s : Shared} {vv : Value} {pl : Sem Bool} {Q : Value × List Value → Shared → Prop} (hT : s.TypeIs vv "str") (hd : ∀ a, vv = .ref a → ∃ o, s.heap.get? a = some o ∧ o.dict = none) (h : Q (.builtin "str.replace", [vv]) s) :
    wpAny X.C.M X.A (getMethod vv "replace" pl) Q E s := getMethod_builtin hT PySem.F.plainAttrs_str PySem.F.slot_str_replace PySem.F.type_str_replace hd h
theorem meth_split {X : FC} {E : Value → Shared → Prop} {s : Shared} {vv : Value} {pl : Sem Bool} {Q : Value × List Value → Shared → Prop} (hT : s.TypeIs vv "str") (hd : ∀ a, vv = .ref a → ∃ o, s.heap.get? a = some o ∧ o.dict = none) (h : Q (.builtin "str.split", [vv]) s) :
    wpAny X.C.M X.A (getMethod vv "split" pl) Q E s := getMethod_builtin hT PySem.F.plainAttrs_str PySem.F.slot_str_split PySem.F.type_str_split hd h
noncomputable def eRepl (a : T G d fi) (y w : Str) (yz wz : List Nat) (k1 k2 : Nat) (p1 p2 ap p : Pos) (e1 : y = ⟨yz.toArray⟩) (e2 : w = ⟨wz.toArray⟩) (hs : ∀ env, attributeBase a.x "replace" env (eval a.x env) = eval a.x env)
    (h : (PyData.strOk ⟨wz.toArray⟩ && Nat.ble wz.length 14 && Nat.ble yz.length 1000 && !(yz == wz) && (ap.endLine == p.line) && fi.pos) = true) : T G d fi :=
  .mk' (.Call (.Attribute a.x "replace" ap) [.Constant (.str y) k1 p1, .Constant (.str w) k2 p2] [] p) (fun σ => bd (a.ev σ) fun x σ => rt (x.frz.str?.bind fun z => some (.val (.str (replS yz wz z)), [z.length ≤ room])) σ) rfl
    (a.eo.bd (R := fun x ρ o ρ' => ∃ z, x.frz = .str z ∧ o = .val (.str (replS yz wz z)) ∧ z.length ≤ room ∧ ρ = ρ') (fun x => .rt fun o ps ρ e q => by
      obtain ⟨z, e1, e⟩ := Option.bind_eq_some_iff.mp e; cases e; exact ⟨z, V.str_of e1, rfl, q.1, rfl⟩) fun _ x _ _ _ hx q => by
      obtain ⟨z, q1, rfl, q2, rfl⟩ := q
      subst e1 e2
      simp only [Bool.and_eq_true] at h
      obtain ⟨⟨⟨⟨⟨h1, h2⟩, h3⟩, h4⟩, h5⟩, h6⟩ := h
      intro X E W φ s e S F Q kk
      refine method_call (hs _) (fun z q => by
        rcases List.mem_cons.mp q with rfl | q
        · rfl
        · cases List.mem_singleton.mp q; rfl) h5 rfl fun pl => hx.v X E W φ s e S F _ fun x' W' φ' s' p' r' => ?_
      rw [q1] at r'
      obtain ⟨t, rfl, ok, hz⟩ := r'
      have tk := p'.f.tk (e ▸ h6)
      have hr := room_le
      generalize hvv : Value.str { cps := z.toArray } t = vv
      have p2 : Pst X W s W' φ' { s' with toks := s'.toks + 1 + 1 } _ := ⟨p'.f.toks _ (Nat.le_add_right _ 2), p'.ag, p'.vl⟩
      refine meth_repl (by rw [← hvv]; exact typeIs_str _ _ _) (fun a q => by rw [← hvv] at q; cases q) (callW (K := X.C.K) (fun h _ => keeper_builtin _ h _) (PySem.Calls.spliced_cons (wpAny_Constant_str (PySem.Calls.spliced_cons (wpAny_Constant_str (PySem.Calls.spliced_nil ⟨p2.f.In S, ?_⟩))))))
      subst hvv
      have e1 : (⟨z.toArray⟩ : Str).length = z.length := by simp [Str.length]
      have e2 : (⟨wz.toArray⟩ : Str).length = wz.length := by simp [Str.length]
      have hw : wz.length ≤ 14 := Nat.le_of_ble_eq_true h2
      have hzr : z.length ≤ 1048576 := Nat.le_trans q2 (by unfold room; omega)
      refine wpAny_with_toks (Nat.le_refl _) (SC.replaceW (Nat.ne_of_gt tk) (Nat.succ_ne_zero _) (Nat.ne_of_lt (Nat.lt_succ_self _)) ?_ (by rw [e1]; exact hzr) (by rw [e2]; exact hw) fun t' k hk => ?_)
      · rw [Bool.not_eq_true'] at h4
        rw [beq_eq_false_iff_ne] at h4 ⊢
        intro q
        exact h4 (by simpa using congrArg (fun z : Str => z.cps.toList) q)
      · rw [repl_mk]
        have hk : s'.toks ≤ k := Nat.le_trans (Nat.le_add_right _ 2) hk
        have p3 : Pst X W s W' φ' { s' with toks := k } _ := ⟨p'.f.toks _ hk, p'.ag, p'.vl⟩
        refine (Aft.of p3 kk).here (t := k) p3.f.f.wf ⟨_, rfl, ?_, repl_len _ _ _ hzr hw⟩
        simp only [PyData.strOk] at ok h1 ⊢
        simp at ok h1 ⊢
        intro c hc
        rcases repl_mem _ _ _ c hc with q | q
        · exact ok c q
        · exact h1 c q) fun _ => rfl
open Builtin Builtin.Str in
theorem split_own {prog : Program} {w : World} {A : Around} {E : Value → Shared → Prop} {s : Shared} {x y : Str} {t u : Tok} {Q : Value → Shared → Prop} (hy : (y.length == 0) = false) (hsz : x.length ≤ sizeLine)
    (hsz2 : (partsBetween x (occurrences x y 0 x.length (x.length + 1)) y.length).length ≤ sizeLine)
    (hq : ∀ l tk, l.map (·.1) = Txt.split x y → Q (.ref s.heap.objs.size) { s with heap := s.heap.push { cls := .type "list", data := .seq (strValues l).toArray }, toks := tk }) :
    wpAny (model prog w) A (call (.builtin "str.split") [.str x t, .str y u]) Q E s := by
  cases h1 : (decide (x.length < y.length) || decide (strKind x < strKind y))
  · cases hf : (occurrences x y 0 x.length (x.length + 1)).isEmpty
    · refine call_meets F.slot_str_split (typeIs_str _ _ _) F.entry_str_split (F.args_str_split_2 _ _) (meets_str_split_sep x y t u h1 hy hf hsz hsz2) ?_
      show wants Q E _ { s with toks := _, heap := s.heap.push { cls := .type "list", data := .seq (strsFrom s.toks (partsBetween x (occurrences x y 0 x.length (x.length + 1)) y.length)).toArray } }
      rw [strsFrom_eq]
      exact hq (numbered s.toks _) _ ((numbered_texts _ _).trans ((if_neg (ne_true_of_eq_false h1)).trans (if_neg (ne_true_of_eq_false hf))).symm)
    · exact call_meets F.slot_str_split (typeIs_str _ _ _) F.entry_str_split (F.args_str_split_2 _ _) (meets_str_split_not_found x y t u h1 hy hf)
        (hq [(x, t)] s.toks ((if_neg (ne_true_of_eq_false h1)).trans (if_pos hf)).symm)
  · exact call_meets F.slot_str_split (typeIs_str _ _ _) F.entry_str_split (F.args_str_split_2 _ _) (meets_str_split_cannot_occur x y t u h1)
      (hq [(x, t)] s.toks (if_pos h1).symm)
theorem vrs_strs {W : WS} {h : Heap} : ∀ (l : List (Str × Tok)) (ss : List (List Nat)), l.map (·.1) = ss.map (fun z => (⟨z.toArray⟩ : Str)) → (∀ z ∈ ss, PyData.strOk ⟨z.toArray⟩ = true ∧ z.length ≤ sizeLine) → VRs W h (ss.map .str) (strValues l)
  | [], [], _, _ => rfl
  | p :: l, z :: ss, e, q => by
    have e' := List.cons.inj e
    have e1 : p.1 = ⟨z.toArray⟩ := e'.1
    exact .cons ⟨p.2, by dsimp only; rw [e1], (q z List.mem_cons_self).1, (q z List.mem_cons_self).2⟩ (vrs_strs l ss e'.2 fun y hy => q y (List.mem_cons_of_mem _ hy))
theorem cutAt_len (c : Nat) : ∀ z : List Nat, (cutAt c z).length ≤ z.length + 1
  | [] => Nat.le_refl _
  | x :: r => by
    have ih := cutAt_len c r
    rw [cutAt_cons]
    split
    · simp; omega
    · cases h : cutAt c r with
      | nil => simp
      | cons p ps => rw [h] at ih; simpa using Nat.le_succ_of_le ih
theorem cutAt_part (c : Nat) : ∀ z : List Nat, ∀ p ∈ cutAt c z, p.length ≤ z.length ∧ ∀ x ∈ p, x ∈ z
  | [], p, h => by cases List.mem_singleton.mp h; simp
  | x :: r, p, h => by
    have ih := cutAt_part c r
    rw [cutAt_cons] at h
    split at h
    · rcases List.mem_cons.mp h with rfl | h
      · simp
      · exact ⟨Nat.le_succ_of_le (ih p h).1, fun y hy => List.mem_cons_of_mem _ ((ih p h).2 y hy)⟩
    · cases hc : cutAt c r with
      | nil => rw [hc] at h; cases List.mem_singleton.mp h; simp
      | cons q qs =>
        rw [hc] at h ih
        rcases List.mem_cons.mp h with rfl | h
        · have := ih q List.mem_cons_self
          refine ⟨by simpa using this.1, fun y hy => ?_⟩
          rcases List.mem_cons.mp hy with rfl | hy
          · exact List.mem_cons_self
          · exact List.mem_cons_of_mem _ (this.2 y hy)
        · have := ih p (List.mem_cons_of_mem _ h)
          exact ⟨Nat.le_succ_of_le this.1, fun y hy => List.mem_cons_of_mem _ (this.2 y hy)⟩
noncomputable def eSplit (a : T G d fi) (y : Str) (c : Nat) (k1 : Nat) (p1 ap p : Pos) (e1 : y = ⟨#[c]⟩) (hs : ∀ env, attributeBase a.x "split" env (eval a.x env) = eval a.x env) (h : (ap.endLine == p.line) = true) : T G d fi :=
  .mk' (.Call (.Attribute a.x "split" ap) [.Constant (.str y) k1 p1] [] p) (fun σ => bd (a.ev σ) fun x σ => rt (x.frz.str?.bind fun z => some (.own ((cutAt c z).map .str).reverse, [z.length ≤ room])) σ) rfl
    (a.eo.bd (R := fun x ρ o ρ' => ∃ z, x.frz = .str z ∧ o = .own ((cutAt c z).map .str).reverse ∧ z.length ≤ room ∧ ρ = ρ') (fun x => .rt fun o ps ρ e q => by
      obtain ⟨z, e1, e⟩ := Option.bind_eq_some_iff.mp e; cases e; exact ⟨z, V.str_of e1, rfl, q.1, rfl⟩) fun _ x _ _ _ hx q => by
      obtain ⟨z, q1, rfl, q2, rfl⟩ := q
      subst e1
      intro X E W φ s e S F Q kk
      refine method_call (hs _) (fun z q => by cases List.mem_singleton.mp q; rfl) h rfl fun pl => hx.v X E W φ s e S F _ fun x' W' φ' s' p' r' => ?_
      rw [q1] at r'
      obtain ⟨t, rfl, ok, hz⟩ := r'
      have hr := room_le
      have hsl := sizeLine_eq
      generalize hvv : Value.str { cps := z.toArray } t = vv
      have p2 : Pst X W s W' φ' { s' with toks := s'.toks + 1 } _ := ⟨p'.f.toks _ (Nat.le_succ _), p'.ag, p'.vl⟩
      refine meth_split (by rw [← hvv]; exact typeIs_str _ _ _) (fun a q => by rw [← hvv] at q; cases q) (callW (K := X.C.K) (fun h _ => keeper_builtin _ h _) (PySem.Calls.spliced_cons (wpAny_Constant_str (PySem.Calls.spliced_nil ⟨p2.f.In S, ?_⟩))))
      subst hvv
      have e1 : (⟨z.toArray⟩ : Str).length = z.length := by simp [Str.length]
      have q2' : z.length ≤ 1000000 := q2
      refine wpAny_with_toks (Nat.le_refl _) (split_own rfl (by rw [e1]; exact hz) ?_ fun l tk el htk => ?_)
      · have h1 := StrLaws.occ_length_le ⟨z.toArray⟩ ⟨#[c]⟩ 0 (⟨z.toArray⟩ : Str).length ((⟨z.toArray⟩ : Str).length + 1)
        rw [length_partsBetween]
        rw [e1] at h1 ⊢
        omega
      · rw [split_eq] at el
        have hl := cutAt_len c z
        refine (Aft.of p2 kk).listAt (t := tk) (vs := (strValues l).toArray) (e := 0) p2.f.f.wf (fun _ _ q => Heap.get?_push_of_some _ q) (fresh_size _) (Heap.get?_push_size _ rfl) ?_ ?_ htk
        · rw [List.reverse_reverse]
          refine vrs_strs l _ el fun y hy => ?_
          obtain ⟨h1, h2⟩ := cutAt_part c z y hy
          exact ⟨strOk_of ok h2, Nat.le_trans h1 hz⟩
        · rw [List.length_reverse, List.length_map]; omega) fun _ => rfl
theorem boot_str : bootBuiltins "str" = some (.type "str") := by kernel_rfl
theorem boot_int : bootBuiltins "int" = some (.type "int") := by kernel_rfl
noncomputable def decS (i : Int) : List Nat := (Str.ofString (toString i)).cps.toList
theorem decS_sign (i : Int) : ∀ c ∈ decS i, c = 45 ∨ (48 ≤ c ∧ c ≤ 57) := fun c hc => by
  by_cases h : c ≠ 45 ∧ (c < 48 ∨ 57 < c)
  · exact absurd hc (PyProof.Rows.int_text_free' c h i)
  · omega
theorem primStr : Prim1 G d (.type "str") fun x => x.val?.bind fun v => v.int?.bind fun i => some (.val (.str (decS i)), [i.natAbs < 10 ^ 80]) := by
  intro x o ps e q X E W φ s ρ S F x' r Q k
  obtain ⟨v, e1, e⟩ := Option.bind_eq_some_iff.mp e
  obtain ⟨i, e2, e⟩ := Option.bind_eq_some_iff.mp e
  cases e
  rw [O.val_of e1, V.int_of e2] at r
  obtain ⟨t, rfl⟩ := r
  have q1 : i.natAbs < 10 ^ 80 := q.1
  have hl : i.natAbs.log2 < 1920 := by
    by_cases h0 : i.natAbs = 0
    · rw [h0]; decide
    · exact (Nat.log2_lt h0).mpr (Nat.lt_trans q1 (by decide +kernel))
  refine P.str_of_int hl ?_
  have e : (Str.ofString (toString i)) = ⟨(decS i).toArray⟩ := (str_eta _).symm
  rw [show ((toString i : String) : Str) = Str.ofString (toString i) from rfl, e]
  refine k.here F.f.wf ⟨_, rfl, ?_, ?_⟩
  · simp [PyData.strOk]
    intro c hc
    have := decS_sign i c hc
    omega
  · have := int_text_fits hl
    simpa [decS, Str.length] using this
noncomputable def eStrI : T G d fi → Pos → Pos → isBi G fi "str" = true → T G d fi := eBi "str" (.type "str") boot_str (fun M h => keeper_type M h _) _ primStr
def IntP (x : V) (o : O) : Prop := ∃ z n, x = .str z ∧ o = .val (.int n) ∧ PySem.intText? ⟨z.toArray⟩ = some n ∧ z.length ≤ 640
noncomputable def eIntT (a : T G d fi) (p' p : Pos) (hb : isBi G fi "int" = true) : T G d fi :=
  .mk' (.Call (.Name "int" p') [a.x] [] p) (fun σ => bd (a.ev σ) fun x σ => told Tk.r? (fun _ o => IntP x.frz o) id (fun _ ρ => ρ) σ) rfl
    (a.eo.bd (R := fun x ρ o ρ' => IntP x.frz o ∧ ρ = ρ') (fun x => Ok.told (f := Tk.r?) (p := fun _ o => IntP x.frz o) (r := id) (ρ := fun _ ρ => ρ) fun o ρ q => ⟨q, rfl⟩) fun _ x _ _ _ hx q => by
      obtain ⟨⟨z, n, q1, rfl, q2, q3⟩, rfl⟩ := q
      intro X E W φ s e S F Q kk
      refine PyProof.Rows.Call_ (bi_ok S F (e ▸ hb) boot_int ?_)
      rw [starEach_plain (xs := [a.x]) (fun y q => by cases List.mem_singleton.mp q; exact a.pl), backTo_plain]
      refine callW (K := X.C.K) (fun h _ => keeper_type _ h _) (PySem.Calls.spliced_cons (hx.v X E W φ s e S F _ fun x' W' φ' s' p' r' => PySem.Calls.spliced_nil ⟨p'.f.In S, ?_⟩))
      rw [q1] at r'
      obtain ⟨t, rfl, ok, hz⟩ := r'
      exact PySem.W.KIN.call_text q2 (by simpa [Str.length] using q3) ((Aft.of p' kk).here p'.f.f.wf ⟨_, rfl⟩)) fun _ => rfl
end
end Mine
end

section
open PySem
set_option autoImplicit false
set_option linter.unusedVariables false
namespace Mine
section
variable {G : Gl} {d : Nat} {fi : FI}
noncomputable def sTry (b : SL G d fi) (h0 : ExceptHandler) (hs : List ExceptHandler) (p : Pos) : SS G d fi := ⟨.Try b.xs (h0 :: hs) [] [] p, b.ex,
  b.eo.mono fun ρ fl ρ' h X E W φ s e c S F Q k => wpAny_Try_except (h X _ W φ s e c S F _ fun f W' φ' s' A B C => by
    cases fl with
    | next => cases C; exact wpAny_execs_nil (k _ _ _ _ A B rfl)
    | ret o => obtain ⟨v', rfl, r⟩ := C; exact k _ _ _ _ A B ⟨v', rfl, r⟩)⟩
end
end Mine
end

section
open PySem
set_option autoImplicit false
set_option linter.unusedVariables false
namespace Mine
noncomputable def dg (m : Nat) : List Nat := (Nat.toDigits 10 m).map Char.toNat
theorem decS_nat (m : Nat) : decS (m : Int) = dg m := PySem.W.KIN.signs_num m
theorem decS_neg (m : Nat) (h : 0 < m) : decS (-(m : Int)) = 45 :: dg m := by
  unfold decS dg
  rw [PyProof.Rows.signs_ofString, Int.toString_eq_repr, Int.repr_eq_if, if_neg (by omega), String.toList_append, List.map_append, Nat.toList_repr]
  have : (- -(m : Int)).toNat = m := by omega
  rw [this]; rfl
theorem dg_all (m : Nat) : ∀ c ∈ dg m, 48 ≤ c ∧ c ≤ 57 := fun c hc => by
  obtain ⟨ch, hch, e⟩ := List.mem_map.mp hc
  have r := PyProof.Rows.digit_range (Nat.isDigit_of_mem_toDigits (by decide) (by decide) hch)
  rw [← e]; exact r
theorem dg_ne (m : Nat) : dg m ≠ [] := fun e => by
  have h := toDigits_len_ge 10 m
  rw [List.map_eq_nil_iff.mp e] at h
  exact absurd h (by decide)
theorem dg_len {k m : Nat} (hk : 1 ≤ k) (h : m < 10 ^ k) : (dg m).length ≤ k := by
  unfold dg; rw [List.length_map]; exact toDigits_len_pow (by decide) hk h
theorem dg_zero : dg 0 = [48] := by decide
theorem dg_head : ∀ m : Nat, m ≠ 0 → ∃ c r, dg m = c :: r ∧ c ≠ 48 := by
  intro m
  induction m using Nat.strongRecOn with
  | _ m ih =>
    intro h0
    by_cases h : m < 10
    · refine ⟨(Nat.digitChar m).toNat, [], by unfold dg; rw [Nat.toDigits_of_lt_base h]; rfl, ?_⟩
      have := PySem.W.KIN.digit_back m h
      omega
    · have hm : m % 10 < 10 := Nat.mod_lt m (by decide)
      have t : Nat.toDigits 10 (m / 10) ++ Nat.toDigits 10 (m % 10) = Nat.toDigits 10 (10 * (m / 10) + m % 10) := Nat.toDigits_append_toDigits (by decide) (by omega) hm
      rw [Nat.div_add_mod] at t
      obtain ⟨c, r, e, hc⟩ := ih (m / 10) (by omega) (by omega)
      refine ⟨c, r ++ dg (m % 10), ?_, hc⟩
      unfold dg at e ⊢
      rw [← t, List.map_append, e]; rfl
theorem dec_reads {i : Int} (h : i.natAbs < 10 ^ 80) : PySem.intText? ⟨(decS i).toArray⟩ = some i ∧ (decS i).length ≤ 81 := by
  have hl := dg_len (k := 80) (by decide) h
  obtain ⟨m, rfl | rfl⟩ := Int.eq_nat_or_neg i
  · have hl : (dg m).length ≤ 80 := by simpa using hl
    rw [decS_nat]
    refine ⟨?_, by omega⟩
    have e := PySem.intText_digits (x := ⟨(dg m).toArray⟩) (fun c hc => dg_all m c (by simpa using hc)) (by simpa using dg_ne m) (by simp [Str.length]; omega)
    rw [e]
    have := PySem.W.KIN.val_back m
    show some ((PySem.NumText.digitsVal (dg m).toArray.toList : Nat) : Int) = _
    rw [show (dg m).toArray.toList = dg m by simp]; unfold dg; rw [this]
  · by_cases h0 : m = 0
    · subst h0
      exact ⟨by decide +kernel, by decide +kernel⟩
    have hl : (dg m).length ≤ 80 := by simpa using hl
    rw [decS_neg m (by omega)]
    refine ⟨?_, by simp; omega⟩
    have e := PySem.intText_neg (x := ⟨(45 :: dg m).toArray⟩) (cs := dg m) (by simp) (dg_all m) (dg_ne m) (by simp [Str.length]; omega)
    rw [e]
    have := PySem.W.KIN.val_back m
    unfold dg; rw [this]
theorem join_flat : ∀ l : List (List Nat), joinS [] l = l.flatten
  | [] => rfl
  | [x] => by show x = _; simp
  | x :: y :: r => by show x ++ [] ++ joinS [] (y :: r) = _; rw [join_flat (y :: r)]; simp
theorem texts_of : ∀ l : List (List Nat), textsOf (l.map .str) = some l
  | [] => rfl
  | x :: l => by show (some x).bind (fun s => (textsOf (l.map .str)).bind fun t => some (s :: t)) = _; rw [texts_of l]; rfl
section
variable {G : Gl} {d : Nat} {fi : FI}
def JoinP (sep : List Nat) (y : V) (o : O) : Prop := ∃ ps, kJoin (.str sep) y = some (o, ps) ∧ All ps
noncomputable def eJoinT (x : Str) (sep : List Nat) (k : Nat) (sp : Pos) (b : T G d fi) (ap p : Pos) (ex : x = ⟨sep.toArray⟩) (h : (PyData.strOk ⟨sep.toArray⟩ && Nat.ble sep.length 1000 && (ap.endLine == p.line)) = true) : T G d fi :=
  .mk' (.Call (.Attribute (.Constant (.str x) k sp) "join" ap) [b.x] [] p) (fun σ => bd (b.ev σ) fun y σ => told Tk.r? (fun _ o => JoinP sep y.frz o) id (fun _ ρ => ρ) σ) rfl
    (b.eo.bd (R := fun y ρ o ρ' => ∃ ps, kJoin (.str sep) y.frz = some (o, ps) ∧ All ps ∧ ρ = ρ') (fun y => Ok.told (f := Tk.r?) (p := fun _ o => JoinP sep y.frz o) (r := id) (ρ := fun _ ρ => ρ) fun o ρ q => by obtain ⟨ps, q1, q2⟩ := q; exact ⟨ps, q1, q2, rfl⟩) fun _ y _ _ _ hy q => by
      obtain ⟨ps, q1, q2, rfl⟩ := q
      subst ex
      rw [Bool.and_eq_true, Bool.and_eq_true] at h
      intro X E W φ s e S F Q kk
      refine method_call rfl (fun z q => by cases List.mem_singleton.mp q; exact b.pl) h.2 rfl fun pl => wpAny_Constant_str ?_
      generalize hvv : Value.str { cps := sep.toArray } s.toks = vv
      refine meth_str (by rw [← hvv]; exact typeIs_str _ _ _) (fun a q => by rw [← hvv] at q; cases q) (callW (K := X.C.K) (fun h _ => keeper_builtin _ h _) (PySem.Calls.spliced_cons (hy.v X E W φ { s with toks := s.toks + 1 } e S (F.toks _ (Nat.le_succ _)) _ fun y' W' φ' s' p' r' => PySem.Calls.spliced_nil ⟨p'.f.In S, ?_⟩)))
      subst hvv
      obtain ⟨_, z1, q1⟩ := Option.bind_eq_some_iff.mp q1
      cases z1
      obtain ⟨l, e1, q1⟩ := Option.bind_eq_some_iff.mp q1
      obtain ⟨ss, e2, q1⟩ := Option.bind_eq_some_iff.mp q1
      cases q1
      rw [V.lst_of e1] at r'
      obtain ⟨a, vs, n, rfl, _, h1, h2, h3⟩ := VR.lst r'
      obtain ⟨a1, a2⟩ := strs_are h3 e2
      have hjl := join_len sep ss
      have hq := Nat.le_trans q2.1 room_le
      refine join_mono ⟨_, h1, rfl, _, rfl⟩ a1 ?_ fun t' kk' hkk => ?_
      · have e2 : ((ss.map fun z => (⟨z.toArray⟩ : Str)).map (·.length)) = ss.map List.length := by simp [Str.length, Function.comp]
        rw [e2, List.length_map]
        have e3 : (⟨sep.toArray⟩ : Str).length = sep.length := by simp [Str.length]
        rw [e3]; exact hq
      · rw [join_eq]
        have p2 : Pst X W s W' φ' s' _ := ⟨p'.f, p'.ag, p'.vl⟩
        refine (Aft.of p2 kk).here p'.f.f.wf (show VR W' s'.heap (.str (joinS sep ss)) _ from ⟨_, rfl, ?_, by omega⟩)
        have ok := h.1.1
        simp [PyData.strOk]
        intro c hc
        rcases join_mem sep ss c hc with h | ⟨z, hz, hcz⟩
        · simp [PyData.strOk] at ok; exact ok c h
        · have := a2 z hz; simp [PyData.strOk] at this; exact this c hcz) fun _ => rfl

end
end Mine
end

section
open PySem
set_option autoImplicit false
set_option maxRecDepth 100000
namespace Mine.L06
noncomputable def z_num : List Nat := [110, 117, 109]
theorem z_num_e : ("num" : Str) = ⟨z_num.toArray⟩ := by kernel_rfl
theorem z_num_k : (PyData.strOk ⟨z_num.toArray⟩ && Nat.ble z_num.length 1000) = true := by kernel_rfl
noncomputable def z_name : List Nat := [110, 97, 109, 101]
theorem z_name_e : ("name" : Str) = ⟨z_name.toArray⟩ := by kernel_rfl
theorem z_name_k : (PyData.strOk ⟨z_name.toArray⟩ && Nat.ble z_name.length 1000) = true := by kernel_rfl
noncomputable def z_fun : List Nat := [102, 117, 110]
theorem z_fun_e : ("fun" : Str) = ⟨z_fun.toArray⟩ := by kernel_rfl
theorem z_fun_k : (PyData.strOk ⟨z_fun.toArray⟩ && Nat.ble z_fun.length 1000) = true := by kernel_rfl
noncomputable def z_let : List Nat := [108, 101, 116]
theorem z_let_e : ("let" : Str) = ⟨z_let.toArray⟩ := by kernel_rfl
theorem z_let_k : (PyData.strOk ⟨z_let.toArray⟩ && Nat.ble z_let.length 1000) = true := by kernel_rfl
noncomputable def z_u40u : List Nat := [40]
theorem z_u40u_e : ("(" : Str) = ⟨z_u40u.toArray⟩ := by kernel_rfl
theorem z_u40u_k : (PyData.strOk ⟨z_u40u.toArray⟩ && Nat.ble z_u40u.length 1000) = true := by kernel_rfl
noncomputable def z_u32u : List Nat := [32]
theorem z_u32u_e : (" " : Str) = ⟨z_u32u.toArray⟩ := by kernel_rfl
theorem z_u32u_k : (PyData.strOk ⟨z_u32u.toArray⟩ && Nat.ble z_u32u.length 1000) = true := by kernel_rfl
noncomputable def z_u41u : List Nat := [41]
theorem z_u41u_e : (")" : Str) = ⟨z_u41u.toArray⟩ := by kernel_rfl
theorem z_u41u_k : (PyData.strOk ⟨z_u41u.toArray⟩ && Nat.ble z_u41u.length 1000) = true := by kernel_rfl
noncomputable def z_ : List Nat := []
theorem z__e : ("" : Str) = ⟨z_.toArray⟩ := by kernel_rfl
theorem z__k : (PyData.strOk ⟨z_.toArray⟩ && Nat.ble z_.length 1000) = true := by kernel_rfl
noncomputable def z_u32uu40uu32u : List Nat := [32, 40, 32]
theorem z_u32uu40uu32u_e : (" ( " : Str) = ⟨z_u32uu40uu32u.toArray⟩ := by kernel_rfl
theorem z_u32uu40uu32u_k : (PyData.strOk ⟨z_u32uu40uu32u.toArray⟩ && Nat.ble z_u32uu40uu32u.length 1000) = true := by kernel_rfl
noncomputable def z_u32uu41uu32u : List Nat := [32, 41, 32]
theorem z_u32uu41uu32u_e : (" ) " : Str) = ⟨z_u32uu41uu32u.toArray⟩ := by kernel_rfl
theorem z_u32uu41uu32u_k : (PyData.strOk ⟨z_u32uu41uu32u.toArray⟩ && Nat.ble z_u32uu41uu32u.length 1000) = true := by kernel_rfl
noncomputable def z_u45u : List Nat := [45]
theorem z_u45u_e : ("-" : Str) = ⟨z_u45u.toArray⟩ := by kernel_rfl
theorem z_u45u_k : (PyData.strOk ⟨z_u45u.toArray⟩ && Nat.ble z_u45u.length 1000) = true := by kernel_rfl
noncomputable def z_0 : List Nat := [48]
theorem z_0_e : ("0" : Str) = ⟨z_0.toArray⟩ := by kernel_rfl
theorem z_0_k : (PyData.strOk ⟨z_0.toArray⟩ && Nat.ble z_0.length 1000) = true := by kernel_rfl
noncomputable def z_call : List Nat := [99, 97, 108, 108]
theorem z_call_e : ("call" : Str) = ⟨z_call.toArray⟩ := by kernel_rfl
theorem z_call_k : (PyData.strOk ⟨z_call.toArray⟩ && Nat.ble z_call.length 1000) = true := by kernel_rfl
noncomputable def z_plus : List Nat := [112, 108, 117, 115]
theorem z_plus_e : ("plus" : Str) = ⟨z_plus.toArray⟩ := by kernel_rfl
theorem z_plus_k : (PyData.strOk ⟨z_plus.toArray⟩ && Nat.ble z_plus.length 1000) = true := by kernel_rfl
noncomputable def z_less : List Nat := [108, 101, 115, 115]
theorem z_less_e : ("less" : Str) = ⟨z_less.toArray⟩ := by kernel_rfl
theorem z_less_k : (PyData.strOk ⟨z_less.toArray⟩ && Nat.ble z_less.length 1000) = true := by kernel_rfl
noncomputable def z_if : List Nat := [105, 102]
theorem z_if_e : ("if" : Str) = ⟨z_if.toArray⟩ := by kernel_rfl
theorem z_if_k : (PyData.strOk ⟨z_if.toArray⟩ && Nat.ble z_if.length 1000) = true := by kernel_rfl
noncomputable def z_abcdefghijklmnopqrstuvwxyz : List Nat := [97, 98, 99, 100, 101, 102, 103, 104, 105, 106, 107, 108, 109, 110, 111, 112, 113, 114, 115, 116, 117, 118, 119, 120, 121, 122]
theorem z_abcdefghijklmnopqrstuvwxyz_e : ("abcdefghijklmnopqrstuvwxyz" : Str) = ⟨z_abcdefghijklmnopqrstuvwxyz.toArray⟩ := by kernel_rfl
theorem z_abcdefghijklmnopqrstuvwxyz_k : (PyData.strOk ⟨z_abcdefghijklmnopqrstuvwxyz.toArray⟩ && Nat.ble z_abcdefghijklmnopqrstuvwxyz.length 1000) = true := by kernel_rfl
noncomputable def z_u40uifu32u : List Nat := [40, 105, 102, 32]
theorem z_u40uifu32u_e : ("(if " : Str) = ⟨z_u40uifu32u.toArray⟩ := by kernel_rfl
theorem z_u40uifu32u_k : (PyData.strOk ⟨z_u40uifu32u.toArray⟩ && Nat.ble z_u40uifu32u.length 1000) = true := by kernel_rfl
noncomputable def z_u40uletu32u : List Nat := [40, 108, 101, 116, 32]
theorem z_u40uletu32u_e : ("(let " : Str) = ⟨z_u40uletu32u.toArray⟩ := by kernel_rfl
theorem z_u40uletu32u_k : (PyData.strOk ⟨z_u40uletu32u.toArray⟩ && Nat.ble z_u40uletu32u.length 1000) = true := by kernel_rfl
noncomputable def z_u40ufunu32u : List Nat := [40, 102, 117, 110, 32]
theorem z_u40ufunu32u_e : ("(fun " : Str) = ⟨z_u40ufunu32u.toArray⟩ := by kernel_rfl
theorem z_u40ufunu32u_k : (PyData.strOk ⟨z_u40ufunu32u.toArray⟩ && Nat.ble z_u40ufunu32u.length 1000) = true := by kernel_rfl
noncomputable def z_rest : List Nat := [114, 101, 115, 116]
theorem z_rest_e : ("rest" : Str) = ⟨z_rest.toArray⟩ := by kernel_rfl
theorem z_rest_k : (PyData.strOk ⟨z_rest.toArray⟩ && Nat.ble z_rest.length 1000) = true := by kernel_rfl
noncomputable def z_u32uu32u : List Nat := [32, 32]
theorem z_u32uu32u_e : ("  " : Str) = ⟨z_u32uu32u.toArray⟩ := by kernel_rfl
theorem z_u32uu32u_k : (PyData.strOk ⟨z_u32uu32u.toArray⟩ && Nat.ble z_u32uu32u.length 1000) = true := by kernel_rfl
noncomputable def z_u32uu32uu32u : List Nat := [32, 32, 32]
theorem z_u32uu32uu32u_e : ("   " : Str) = ⟨z_u32uu32uu32u.toArray⟩ := by kernel_rfl
theorem z_u32uu32uu32u_k : (PyData.strOk ⟨z_u32uu32uu32u.toArray⟩ && Nat.ble z_u32uu32uu32u.length 1000) = true := by kernel_rfl
noncomputable def z_u32uu32uu41u : List Nat := [32, 32, 41]
theorem z_u32uu32uu41u_e : ("  )" : Str) = ⟨z_u32uu32uu41u.toArray⟩ := by kernel_rfl
theorem z_u32uu32uu41u_k : (PyData.strOk ⟨z_u32uu32uu41u.toArray⟩ && Nat.ble z_u32uu32uu41u.length 1000) = true := by kernel_rfl
noncomputable def z_u32uu40u : List Nat := [32, 40]
theorem z_u32uu40u_e : (" (" : Str) = ⟨z_u32uu40u.toArray⟩ := by kernel_rfl
theorem z_u32uu40u_k : (PyData.strOk ⟨z_u32uu40u.toArray⟩ && Nat.ble z_u32uu40u.length 1000) = true := by kernel_rfl
noncomputable def z_u41uu32u : List Nat := [41, 32]
theorem z_u41uu32u_e : (") " : Str) = ⟨z_u41uu32u.toArray⟩ := by kernel_rfl
theorem z_u41uu32u_k : (PyData.strOk ⟨z_u41uu32u.toArray⟩ && Nat.ble z_u41uu32u.length 1000) = true := by kernel_rfl
noncomputable def z_u41uu32uu40u : List Nat := [41, 32, 40]
theorem z_u41uu32uu40u_e : (") (" : Str) = ⟨z_u41uu32uu40u.toArray⟩ := by kernel_rfl
theorem z_u41uu32uu40u_k : (PyData.strOk ⟨z_u41uu32uu40u.toArray⟩ && Nat.ble z_u41uu32uu40u.length 1000) = true := by kernel_rfl
noncomputable def z_u41uu40u : List Nat := [41, 40]
theorem z_u41uu40u_e : (")(" : Str) = ⟨z_u41uu40u.toArray⟩ := by kernel_rfl
theorem z_u41uu40u_k : (PyData.strOk ⟨z_u41uu40u.toArray⟩ && Nat.ble z_u41uu40u.length 1000) = true := by kernel_rfl
noncomputable def z_deep : List Nat := [100, 101, 101, 112]
theorem z_deep_e : ("deep" : Str) = ⟨z_deep.toArray⟩ := by kernel_rfl
theorem z_deep_k : (PyData.strOk ⟨z_deep.toArray⟩ && Nat.ble z_deep.length 1000) = true := by kernel_rfl
noncomputable def z_u40ufunu32udeepu32u : List Nat := [40, 102, 117, 110, 32, 100, 101, 101, 112, 32]
theorem z_u40ufunu32udeepu32u_e : ("(fun deep " : Str) = ⟨z_u40ufunu32udeepu32u.toArray⟩ := by kernel_rfl
theorem z_u40ufunu32udeepu32u_k : (PyData.strOk ⟨z_u40ufunu32udeepu32u.toArray⟩ && Nat.ble z_u40ufunu32udeepu32u.length 1000) = true := by kernel_rfl
noncomputable def fi_is_name : FI := ⟨namesAt PySem.Challenge.pw_uf010023_06 10, [("word", 0), ("sign", 1)], false⟩
noncomputable def fd_is_name : FD := ⟨["word"], fi_is_name, bodyAt PySem.Challenge.pw_uf010023_06 10⟩
noncomputable def fi_is_whole : FI := ⟨namesAt PySem.Challenge.pw_uf010023_06 11, [("number", 0)], false⟩
noncomputable def fd_is_whole : FD := ⟨["number"], fi_is_whole, bodyAt PySem.Challenge.pw_uf010023_06 11⟩
noncomputable def fi_is_node : FI := ⟨namesAt PySem.Challenge.pw_uf010023_06 12, [("node", 0)], false⟩
noncomputable def fd_is_node : FD := ⟨["node"], fi_is_node, bodyAt PySem.Challenge.pw_uf010023_06 12⟩
noncomputable def fi_parts : FI := ⟨namesAt PySem.Challenge.pw_uf010023_06 13, [("tree", 0)], false⟩
noncomputable def fd_parts : FD := ⟨["tree"], fi_parts, bodyAt PySem.Challenge.pw_uf010023_06 13⟩
noncomputable def fi_need_tree : FI := ⟨namesAt PySem.Challenge.pw_uf010023_06 14, [("tree", 0), ("waiting", 1), ("many", 2), ("node", 3)], false⟩
noncomputable def fd_need_tree : FD := ⟨["tree"], fi_need_tree, bodyAt PySem.Challenge.pw_uf010023_06 14⟩
noncomputable def fi_shown : FI := ⟨namesAt PySem.Challenge.pw_uf010023_06 17, [("tree", 0), ("found", 1), ("waiting", 2), ("node", 3), ("part", 4)], false⟩
noncomputable def fd_shown : FD := ⟨["tree"], fi_shown, bodyAt PySem.Challenge.pw_uf010023_06 17⟩
noncomputable def fi_words_of : FI := ⟨namesAt PySem.Challenge.pw_uf010023_06 18, [("line", 0)], true⟩
noncomputable def fd_words_of : FD := ⟨["line"], fi_words_of, bodyAt PySem.Challenge.pw_uf010023_06 18⟩
noncomputable def fi_atom : FI := ⟨namesAt PySem.Challenge.pw_uf010023_06 19, [("word", 0), ("figures", 1), ("sign", 2)], false⟩
noncomputable def fd_atom : FD := ⟨["word"], fi_atom, bodyAt PySem.Challenge.pw_uf010023_06 19⟩
noncomputable def fi_tree_of : FI := ⟨namesAt PySem.Challenge.pw_uf010023_06 20, [("item", 0)], false⟩
noncomputable def fd_tree_of : FD := ⟨["item"], fi_tree_of, bodyAt PySem.Challenge.pw_uf010023_06 20⟩
noncomputable def fi_node_of : FI := ⟨namesAt PySem.Challenge.pw_uf010023_06 21, [("row", 0)], false⟩
noncomputable def fd_node_of : FD := ⟨["row"], fi_node_of, bodyAt PySem.Challenge.pw_uf010023_06 21⟩
noncomputable def fi_read : FI := ⟨namesAt PySem.Challenge.pw_uf010023_06 22, [("line", 0), ("rows", 1), ("word", 2), ("node", 3), ("tree", 4)], true⟩
noncomputable def fd_read : FD := ⟨["line"], fi_read, bodyAt PySem.Challenge.pw_uf010023_06 22⟩
noncomputable def fi__law_cell_at : FI := ⟨namesAt PySem.Challenge.pw_uf010023_06 24, [("_law_script", 0), ("_law_k", 1)], false⟩
noncomputable def fd__law_cell_at : FD := ⟨["_law_script", "_law_k"], fi__law_cell_at, bodyAt PySem.Challenge.pw_uf010023_06 24⟩
noncomputable def fi__law_name_by : FI := ⟨namesAt PySem.Challenge.pw_uf010023_06 25, [("_law_cell", 0), ("_law_letters", 1), ("_law_word", 2), ("_law_turn", 3)], false⟩
noncomputable def fd__law_name_by : FD := ⟨["_law_cell"], fi__law_name_by, bodyAt PySem.Challenge.pw_uf010023_06 25⟩
noncomputable def fi__law_pair : FI := ⟨namesAt PySem.Challenge.pw_uf010023_06 26, [("_law_kind", 0), ("_law_name", 1), ("_law_one", 2), ("_law_other", 3), ("_law_word", 4), ("_law_last", 5)], false⟩
noncomputable def fd__law_pair : FD := ⟨["_law_kind", "_law_name", "_law_one", "_law_other"], fi__law_pair, bodyAt PySem.Challenge.pw_uf010023_06 26⟩
noncomputable def fi__law_built : FI := ⟨namesAt PySem.Challenge.pw_uf010023_06 27, [("_law_cells", 0), ("_law_stack", 1), ("_law_cell", 2), ("_law_kind", 3), ("_law_name", 4), ("_law_number", 5), ("_law_other", 6)], false⟩
noncomputable def fd__law_built : FD := ⟨["_law_cells"], fi__law_built, bodyAt PySem.Challenge.pw_uf010023_06 27⟩
noncomputable def fi__law_wide : FI := ⟨namesAt PySem.Challenge.pw_uf010023_06 28, [("_law_line", 0), ("_law_cell", 1)], true⟩
noncomputable def fd__law_wide : FD := ⟨["_law_line", "_law_cell"], fi__law_wide, bodyAt PySem.Challenge.pw_uf010023_06 28⟩
noncomputable def fi__law_same : FI := ⟨namesAt PySem.Challenge.pw_uf010023_06 29, [("_law_one", 0), ("_law_other", 1), ("_law_todo", 2), ("_law_pair_here", 3), ("_law_k", 4)], false⟩
noncomputable def fd__law_same : FD := ⟨["_law_one", "_law_other"], fi__law_same, bodyAt PySem.Challenge.pw_uf010023_06 29⟩
noncomputable def fi_law : FI := ⟨namesAt PySem.Challenge.pw_uf010023_06 30, [("_law_script", 0), ("_law_pair_here", 1), ("_law_k", 2), ("_law_line", 3), ("_law_great", 4), ("_law_wide_here", 5)], false⟩
noncomputable def fd_law : FD := ⟨["_law_script"], fi_law, bodyAt PySem.Challenge.pw_uf010023_06 30⟩
noncomputable def words : List (List Nat) := [z_num, z_name, z_fun, z_call, z_plus, z_less, z_if, z_let]
noncomputable def wordsV : List V := [.str z_num, .str z_name, .str z_fun, .str z_call, .str z_plus, .str z_less, .str z_if, .str z_let]
noncomputable def letters : List Nat := z_abcdefghijklmnopqrstuvwxyz
noncomputable def figs : List Nat := [48, 49, 50, 51, 52, 53, 54, 55, 56, 57]
noncomputable def lens : List (List Nat × Int) := [(z_num, 2), (z_name, 2), (z_fun, 3), (z_call, 3), (z_plus, 3), (z_less, 3), (z_if, 4), (z_let, 4)]
noncomputable def great : Int := 1000000000000000000000000000000000000000000000000000000000000
structure More (C : Cx) : Prop where
  words : GVal C "WORDS" (.tup wordsV)
  letters : GVal C "LETTERS" (.str letters)
  figs : GVal C "FIGURES" (.str figs)
  lens : GDic C "LENGTHS" lens
  most : GVal C "MOST_NODES" (.int 400)
  great : GVal C "GREAT" (.int great)

noncomputable def G : Gl := ⟨[("is_name", 60), ("is_whole", 67), ("is_node", 74), ("parts", 81), ("need_tree", 88), ("shown", 95), ("words_of", 102), ("atom", 109), ("tree_of", 116), ("node_of", 121), ("read", 128), ("_law_cell_at", 135), ("_law_name_by", 142), ("_law_pair", 149), ("_law_built", 156), ("_law_wide", 163), ("_law_same", 170), ("law", 177)], [(60, fd_is_name), (67, fd_is_whole), (74, fd_is_node), (81, fd_parts), (88, fd_need_tree), (95, fd_shown), (102, fd_words_of), (109, fd_atom), (116, fd_tree_of), (121, fd_node_of), (128, fd_read), (135, fd__law_cell_at), (142, fd__law_name_by), (149, fd__law_pair), (156, fd__law_built), (163, fd__law_wide), (170, fd__law_same), (177, fd_law)], ["len", "isinstance", "list", "tuple", "range", "reversed", "str", "int", "bool"], [.tuple, .str, .int, .bool, .list], More⟩
noncomputable def l_is_name_17 (d : Nat) : SL G d fi_is_name :=
(lCons (sIte true (eNotInS (eVar "sign" 1 ⟨18,11,18,15⟩ (by kernel_rfl)) (eGlobS "LETTERS" letters ⟨18,23,18,30⟩ (by kernel_rfl) fun _ m => m.letters) ⟨18,11,18,30⟩)
(lCons (sRet (eBool false 0 ⟨19,19,19,24⟩) ⟨19,12,19,24⟩) lNil)
lNil ⟨18,8,19,24⟩) lNil)
noncomputable def b_is_name (d : Nat) : SL G d fi_is_name :=
(lCons (sIte false (eBop (bCons false (eNot (eIsi (eVar "word" 0 ⟨15,22,15,26⟩ (by kernel_rfl)) .str ⟨15,11,15,21⟩ ⟨15,28,15,31⟩ ⟨15,11,15,32⟩ (by kernel_rfl)) ⟨15,7,15,32⟩) (bCons true (eNot (eLeLe (eInt 1 0 ⟨15,40,15,41⟩) (eLen (eVar "word" 0 ⟨15,49,15,53⟩ (by kernel_rfl)) ⟨15,45,15,48⟩ ⟨15,45,15,54⟩ (by kernel_rfl)) (eInt 8 0 ⟨15,58,15,59⟩) ⟨15,40,15,59⟩ rfl) ⟨15,36,15,59⟩) (bLast .Or (eInG false (eVar "word" 0 ⟨15,63,15,67⟩ (by kernel_rfl)) "WORDS" wordsV words ⟨15,71,15,76⟩ ⟨15,63,15,76⟩ (by kernel_rfl) rfl fun _ m => m.words)))) ⟨15,7,15,76⟩)
(lCons (sRet (eBool false 0 ⟨16,15,16,20⟩) ⟨16,8,16,20⟩) lNil)
lNil ⟨15,4,16,20⟩) (lCons (sFor "sign" (iStr (eVar "word" 0 ⟨17,16,17,20⟩ (by kernel_rfl))) (l_is_name_17 d) ⟨17,8,17,12⟩ ⟨17,4,19,24⟩) (lCons (sRet (eBool true 0 ⟨20,11,20,15⟩) ⟨20,4,20,15⟩) lNil)))
theorem b_is_name_x (d : Nat) : (b_is_name d).xs = fd_is_name.st := by kernel_rfl
noncomputable def b_is_whole (d : Nat) : SL G d fi_is_whole :=
(lCons (sRet (eBop (bCons false (eIsi (eVar "number" 0 ⟨22,22,22,28⟩ (by kernel_rfl)) .int ⟨22,11,22,21⟩ ⟨22,30,22,33⟩ ⟨22,11,22,34⟩ (by kernel_rfl)) (bLast .And (eNot (eIsi (eVar "number" 0 ⟨22,55,22,61⟩ (by kernel_rfl)) .bool ⟨22,44,22,54⟩ ⟨22,63,22,67⟩ ⟨22,44,22,68⟩ (by kernel_rfl)) ⟨22,40,22,68⟩))) ⟨22,11,22,69⟩) ⟨22,4,22,69⟩) lNil)
theorem b_is_whole_x (d : Nat) : (b_is_whole d).xs = fd_is_whole.st := by kernel_rfl
noncomputable def b_is_node (d : Nat) : SL G d fi_is_node :=
(lCons (sIte false (eBop (bCons false (eNot (eIsi (eVar "node" 0 ⟨24,22,24,26⟩ (by kernel_rfl)) .tuple ⟨24,11,24,21⟩ ⟨24,28,24,33⟩ ⟨24,11,24,34⟩ (by kernel_rfl)) ⟨24,7,24,34⟩) (bCons true (eEq (eLen (eVar "node" 0 ⟨24,42,24,46⟩ (by kernel_rfl)) ⟨24,38,24,41⟩ ⟨24,38,24,47⟩ (by kernel_rfl)) (eInt 0 0 ⟨24,51,24,52⟩) ⟨24,38,24,52⟩) (bLast .Or (eNot (eIsi (eIdxV false "node" 0 ⟨24,72,24,76⟩ (eInt 0 0 ⟨24,77,24,78⟩) ⟨24,72,24,79⟩ (by kernel_rfl)) .str ⟨24,61,24,71⟩ ⟨24,81,24,84⟩ ⟨24,61,24,85⟩ (by kernel_rfl)) ⟨24,57,24,85⟩)))) ⟨24,7,24,86⟩)
(lCons (sRet (eBool false 0 ⟨25,15,25,20⟩) ⟨25,8,25,20⟩) lNil)
lNil ⟨24,4,25,20⟩) (lCons (sIte true (eBop (bCons false (eInG true (eIdxV false "node" 0 ⟨26,7,26,11⟩ (eInt 0 0 ⟨26,12,26,13⟩) ⟨26,7,26,14⟩ (by kernel_rfl)) "WORDS" wordsV words ⟨26,22,26,27⟩ ⟨26,7,26,27⟩ (by kernel_rfl) rfl fun _ m => m.words) (bLast .Or (eNe (eLen (eVar "node" 0 ⟨26,35,26,39⟩ (by kernel_rfl)) ⟨26,31,26,34⟩ ⟨26,31,26,40⟩ (by kernel_rfl)) (eDicG "LENGTHS" lens (eIdxV false "node" 0 ⟨26,52,26,56⟩ (eInt 0 0 ⟨26,57,26,58⟩) ⟨26,52,26,59⟩ (by kernel_rfl)) ⟨26,44,26,51⟩ ⟨26,44,26,60⟩ (by kernel_rfl) fun _ m => m.lens) ⟨26,31,26,60⟩))) ⟨26,7,26,60⟩)
(lCons (sRet (eBool false 0 ⟨27,15,27,20⟩) ⟨27,8,27,20⟩) lNil)
lNil ⟨26,4,27,20⟩) (lCons (sIte false (eEq (eIdxV false "node" 0 ⟨28,7,28,11⟩ (eInt 0 0 ⟨28,12,28,13⟩) ⟨28,7,28,14⟩ (by kernel_rfl)) (eStr "num" z_num 0 ⟨28,18,28,23⟩ z_num_e z_num_k) ⟨28,7,28,23⟩)
(lCons (sRet (eBop (bCons false (eCall "is_whole" 67 (rCons (eIdxV false "node" 0 ⟨29,24,29,28⟩ (eInt 1 0 ⟨29,29,29,30⟩) ⟨29,24,29,31⟩ (by kernel_rfl)) rNil) ⟨29,15,29,23⟩ ⟨29,15,29,32⟩ (by kernel_rfl)) (bLast .And (eLtLt (eNeg (eGlobI "GREAT" great ⟨29,38,29,43⟩ (by kernel_rfl) fun _ m => m.great) ⟨29,37,29,43⟩) (eIdxV false "node" 0 ⟨29,46,29,50⟩ (eInt 1 0 ⟨29,51,29,52⟩) ⟨29,46,29,53⟩ (by kernel_rfl)) (eGlobI "GREAT" great ⟨29,56,29,61⟩ (by kernel_rfl) fun _ m => m.great) ⟨29,37,29,61⟩ rfl))) ⟨29,15,29,61⟩) ⟨29,8,29,61⟩) lNil)
lNil ⟨28,4,29,61⟩) (lCons (sIte false (eBop (bCons false (eEq (eIdxV false "node" 0 ⟨30,7,30,11⟩ (eInt 0 0 ⟨30,12,30,13⟩) ⟨30,7,30,14⟩ (by kernel_rfl)) (eStr "name" z_name 0 ⟨30,18,30,24⟩ z_name_e z_name_k) ⟨30,7,30,24⟩) (bCons false (eEq (eIdxV false "node" 0 ⟨30,28,30,32⟩ (eInt 0 0 ⟨30,33,30,34⟩) ⟨30,28,30,35⟩ (by kernel_rfl)) (eStr "fun" z_fun 0 ⟨30,39,30,44⟩ z_fun_e z_fun_k) ⟨30,28,30,44⟩) (bLast .Or (eEq (eIdxV false "node" 0 ⟨30,48,30,52⟩ (eInt 0 0 ⟨30,53,30,54⟩) ⟨30,48,30,55⟩ (by kernel_rfl)) (eStr "let" z_let 0 ⟨30,59,30,64⟩ z_let_e z_let_k) ⟨30,48,30,64⟩)))) ⟨30,7,30,64⟩)
(lCons (sRet (eCall "is_name" 60 (rCons (eIdxV false "node" 0 ⟨31,23,31,27⟩ (eInt 1 0 ⟨31,28,31,29⟩) ⟨31,23,31,30⟩ (by kernel_rfl)) rNil) ⟨31,15,31,22⟩ ⟨31,15,31,31⟩ (by kernel_rfl)) ⟨31,8,31,31⟩) lNil)
lNil ⟨30,4,31,31⟩) (lCons (sRet (eBool true 0 ⟨32,11,32,15⟩) ⟨32,4,32,15⟩) lNil)))))
theorem b_is_node_x (d : Nat) : (b_is_node d).xs = fd_is_node.st := by kernel_rfl
noncomputable def b_parts (d : Nat) : SL G d fi_parts :=
(lCons (sIte false (eBop (bCons false (eEq (eIdxV false "tree" 0 ⟨34,7,34,11⟩ (eInt 0 0 ⟨34,12,34,13⟩) ⟨34,7,34,14⟩ (by kernel_rfl)) (eStr "num" z_num 0 ⟨34,18,34,23⟩ z_num_e z_num_k) ⟨34,7,34,23⟩) (bLast .Or (eEq (eIdxV false "tree" 0 ⟨34,27,34,31⟩ (eInt 0 0 ⟨34,32,34,33⟩) ⟨34,27,34,34⟩ (by kernel_rfl)) (eStr "name" z_name 0 ⟨34,38,34,44⟩ z_name_e z_name_k) ⟨34,27,34,44⟩))) ⟨34,7,34,44⟩)
(lCons (sRet (eLst rNil ⟨35,15,35,17⟩ rfl) ⟨35,8,35,17⟩) lNil)
lNil ⟨34,4,35,17⟩) (lCons (sIte false (eBop (bCons false (eEq (eIdxV false "tree" 0 ⟨36,7,36,11⟩ (eInt 0 0 ⟨36,12,36,13⟩) ⟨36,7,36,14⟩ (by kernel_rfl)) (eStr "fun" z_fun 0 ⟨36,18,36,23⟩ z_fun_e z_fun_k) ⟨36,7,36,23⟩) (bLast .Or (eEq (eIdxV false "tree" 0 ⟨36,27,36,31⟩ (eInt 0 0 ⟨36,32,36,33⟩) ⟨36,27,36,34⟩ (by kernel_rfl)) (eStr "let" z_let 0 ⟨36,38,36,43⟩ z_let_e z_let_k) ⟨36,27,36,43⟩))) ⟨36,7,36,43⟩)
(lCons (sRet (eListT (eSlc (eVar "tree" 0 ⟨37,20,37,24⟩ (by kernel_rfl)) (dSome (eInt 2 0 ⟨37,25,37,26⟩)) dNone ⟨37,25,37,27⟩ ⟨37,20,37,28⟩) ⟨37,15,37,19⟩ ⟨37,15,37,29⟩ (by kernel_rfl)) ⟨37,8,37,29⟩) lNil)
lNil ⟨36,4,37,29⟩) (lCons (sRet (eListT (eSlc (eVar "tree" 0 ⟨38,16,38,20⟩ (by kernel_rfl)) (dSome (eInt 1 0 ⟨38,21,38,22⟩)) dNone ⟨38,21,38,23⟩ ⟨38,16,38,24⟩) ⟨38,11,38,15⟩ ⟨38,11,38,25⟩ (by kernel_rfl)) ⟨38,4,38,25⟩) lNil)))
theorem b_parts_x (d : Nat) : (b_parts d).xs = fd_parts.st := by kernel_rfl
noncomputable def c_need_tree_42 (d : Nat) : T G d fi_need_tree := (eNil true (eVar "waiting" 1 ⟨42,10,42,17⟩ (by kernel_rfl)) ⟨42,21,42,23⟩ ⟨42,10,42,23⟩)
noncomputable def l_need_tree_42 (d : Nat) : SL G d fi_need_tree :=
(lCons (sAsg "node" 3 (ePop "waiting" 1 ⟨43,15,43,22⟩ ⟨43,15,43,26⟩ ⟨43,15,43,28⟩ (by kernel_rfl)) ⟨43,8,43,12⟩ ⟨43,8,43,28⟩ (by kernel_rfl)) (lCons (sAsg "many" 2 (eAdd (eVar "many" 2 ⟨44,15,44,19⟩ (by kernel_rfl)) (eInt 1 0 ⟨44,22,44,23⟩) ⟨44,15,44,23⟩) ⟨44,8,44,12⟩ ⟨44,8,44,23⟩ (by kernel_rfl)) (lCons (sIte false (eBop (bCons true (eGt (eVar "many" 2 ⟨45,11,45,15⟩ (by kernel_rfl)) (eGlobI "MOST_NODES" 400 ⟨45,18,45,28⟩ (by kernel_rfl) fun _ m => m.most) ⟨45,11,45,28⟩) (bLast .Or (eNot (eCall "is_node" 74 (rCons (eVar "node" 3 ⟨45,44,45,48⟩ (by kernel_rfl)) rNil) ⟨45,36,45,43⟩ ⟨45,36,45,49⟩ (by kernel_rfl)) ⟨45,32,45,49⟩))) ⟨45,11,45,49⟩)
(lStuck [(.Raise (some (.Call (.Name "NoTree" ⟨46,18,46,24⟩) [.Constant (.str "no tree") 0 ⟨46,25,46,34⟩] [] ⟨46,18,46,35⟩)) none ⟨46,12,46,35⟩)])
lNil ⟨45,8,46,35⟩) (lCons (sExt "waiting" 1 (eCall "parts" 81 (rCons (eVar "node" 3 ⟨47,29,47,33⟩ (by kernel_rfl)) rNil) ⟨47,23,47,28⟩ ⟨47,23,47,34⟩ (by kernel_rfl)) ⟨47,8,47,15⟩ ⟨47,8,47,22⟩ ⟨47,8,47,35⟩ ⟨47,8,47,35⟩ (by kernel_rfl)) lNil))))
noncomputable def b_need_tree (d : Nat) : SL G d fi_need_tree :=
(lCons (sAsg "waiting" 1 (eLst (rCons (eVar "tree" 0 ⟨40,15,40,19⟩ (by kernel_rfl)) rNil) ⟨40,14,40,20⟩ rfl) ⟨40,4,40,11⟩ ⟨40,4,40,20⟩ (by kernel_rfl)) (lCons (sAsg "many" 2 (eInt 0 0 ⟨41,11,41,12⟩) ⟨41,4,41,8⟩ ⟨41,4,41,12⟩ (by kernel_rfl)) (lCons (sWhil (c_need_tree_42 d) (l_need_tree_42 d) ⟨42,4,47,35⟩) (lCons (sRetV "tree" 0 ⟨48,11,48,15⟩ ⟨48,4,48,15⟩ (by kernel_rfl)) lNil))))
theorem b_need_tree_x (d : Nat) : (b_need_tree d).xs = fd_need_tree.st := by kernel_rfl
noncomputable def l_shown_67 (d : Nat) : SL G d fi_shown :=
(lCons (sApp "waiting" 2 (eVar "part" 4 ⟨68,31,68,35⟩ (by kernel_rfl)) ⟨68,16,68,23⟩ ⟨68,16,68,30⟩ ⟨68,16,68,36⟩ ⟨68,16,68,36⟩ (by kernel_rfl)) (lCons (sApp "waiting" 2 (eStr " " z_u32u 0 ⟨69,31,69,34⟩ z_u32u_e z_u32u_k) ⟨69,16,69,23⟩ ⟨69,16,69,30⟩ ⟨69,16,69,35⟩ ⟨69,16,69,35⟩ (by kernel_rfl)) lNil))
noncomputable def c_shown_54 (d : Nat) : T G d fi_shown := (eNil true (eVar "waiting" 2 ⟨54,10,54,17⟩ (by kernel_rfl)) ⟨54,21,54,23⟩ ⟨54,10,54,23⟩)
noncomputable def l_shown_54 (d : Nat) : SL G d fi_shown :=
(lCons (sAsg "node" 3 (ePop "waiting" 2 ⟨55,15,55,22⟩ ⟨55,15,55,26⟩ ⟨55,15,55,28⟩ (by kernel_rfl)) ⟨55,8,55,12⟩ ⟨55,8,55,28⟩ (by kernel_rfl)) (lCons (sIte false (eIsi (eVar "node" 3 ⟨56,22,56,26⟩ (by kernel_rfl)) .str ⟨56,11,56,21⟩ ⟨56,28,56,31⟩ ⟨56,11,56,32⟩ (by kernel_rfl))
(lCons (sApp "found" 1 (eVar "node" 3 ⟨57,25,57,29⟩ (by kernel_rfl)) ⟨57,12,57,17⟩ ⟨57,12,57,24⟩ ⟨57,12,57,30⟩ ⟨57,12,57,30⟩ (by kernel_rfl)) lNil)
(lCons (sIte false (eEq (eIdxV false "node" 3 ⟨58,13,58,17⟩ (eInt 0 0 ⟨58,18,58,19⟩) ⟨58,13,58,20⟩ (by kernel_rfl)) (eStr "num" z_num 0 ⟨58,24,58,29⟩ z_num_e z_num_k) ⟨58,13,58,29⟩)
(lCons (sApp "found" 1 (eStrI (eIdxV false "node" 3 ⟨59,29,59,33⟩ (eInt 1 0 ⟨59,34,59,35⟩) ⟨59,29,59,36⟩ (by kernel_rfl)) ⟨59,25,59,28⟩ ⟨59,25,59,37⟩ (by kernel_rfl)) ⟨59,12,59,17⟩ ⟨59,12,59,24⟩ ⟨59,12,59,38⟩ ⟨59,12,59,38⟩ (by kernel_rfl)) lNil)
(lCons (sIte false (eEq (eIdxV false "node" 3 ⟨60,13,60,17⟩ (eInt 0 0 ⟨60,18,60,19⟩) ⟨60,13,60,20⟩ (by kernel_rfl)) (eStr "name" z_name 0 ⟨60,24,60,30⟩ z_name_e z_name_k) ⟨60,13,60,30⟩)
(lCons (sApp "found" 1 (eIdxV false "node" 3 ⟨61,25,61,29⟩ (eInt 1 0 ⟨61,30,61,31⟩) ⟨61,25,61,32⟩ (by kernel_rfl)) ⟨61,12,61,17⟩ ⟨61,12,61,24⟩ ⟨61,12,61,33⟩ ⟨61,12,61,33⟩ (by kernel_rfl)) lNil)
(lCons (sApp "found" 1 (eCat (eStr "(" z_u40u 0 ⟨63,25,63,28⟩ z_u40u_e z_u40u_k) (eIdxV false "node" 3 ⟨63,31,63,35⟩ (eInt 0 0 ⟨63,36,63,37⟩) ⟨63,31,63,38⟩ (by kernel_rfl)) ⟨63,25,63,38⟩) ⟨63,12,63,17⟩ ⟨63,12,63,24⟩ ⟨63,12,63,39⟩ ⟨63,12,63,39⟩ (by kernel_rfl)) (lCons (sIte false (eBop (bCons false (eEq (eIdxV false "node" 3 ⟨64,15,64,19⟩ (eInt 0 0 ⟨64,20,64,21⟩) ⟨64,15,64,22⟩ (by kernel_rfl)) (eStr "fun" z_fun 0 ⟨64,26,64,31⟩ z_fun_e z_fun_k) ⟨64,15,64,31⟩) (bLast .Or (eEq (eIdxV false "node" 3 ⟨64,35,64,39⟩ (eInt 0 0 ⟨64,40,64,41⟩) ⟨64,35,64,42⟩ (by kernel_rfl)) (eStr "let" z_let 0 ⟨64,46,64,51⟩ z_let_e z_let_k) ⟨64,35,64,51⟩))) ⟨64,15,64,51⟩)
(lCons (sApp "found" 1 (eCat (eStr " " z_u32u 0 ⟨65,29,65,32⟩ z_u32u_e z_u32u_k) (eIdxV false "node" 3 ⟨65,35,65,39⟩ (eInt 1 0 ⟨65,40,65,41⟩) ⟨65,35,65,42⟩ (by kernel_rfl)) ⟨65,29,65,42⟩) ⟨65,16,65,21⟩ ⟨65,16,65,28⟩ ⟨65,16,65,43⟩ ⟨65,16,65,43⟩ (by kernel_rfl)) lNil)
lNil ⟨64,12,65,43⟩) (lCons (sApp "waiting" 2 (eStr ")" z_u41u 0 ⟨66,27,66,30⟩ z_u41u_e z_u41u_k) ⟨66,12,66,19⟩ ⟨66,12,66,26⟩ ⟨66,12,66,31⟩ ⟨66,12,66,31⟩ (by kernel_rfl)) (lCons (sFor "part" (iRev (eCall "parts" 81 (rCons (eVar "node" 3 ⟨67,39,67,43⟩ (by kernel_rfl)) rNil) ⟨67,33,67,38⟩ ⟨67,33,67,44⟩ (by kernel_rfl)) ⟨67,24,67,32⟩ ⟨67,24,67,45⟩ (by kernel_rfl)) (l_shown_67 d) ⟨67,16,67,20⟩ ⟨67,12,69,35⟩) lNil)))) ⟨60,8,69,35⟩) lNil) ⟨58,8,69,35⟩) lNil) ⟨56,8,69,35⟩) lNil))
noncomputable def b_shown (d : Nat) : SL G d fi_shown :=
(lCons (sAsg "found" 1 (eLst rNil ⟨52,12,52,14⟩ rfl) ⟨52,4,52,9⟩ ⟨52,4,52,14⟩ (by kernel_rfl)) (lCons (sAsg "waiting" 2 (eLst (rCons (eVar "tree" 0 ⟨53,15,53,19⟩ (by kernel_rfl)) rNil) ⟨53,14,53,20⟩ rfl) ⟨53,4,53,11⟩ ⟨53,4,53,20⟩ (by kernel_rfl)) (lCons (sWhil (c_shown_54 d) (l_shown_54 d) ⟨54,4,69,35⟩) (lCons (sRet (eJoinT "" z_ 0 ⟨70,11,70,13⟩ (eVar "found" 1 ⟨70,19,70,24⟩ (by kernel_rfl)) ⟨70,11,70,18⟩ ⟨70,11,70,25⟩ z__e (by kernel_rfl)) ⟨70,4,70,25⟩) lNil))))
theorem b_shown_x (d : Nat) : (b_shown d).xs = fd_shown.st := by kernel_rfl
noncomputable def b_words_of (d : Nat) : SL G d fi_words_of :=
(lCons (sRet (eSplit (eRepl (eRepl (eVar "line" 0 ⟨72,11,72,15⟩ (by kernel_rfl)) "(" " ( " z_u40u z_u32uu40uu32u 0 0 ⟨72,24,72,27⟩ ⟨72,29,72,34⟩ ⟨72,11,72,23⟩ ⟨72,11,72,35⟩ z_u40u_e z_u32uu40uu32u_e (fun _ => rfl) (by kernel_rfl)) ")" " ) " z_u41u z_u32uu41uu32u 0 0 ⟨72,44,72,47⟩ ⟨72,49,72,54⟩ ⟨72,11,72,43⟩ ⟨72,11,72,55⟩ z_u41u_e z_u32uu41uu32u_e (fun _ => rfl) (by kernel_rfl)) " " 32 0 ⟨72,62,72,65⟩ ⟨72,11,72,61⟩ ⟨72,11,72,66⟩ (by kernel_rfl) (fun _ => rfl) (by kernel_rfl)) ⟨72,4,72,66⟩) lNil)
theorem b_words_of_x (d : Nat) : (b_words_of d).xs = fd_words_of.st := by kernel_rfl
noncomputable def l_atom_79 (d : Nat) : SL G d fi_atom :=
(lCons (sIte true (eNotInS (eVar "sign" 2 ⟨80,11,80,15⟩ (by kernel_rfl)) (eGlobS "FIGURES" figs ⟨80,23,80,30⟩ (by kernel_rfl) fun _ m => m.figs) ⟨80,11,80,30⟩)
(lStuck [(.Raise (some (.Call (.Name "NoText" ⟨81,18,81,24⟩) [.Constant (.str "no tree") 0 ⟨81,25,81,34⟩] [] ⟨81,18,81,35⟩)) none ⟨81,12,81,35⟩)])
lNil ⟨80,8,81,35⟩) lNil)
noncomputable def b_atom (d : Nat) : SL G d fi_atom :=
(lCons (sIte false (eCall "is_name" 60 (rCons (eVar "word" 0 ⟨74,15,74,19⟩ (by kernel_rfl)) rNil) ⟨74,7,74,14⟩ ⟨74,7,74,20⟩ (by kernel_rfl))
(lCons (sRet (eTup (rCons (eStr "name" z_name 0 ⟨75,16,75,22⟩ z_name_e z_name_k) (rCons (eVar "word" 0 ⟨75,24,75,28⟩ (by kernel_rfl)) rNil)) 0 ⟨75,15,75,29⟩ rfl) ⟨75,8,75,29⟩) lNil)
lNil ⟨74,4,75,29⟩) (lCons (sAsg "figures" 1 (eVar "word" 0 ⟨76,14,76,18⟩ (by kernel_rfl)) ⟨76,4,76,11⟩ ⟨76,4,76,18⟩ (by kernel_rfl)) (lCons (sIte true (eEq (eSlc (eVar "word" 0 ⟨77,7,77,11⟩ (by kernel_rfl)) dNone (dSome (eInt 1 0 ⟨77,13,77,14⟩)) ⟨77,12,77,14⟩ ⟨77,7,77,15⟩) (eStr "-" z_u45u 0 ⟨77,19,77,22⟩ z_u45u_e z_u45u_k) ⟨77,7,77,22⟩)
(lCons (sAsg "figures" 1 (eSlc (eVar "word" 0 ⟨78,18,78,22⟩ (by kernel_rfl)) (dSome (eInt 1 0 ⟨78,23,78,24⟩)) dNone ⟨78,23,78,25⟩ ⟨78,18,78,26⟩) ⟨78,8,78,15⟩ ⟨78,8,78,26⟩ (by kernel_rfl)) lNil)
lNil ⟨77,4,78,26⟩) (lCons (sFor "sign" (iStr (eVar "figures" 1 ⟨79,16,79,23⟩ (by kernel_rfl))) (l_atom_79 d) ⟨79,8,79,12⟩ ⟨79,4,81,35⟩) (lCons (sIte true (eBop (bCons false (eEq (eVar "figures" 1 ⟨82,7,82,14⟩ (by kernel_rfl)) (eStr "" z_ 0 ⟨82,18,82,20⟩ z__e z__k) ⟨82,7,82,20⟩) (bCons true (eGt (eLen (eVar "figures" 1 ⟨82,28,82,35⟩ (by kernel_rfl)) ⟨82,24,82,27⟩ ⟨82,24,82,36⟩ (by kernel_rfl)) (eInt 60 0 ⟨82,39,82,41⟩) ⟨82,24,82,41⟩) (bLast .Or (eBop (bCons true (eEq (eIdxV false "figures" 1 ⟨82,46,82,53⟩ (eInt 0 0 ⟨82,54,82,55⟩) ⟨82,46,82,56⟩ (by kernel_rfl)) (eStr "0" z_0 0 ⟨82,60,82,63⟩ z_0_e z_0_k) ⟨82,46,82,63⟩) (bLast .And (eNe (eVar "word" 0 ⟨82,68,82,72⟩ (by kernel_rfl)) (eStr "0" z_0 0 ⟨82,76,82,79⟩ z_0_e z_0_k) ⟨82,68,82,79⟩))) ⟨82,46,82,79⟩)))) ⟨82,7,82,80⟩)
(lStuck [(.Raise (some (.Call (.Name "NoText" ⟨83,14,83,20⟩) [.Constant (.str "no tree") 0 ⟨83,21,83,30⟩] [] ⟨83,14,83,31⟩)) none ⟨83,8,83,31⟩)])
lNil ⟨82,4,83,31⟩) (lCons (sRet (eTup (rCons (eStr "num" z_num 0 ⟨84,12,84,17⟩ z_num_e z_num_k) (rCons (eIntT (eVar "word" 0 ⟨84,23,84,27⟩ (by kernel_rfl)) ⟨84,19,84,22⟩ ⟨84,19,84,28⟩ (by kernel_rfl)) rNil)) 0 ⟨84,11,84,29⟩ rfl) ⟨84,4,84,29⟩) lNil))))))
theorem b_atom_x (d : Nat) : (b_atom d).xs = fd_atom.st := by kernel_rfl
noncomputable def b_tree_of (d : Nat) : SL G d fi_tree_of :=
(lCons (sIte false (eIsi (eVar "item" 0 ⟨86,18,86,22⟩ (by kernel_rfl)) .str ⟨86,7,86,17⟩ ⟨86,24,86,27⟩ ⟨86,7,86,28⟩ (by kernel_rfl))
(lCons (sRet (eCall "atom" 109 (rCons (eVar "item" 0 ⟨87,20,87,24⟩ (by kernel_rfl)) rNil) ⟨87,15,87,19⟩ ⟨87,15,87,25⟩ (by kernel_rfl)) ⟨87,8,87,25⟩) lNil)
lNil ⟨86,4,87,25⟩) (lCons (sRetV "item" 0 ⟨88,11,88,15⟩ ⟨88,4,88,15⟩ (by kernel_rfl)) lNil))
theorem b_tree_of_x (d : Nat) : (b_tree_of d).xs = fd_tree_of.st := by kernel_rfl
noncomputable def s_node_of_95_31 : Scope := ⟨.function, [(".0", .local), ("item", .local), ("tree_of", .globalImplicit)], false, false, []⟩
noncomputable def e_node_of_95_31 (d : Nat) : T G d (fi_node_of.inner s_node_of_95_31 "item" 1) := (eCall "tree_of" 116 (rCons (eVar "item" 1 ⟨95,40,95,44⟩ (by kernel_rfl)) rNil) ⟨95,32,95,39⟩ ⟨95,32,95,45⟩ (by kernel_rfl))
noncomputable def s_node_of_97_31 : Scope := ⟨.function, [(".0", .local), ("item", .local), ("tree_of", .globalImplicit)], false, false, []⟩
noncomputable def e_node_of_97_31 (d : Nat) : T G d (fi_node_of.inner s_node_of_97_31 "item" 1) := (eCall "tree_of" 116 (rCons (eVar "item" 1 ⟨97,40,97,44⟩ (by kernel_rfl)) rNil) ⟨97,32,97,39⟩ ⟨97,32,97,45⟩ (by kernel_rfl))
noncomputable def b_node_of (d : Nat) : SL G d fi_node_of :=
(lCons (sIte false (eBop (bCons false (eNil false (eVar "row" 0 ⟨90,7,90,10⟩ (by kernel_rfl)) ⟨90,14,90,16⟩ ⟨90,7,90,16⟩) (bLast .Or (eNot (eIsi (eIdxV false "row" 0 ⟨90,35,90,38⟩ (eInt 0 0 ⟨90,39,90,40⟩) ⟨90,35,90,41⟩ (by kernel_rfl)) .str ⟨90,24,90,34⟩ ⟨90,43,90,46⟩ ⟨90,24,90,47⟩ (by kernel_rfl)) ⟨90,20,90,47⟩))) ⟨90,7,90,47⟩)
(lStuck [(.Raise (some (.Call (.Name "NoText" ⟨91,14,91,20⟩) [.Constant (.str "no tree") 0 ⟨91,21,91,30⟩] [] ⟨91,14,91,31⟩)) none ⟨91,8,91,31⟩)])
lNil ⟨90,4,91,31⟩) (lCons (sIte false (eBop (bCons false (eBop (bCons false (eEq (eIdxV false "row" 0 ⟨92,7,92,10⟩ (eInt 0 0 ⟨92,11,92,12⟩) ⟨92,7,92,13⟩ (by kernel_rfl)) (eStr "fun" z_fun 0 ⟨92,17,92,22⟩ z_fun_e z_fun_k) ⟨92,7,92,22⟩) (bLast .And (eEq (eLen (eVar "row" 0 ⟨92,31,92,34⟩ (by kernel_rfl)) ⟨92,27,92,30⟩ ⟨92,27,92,35⟩ (by kernel_rfl)) (eInt 3 0 ⟨92,39,92,40⟩) ⟨92,27,92,40⟩))) ⟨92,7,92,40⟩) (bLast .Or (eBop (bCons false (eEq (eIdxV false "row" 0 ⟨92,45,92,48⟩ (eInt 0 0 ⟨92,49,92,50⟩) ⟨92,45,92,51⟩ (by kernel_rfl)) (eStr "let" z_let 0 ⟨92,55,92,60⟩ z_let_e z_let_k) ⟨92,45,92,60⟩) (bLast .And (eEq (eLen (eVar "row" 0 ⟨92,69,92,72⟩ (by kernel_rfl)) ⟨92,65,92,68⟩ ⟨92,65,92,73⟩ (by kernel_rfl)) (eInt 4 0 ⟨92,77,92,78⟩) ⟨92,65,92,78⟩))) ⟨92,45,92,78⟩))) ⟨92,7,92,79⟩)
(lCons (sIte false (eBop (bCons false (eNot (eIsi (eIdxV false "row" 0 ⟨93,26,93,29⟩ (eInt 1 0 ⟨93,30,93,31⟩) ⟨93,26,93,32⟩ (by kernel_rfl)) .str ⟨93,15,93,25⟩ ⟨93,34,93,37⟩ ⟨93,15,93,38⟩ (by kernel_rfl)) ⟨93,11,93,38⟩) (bLast .Or (eNot (eCall "is_name" 60 (rCons (eIdxV false "row" 0 ⟨93,54,93,57⟩ (eInt 1 0 ⟨93,58,93,59⟩) ⟨93,54,93,60⟩ (by kernel_rfl)) rNil) ⟨93,46,93,53⟩ ⟨93,46,93,61⟩ (by kernel_rfl)) ⟨93,42,93,61⟩))) ⟨93,11,93,61⟩)
(lStuck [(.Raise (some (.Call (.Name "NoText" ⟨94,18,94,24⟩) [.Constant (.str "no tree") 0 ⟨94,25,94,34⟩] [] ⟨94,18,94,35⟩)) none ⟨94,12,94,35⟩)])
lNil ⟨93,8,94,35⟩) (lCons (sRet (eTupL (eAddL (eSlc (eVar "row" 0 ⟨95,21,95,24⟩ (by kernel_rfl)) dNone (dSome (eInt 2 0 ⟨95,26,95,27⟩)) ⟨95,25,95,27⟩ ⟨95,21,95,28⟩) (eComp "item" 1 ⟨95,50,95,54⟩ (iList (eSlc (eVar "row" 0 ⟨95,58,95,61⟩ (by kernel_rfl)) (dSome (eInt 2 0 ⟨95,62,95,63⟩)) dNone ⟨95,62,95,64⟩ ⟨95,58,95,65⟩)) s_node_of_95_31 (e_node_of_95_31 d) ⟨95,31,95,66⟩ (by kernel_rfl)) ⟨95,21,95,66⟩) ⟨95,15,95,20⟩ ⟨95,15,95,67⟩ (by kernel_rfl)) ⟨95,8,95,67⟩) lNil))
lNil ⟨92,4,95,67⟩) (lCons (sIte false (eBop (bCons false (eBop (bCons false (eIn (eIdxV false "row" 0 ⟨96,7,96,10⟩ (eInt 0 0 ⟨96,11,96,12⟩) ⟨96,7,96,13⟩ (by kernel_rfl)) (eTup (rCons (eStr "call" z_call 0 ⟨96,18,96,24⟩ z_call_e z_call_k) (rCons (eStr "plus" z_plus 0 ⟨96,26,96,32⟩ z_plus_e z_plus_k) (rCons (eStr "less" z_less 0 ⟨96,34,96,40⟩ z_less_e z_less_k) rNil))) 0 ⟨96,17,96,41⟩ rfl) ⟨96,7,96,41⟩) (bLast .And (eEq (eLen (eVar "row" 0 ⟨96,50,96,53⟩ (by kernel_rfl)) ⟨96,46,96,49⟩ ⟨96,46,96,54⟩ (by kernel_rfl)) (eInt 3 0 ⟨96,58,96,59⟩) ⟨96,46,96,59⟩))) ⟨96,7,96,59⟩) (bLast .Or (eBop (bCons false (eEq (eIdxV false "row" 0 ⟨96,64,96,67⟩ (eInt 0 0 ⟨96,68,96,69⟩) ⟨96,64,96,70⟩ (by kernel_rfl)) (eStr "if" z_if 0 ⟨96,74,96,78⟩ z_if_e z_if_k) ⟨96,64,96,78⟩) (bLast .And (eEq (eLen (eVar "row" 0 ⟨96,87,96,90⟩ (by kernel_rfl)) ⟨96,83,96,86⟩ ⟨96,83,96,91⟩ (by kernel_rfl)) (eInt 4 0 ⟨96,95,96,96⟩) ⟨96,83,96,96⟩))) ⟨96,64,96,96⟩))) ⟨96,7,96,97⟩)
(lCons (sRet (eTupL (eAddL (eSlc (eVar "row" 0 ⟨97,21,97,24⟩ (by kernel_rfl)) dNone (dSome (eInt 1 0 ⟨97,26,97,27⟩)) ⟨97,25,97,27⟩ ⟨97,21,97,28⟩) (eComp "item" 1 ⟨97,50,97,54⟩ (iList (eSlc (eVar "row" 0 ⟨97,58,97,61⟩ (by kernel_rfl)) (dSome (eInt 1 0 ⟨97,62,97,63⟩)) dNone ⟨97,62,97,64⟩ ⟨97,58,97,65⟩)) s_node_of_97_31 (e_node_of_97_31 d) ⟨97,31,97,66⟩ (by kernel_rfl)) ⟨97,21,97,66⟩) ⟨97,15,97,20⟩ ⟨97,15,97,67⟩ (by kernel_rfl)) ⟨97,8,97,67⟩) lNil)
lNil ⟨96,4,97,67⟩) (lStuck [(.Raise (some (.Call (.Name "NoText" ⟨98,10,98,16⟩) [.Constant (.str "no tree") 0 ⟨98,17,98,26⟩] [] ⟨98,10,98,27⟩)) none ⟨98,4,98,27⟩)]))))
theorem b_node_of_x (d : Nat) : (b_node_of d).xs = fd_node_of.st := by kernel_rfl
noncomputable def l_read_103 (d : Nat) : SL G d fi_read :=
(lCons (sIte true (eEq (eVar "word" 2 ⟨104,11,104,15⟩ (by kernel_rfl)) (eStr "(" z_u40u 0 ⟨104,19,104,22⟩ z_u40u_e z_u40u_k) ⟨104,11,104,22⟩)
(lCons (sPush2 "rows" 1 ⟨105,12,105,16⟩ ⟨105,12,105,23⟩ ⟨105,24,105,26⟩ ⟨105,12,105,27⟩ ⟨105,12,105,27⟩ (by kernel_rfl)) lNil)
(lCons (sIte true (eEq (eVar "word" 2 ⟨106,13,106,17⟩ (by kernel_rfl)) (eStr ")" z_u41u 0 ⟨106,21,106,24⟩ z_u41u_e z_u41u_k) ⟨106,13,106,24⟩)
(lCons (sIte true (eEq (eLen (eVar "rows" 1 ⟨107,19,107,23⟩ (by kernel_rfl)) ⟨107,15,107,18⟩ ⟨107,15,107,24⟩ (by kernel_rfl)) (eInt 1 0 ⟨107,28,107,29⟩) ⟨107,15,107,29⟩)
(lStuck [(.Raise (some (.Call (.Name "NoText" ⟨108,22,108,28⟩) [.Constant (.str "no tree") 0 ⟨108,29,108,38⟩] [] ⟨108,22,108,39⟩)) none ⟨108,16,108,39⟩)])
lNil ⟨107,12,108,39⟩) (lCons (sAsg "node" 3 (eCall "node_of" 121 (rCons (ePop2 "rows" 1 ⟨109,27,109,31⟩ ⟨109,27,109,35⟩ ⟨109,27,109,37⟩ (by kernel_rfl)) rNil) ⟨109,19,109,26⟩ ⟨109,19,109,38⟩ (by kernel_rfl)) ⟨109,12,109,16⟩ ⟨109,12,109,38⟩ (by kernel_rfl)) (lCons (sApp2 "rows" 1 "node" 3 0 ⟨110,12,110,16⟩ ⟨110,18,110,19⟩ ⟨110,17,110,19⟩ ⟨110,12,110,20⟩ ⟨110,12,110,27⟩ ⟨110,28,110,32⟩ ⟨110,12,110,33⟩ ⟨110,12,110,33⟩ (by kernel_rfl)) lNil)))
(lCons (sIte true (eNe (eVar "word" 2 ⟨111,13,111,17⟩ (by kernel_rfl)) (eStr "" z_ 0 ⟨111,21,111,23⟩ z__e z__k) ⟨111,13,111,23⟩)
(lCons (sApp2 "rows" 1 "word" 2 0 ⟨112,12,112,16⟩ ⟨112,18,112,19⟩ ⟨112,17,112,19⟩ ⟨112,12,112,20⟩ ⟨112,12,112,27⟩ ⟨112,28,112,32⟩ ⟨112,12,112,33⟩ ⟨112,12,112,33⟩ (by kernel_rfl)) lNil)
lNil ⟨111,8,112,33⟩) lNil) ⟨106,8,112,33⟩) lNil) ⟨104,8,112,33⟩) lNil)
noncomputable def b_read (d : Nat) : SL G d fi_read :=
(lCons (sIte false (eNot (eIsi (eVar "line" 0 ⟨100,22,100,26⟩ (by kernel_rfl)) .str ⟨100,11,100,21⟩ ⟨100,28,100,31⟩ ⟨100,11,100,32⟩ (by kernel_rfl)) ⟨100,7,100,32⟩)
(lStuck [(.Raise (some (.Call (.Name "NoText" ⟨101,14,101,20⟩) [.Constant (.str "no text") 0 ⟨101,21,101,30⟩] [] ⟨101,14,101,31⟩)) none ⟨101,8,101,31⟩)])
lNil ⟨100,4,101,31⟩) (lCons (sAsg "rows" 1 (eNew2 ⟨102,12,102,14⟩ ⟨102,11,102,15⟩) ⟨102,4,102,8⟩ ⟨102,4,102,15⟩ (by kernel_rfl)) (lCons (sFor "word" (iList (eCall "words_of" 102 (rCons (eVar "line" 0 ⟨103,25,103,29⟩ (by kernel_rfl)) rNil) ⟨103,16,103,24⟩ ⟨103,16,103,30⟩ (by kernel_rfl))) (l_read_103 d) ⟨103,8,103,12⟩ ⟨103,4,112,33⟩) (lCons (sIte false (eBop (bCons false (eNe (eLen (eVar "rows" 1 ⟨113,11,113,15⟩ (by kernel_rfl)) ⟨113,7,113,10⟩ ⟨113,7,113,16⟩ (by kernel_rfl)) (eInt 1 0 ⟨113,20,113,21⟩) ⟨113,7,113,21⟩) (bLast .Or (eNe (eLen (eIdx false (eVarF "rows" 1 ⟨113,29,113,33⟩ (by kernel_rfl)) (eInt 0 0 ⟨113,34,113,35⟩) ⟨113,29,113,36⟩) ⟨113,25,113,28⟩ ⟨113,25,113,37⟩ (by kernel_rfl)) (eInt 1 0 ⟨113,41,113,42⟩) ⟨113,25,113,42⟩))) ⟨113,7,113,42⟩)
(lStuck [(.Raise (some (.Call (.Name "NoText" ⟨114,14,114,20⟩) [.Constant (.str "no tree") 0 ⟨114,21,114,30⟩] [] ⟨114,14,114,31⟩)) none ⟨114,8,114,31⟩)])
lNil ⟨113,4,114,31⟩) (lCons (sAsg "tree" 4 (eCall "tree_of" 116 (rCons (eIdx false (eIdx false (eVarF "rows" 1 ⟨115,19,115,23⟩ (by kernel_rfl)) (eInt 0 0 ⟨115,24,115,25⟩) ⟨115,19,115,26⟩) (eInt 0 0 ⟨115,27,115,28⟩) ⟨115,19,115,29⟩) rNil) ⟨115,11,115,18⟩ ⟨115,11,115,30⟩ (by kernel_rfl)) ⟨115,4,115,8⟩ ⟨115,4,115,30⟩ (by kernel_rfl)) (lCons (sTry (lCons (sRet (eCall "need_tree" 88 (rCons (eVar "tree" 4 ⟨117,25,117,29⟩ (by kernel_rfl)) rNil) ⟨117,15,117,24⟩ ⟨117,15,117,30⟩ (by kernel_rfl)) ⟨117,8,117,30⟩) lNil) (.ExceptHandler (some (.Name "NoTree" ⟨118,11,118,17⟩)) none [(.Raise (some (.Call (.Name "NoText" ⟨119,14,119,20⟩) [.Constant (.str "no tree") 0 ⟨119,21,119,30⟩] [] ⟨119,14,119,31⟩)) none ⟨119,8,119,31⟩)] ⟨118,4,119,31⟩) [] ⟨116,4,119,31⟩) lNil))))))
theorem b_read_x (d : Nat) : (b_read d).xs = fd_read.st := by kernel_rfl
noncomputable def b__law_cell_at (d : Nat) : SL G d fi__law_cell_at :=
(lCons (sIte true (eLt (eVar "_law_k" 1 ⟨122,7,122,13⟩ (by kernel_rfl)) (eLen (eVar "_law_script" 0 ⟨122,20,122,31⟩ (by kernel_rfl)) ⟨122,16,122,19⟩ ⟨122,16,122,32⟩ (by kernel_rfl)) ⟨122,7,122,32⟩)
(lCons (sRet (eIdxV true "_law_script" 0 ⟨123,15,123,26⟩ (eVar "_law_k" 1 ⟨123,27,123,33⟩ (by kernel_rfl)) ⟨123,15,123,34⟩ (by kernel_rfl)) ⟨123,8,123,34⟩) lNil)
lNil ⟨122,4,123,34⟩) (lCons (sRet (eInt 0 0 ⟨124,11,124,12⟩) ⟨124,4,124,12⟩) lNil))
theorem b__law_cell_at_x (d : Nat) : (b__law_cell_at d).xs = fd__law_cell_at.st := by kernel_rfl
noncomputable def l__law_name_by_128 (d : Nat) : SL G d fi__law_name_by :=
(lCons (sAsg "_law_word" 2 (eCat (eVar "_law_word" 2 ⟨129,20,129,29⟩ (by kernel_rfl)) (eIdxV true "_law_letters" 1 ⟨129,32,129,44⟩ (eMod (eAdd (eDiv (eVar "_law_cell" 0 ⟨129,46,129,55⟩ (by kernel_rfl)) (eInt 208 0 ⟨129,59,129,62⟩) ⟨129,46,129,62⟩) (eMul (eMul (eInt 5 0 ⟨129,65,129,66⟩) (eVar "_law_turn" 3 ⟨129,69,129,78⟩ (by kernel_rfl)) ⟨129,65,129,78⟩) (eVar "_law_turn" 3 ⟨129,81,129,90⟩ (by kernel_rfl)) ⟨129,65,129,90⟩) ⟨129,46,129,90⟩) (eInt 26 0 ⟨129,94,129,96⟩) ⟨129,45,129,96⟩) ⟨129,32,129,97⟩ (by kernel_rfl)) ⟨129,20,129,97⟩) ⟨129,8,129,17⟩ ⟨129,8,129,97⟩ (by kernel_rfl)) lNil)
noncomputable def b__law_name_by (d : Nat) : SL G d fi__law_name_by :=
(lCons (sAsg "_law_letters" 1 (eStr "abcdefghijklmnopqrstuvwxyz" z_abcdefghijklmnopqrstuvwxyz 0 ⟨126,19,126,47⟩ z_abcdefghijklmnopqrstuvwxyz_e z_abcdefghijklmnopqrstuvwxyz_k) ⟨126,4,126,16⟩ ⟨126,4,126,47⟩ (by kernel_rfl)) (lCons (sAsg "_law_word" 2 (eIdxV true "_law_letters" 1 ⟨127,16,127,28⟩ (eMod (eVar "_law_cell" 0 ⟨127,29,127,38⟩ (by kernel_rfl)) (eInt 26 0 ⟨127,41,127,43⟩) ⟨127,29,127,43⟩) ⟨127,16,127,44⟩ (by kernel_rfl)) ⟨127,4,127,13⟩ ⟨127,4,127,44⟩ (by kernel_rfl)) (lCons (sFor "_law_turn" (iRange (rCons (eMod (eDiv (eVar "_law_cell" 0 ⟨128,27,128,36⟩ (by kernel_rfl)) (eInt 26 0 ⟨128,40,128,42⟩) ⟨128,27,128,42⟩) (eInt 8 0 ⟨128,45,128,46⟩) ⟨128,27,128,46⟩) rNil) ⟨128,21,128,26⟩ ⟨128,21,128,47⟩ (by kernel_rfl)) (l__law_name_by_128 d) ⟨128,8,128,17⟩ ⟨128,4,129,97⟩) (lCons (sIte true (eIn (eVar "_law_word" 2 ⟨130,7,130,16⟩ (by kernel_rfl)) (eTup (rCons (eStr "num" z_num 0 ⟨130,21,130,26⟩ z_num_e z_num_k) (rCons (eStr "name" z_name 0 ⟨130,28,130,34⟩ z_name_e z_name_k) (rCons (eStr "fun" z_fun 0 ⟨130,36,130,41⟩ z_fun_e z_fun_k) (rCons (eStr "call" z_call 0 ⟨130,43,130,49⟩ z_call_e z_call_k) (rCons (eStr "plus" z_plus 0 ⟨130,51,130,57⟩ z_plus_e z_plus_k) (rCons (eStr "less" z_less 0 ⟨130,59,130,65⟩ z_less_e z_less_k) (rCons (eStr "if" z_if 0 ⟨130,67,130,71⟩ z_if_e z_if_k) (rCons (eStr "let" z_let 0 ⟨130,73,130,78⟩ z_let_e z_let_k) rNil)))))))) 0 ⟨130,20,130,79⟩ rfl) ⟨130,7,130,79⟩)
(lCons (sRet (eIdxV false "_law_word" 2 ⟨131,15,131,24⟩ (eInt 0 0 ⟨131,25,131,26⟩) ⟨131,15,131,27⟩ (by kernel_rfl)) ⟨131,8,131,27⟩) lNil)
lNil ⟨130,4,131,27⟩) (lCons (sRetV "_law_word" 2 ⟨132,11,132,20⟩ ⟨132,4,132,20⟩ (by kernel_rfl)) lNil)))))
theorem b__law_name_by_x (d : Nat) : (b__law_name_by d).xs = fd__law_name_by.st := by kernel_rfl
noncomputable def b__law_pair (d : Nat) : SL G d fi__law_pair :=
(lCons (sIte false (eLt (eVar "_law_kind" 0 ⟨134,7,134,16⟩ (by kernel_rfl)) (eInt 3 0 ⟨134,19,134,20⟩) ⟨134,7,134,20⟩)
(lCons (sAsg "_law_word" 4 (eIdx true (eLst (rCons (eStr "call" z_call 0 ⟨135,21,135,27⟩ z_call_e z_call_k) (rCons (eStr "plus" z_plus 0 ⟨135,29,135,35⟩ z_plus_e z_plus_k) (rCons (eStr "less" z_less 0 ⟨135,37,135,43⟩ z_less_e z_less_k) rNil))) ⟨135,20,135,44⟩ rfl) (eVar "_law_kind" 0 ⟨135,45,135,54⟩ (by kernel_rfl)) ⟨135,20,135,55⟩) ⟨135,8,135,17⟩ ⟨135,8,135,55⟩ (by kernel_rfl)) (lCons (sRet (eTup (rCons (eTup (rCons (eVar "_law_word" 4 ⟨136,17,136,26⟩ (by kernel_rfl)) (rCons (eIdxV false "_law_one" 2 ⟨136,28,136,36⟩ (eInt 0 0 ⟨136,37,136,38⟩) ⟨136,28,136,39⟩ (by kernel_rfl)) (rCons (eIdxV false "_law_other" 3 ⟨136,41,136,51⟩ (eInt 0 0 ⟨136,52,136,53⟩) ⟨136,41,136,54⟩ (by kernel_rfl)) rNil))) 0 ⟨136,16,136,55⟩ rfl) (rCons (eCat (eCat (eCat (eCat (eCat (eCat (eStr "(" z_u40u 0 ⟨136,57,136,60⟩ z_u40u_e z_u40u_k) (eVar "_law_word" 4 ⟨136,63,136,72⟩ (by kernel_rfl)) ⟨136,57,136,72⟩) (eStr " " z_u32u 0 ⟨136,75,136,78⟩ z_u32u_e z_u32u_k) ⟨136,57,136,78⟩) (eIdxV false "_law_one" 2 ⟨136,81,136,89⟩ (eInt 1 0 ⟨136,90,136,91⟩) ⟨136,81,136,92⟩ (by kernel_rfl)) ⟨136,57,136,92⟩) (eStr " " z_u32u 0 ⟨136,95,136,98⟩ z_u32u_e z_u32u_k) ⟨136,57,136,98⟩) (eIdxV false "_law_other" 3 ⟨136,101,136,111⟩ (eInt 1 0 ⟨136,112,136,113⟩) ⟨136,101,136,114⟩ (by kernel_rfl)) ⟨136,57,136,114⟩) (eStr ")" z_u41u 0 ⟨136,117,136,120⟩ z_u41u_e z_u41u_k) ⟨136,57,136,120⟩) rNil)) 0 ⟨136,15,136,121⟩ rfl) ⟨136,8,136,121⟩) lNil))
lNil ⟨134,4,136,121⟩) (lCons (sIte false (eEq (eVar "_law_kind" 0 ⟨137,7,137,16⟩ (by kernel_rfl)) (eInt 3 0 ⟨137,20,137,21⟩) ⟨137,7,137,21⟩)
(lCons (sAsg "_law_last" 5 (eTup (rCons (eStr "name" z_name 0 ⟨138,21,138,27⟩ z_name_e z_name_k) (rCons (eVar "_law_name" 1 ⟨138,29,138,38⟩ (by kernel_rfl)) rNil)) 0 ⟨138,20,138,39⟩ rfl) ⟨138,8,138,17⟩ ⟨138,8,138,39⟩ (by kernel_rfl)) (lCons (sRet (eTup (rCons (eTup (rCons (eStr "if" z_if 0 ⟨139,17,139,21⟩ z_if_e z_if_k) (rCons (eIdxV false "_law_one" 2 ⟨139,23,139,31⟩ (eInt 0 0 ⟨139,32,139,33⟩) ⟨139,23,139,34⟩ (by kernel_rfl)) (rCons (eIdxV false "_law_other" 3 ⟨139,36,139,46⟩ (eInt 0 0 ⟨139,47,139,48⟩) ⟨139,36,139,49⟩ (by kernel_rfl)) (rCons (eVar "_law_last" 5 ⟨139,51,139,60⟩ (by kernel_rfl)) rNil)))) 0 ⟨139,16,139,61⟩ rfl) (rCons (eCat (eCat (eCat (eCat (eCat (eCat (eStr "(if " z_u40uifu32u 0 ⟨139,63,139,69⟩ z_u40uifu32u_e z_u40uifu32u_k) (eIdxV false "_law_one" 2 ⟨139,72,139,80⟩ (eInt 1 0 ⟨139,81,139,82⟩) ⟨139,72,139,83⟩ (by kernel_rfl)) ⟨139,63,139,83⟩) (eStr " " z_u32u 0 ⟨139,86,139,89⟩ z_u32u_e z_u32u_k) ⟨139,63,139,89⟩) (eIdxV false "_law_other" 3 ⟨139,92,139,102⟩ (eInt 1 0 ⟨139,103,139,104⟩) ⟨139,92,139,105⟩ (by kernel_rfl)) ⟨139,63,139,105⟩) (eStr " " z_u32u 0 ⟨139,108,139,111⟩ z_u32u_e z_u32u_k) ⟨139,63,139,111⟩) (eVar "_law_name" 1 ⟨139,114,139,123⟩ (by kernel_rfl)) ⟨139,63,139,123⟩) (eStr ")" z_u41u 0 ⟨139,126,139,129⟩ z_u41u_e z_u41u_k) ⟨139,63,139,129⟩) rNil)) 0 ⟨139,15,139,130⟩ rfl) ⟨139,8,139,130⟩) lNil))
lNil ⟨137,4,139,130⟩) (lCons (sRet (eTup (rCons (eTup (rCons (eStr "let" z_let 0 ⟨140,13,140,18⟩ z_let_e z_let_k) (rCons (eVar "_law_name" 1 ⟨140,20,140,29⟩ (by kernel_rfl)) (rCons (eIdxV false "_law_one" 2 ⟨140,31,140,39⟩ (eInt 0 0 ⟨140,40,140,41⟩) ⟨140,31,140,42⟩ (by kernel_rfl)) (rCons (eIdxV false "_law_other" 3 ⟨140,44,140,54⟩ (eInt 0 0 ⟨140,55,140,56⟩) ⟨140,44,140,57⟩ (by kernel_rfl)) rNil)))) 0 ⟨140,12,140,58⟩ rfl) (rCons (eCat (eCat (eCat (eCat (eCat (eCat (eStr "(let " z_u40uletu32u 0 ⟨140,60,140,67⟩ z_u40uletu32u_e z_u40uletu32u_k) (eVar "_law_name" 1 ⟨140,70,140,79⟩ (by kernel_rfl)) ⟨140,60,140,79⟩) (eStr " " z_u32u 0 ⟨140,82,140,85⟩ z_u32u_e z_u32u_k) ⟨140,60,140,85⟩) (eIdxV false "_law_one" 2 ⟨140,88,140,96⟩ (eInt 1 0 ⟨140,97,140,98⟩) ⟨140,88,140,99⟩ (by kernel_rfl)) ⟨140,60,140,99⟩) (eStr " " z_u32u 0 ⟨140,102,140,105⟩ z_u32u_e z_u32u_k) ⟨140,60,140,105⟩) (eIdxV false "_law_other" 3 ⟨140,108,140,118⟩ (eInt 1 0 ⟨140,119,140,120⟩) ⟨140,108,140,121⟩ (by kernel_rfl)) ⟨140,60,140,121⟩) (eStr ")" z_u41u 0 ⟨140,124,140,127⟩ z_u41u_e z_u41u_k) ⟨140,60,140,127⟩) rNil)) 0 ⟨140,11,140,128⟩ rfl) ⟨140,4,140,128⟩) lNil)))
theorem b__law_pair_x (d : Nat) : (b__law_pair d).xs = fd__law_pair.st := by kernel_rfl
noncomputable def l__law_built_143 (d : Nat) : SL G d fi__law_built :=
(lCons (sAsg "_law_kind" 3 (eMod (eVar "_law_cell" 2 ⟨144,20,144,29⟩ (by kernel_rfl)) (eInt 9 0 ⟨144,32,144,33⟩) ⟨144,20,144,33⟩) ⟨144,8,144,17⟩ ⟨144,8,144,33⟩ (by kernel_rfl)) (lCons (sAsg "_law_name" 4 (eCall "_law_name_by" 142 (rCons (eDiv (eVar "_law_cell" 2 ⟨145,33,145,42⟩ (by kernel_rfl)) (eInt 9 0 ⟨145,46,145,47⟩) ⟨145,33,145,47⟩) rNil) ⟨145,20,145,32⟩ ⟨145,20,145,48⟩ (by kernel_rfl)) ⟨145,8,145,17⟩ ⟨145,8,145,48⟩ (by kernel_rfl)) (lCons (sAsg "_law_number" 5 (eAdd (eSub (eMod (eDiv (eVar "_law_cell" 2 ⟨146,22,146,31⟩ (by kernel_rfl)) (eInt 9 0 ⟨146,35,146,36⟩) ⟨146,22,146,36⟩) (eSub (eMul (eInt 2 0 ⟨146,40,146,41⟩) (ePow (eInt 10 0 ⟨146,44,146,46⟩) (eInt 60 0 ⟨146,50,146,52⟩) ⟨146,44,146,52⟩) ⟨146,40,146,52⟩) (eInt 1 0 ⟨146,55,146,56⟩) ⟨146,40,146,56⟩) ⟨146,22,146,57⟩) (ePow (eInt 10 0 ⟨146,60,146,62⟩) (eInt 60 0 ⟨146,66,146,68⟩) ⟨146,60,146,68⟩) ⟨146,22,146,68⟩) (eInt 1 0 ⟨146,71,146,72⟩) ⟨146,22,146,72⟩) ⟨146,8,146,19⟩ ⟨146,8,146,72⟩ (by kernel_rfl)) (lCons (sIte true (eEq (eMod (eDiv (eVar "_law_cell" 2 ⟨147,11,147,20⟩ (by kernel_rfl)) (eInt 9 0 ⟨147,24,147,25⟩) ⟨147,11,147,25⟩) (eInt 3 0 ⟨147,28,147,29⟩) ⟨147,11,147,29⟩) (eInt 1 0 ⟨147,33,147,34⟩) ⟨147,11,147,34⟩)
(lCons (sAsg "_law_number" 5 (eSub (eMod (eDiv (eVar "_law_cell" 2 ⟨148,26,148,35⟩ (by kernel_rfl)) (eInt 27 0 ⟨148,39,148,41⟩) ⟨148,26,148,41⟩) (eInt 5 0 ⟨148,44,148,45⟩) ⟨148,26,148,45⟩) (eInt 2 0 ⟨148,48,148,49⟩) ⟨148,26,148,49⟩) ⟨148,12,148,23⟩ ⟨148,12,148,49⟩ (by kernel_rfl)) lNil)
lNil ⟨147,8,148,49⟩) (lCons (sIte false (eBop (bCons true (eLt (eVar "_law_kind" 3 ⟨149,11,149,20⟩ (by kernel_rfl)) (eInt 2 0 ⟨149,23,149,24⟩) ⟨149,11,149,24⟩) (bLast .Or (eNot (eVar "_law_stack" 1 ⟨149,32,149,42⟩ (by kernel_rfl)) ⟨149,28,149,42⟩))) ⟨149,11,149,42⟩)
(lCons (sApp "_law_stack" 1 (eTup (rCons (eTup (rCons (eStr "name" z_name 0 ⟨150,32,150,38⟩ z_name_e z_name_k) (rCons (eVar "_law_name" 4 ⟨150,40,150,49⟩ (by kernel_rfl)) rNil)) 0 ⟨150,31,150,50⟩ rfl) (rCons (eVar "_law_name" 4 ⟨150,52,150,61⟩ (by kernel_rfl)) rNil)) 0 ⟨150,30,150,62⟩ rfl) ⟨150,12,150,22⟩ ⟨150,12,150,29⟩ ⟨150,12,150,63⟩ ⟨150,12,150,63⟩ (by kernel_rfl)) lNil)
(lCons (sIte true (eBop (bCons true (eEq (eVar "_law_kind" 3 ⟨151,13,151,22⟩ (by kernel_rfl)) (eInt 2 0 ⟨151,26,151,27⟩) ⟨151,13,151,27⟩) (bLast .Or (eBop (bCons true (eGt (eVar "_law_kind" 3 ⟨151,32,151,41⟩ (by kernel_rfl)) (eInt 3 0 ⟨151,44,151,45⟩) ⟨151,32,151,45⟩) (bLast .And (eEq (eLen (eVar "_law_stack" 1 ⟨151,54,151,64⟩ (by kernel_rfl)) ⟨151,50,151,53⟩ ⟨151,50,151,65⟩ (by kernel_rfl)) (eInt 1 0 ⟨151,69,151,70⟩) ⟨151,50,151,70⟩))) ⟨151,32,151,70⟩))) ⟨151,13,151,71⟩)
(lCons (sApp "_law_stack" 1 (eTup (rCons (eTup (rCons (eStr "num" z_num 0 ⟨152,32,152,37⟩ z_num_e z_num_k) (rCons (eVar "_law_number" 5 ⟨152,39,152,50⟩ (by kernel_rfl)) rNil)) 0 ⟨152,31,152,51⟩ rfl) (rCons (eStrI (eVar "_law_number" 5 ⟨152,57,152,68⟩ (by kernel_rfl)) ⟨152,53,152,56⟩ ⟨152,53,152,69⟩ (by kernel_rfl)) rNil)) 0 ⟨152,30,152,70⟩ rfl) ⟨152,12,152,22⟩ ⟨152,12,152,29⟩ ⟨152,12,152,71⟩ ⟨152,12,152,71⟩ (by kernel_rfl)) lNil)
(lCons (sIte true (eEq (eVar "_law_kind" 3 ⟨153,13,153,22⟩ (by kernel_rfl)) (eInt 3 0 ⟨153,26,153,27⟩) ⟨153,13,153,27⟩)
(lCons (sSet "_law_stack" 1 (eNeg (eInt 1 0 ⟨154,24,154,25⟩) ⟨154,23,154,25⟩) (eTup (rCons (eTup (rCons (eStr "fun" z_fun 0 ⟨154,31,154,36⟩ z_fun_e z_fun_k) (rCons (eVar "_law_name" 4 ⟨154,38,154,47⟩ (by kernel_rfl)) (rCons (eIdx false (eIdxV false "_law_stack" 1 ⟨154,49,154,59⟩ (eNeg (eInt 1 0 ⟨154,61,154,62⟩) ⟨154,60,154,62⟩) ⟨154,49,154,63⟩ (by kernel_rfl)) (eInt 0 0 ⟨154,64,154,65⟩) ⟨154,49,154,66⟩) rNil))) 0 ⟨154,30,154,67⟩ rfl) (rCons (eCat (eCat (eCat (eCat (eStr "(fun " z_u40ufunu32u 0 ⟨154,69,154,76⟩ z_u40ufunu32u_e z_u40ufunu32u_k) (eVar "_law_name" 4 ⟨154,79,154,88⟩ (by kernel_rfl)) ⟨154,69,154,88⟩) (eStr " " z_u32u 0 ⟨154,91,154,94⟩ z_u32u_e z_u32u_k) ⟨154,69,154,94⟩) (eIdx false (eIdxV false "_law_stack" 1 ⟨154,97,154,107⟩ (eNeg (eInt 1 0 ⟨154,109,154,110⟩) ⟨154,108,154,110⟩) ⟨154,97,154,111⟩ (by kernel_rfl)) (eInt 1 0 ⟨154,112,154,113⟩) ⟨154,97,154,114⟩) ⟨154,69,154,114⟩) (eStr ")" z_u41u 0 ⟨154,117,154,120⟩ z_u41u_e z_u41u_k) ⟨154,69,154,120⟩) rNil)) 0 ⟨154,29,154,121⟩ rfl) ⟨154,12,154,22⟩ ⟨154,12,154,26⟩ ⟨154,12,154,121⟩ (by kernel_rfl)) lNil)
(lCons (sAsg "_law_other" 6 (ePop "_law_stack" 1 ⟨156,25,156,35⟩ ⟨156,25,156,39⟩ ⟨156,25,156,41⟩ (by kernel_rfl)) ⟨156,12,156,22⟩ ⟨156,12,156,41⟩ (by kernel_rfl)) (lCons (sSet "_law_stack" 1 (eNeg (eInt 1 0 ⟨157,24,157,25⟩) ⟨157,23,157,25⟩) (eCall "_law_pair" 149 (rCons (eSub (eVar "_law_kind" 3 ⟨157,39,157,48⟩ (by kernel_rfl)) (eInt 4 0 ⟨157,51,157,52⟩) ⟨157,39,157,52⟩) (rCons (eVar "_law_name" 4 ⟨157,54,157,63⟩ (by kernel_rfl)) (rCons (eIdxV false "_law_stack" 1 ⟨157,65,157,75⟩ (eNeg (eInt 1 0 ⟨157,77,157,78⟩) ⟨157,76,157,78⟩) ⟨157,65,157,79⟩ (by kernel_rfl)) (rCons (eVar "_law_other" 6 ⟨157,81,157,91⟩ (by kernel_rfl)) rNil)))) ⟨157,29,157,38⟩ ⟨157,29,157,92⟩ (by kernel_rfl)) ⟨157,12,157,22⟩ ⟨157,12,157,26⟩ ⟨157,12,157,92⟩ (by kernel_rfl)) lNil)) ⟨153,8,157,92⟩) lNil) ⟨151,8,157,92⟩) lNil) ⟨149,8,157,92⟩) lNil)))))
noncomputable def c__law_built_158 (d : Nat) : T G d fi__law_built := (eGt (eLen (eVar "_law_stack" 1 ⟨158,14,158,24⟩ (by kernel_rfl)) ⟨158,10,158,13⟩ ⟨158,10,158,25⟩ (by kernel_rfl)) (eInt 1 0 ⟨158,28,158,29⟩) ⟨158,10,158,29⟩)
noncomputable def l__law_built_158 (d : Nat) : SL G d fi__law_built :=
(lCons (sAsg "_law_other" 6 (ePop "_law_stack" 1 ⟨159,21,159,31⟩ ⟨159,21,159,35⟩ ⟨159,21,159,37⟩ (by kernel_rfl)) ⟨159,8,159,18⟩ ⟨159,8,159,37⟩ (by kernel_rfl)) (lCons (sSet "_law_stack" 1 (eNeg (eInt 1 0 ⟨160,20,160,21⟩) ⟨160,19,160,21⟩) (eCall "_law_pair" 149 (rCons (eMod (eLen (eVar "_law_stack" 1 ⟨160,39,160,49⟩ (by kernel_rfl)) ⟨160,35,160,38⟩ ⟨160,35,160,50⟩ (by kernel_rfl)) (eInt 4 0 ⟨160,53,160,54⟩) ⟨160,35,160,54⟩) (rCons (eStr "rest" z_rest 0 ⟨160,56,160,62⟩ z_rest_e z_rest_k) (rCons (eIdxV false "_law_stack" 1 ⟨160,64,160,74⟩ (eNeg (eInt 1 0 ⟨160,76,160,77⟩) ⟨160,75,160,77⟩) ⟨160,64,160,78⟩ (by kernel_rfl)) (rCons (eVar "_law_other" 6 ⟨160,80,160,90⟩ (by kernel_rfl)) rNil)))) ⟨160,25,160,34⟩ ⟨160,25,160,91⟩ (by kernel_rfl)) ⟨160,8,160,18⟩ ⟨160,8,160,22⟩ ⟨160,8,160,91⟩ (by kernel_rfl)) lNil))
noncomputable def b__law_built (d : Nat) : SL G d fi__law_built :=
(lCons (sAsg "_law_stack" 1 (eLst rNil ⟨142,17,142,19⟩ rfl) ⟨142,4,142,14⟩ ⟨142,4,142,19⟩ (by kernel_rfl)) (lCons (sFor "_law_cell" (iList (eVar "_law_cells" 0 ⟨143,21,143,31⟩ (by kernel_rfl))) (l__law_built_143 d) ⟨143,8,143,17⟩ ⟨143,4,157,92⟩) (lCons (sWhil (c__law_built_158 d) (l__law_built_158 d) ⟨158,4,160,91⟩) (lCons (sIte false (eVar "_law_stack" 1 ⟨161,7,161,17⟩ (by kernel_rfl))
(lCons (sRet (eIdxV false "_law_stack" 1 ⟨162,15,162,25⟩ (eInt 0 0 ⟨162,26,162,27⟩) ⟨162,15,162,28⟩ (by kernel_rfl)) ⟨162,8,162,28⟩) lNil)
lNil ⟨161,4,162,28⟩) (lCons (sRet (eTup (rCons (eTup (rCons (eStr "num" z_num 0 ⟨163,13,163,18⟩ z_num_e z_num_k) (rCons (eInt 0 0 ⟨163,20,163,21⟩) rNil)) 0 ⟨163,12,163,22⟩ rfl) (rCons (eStr "0" z_0 0 ⟨163,24,163,27⟩ z_0_e z_0_k) rNil)) 0 ⟨163,11,163,28⟩ rfl) ⟨163,4,163,28⟩) lNil)))))
theorem b__law_built_x (d : Nat) : (b__law_built d).xs = fd__law_built.st := by kernel_rfl
noncomputable def b__law_wide (d : Nat) : SL G d fi__law_wide :=
(lCons (sIte true (eEq (eMod (eVar "_law_cell" 1 ⟨165,7,165,16⟩ (by kernel_rfl)) (eInt 3 0 ⟨165,19,165,20⟩) ⟨165,7,165,20⟩) (eInt 0 0 ⟨165,24,165,25⟩) ⟨165,7,165,25⟩)
(lCons (sRet (eCat (eCat (eStr "  " z_u32uu32u 0 ⟨166,15,166,19⟩ z_u32uu32u_e z_u32uu32u_k) (eRepl (eRepl (eRepl (eVar "_law_line" 0 ⟨166,22,166,31⟩ (by kernel_rfl)) " " "   " z_u32u z_u32uu32uu32u 0 0 ⟨166,40,166,43⟩ ⟨166,45,166,50⟩ ⟨166,22,166,39⟩ ⟨166,22,166,51⟩ z_u32u_e z_u32uu32uu32u_e (fun _ => rfl) (by kernel_rfl)) "(" " ( " z_u40u z_u32uu40uu32u 0 0 ⟨166,60,166,63⟩ ⟨166,65,166,70⟩ ⟨166,22,166,59⟩ ⟨166,22,166,71⟩ z_u40u_e z_u32uu40uu32u_e (fun _ => rfl) (by kernel_rfl)) ")" "  )" z_u41u z_u32uu32uu41u 0 0 ⟨166,80,166,83⟩ ⟨166,85,166,90⟩ ⟨166,22,166,79⟩ ⟨166,22,166,91⟩ z_u41u_e z_u32uu32uu41u_e (fun _ => rfl) (by kernel_rfl)) ⟨166,15,166,91⟩) (eStr " " z_u32u 0 ⟨166,94,166,97⟩ z_u32u_e z_u32u_k) ⟨166,15,166,97⟩) ⟨166,8,166,97⟩) lNil)
lNil ⟨165,4,166,97⟩) (lCons (sIte true (eEq (eMod (eVar "_law_cell" 1 ⟨167,7,167,16⟩ (by kernel_rfl)) (eInt 3 0 ⟨167,19,167,20⟩) ⟨167,7,167,20⟩) (eInt 1 0 ⟨167,24,167,25⟩) ⟨167,7,167,25⟩)
(lCons (sRet (eRepl (eRepl (eVar "_law_line" 0 ⟨168,15,168,24⟩ (by kernel_rfl)) " (" "(" z_u32uu40u z_u40u 0 0 ⟨168,33,168,37⟩ ⟨168,39,168,42⟩ ⟨168,15,168,32⟩ ⟨168,15,168,43⟩ z_u32uu40u_e z_u40u_e (fun _ => rfl) (by kernel_rfl)) ") " ")" z_u41uu32u z_u41u 0 0 ⟨168,52,168,56⟩ ⟨168,58,168,61⟩ ⟨168,15,168,51⟩ ⟨168,15,168,62⟩ z_u41uu32u_e z_u41u_e (fun _ => rfl) (by kernel_rfl)) ⟨168,8,168,62⟩) lNil)
lNil ⟨167,4,168,62⟩) (lCons (sRet (eRepl (eRepl (eVar "_law_line" 0 ⟨169,11,169,20⟩ (by kernel_rfl)) ") (" ")(" z_u41uu32uu40u z_u41uu40u 0 0 ⟨169,29,169,34⟩ ⟨169,36,169,40⟩ ⟨169,11,169,28⟩ ⟨169,11,169,41⟩ z_u41uu32uu40u_e z_u41uu40u_e (fun _ => rfl) (by kernel_rfl)) " " "  " z_u32u z_u32uu32u 0 0 ⟨169,50,169,53⟩ ⟨169,55,169,59⟩ ⟨169,11,169,49⟩ ⟨169,11,169,60⟩ z_u32u_e z_u32uu32u_e (fun _ => rfl) (by kernel_rfl)) ⟨169,4,169,60⟩) lNil)))
theorem b__law_wide_x (d : Nat) : (b__law_wide d).xs = fd__law_wide.st := by kernel_rfl
noncomputable def l__law_same_177 (d : Nat) : SL G d fi__law_same :=
(lCons (sApp "_law_todo" 2 (eTup (rCons (eIdx true (eIdxV false "_law_pair_here" 3 ⟨178,34,178,48⟩ (eInt 0 0 ⟨178,49,178,50⟩) ⟨178,34,178,51⟩ (by kernel_rfl)) (eVar "_law_k" 4 ⟨178,52,178,58⟩ (by kernel_rfl)) ⟨178,34,178,59⟩) (rCons (eIdx true (eIdxV false "_law_pair_here" 3 ⟨178,61,178,75⟩ (eInt 1 0 ⟨178,76,178,77⟩) ⟨178,61,178,78⟩ (by kernel_rfl)) (eVar "_law_k" 4 ⟨178,79,178,85⟩ (by kernel_rfl)) ⟨178,61,178,86⟩) rNil)) 0 ⟨178,33,178,87⟩ rfl) ⟨178,16,178,25⟩ ⟨178,16,178,32⟩ ⟨178,16,178,88⟩ ⟨178,16,178,88⟩ (by kernel_rfl)) lNil)
noncomputable def c__law_same_172 (d : Nat) : T G d fi__law_same := (eVar "_law_todo" 2 ⟨172,10,172,19⟩ (by kernel_rfl))
noncomputable def l__law_same_172 (d : Nat) : SL G d fi__law_same :=
(lCons (sAsg "_law_pair_here" 3 (ePop "_law_todo" 2 ⟨173,25,173,34⟩ ⟨173,25,173,38⟩ ⟨173,25,173,40⟩ (by kernel_rfl)) ⟨173,8,173,22⟩ ⟨173,8,173,40⟩ (by kernel_rfl)) (lCons (sIte false (eIsi (eIdxV false "_law_pair_here" 3 ⟨174,22,174,36⟩ (eInt 0 0 ⟨174,37,174,38⟩) ⟨174,22,174,39⟩ (by kernel_rfl)) .tuple ⟨174,11,174,21⟩ ⟨174,41,174,46⟩ ⟨174,11,174,47⟩ (by kernel_rfl))
(lCons (sIte true (eBop (bCons false (eNot (eIsi (eIdxV false "_law_pair_here" 3 ⟨175,30,175,44⟩ (eInt 1 0 ⟨175,45,175,46⟩) ⟨175,30,175,47⟩ (by kernel_rfl)) .tuple ⟨175,19,175,29⟩ ⟨175,49,175,54⟩ ⟨175,19,175,55⟩ (by kernel_rfl)) ⟨175,15,175,55⟩) (bLast .Or (eNe (eLen (eIdxV false "_law_pair_here" 3 ⟨175,63,175,77⟩ (eInt 0 0 ⟨175,78,175,79⟩) ⟨175,63,175,80⟩ (by kernel_rfl)) ⟨175,59,175,62⟩ ⟨175,59,175,81⟩ (by kernel_rfl)) (eLen (eIdxV false "_law_pair_here" 3 ⟨175,89,175,103⟩ (eInt 1 0 ⟨175,104,175,105⟩) ⟨175,89,175,106⟩ (by kernel_rfl)) ⟨175,85,175,88⟩ ⟨175,85,175,107⟩ (by kernel_rfl)) ⟨175,59,175,107⟩))) ⟨175,15,175,107⟩)
(lCons (sRet (eBool false 0 ⟨176,23,176,28⟩) ⟨176,16,176,28⟩) lNil)
lNil ⟨175,12,176,28⟩) (lCons (sFor "_law_k" (iRange (rCons (eLen (eIdxV false "_law_pair_here" 3 ⟨177,36,177,50⟩ (eInt 0 0 ⟨177,51,177,52⟩) ⟨177,36,177,53⟩ (by kernel_rfl)) ⟨177,32,177,35⟩ ⟨177,32,177,54⟩ (by kernel_rfl)) rNil) ⟨177,26,177,31⟩ ⟨177,26,177,55⟩ (by kernel_rfl)) (l__law_same_177 d) ⟨177,16,177,22⟩ ⟨177,12,178,88⟩) lNil))
(lCons (sIte false (eBop (bCons false (eIsi (eIdxV false "_law_pair_here" 3 ⟨179,24,179,38⟩ (eInt 1 0 ⟨179,39,179,40⟩) ⟨179,24,179,41⟩ (by kernel_rfl)) .bool ⟨179,13,179,23⟩ ⟨179,43,179,47⟩ ⟨179,13,179,48⟩ (by kernel_rfl)) (bCons false (eNeS (eIsi (eIdxV false "_law_pair_here" 3 ⟨179,63,179,77⟩ (eInt 0 0 ⟨179,78,179,79⟩) ⟨179,63,179,80⟩ (by kernel_rfl)) .str ⟨179,52,179,62⟩ ⟨179,82,179,85⟩ ⟨179,52,179,86⟩ (by kernel_rfl)) (eIsi (eIdxV false "_law_pair_here" 3 ⟨179,101,179,115⟩ (eInt 1 0 ⟨179,116,179,117⟩) ⟨179,101,179,118⟩ (by kernel_rfl)) .str ⟨179,90,179,100⟩ ⟨179,120,179,123⟩ ⟨179,90,179,124⟩ (by kernel_rfl)) ⟨179,52,179,124⟩) (bLast .Or (eNeS (eIdxV false "_law_pair_here" 3 ⟨179,128,179,142⟩ (eInt 0 0 ⟨179,143,179,144⟩) ⟨179,128,179,145⟩ (by kernel_rfl)) (eIdxV false "_law_pair_here" 3 ⟨179,149,179,163⟩ (eInt 1 0 ⟨179,164,179,165⟩) ⟨179,149,179,166⟩ (by kernel_rfl)) ⟨179,128,179,166⟩)))) ⟨179,13,179,166⟩)
(lCons (sRet (eBool false 0 ⟨180,19,180,24⟩) ⟨180,12,180,24⟩) lNil)
lNil ⟨179,8,180,24⟩) lNil) ⟨174,8,180,24⟩) lNil))
noncomputable def b__law_same (d : Nat) : SL G d fi__law_same :=
(lCons (sAsg "_law_todo" 2 (eLst (rCons (eTup (rCons (eVar "_law_one" 0 ⟨171,18,171,26⟩ (by kernel_rfl)) (rCons (eVar "_law_other" 1 ⟨171,28,171,38⟩ (by kernel_rfl)) rNil)) 0 ⟨171,17,171,39⟩ rfl) rNil) ⟨171,16,171,40⟩ rfl) ⟨171,4,171,13⟩ ⟨171,4,171,40⟩ (by kernel_rfl)) (lCons (sWhil (c__law_same_172 d) (l__law_same_172 d) ⟨172,4,180,24⟩) (lCons (sRet (eBool true 0 ⟨181,11,181,15⟩) ⟨181,4,181,15⟩) lNil)))
theorem b__law_same_x (d : Nat) : (b__law_same d).xs = fd__law_same.st := by kernel_rfl
noncomputable def l_law_186 (d : Nat) : SL G d fi_law.on :=
(lCons (sAsg "_law_pair_here" 1 (eTup (rCons (eTup (rCons (eStr "fun" z_fun 0 ⟨187,31,187,36⟩ z_fun_e z_fun_k) (rCons (eStr "deep" z_deep 0 ⟨187,38,187,44⟩ z_deep_e z_deep_k) (rCons (eIdxV false "_law_pair_here" 1 ⟨187,46,187,60⟩ (eInt 0 0 ⟨187,61,187,62⟩) ⟨187,46,187,63⟩ (by kernel_rfl)) rNil))) 0 ⟨187,30,187,64⟩ rfl) (rCons (eCat (eCat (eStr "(fun deep " z_u40ufunu32udeepu32u 0 ⟨187,66,187,78⟩ z_u40ufunu32udeepu32u_e z_u40ufunu32udeepu32u_k) (eIdxV false "_law_pair_here" 1 ⟨187,81,187,95⟩ (eInt 1 0 ⟨187,96,187,97⟩) ⟨187,81,187,98⟩ (by kernel_rfl)) ⟨187,66,187,98⟩) (eStr ")" z_u41u 0 ⟨187,101,187,104⟩ z_u41u_e z_u41u_k) ⟨187,66,187,104⟩) rNil)) 0 ⟨187,29,187,105⟩ rfl) ⟨187,12,187,26⟩ ⟨187,12,187,105⟩ (by kernel_rfl)) lNil)
noncomputable def l_law_195 (d : Nat) : SL G d fi_law.on :=
(lCons (sAsg "_law_pair_here" 1 (eTup (rCons (eTup (rCons (eStr "fun" z_fun 0 ⟨196,31,196,36⟩ z_fun_e z_fun_k) (rCons (eStr "deep" z_deep 0 ⟨196,38,196,44⟩ z_deep_e z_deep_k) (rCons (eIdxV false "_law_pair_here" 1 ⟨196,46,196,60⟩ (eInt 0 0 ⟨196,61,196,62⟩) ⟨196,46,196,63⟩ (by kernel_rfl)) rNil))) 0 ⟨196,30,196,64⟩ rfl) (rCons (eCat (eCat (eStr "(fun deep " z_u40ufunu32udeepu32u 0 ⟨196,66,196,78⟩ z_u40ufunu32udeepu32u_e z_u40ufunu32udeepu32u_k) (eIdxV false "_law_pair_here" 1 ⟨196,81,196,95⟩ (eInt 1 0 ⟨196,96,196,97⟩) ⟨196,81,196,98⟩ (by kernel_rfl)) ⟨196,66,196,98⟩) (eStr ")" z_u41u 0 ⟨196,101,196,104⟩ z_u41u_e z_u41u_k) ⟨196,66,196,104⟩) rNil)) 0 ⟨196,29,196,105⟩ rfl) ⟨196,12,196,26⟩ ⟨196,12,196,105⟩ (by kernel_rfl)) lNil)
noncomputable def b_law (d : Nat) : SL G d fi_law :=
lTake (sAsg "_law_pair_here" 1 (eCall "_law_built" 156 (rCons (eSlc (eVar "_law_script" 0 ⟨183,32,183,43⟩ (by kernel_rfl)) (dSome (eInt 2 0 ⟨183,44,183,45⟩)) (dSome (eInt 62 0 ⟨183,46,183,48⟩)) ⟨183,44,183,48⟩ ⟨183,32,183,49⟩) rNil) ⟨183,21,183,31⟩ ⟨183,21,183,50⟩ (by kernel_rfl)) ⟨183,4,183,18⟩ ⟨183,4,183,50⟩ (by kernel_rfl)) ((lCons (sIte true (eEq (eMod (eCall "_law_cell_at" 135 (rCons (eVar "_law_script" 0 ⟨184,20,184,31⟩ (by kernel_rfl)) (rCons (eInt 1 0 ⟨184,33,184,34⟩) rNil)) ⟨184,7,184,19⟩ ⟨184,7,184,35⟩ (by kernel_rfl)) (eInt 8 0 ⟨184,38,184,39⟩) ⟨184,7,184,39⟩) (eInt 0 0 ⟨184,43,184,44⟩) ⟨184,7,184,44⟩)
(lCons (sAsg "_law_pair_here" 1 (eCall "_law_built" 156 (rCons (eSlc (eVar "_law_script" 0 ⟨185,36,185,47⟩ (by kernel_rfl)) (dSome (eInt 2 0 ⟨185,48,185,49⟩)) (dSome (eInt 22 0 ⟨185,50,185,52⟩)) ⟨185,48,185,52⟩ ⟨185,36,185,53⟩) rNil) ⟨185,25,185,35⟩ ⟨185,25,185,54⟩ (by kernel_rfl)) ⟨185,8,185,22⟩ ⟨185,8,185,54⟩ (by kernel_rfl)) (lCons (sFor "_law_k" (iRange (rCons (eInt 250 0 ⟨186,28,186,31⟩) rNil) ⟨186,22,186,27⟩ ⟨186,22,186,32⟩ (by kernel_rfl)) (l_law_186 d) ⟨186,12,186,18⟩ ⟨186,8,187,105⟩) lNil))
lNil ⟨184,4,187,105⟩) (lCons (sAsg "_law_line" 3 (eCall "shown" 95 (rCons (eIdxV false "_law_pair_here" 1 ⟨188,22,188,36⟩ (eInt 0 0 ⟨188,37,188,38⟩) ⟨188,22,188,39⟩ (by kernel_rfl)) rNil) ⟨188,16,188,21⟩ ⟨188,16,188,40⟩ (by kernel_rfl)) ⟨188,4,188,13⟩ ⟨188,4,188,40⟩ (by kernel_rfl)) (lCons (sIte false (eBop (bCons false (eNot (eIsi (eVar "_law_line" 3 ⟨189,22,189,31⟩ (by kernel_rfl)) .str ⟨189,11,189,21⟩ ⟨189,33,189,36⟩ ⟨189,11,189,37⟩ (by kernel_rfl)) ⟨189,7,189,37⟩) (bLast .Or (eNeS (eVar "_law_line" 3 ⟨189,41,189,50⟩ (by kernel_rfl)) (eIdxV false "_law_pair_here" 1 ⟨189,54,189,68⟩ (eInt 1 0 ⟨189,69,189,70⟩) ⟨189,54,189,71⟩ (by kernel_rfl)) ⟨189,41,189,71⟩))) ⟨189,7,189,71⟩)
(lCons (sRet (eBool false 0 ⟨190,15,190,20⟩) ⟨190,8,190,20⟩) lNil)
lNil ⟨189,4,190,20⟩) (lCons (sAsg "_law_great" 4 (eAdd (eMul (eMod (eCall "_law_cell_at" 135 (rCons (eVar "_law_script" 0 ⟨191,30,191,41⟩ (by kernel_rfl)) (rCons (eInt 1 0 ⟨191,43,191,44⟩) rNil)) ⟨191,17,191,29⟩ ⟨191,17,191,45⟩ (by kernel_rfl)) (ePow (eInt 10 0 ⟨191,48,191,50⟩) (eInt 9 0 ⟨191,54,191,55⟩) ⟨191,48,191,55⟩) ⟨191,17,191,55⟩) (ePow (eInt 10 0 ⟨191,58,191,60⟩) (eInt 64 0 ⟨191,64,191,66⟩) ⟨191,58,191,66⟩) ⟨191,17,191,66⟩) (eInt 7 0 ⟨191,69,191,70⟩) ⟨191,17,191,70⟩) ⟨191,4,191,14⟩ ⟨191,4,191,70⟩ (by kernel_rfl)) (lCons (sIte false (eBop (bCons false (eNeS (eCall "shown" 95 (rCons (eTup (rCons (eStr "num" z_num 0 ⟨192,14,192,19⟩ z_num_e z_num_k) (rCons (eVar "_law_great" 4 ⟨192,21,192,31⟩ (by kernel_rfl)) rNil)) 0 ⟨192,13,192,32⟩ rfl) rNil) ⟨192,7,192,12⟩ ⟨192,7,192,33⟩ (by kernel_rfl)) (eStrI (eVar "_law_great" 4 ⟨192,41,192,51⟩ (by kernel_rfl)) ⟨192,37,192,40⟩ ⟨192,37,192,52⟩ (by kernel_rfl)) ⟨192,7,192,52⟩) (bLast .Or (eNeS (eCall "shown" 95 (rCons (eTup (rCons (eStr "num" z_num 0 ⟨192,63,192,68⟩ z_num_e z_num_k) (rCons (eSub (eInt 0 0 ⟨192,70,192,71⟩) (eVar "_law_great" 4 ⟨192,74,192,84⟩ (by kernel_rfl)) ⟨192,70,192,84⟩) rNil)) 0 ⟨192,62,192,85⟩ rfl) rNil) ⟨192,56,192,61⟩ ⟨192,56,192,86⟩ (by kernel_rfl)) (eCat (eStr "-" z_u45u 0 ⟨192,90,192,93⟩ z_u45u_e z_u45u_k) (eStrI (eVar "_law_great" 4 ⟨192,100,192,110⟩ (by kernel_rfl)) ⟨192,96,192,99⟩ ⟨192,96,192,111⟩ (by kernel_rfl)) ⟨192,90,192,111⟩) ⟨192,56,192,111⟩))) ⟨192,7,192,111⟩)
(lCons (sRet (eBool false 0 ⟨193,15,193,20⟩) ⟨193,8,193,20⟩) lNil)
lNil ⟨192,4,193,20⟩) (lCons (sIte true (eEq (eMod (eCall "_law_cell_at" 135 (rCons (eVar "_law_script" 0 ⟨194,20,194,31⟩ (by kernel_rfl)) (rCons (eInt 1 0 ⟨194,33,194,34⟩) rNil)) ⟨194,7,194,19⟩ ⟨194,7,194,35⟩ (by kernel_rfl)) (eInt 16 0 ⟨194,38,194,40⟩) ⟨194,7,194,40⟩) (eInt 3 0 ⟨194,44,194,45⟩) ⟨194,7,194,45⟩)
(lCons (sFor "_law_k" (iRange (rCons (eInt 450 0 ⟨195,28,195,31⟩) rNil) ⟨195,22,195,27⟩ ⟨195,22,195,32⟩ (by kernel_rfl)) (l_law_195 d) ⟨195,12,195,18⟩ ⟨195,8,196,105⟩) (lCons (sRet (eEqS (eCall "shown" 95 (rCons (eIdxV false "_law_pair_here" 1 ⟨197,21,197,35⟩ (eInt 0 0 ⟨197,36,197,37⟩) ⟨197,21,197,38⟩ (by kernel_rfl)) rNil) ⟨197,15,197,20⟩ ⟨197,15,197,39⟩ (by kernel_rfl)) (eIdxV false "_law_pair_here" 1 ⟨197,43,197,57⟩ (eInt 1 0 ⟨197,58,197,59⟩) ⟨197,43,197,60⟩ (by kernel_rfl)) ⟨197,15,197,60⟩) ⟨197,8,197,60⟩) lNil))
lNil ⟨194,4,197,60⟩) (lCons (sAsg "_law_wide_here" 5 (eCall "_law_wide" 163 (rCons (eVar "_law_line" 3 ⟨198,31,198,40⟩ (by kernel_rfl)) (rCons (eCall "_law_cell_at" 135 (rCons (eVar "_law_script" 0 ⟨198,55,198,66⟩ (by kernel_rfl)) (rCons (eInt 0 0 ⟨198,68,198,69⟩) rNil)) ⟨198,42,198,54⟩ ⟨198,42,198,70⟩ (by kernel_rfl)) rNil)) ⟨198,21,198,30⟩ ⟨198,21,198,71⟩ (by kernel_rfl)) ⟨198,4,198,18⟩ ⟨198,4,198,71⟩ (by kernel_rfl)) (lCons (sRet (eBop (bCons false (eCall "_law_same" 170 (rCons (eIdxV false "_law_pair_here" 1 ⟨199,21,199,35⟩ (eInt 0 0 ⟨199,36,199,37⟩) ⟨199,21,199,38⟩ (by kernel_rfl)) (rCons (eCall "read" 128 (rCons (eVar "_law_line" 3 ⟨199,45,199,54⟩ (by kernel_rfl)) rNil) ⟨199,40,199,44⟩ ⟨199,40,199,55⟩ (by kernel_rfl)) rNil)) ⟨199,11,199,20⟩ ⟨199,11,199,56⟩ (by kernel_rfl)) (bLast .And (eCall "_law_same" 170 (rCons (eIdxV false "_law_pair_here" 1 ⟨199,71,199,85⟩ (eInt 0 0 ⟨199,86,199,87⟩) ⟨199,71,199,88⟩ (by kernel_rfl)) (rCons (eCall "read" 128 (rCons (eVar "_law_wide_here" 5 ⟨199,95,199,109⟩ (by kernel_rfl)) rNil) ⟨199,90,199,94⟩ ⟨199,90,199,110⟩ (by kernel_rfl)) rNil)) ⟨199,61,199,70⟩ ⟨199,61,199,111⟩ (by kernel_rfl)))) ⟨199,11,199,111⟩) ⟨199,4,199,111⟩) lNil))))))))) fun _ => tks_asg rfl (tks_call rfl (tks_sub (tks_slice tks_int)))
theorem b_law_x (d : Nat) : (b_law d).xs = fd_law.st := by kernel_rfl
end Mine.L06
end

section
open PySem
set_option autoImplicit false
set_option maxRecDepth 100000
namespace Mine.L06
noncomputable def isName (s : List Nat) : Bool := decide ((1 : Int) ≤ s.length) && (decide ((s.length : Int) ≤ 8) && (!words.any (· == s) && s.all (letters.contains ·)))
noncomputable def nmV (v : V) : Bool := V.casesOn v false (fun _ => false) (fun _ => false) isName (fun _ => false) (fun _ => false)
noncomputable def numV (v : V) : Bool := V.casesOn v false (fun _ => false) (fun i => decide (-great < i) && decide (i < great)) (fun _ => false) (fun _ => false) (fun _ => false)
noncomputable def wholeV (v : V) : Bool := V.casesOn v false (fun _ => false) (fun _ => true) (fun _ => false) (fun _ => false) (fun _ => false)
set_option genSizeOf false in
set_option genInjectivity false in
inductive Tree where
  | num (i : Int)
  | name (x : List Nat)
  | fn (x : List Nat) (b : Tree)
  | call (f a : Tree)
  | plus (a b : Tree)
  | less (a b : Tree)
  | ite (c a b : Tree)
  | lt (x : List Nat) (e b : Tree)
noncomputable def tv (t : Tree) : V := Tree.rec (fun i => .tup [.str z_num, .int i]) (fun x => .tup [.str z_name, .str x]) (fun x _ b => .tup [.str z_fun, .str x, b]) (fun _ _ f a => .tup [.str z_call, f, a]) (fun _ _ a b => .tup [.str z_plus, a, b]) (fun _ _ a b => .tup [.str z_less, a, b])
  (fun _ _ _ c a b => .tup [.str z_if, c, a, b]) (fun x _ _ e b => .tup [.str z_let, .str x, e, b]) t
noncomputable def ks (t : Tree) : List Tree := Tree.casesOn t (fun _ => []) (fun _ => []) (fun _ b => [b]) (fun a b => [b, a]) (fun a b => [b, a]) (fun a b => [b, a]) (fun c a b => [b, a, c]) (fun _ e b => [b, e])
noncomputable def sz (t : Tree) : Nat := Tree.rec (fun _ => 1) (fun _ => 1) (fun _ _ b => b + 1) (fun _ _ a b => a + b + 1) (fun _ _ a b => a + b + 1) (fun _ _ a b => a + b + 1) (fun _ _ _ a b c => a + b + c + 1) (fun _ _ _ a b => a + b + 1) t
def gd (t : Tree) : Prop := Tree.rec (fun i => numV (.int i) = true) (fun x => isName x = true) (fun x _ b => isName x = true ∧ b) (fun _ _ a b => a ∧ b) (fun _ _ a b => a ∧ b) (fun _ _ a b => a ∧ b) (fun _ _ _ a b c => a ∧ b ∧ c) (fun x _ _ a b => isName x = true ∧ a ∧ b) t
def ft (t : Tree) : Prop := Tree.rec (fun i => i.natAbs < 10 ^ 80) (fun x => x.length ≤ 8) (fun x _ b => x.length ≤ 8 ∧ b) (fun _ _ a b => a ∧ b) (fun _ _ a b => a ∧ b) (fun _ _ a b => a ∧ b) (fun _ _ _ a b c => a ∧ b ∧ c) (fun x _ _ a b => x.length ≤ 8 ∧ a ∧ b) t
noncomputable def szL (ts : List Tree) : Nat := @List.rec Tree (fun _ => Nat) 0 (fun t _ r => sz t + r) ts
def gdL (ts : List Tree) : Prop := @List.rec Tree (fun _ => Prop) True (fun t _ r => gd t ∧ r) ts
theorem sz_pos (t : Tree) : 1 ≤ sz t := by cases t <;> exact Nat.succ_le_succ (Nat.zero_le _)
theorem szL_app : ∀ a b : List Tree, szL (a ++ b) = szL a + szL b
  | [], b => (Nat.zero_add _).symm
  | t :: a, b => by show sz t + szL (a ++ b) = sz t + szL a + szL b; rw [szL_app a b, Nat.add_assoc]
theorem gdL_app : ∀ {a b : List Tree}, gdL a → gdL b → gdL (a ++ b)
  | [], _, _, h => h
  | t :: a, b, h, k => ⟨h.1, gdL_app h.2 k⟩
theorem ks_sz (t : Tree) : szL (ks t) + 1 = sz t := by
  cases t <;> (simp only [ks, szL, sz]; try omega)
theorem ks_gd {t : Tree} (g : gd t) : gdL (ks t) := by
  cases t
  · trivial
  · trivial
  · exact ⟨g.2, trivial⟩
  · exact ⟨g.2, g.1, trivial⟩
  · exact ⟨g.2, g.1, trivial⟩
  · exact ⟨g.2, g.1, trivial⟩
  · exact ⟨g.2.2, g.2.1, g.1, trivial⟩
  · exact ⟨g.2.2, g.2.1, trivial⟩
theorem name_len {x : List Nat} (h : isName x = true) : x.length ≤ 8 := by
  simp only [isName, Bool.and_eq_true, decide_eq_true_eq] at h
  omega
theorem num_in {i : Int} (h : numV (.int i) = true) : i.natAbs < 10 ^ 60 := by
  have h : (decide (-great < i) && decide (i < great)) = true := h
  rw [Bool.and_eq_true, decide_eq_true_eq, decide_eq_true_eq] at h
  have : great = 10 ^ 60 := by decide +kernel
  rw [this] at h
  omega
theorem gd_ft : ∀ t : Tree, gd t → ft t := by
  intro t
  induction t with
  | num i => intro h; exact Nat.lt_trans (num_in h) (by decide +kernel)
  | name x => exact name_len
  | fn x b ib => intro h; exact ⟨name_len h.1, ib h.2⟩
  | call a b ia ib => intro h; exact ⟨ia h.1, ib h.2⟩
  | plus a b ia ib => intro h; exact ⟨ia h.1, ib h.2⟩
  | less a b ia ib => intro h; exact ⟨ia h.1, ib h.2⟩
  | ite c a b ic ia ib => intro h; exact ⟨ic h.1, ia h.2.1, ib h.2.2⟩
  | lt x a b ia ib => intro h; exact ⟨name_len h.1, ia h.2.1, ib h.2.2⟩
end Mine.L06
end

section
open PySem
set_option autoImplicit false
set_option maxRecDepth 100000
namespace Mine.L06
theorem ok_whole (d : Nat) (v : V) : CallOK G (d + 1) 67 [v] (.val (.bool (wholeV v))) := by
  cases v <;> exact call_go (n := 0) (tp := []) (b_is_whole d) rfl (b_is_whole_x d) rfl (by kernel_rfl) (P := True) (by kernel_rfl) trivial
theorem name_loop (d : Nat) (u : V) : ∀ (l : List Nat) (o : Option O), ∃ fl ρ', ForOK G d fi_is_name (.Name "sign" ⟨17,8,17,12⟩) (l_is_name_17 d).xs (signsL l) [some (.val u), o] fl ρ' ∧ ((l.all (letters.contains ·) = true ∧ fl = .next ∧ ∃ o', ρ' = [some (.val u), o']) ∨ (l.all (letters.contains ·) = false ∧ fl = .ret (.val (.bool false))))
  | [], o => ⟨_, _, for_nil, .inl ⟨rfl, rfl, o, rfl⟩⟩
  | c :: l, o => by
    cases hc : letters.contains c with
    | true =>
      obtain ⟨fl, ρ', h1, h2⟩ := name_loop d u l (some (.val (.str [c])))
      refine ⟨fl, ρ', for_go (i := 1) (v := .str [c]) (l := signsL l) (ρ := [some (.val u), o]) (ρ' := [some (.val u), some (.val (.str [c]))]) (tp := [.b false]) (by kernel_rfl) (by kernel_rfl) (P := (!letters.contains c) = false ∧ True) (by kernel_rfl) ⟨by rw [hc]; rfl, trivial⟩ h1, ?_⟩
      rw [List.all_cons, hc, Bool.true_and]; exact h2
    | false => exact ⟨_, _, for_ret (i := 1) (v := .str [c]) (l := signsL l) (ρ := [some (.val u), o]) (ρ' := [some (.val u), some (.val (.str [c]))]) (o' := .val (.bool false)) (tp := [.b true]) (by kernel_rfl) (by kernel_rfl) (P := (!letters.contains c) = true ∧ True) (by kernel_rfl) ⟨by rw [hc]; rfl, trivial⟩, .inr ⟨by rw [List.all_cons, hc]; rfl, rfl⟩⟩
theorem ok_name (d : Nat) (v : V) : CallOK G (d + 1) 60 [v] (.val (.bool (nmV v))) := by
  cases v with
  | str s =>
    show CallOK _ _ _ _ (.val (.bool (isName s)))
    unfold isName
    cases h1 : decide ((1 : Int) ≤ s.length) with
    | false => exact call_go (n := 1) (tp := [.b false, .b true]) (b_is_name d) rfl (b_is_name_x d) rfl (by kernel_rfl) (P := true = true ∧ decide ((1 : Int) ≤ s.length) = false ∧ True) (by kernel_rfl) ⟨rfl, h1, trivial⟩
    | true =>
      cases h2 : decide ((s.length : Int) ≤ 8) with
      | false => exact call_go (n := 1) (tp := [.b true, .b true]) (b_is_name d) rfl (b_is_name_x d) rfl (by kernel_rfl) (P := (!decide ((s.length : Int) ≤ 8)) = true ∧ decide ((1 : Int) ≤ s.length) = true ∧ True) (by kernel_rfl) ⟨by rw [h2]; rfl, h1, trivial⟩
      | true =>
        cases h3 : words.any (· == s) with
        | true => exact call_go (n := 1) (tp := [.b true, .b false, .b true]) (b_is_name d) rfl (b_is_name_x d) rfl (by kernel_rfl) (P := true = words.any (· == s) ∧ (!decide ((s.length : Int) ≤ 8)) = false ∧ decide ((1 : Int) ≤ s.length) = true ∧ True) (by kernel_rfl) ⟨h3.symm, by rw [h2]; rfl, h1, trivial⟩
        | false =>
          obtain ⟨fl, ρ', k1, k2⟩ := name_loop d (.str s) s none
          rcases k2 with ⟨q, rfl, o', rfl⟩ | ⟨q, rfl⟩
          · rw [q]
            exact call_go (n := 1) (tp := [.b true, .b false, .b false, .l .next [some (.val (.str s)), o']]) (b_is_name d) rfl (b_is_name_x d) rfl (by kernel_rfl) (P := ForOK G d fi_is_name (.Name "sign" ⟨17,8,17,12⟩) (l_is_name_17 d).xs (signsL s) [some (.val (.str s)), none] .next [some (.val (.str s)), o'] ∧ false = words.any (· == s) ∧ (!decide ((s.length : Int) ≤ 8)) = false ∧ decide ((1 : Int) ≤ s.length) = true ∧ True) (by kernel_rfl) ⟨k1, h3.symm, by rw [h2]; rfl, h1, trivial⟩
          · rw [q]
            exact call_go (n := 1) (tp := [.b true, .b false, .b false, .l (.ret (.val (.bool false))) ρ']) (b_is_name d) rfl (b_is_name_x d) rfl (by kernel_rfl) (P := ForOK G d fi_is_name (.Name "sign" ⟨17,8,17,12⟩) (l_is_name_17 d).xs (signsL s) [some (.val (.str s)), none] (.ret (.val (.bool false))) ρ' ∧ false = words.any (· == s) ∧ (!decide ((s.length : Int) ≤ 8)) = false ∧ decide ((1 : Int) ≤ s.length) = true ∧ True) (by kernel_rfl) ⟨k1, h3.symm, by rw [h2]; rfl, h1, trivial⟩
  | _ => exact call_go (n := 1) (tp := []) (b_is_name d) rfl (b_is_name_x d) rfl (by kernel_rfl) (P := True) (by kernel_rfl) trivial

theorem node_num (d : Nat) {v : V} : CallOK G (d + 2) 74 [.tup [.str z_num, v]] (.val (.bool (numV v))) := by
  cases v with
  | int i =>
    show CallOK _ _ _ _ (.val (.bool (decide (-great < i) && decide (i < great))))
    cases h : decide (-great < i) with
    | true => exact call_go (n := 0) (tp := [.b false, .b false, .b false, .r (.val (.bool true)), .b true]) (b_is_node (d + 1)) rfl (b_is_node_x (d + 1)) rfl (by kernel_rfl) (P := decide (-great < i) = true ∧ CallOK G (d + 1) 67 [.int i] (.val (.bool true)) ∧ (!(Int.ofNat 2 == Int.ofNat 2)) = false ∧ false = (!words.any (· == z_num)) ∧ (Int.ofNat 2 == 0) = false ∧ True) (by kernel_rfl) ⟨h, ok_whole d (.int i), rfl, rfl, rfl, trivial⟩
    | false => exact call_go (n := 0) (tp := [.b false, .b false, .b false, .r (.val (.bool true)), .b false]) (b_is_node (d + 1)) rfl (b_is_node_x (d + 1)) rfl (by kernel_rfl) (P := decide (-great < i) = false ∧ CallOK G (d + 1) 67 [.int i] (.val (.bool true)) ∧ (!(Int.ofNat 2 == Int.ofNat 2)) = false ∧ false = (!words.any (· == z_num)) ∧ (Int.ofNat 2 == 0) = false ∧ True) (by kernel_rfl) ⟨h, ok_whole d (.int i), rfl, rfl, rfl, trivial⟩

  | none => exact call_go (n := 0) (tp := [.b false, .b false, .b false, .r (.val (.bool false))]) (b_is_node (d + 1)) rfl (b_is_node_x (d + 1)) rfl (by kernel_rfl) (P := CallOK G (d + 1) 67 [.none] (.val (.bool false)) ∧ (!(Int.ofNat 2 == Int.ofNat 2)) = false ∧ false = (!words.any (· == z_num)) ∧ (Int.ofNat 2 == 0) = false ∧ True) (by kernel_rfl) ⟨ok_whole d .none, rfl, rfl, rfl, trivial⟩
  | bool b => exact call_go (n := 0) (tp := [.b false, .b false, .b false, .r (.val (.bool false))]) (b_is_node (d + 1)) rfl (b_is_node_x (d + 1)) rfl (by kernel_rfl) (P := CallOK G (d + 1) 67 [(.bool b)] (.val (.bool false)) ∧ (!(Int.ofNat 2 == Int.ofNat 2)) = false ∧ false = (!words.any (· == z_num)) ∧ (Int.ofNat 2 == 0) = false ∧ True) (by kernel_rfl) ⟨ok_whole d (.bool b), rfl, rfl, rfl, trivial⟩
  | str s => exact call_go (n := 0) (tp := [.b false, .b false, .b false, .r (.val (.bool false))]) (b_is_node (d + 1)) rfl (b_is_node_x (d + 1)) rfl (by kernel_rfl) (P := CallOK G (d + 1) 67 [(.str s)] (.val (.bool false)) ∧ (!(Int.ofNat 2 == Int.ofNat 2)) = false ∧ false = (!words.any (· == z_num)) ∧ (Int.ofNat 2 == 0) = false ∧ True) (by kernel_rfl) ⟨ok_whole d (.str s), rfl, rfl, rfl, trivial⟩
  | tup l => exact call_go (n := 0) (tp := [.b false, .b false, .b false, .r (.val (.bool false))]) (b_is_node (d + 1)) rfl (b_is_node_x (d + 1)) rfl (by kernel_rfl) (P := CallOK G (d + 1) 67 [(.tup l)] (.val (.bool false)) ∧ (!(Int.ofNat 2 == Int.ofNat 2)) = false ∧ false = (!words.any (· == z_num)) ∧ (Int.ofNat 2 == 0) = false ∧ True) (by kernel_rfl) ⟨ok_whole d (.tup l), rfl, rfl, rfl, trivial⟩
  | lst l => exact call_go (n := 0) (tp := [.b false, .b false, .b false, .r (.val (.bool false))]) (b_is_node (d + 1)) rfl (b_is_node_x (d + 1)) rfl (by kernel_rfl) (P := CallOK G (d + 1) 67 [(.lst l)] (.val (.bool false)) ∧ (!(Int.ofNat 2 == Int.ofNat 2)) = false ∧ false = (!words.any (· == z_num)) ∧ (Int.ofNat 2 == 0) = false ∧ True) (by kernel_rfl) ⟨ok_whole d (.lst l), rfl, rfl, rfl, trivial⟩
theorem node_name (d : Nat) {v : V} : CallOK G (d + 2) 74 [.tup [.str z_name, v]] (.val (.bool (nmV v))) :=
  call_go (n := 0) (tp := [.b false, .b false, .b false, .r (.val (.bool (nmV v)))]) (b_is_node (d + 1)) rfl (b_is_node_x (d + 1)) rfl (by kernel_rfl) (P := CallOK G (d + 1) 60 [v] (.val (.bool (nmV v))) ∧ (!(Int.ofNat 2 == Int.ofNat 2)) = false ∧ false = (!words.any (· == z_name)) ∧ (Int.ofNat 2 == 0) = false ∧ True) (by kernel_rfl) ⟨ok_name d v, rfl, rfl, rfl, trivial⟩
theorem node_fun (d : Nat) {v b : V} : CallOK G (d + 2) 74 [.tup [.str z_fun, v, b]] (.val (.bool (nmV v))) :=
  call_go (n := 0) (tp := [.b false, .b false, .b false, .r (.val (.bool (nmV v)))]) (b_is_node (d + 1)) rfl (b_is_node_x (d + 1)) rfl (by kernel_rfl) (P := CallOK G (d + 1) 60 [v] (.val (.bool (nmV v))) ∧ (!(Int.ofNat 3 == Int.ofNat 3)) = false ∧ false = (!words.any (· == z_fun)) ∧ (Int.ofNat 3 == 0) = false ∧ True) (by kernel_rfl) ⟨ok_name d v, rfl, rfl, rfl, trivial⟩
theorem node_let (d : Nat) {v a b : V} : CallOK G (d + 2) 74 [.tup [.str z_let, v, a, b]] (.val (.bool (nmV v))) :=
  call_go (n := 0) (tp := [.b false, .b false, .b false, .r (.val (.bool (nmV v)))]) (b_is_node (d + 1)) rfl (b_is_node_x (d + 1)) rfl (by kernel_rfl) (P := CallOK G (d + 1) 60 [v] (.val (.bool (nmV v))) ∧ (!(Int.ofNat 4 == Int.ofNat 4)) = false ∧ false = (!words.any (· == z_let)) ∧ (Int.ofNat 4 == 0) = false ∧ True) (by kernel_rfl) ⟨ok_name d v, rfl, rfl, rfl, trivial⟩
theorem node_call (d : Nat) {a b : V} : CallOK G (d + 2) 74 [.tup [.str z_call, a, b]] (.val (.bool true)) :=
  call_go (n := 0) (tp := [.b false, .b false, .b false]) (b_is_node (d + 1)) rfl (b_is_node_x (d + 1)) rfl (by kernel_rfl) (P := (!(Int.ofNat 3 == Int.ofNat 3)) = false ∧ false = (!words.any (· == z_call)) ∧ (Int.ofNat 3 == 0) = false ∧ True) (by kernel_rfl) ⟨rfl, rfl, rfl, trivial⟩
theorem node_plus (d : Nat) {a b : V} : CallOK G (d + 2) 74 [.tup [.str z_plus, a, b]] (.val (.bool true)) :=
  call_go (n := 0) (tp := [.b false, .b false, .b false]) (b_is_node (d + 1)) rfl (b_is_node_x (d + 1)) rfl (by kernel_rfl) (P := (!(Int.ofNat 3 == Int.ofNat 3)) = false ∧ false = (!words.any (· == z_plus)) ∧ (Int.ofNat 3 == 0) = false ∧ True) (by kernel_rfl) ⟨rfl, rfl, rfl, trivial⟩
theorem node_less (d : Nat) {a b : V} : CallOK G (d + 2) 74 [.tup [.str z_less, a, b]] (.val (.bool true)) :=
  call_go (n := 0) (tp := [.b false, .b false, .b false]) (b_is_node (d + 1)) rfl (b_is_node_x (d + 1)) rfl (by kernel_rfl) (P := (!(Int.ofNat 3 == Int.ofNat 3)) = false ∧ false = (!words.any (· == z_less)) ∧ (Int.ofNat 3 == 0) = false ∧ True) (by kernel_rfl) ⟨rfl, rfl, rfl, trivial⟩
theorem node_if (d : Nat) {a b c : V} : CallOK G (d + 2) 74 [.tup [.str z_if, a, b, c]] (.val (.bool true)) :=
  call_go (n := 0) (tp := [.b false, .b false, .b false]) (b_is_node (d + 1)) rfl (b_is_node_x (d + 1)) rfl (by kernel_rfl) (P := (!(Int.ofNat 4 == Int.ofNat 4)) = false ∧ false = (!words.any (· == z_if)) ∧ (Int.ofNat 4 == 0) = false ∧ True) (by kernel_rfl) ⟨rfl, rfl, rfl, trivial⟩
theorem ok_node (d : Nat) {t : Tree} (g : gd t) : CallOK G (d + 2) 74 [tv t] (.val (.bool true)) := by
  cases t with
  | num i => have := node_num d (v := .int i); rwa [show numV (.int i) = true from g] at this
  | name x => have := node_name d (v := .str x); rwa [show nmV (.str x) = true from g] at this
  | fn x b => have := node_fun d (v := .str x) (b := tv b); rwa [show nmV (.str x) = true from g.1] at this
  | call a b => exact node_call d
  | plus a b => exact node_plus d
  | less a b => exact node_less d
  | ite c a b => exact node_if d
  | lt x e b => have := node_let d (v := .str x) (a := tv e) (b := tv b); rwa [show nmV (.str x) = true from g.1] at this
theorem ok_parts (d : Nat) (t : Tree) : CallOK G (d + 1) 81 [tv t] (.own ((ks t).map tv)) := by
  cases t with
  | num i => exact call_go (n := 0) (tp := []) (b_parts d) rfl (b_parts_x d) rfl (by kernel_rfl) (P := True) (by kernel_rfl) (by decide)
  | name x => exact call_go (n := 0) (tp := []) (b_parts d) rfl (b_parts_x d) rfl (by kernel_rfl) (P := True) (by kernel_rfl) (by decide)
  | fn x b => exact call_go (n := 0) (tp := []) (b_parts d) rfl (b_parts_x d) rfl (by kernel_rfl) (P := ((0 : Int) ≤ 2 ∧ (2 : Int) ≤ 1000000) ∧ True) (by kernel_rfl) (by decide)
  | call a b => exact call_go (n := 0) (tp := []) (b_parts d) rfl (b_parts_x d) rfl (by kernel_rfl) (P := ((0 : Int) ≤ 1 ∧ (1 : Int) ≤ 1000000) ∧ True) (by kernel_rfl) (by decide)
  | plus a b => exact call_go (n := 0) (tp := []) (b_parts d) rfl (b_parts_x d) rfl (by kernel_rfl) (P := ((0 : Int) ≤ 1 ∧ (1 : Int) ≤ 1000000) ∧ True) (by kernel_rfl) (by decide)
  | less a b => exact call_go (n := 0) (tp := []) (b_parts d) rfl (b_parts_x d) rfl (by kernel_rfl) (P := ((0 : Int) ≤ 1 ∧ (1 : Int) ≤ 1000000) ∧ True) (by kernel_rfl) (by decide)
  | ite c a b => exact call_go (n := 0) (tp := []) (b_parts d) rfl (b_parts_x d) rfl (by kernel_rfl) (P := ((0 : Int) ≤ 1 ∧ (1 : Int) ≤ 1000000) ∧ True) (by kernel_rfl) (by decide)
  | lt x e b => exact call_go (n := 0) (tp := []) (b_parts d) rfl (b_parts_x d) rfl (by kernel_rfl) (P := ((0 : Int) ≤ 2 ∧ (2 : Int) ≤ 1000000) ∧ True) (by kernel_rfl) (by decide)
end Mine.L06
end

section
open PySem
set_option autoImplicit false
set_option maxRecDepth 100000
namespace Mine.L06
section
variable {G : Gl} {d : Nat} {fi : FI} {c : T G d fi} {b : SL G d fi} {ρ ρ' ρ'' : Loc} {fl : Fl} {cN : Addr}
def Trn (c : T G d fi) (b : SL G d fi) (ρ ρ' : Loc) : Prop := ∃ tp, out (turn c b false ⟨ρ, tp, []⟩) = some (some .next, ρ', []) ∧ All (obs (turn c b false ⟨ρ, tp, []⟩))
theorem Trn.wh (h : Trn c b ρ ρ') (k : WhilOK G d fi c.x b.xs ρ' fl ρ'') : WhilOK G d fi c.x b.xs ρ fl ρ'' := by
  obtain ⟨tp, e, o⟩ := h; exact (turn_ok c b false).run e rfl o fl ρ'' k
theorem Trn.of {tp : List Tk} {P : Prop} (e : out (turn c b false ⟨ρ, tp, []⟩) = some (some .next, ρ', [])) (o : All (obs (turn c b false ⟨ρ, tp, []⟩)) = P) (p : P) : Trn c b ρ ρ' := ⟨tp, e, o ▸ p⟩
end
noncomputable abbrev nst (T : V) (K : List V) (m : Int) (x : Option O) : Loc := [some (.val T), some (.own K), some (.val (.int m)), x]
variable {d : Nat} {T : V}

theorem nt_turn {t : Tree} (g : gd t) {K : List V} {m : Int} {x : Option O} (hK : K.length + 4 < room) (hm : decide (m + 1 > 400) = false) :
    Trn (c_need_tree_42 (d + 2)) (l_need_tree_42 (d + 2)) (nst T (tv t :: K) m x) (nst T ((ks t).map tv ++ K) (m + 1) (some (.val (tv t)))) := by
  have h1 := ok_node d g
  have h2 := ok_parts (d + 1) t
  cases t with
  | num i => exact .of (tp := [.b false, .r (.val (.bool true)), .r (.own [])]) (by kernel_rfl) (P := (0 + K.length < room) ∧ CallOK G (d + 2) 81 [tv (.num i)] (.own []) ∧ CallOK G (d + 2) 74 [tv (.num i)] (.val (.bool true)) ∧ decide (m + 1 > 400) = false ∧ True) (by kernel_rfl) ⟨by omega, h2, h1, hm, trivial⟩
  | name x => exact .of (tp := [.b false, .r (.val (.bool true)), .r (.own [])]) (by kernel_rfl) (P := (0 + K.length < room) ∧ CallOK G (d + 2) 81 [tv (.name x)] (.own []) ∧ CallOK G (d + 2) 74 [tv (.name x)] (.val (.bool true)) ∧ decide (m + 1 > 400) = false ∧ True) (by kernel_rfl) ⟨by omega, h2, h1, hm, trivial⟩
  | fn x b => exact .of (tp := [.b false, .r (.val (.bool true)), .r (.own [tv b])]) (by kernel_rfl) (P := (1 + K.length < room) ∧ CallOK G (d + 2) 81 [tv (.fn x b)] (.own [tv b]) ∧ CallOK G (d + 2) 74 [tv (.fn x b)] (.val (.bool true)) ∧ decide (m + 1 > 400) = false ∧ True) (by kernel_rfl) ⟨by omega, h2, h1, hm, trivial⟩
  | call a b => exact .of (tp := [.b false, .r (.val (.bool true)), .r (.own [tv b, tv a])]) (by kernel_rfl) (P := (2 + K.length < room) ∧ CallOK G (d + 2) 81 [tv (.call a b)] (.own [tv b, tv a]) ∧ CallOK G (d + 2) 74 [tv (.call a b)] (.val (.bool true)) ∧ decide (m + 1 > 400) = false ∧ True) (by kernel_rfl) ⟨by omega, h2, h1, hm, trivial⟩
  | plus a b => exact .of (tp := [.b false, .r (.val (.bool true)), .r (.own [tv b, tv a])]) (by kernel_rfl) (P := (2 + K.length < room) ∧ CallOK G (d + 2) 81 [tv (.plus a b)] (.own [tv b, tv a]) ∧ CallOK G (d + 2) 74 [tv (.plus a b)] (.val (.bool true)) ∧ decide (m + 1 > 400) = false ∧ True) (by kernel_rfl) ⟨by omega, h2, h1, hm, trivial⟩
  | less a b => exact .of (tp := [.b false, .r (.val (.bool true)), .r (.own [tv b, tv a])]) (by kernel_rfl) (P := (2 + K.length < room) ∧ CallOK G (d + 2) 81 [tv (.less a b)] (.own [tv b, tv a]) ∧ CallOK G (d + 2) 74 [tv (.less a b)] (.val (.bool true)) ∧ decide (m + 1 > 400) = false ∧ True) (by kernel_rfl) ⟨by omega, h2, h1, hm, trivial⟩
  | ite c a b => exact .of (tp := [.b false, .r (.val (.bool true)), .r (.own [tv b, tv a, tv c])]) (by kernel_rfl) (P := (3 + K.length < room) ∧ CallOK G (d + 2) 81 [tv (.ite c a b)] (.own [tv b, tv a, tv c]) ∧ CallOK G (d + 2) 74 [tv (.ite c a b)] (.val (.bool true)) ∧ decide (m + 1 > 400) = false ∧ True) (by kernel_rfl) ⟨by omega, h2, h1, hm, trivial⟩
  | lt x e b => exact .of (tp := [.b false, .r (.val (.bool true)), .r (.own [tv b, tv e])]) (by kernel_rfl) (P := (2 + K.length < room) ∧ CallOK G (d + 2) 81 [tv (.lt x e b)] (.own [tv b, tv e]) ∧ CallOK G (d + 2) 74 [tv (.lt x e b)] (.val (.bool true)) ∧ decide (m + 1 > 400) = false ∧ True) (by kernel_rfl) ⟨by omega, h2, h1, hm, trivial⟩
theorem len_sz : ∀ ts : List Tree, ts.length ≤ szL ts
  | [] => Nat.le_refl _
  | t :: ts => by have := len_sz ts; have := sz_pos t; show ts.length + 1 ≤ sz t + szL ts; omega
theorem room_big : 100000 < room := by decide
theorem loop_ok : ∀ (n : Nat) (ts : List Tree) (m : Int) (x : Option O), gdL ts → szL ts ≤ n → (n : Int) + m = 400 → 0 ≤ m → ∃ m' x', WhilOK G (d + 2) fi_need_tree (c_need_tree_42 (d + 2)).x (l_need_tree_42 (d + 2)).xs (nst T (ts.map tv) m x) .next (nst T [] m' x') := by
  intro n
  induction n with
  | zero =>
    intro ts m x hg hs hm h0
    cases ts with
    | nil => exact ⟨m, x, whil_end false (tp := []) (by kernel_rfl) (P := True) (by kernel_rfl) trivial⟩
    | cons t ts => have := sz_pos t; have : szL (t :: ts) = sz t + szL ts := rfl; omega
  | succ n ih =>
    intro ts m x hg hs hm h0
    cases ts with
    | nil => exact ⟨m, x, whil_end false (tp := []) (by kernel_rfl) (P := True) (by kernel_rfl) trivial⟩
    | cons t ts =>
      have hz : szL (t :: ts) = sz t + szL ts := rfl
      have hk := ks_sz t
      have hl := len_sz ts
      have hr := room_big
      obtain ⟨m', x', h⟩ := ih (ks t ++ ts) (m + 1) (some (.val (tv t))) (gdL_app (ks_gd hg.1) hg.2) (by rw [szL_app]; omega) (by omega) (by omega)
      rw [List.map_append] at h
      exact ⟨m', x', (nt_turn hg.1 (by rw [List.length_map]; omega) (decide_eq_false (by omega))).wh h⟩
theorem ok_need {t : Tree} (g : gd t) (hs : sz t ≤ 400) : CallOK G (d + 3) 88 [tv t] (.val (tv t)) := by
  obtain ⟨m', x', h⟩ := loop_ok (d := d) (T := tv t) 400 [t] 0 none ⟨g, trivial⟩ (by show sz t + 0 ≤ 400; omega) rfl (Int.le_refl _)
  exact call_go (n := 3) (tp := [.l .next (nst (tv t) [] m' x')]) (b_need_tree (d + 2)) rfl (b_need_tree_x (d + 2)) rfl (by kernel_rfl) (P := WhilOK G (d + 2) fi_need_tree (c_need_tree_42 (d + 2)).x (l_need_tree_42 (d + 2)).xs (nst (tv t) [tv t] 0 none) .next (nst (tv t) [] m' x') ∧ True) (by kernel_rfl) ⟨h, trivial⟩
end Mine.L06
end

section
open PySem
set_option autoImplicit false
set_option maxRecDepth 100000
namespace Mine.L06
abbrev Pick (o : O) (i : Int) (r : O) : Prop := (subO o i).bind (fun v => some (O.val v)) = some r
theorem mod_cases (i : Int) (n : Nat) (h : 0 < n) : ∃ k, k < n ∧ i % (n : Int) = Int.ofNat k := by
  have h0 := Int.emod_nonneg i (show (n : Int) ≠ 0 by omega)
  have h1 := Int.emod_lt_of_pos i (show (0 : Int) < n by omega)
  exact ⟨(i % n).toNat, by omega, by show _ = ((i % n).toNat : Int); omega⟩
variable {d : Nat}
def plV (v : V) : Prop := @V.rec (fun _ => Prop) (fun _ => Prop) False (fun _ => False) (fun _ => True) (fun _ => True) (fun _ q => q) (fun _ _ => False) True (fun _ _ p q => p ∧ q) v
def plL (l : List V) : Prop := @V.rec_1 (fun _ => Prop) (fun _ => Prop) False (fun _ => False) (fun _ => True) (fun _ => True) (fun _ q => q) (fun _ _ => False) True (fun _ _ p q => p ∧ q) l
noncomputable def vsz (v : V) : Nat := @V.rec (fun _ => Nat) (fun _ => Nat) 1 (fun _ => 1) (fun _ => 1) (fun _ => 1) (fun _ q => q + 1) (fun _ q => q + 1) 0 (fun _ _ p q => p + q) v
noncomputable def vszL (l : List V) : Nat := @V.rec_1 (fun _ => Nat) (fun _ => Nat) 1 (fun _ => 1) (fun _ => 1) (fun _ => 1) (fun _ q => q + 1) (fun _ q => q + 1) 0 (fun _ _ p q => p + q) l
theorem plL_app : ∀ {a b : List V}, plL a → plL b → plL (a ++ b)
  | [], _, _, h => h
  | _ :: _, _, h, k => ⟨h.1, plL_app h.2 k⟩
theorem plL_rev : ∀ {a : List V}, plL a → plL a.reverse
  | [], h => h
  | v :: a, h => by rw [List.reverse_cons]; exact plL_app (plL_rev h.2) ⟨h.1, trivial⟩
theorem vszL_app : ∀ a b : List V, vszL (a ++ b) = vszL a + vszL b
  | [], b => (Nat.zero_add _).symm
  | v :: a, b => by show vsz v + vszL (a ++ b) = vsz v + vszL a + vszL b; rw [vszL_app a b, Nat.add_assoc]
theorem vszL_rev : ∀ a : List V, vszL a.reverse = vszL a
  | [] => rfl
  | v :: a => by rw [List.reverse_cons, vszL_app, vszL_rev a]; show vszL a + (vsz v + 0) = vsz v + vszL a; omega
theorem vsz_pos (v : V) : 1 ≤ vsz v := by cases v <;> first | exact Nat.le_refl _ | exact Nat.succ_le_succ (Nat.zero_le _)
theorem len_vsz : ∀ l : List V, l.length ≤ vszL l
  | [] => Nat.le_refl _
  | v :: l => by have := len_vsz l; have := vsz_pos v; show l.length + 1 ≤ vsz v + vszL l; omega
noncomputable abbrev pr (v : V) : V := .tup [v, v]
noncomputable abbrev sst (a b : V) (K : List V) (p k : Option O) : Loc := [some (.val a), some (.val b), some (.own K), p, k]
theorem same_for {a b : V} {K : List V} : ∀ (suf pre : List V) (x : Option O), ((pre ++ suf).length + K.length + 1 < room) → ∃ x', ForOK G d fi__law_same (.Name "_law_k" ⟨177,16,177,22⟩) (l__law_same_177 d).xs (rangeL (Int.ofNat pre.length) suf.length) (sst a b ((pre.map pr).reverse ++ K) (some (.val (pr (.tup (pre ++ suf))))) x) .next (sst a b (((pre ++ suf).map pr).reverse ++ K) (some (.val (pr (.tup (pre ++ suf))))) x')
  | [], pre, x, h => ⟨x, by rw [List.append_nil]; exact for_nil⟩
  | v :: suf, pre, x, h => by
    have e : pre ++ v :: suf = (pre ++ [v]) ++ suf := by simp
    have hl : (pre ++ [v]).length = pre.length + 1 := by simp
    obtain ⟨x', h2⟩ := same_for suf (pre ++ [v]) (some (.val (.int (Int.ofNat pre.length)))) (by rw [← e]; exact h)
    rw [hl, ← e] at h2
    have e2 : ((pre ++ [v]).map pr).reverse ++ K = pr v :: ((pre.map pr).reverse ++ K) := by simp
    rw [e2] at h2
    have hp : Pick (.val (.tup (pre ++ v :: suf))) (Int.ofNat pre.length) (.val v) := by
      show (((pre ++ v :: suf)[pre.length]?).bind _) = _
      simp
    have hlen : ((pre.map pr).reverse ++ K).length < room := by
      rw [List.length_append] at h; simp at h ⊢; omega
    exact ⟨x', for_go (i := 4) (v := .int (Int.ofNat pre.length)) (l := rangeL (Int.ofNat (pre.length + 1)) suf.length) (ρ' := sst a b (pr v :: ((pre.map pr).reverse ++ K)) (some (.val (pr (.tup (pre ++ v :: suf))))) (some (.val (.int (Int.ofNat pre.length))))) (tp := [.r (.val v), .r (.val v)]) (by kernel_rfl) (by kernel_rfl)
      (P := (((pre.map pr).reverse ++ K).length < room) ∧ Pick (.val (.tup (pre ++ v :: suf))) (Int.ofNat pre.length) (.val v) ∧ Pick (.val (.tup (pre ++ v :: suf))) (Int.ofNat pre.length) (.val v) ∧ True) (by kernel_rfl) ⟨hlen, hp, hp, trivial⟩ h2⟩

theorem same_loop {a b : V} : ∀ (n : Nat) (st : List V) (p k : Option O), plL st → vszL st ≤ n → n ≤ 10000 → ∃ p' k', WhilOK G d fi__law_same (c__law_same_172 d).x (l__law_same_172 d).xs (sst a b (st.map pr) p k) .next (sst a b [] p' k') := by
  intro n
  induction n with
  | zero =>
    intro st p k hp hs hn
    cases st with
    | nil => exact ⟨p, k, whil_end false (tp := []) (by kernel_rfl) (P := True) (by kernel_rfl) trivial⟩
    | cons v st => have := vsz_pos v; have : vszL (v :: st) = vsz v + vszL st := rfl; omega
  | succ n ih =>
    intro st p k hp hs hn
    cases st with
    | nil => exact ⟨p, k, whil_end false (tp := []) (by kernel_rfl) (P := True) (by kernel_rfl) trivial⟩
    | cons v st =>
      have hz : vszL (v :: st) = vsz v + vszL st := rfl
      have hr := room_big
      have hl := len_vsz st
      cases v with
      | none => exact hp.1.elim
      | bool t => exact hp.1.elim
      | lst l => exact hp.1.elim
      | int i =>
        have : vsz (.int i) = 1 := rfl
        obtain ⟨p', k', h⟩ := ih st (some (.val (pr (.int i)))) k hp.2 (by omega) (by omega)
        exact ⟨p', k', whil_go false (tp := []) (ρ' := sst a b (st.map pr) (some (.val (pr (.int i)))) k) (by kernel_rfl) (P := (V.int i = V.int i ∧ 0 ≤ 1900) ∧ (V.bool false = V.bool false ∧ 0 ≤ 1900) ∧ True) (by kernel_rfl) ⟨⟨rfl, by decide⟩, ⟨rfl, by decide⟩, trivial⟩ h⟩
      | str i =>
        have : vsz (.str i) = 1 := rfl
        obtain ⟨p', k', h⟩ := ih st (some (.val (pr (.str i)))) k hp.2 (by omega) (by omega)
        exact ⟨p', k', whil_go false (tp := []) (ρ' := sst a b (st.map pr) (some (.val (pr (.str i)))) k) (by kernel_rfl) (P := (V.str i = V.str i ∧ 0 ≤ 1900) ∧ (V.bool true = V.bool true ∧ 0 ≤ 1900) ∧ True) (by kernel_rfl) ⟨⟨rfl, by decide⟩, ⟨rfl, by decide⟩, trivial⟩ h⟩
      | tup l =>
        have e1 : vsz (.tup l) = vszL l + 1 := rfl
        have hl2 := len_vsz l
        obtain ⟨k2, hf⟩ := same_for (d := d) (a := a) (b := b) (K := st.map pr) l [] k (by simp; omega)
        obtain ⟨p', k', h⟩ := ih (l.reverse ++ st) (some (.val (pr (.tup l)))) k2 (plL_app (plL_rev hp.1) hp.2) (by rw [vszL_app, vszL_rev]; omega) (by omega)
        rw [List.map_append, List.map_reverse] at h
        exact ⟨p', k', whil_go false (tp := [.b false, .l .next (sst a b ((l.map pr).reverse ++ st.map pr) (some (.val (pr (.tup l)))) k2)]) (ρ' := sst a b ((l.map pr).reverse ++ st.map pr) (some (.val (pr (.tup l)))) k2) (by kernel_rfl)
          (P := ForOK G d fi__law_same (.Name "_law_k" ⟨177,16,177,22⟩) (l__law_same_177 d).xs (rangeL 0 (Int.ofNat l.length - 0).toNat) (sst a b (st.map pr) (some (.val (pr (.tup l)))) k) .next (sst a b ((l.map pr).reverse ++ st.map pr) (some (.val (pr (.tup l)))) k2) ∧ (Int.ofNat l.length).natAbs ≤ 1000000 ∧ (!(Int.ofNat l.length == Int.ofNat l.length)) = false ∧ True) (by kernel_rfl)
          ⟨by rw [show (Int.ofNat l.length - 0).toNat = l.length by show ((l.length : Int) - 0).toNat = _; omega]; exact hf, by show ((l.length : Int)).natAbs ≤ _; omega, by rw [beq_self_eq_true]; rfl, trivial⟩ h⟩
theorem pl_tv : ∀ t : Tree, plV (tv t) ∧ vsz (tv t) ≤ 3 * sz t := by
  intro t
  induction t with
  | num i => exact ⟨⟨trivial, trivial, trivial⟩, Nat.le_refl _⟩
  | name x => exact ⟨⟨trivial, trivial, trivial⟩, Nat.le_refl _⟩
  | fn x b ib =>
    obtain ⟨p, q⟩ := ib
    refine ⟨⟨trivial, trivial, p, trivial⟩, ?_⟩
    show 1 + (1 + (vsz (tv b) + 0)) + 1 ≤ 3 * (sz b + 1); omega

  | call a b ia ib =>
    obtain ⟨p, q⟩ := ia
    obtain ⟨p', q'⟩ := ib
    refine ⟨⟨trivial, p, p', trivial⟩, ?_⟩
    show 1 + (vsz (tv a) + (vsz (tv b) + 0)) + 1 ≤ 3 * (sz a + sz b + 1); omega
  | plus a b ia ib =>
    obtain ⟨p, q⟩ := ia
    obtain ⟨p', q'⟩ := ib
    refine ⟨⟨trivial, p, p', trivial⟩, ?_⟩
    show 1 + (vsz (tv a) + (vsz (tv b) + 0)) + 1 ≤ 3 * (sz a + sz b + 1); omega
  | less a b ia ib =>
    obtain ⟨p, q⟩ := ia
    obtain ⟨p', q'⟩ := ib
    refine ⟨⟨trivial, p, p', trivial⟩, ?_⟩
    show 1 + (vsz (tv a) + (vsz (tv b) + 0)) + 1 ≤ 3 * (sz a + sz b + 1); omega
  | ite c a b ic ia ib =>
    obtain ⟨p0, q0⟩ := ic
    obtain ⟨p, q⟩ := ia
    obtain ⟨p', q'⟩ := ib
    refine ⟨⟨trivial, p0, p, p', trivial⟩, ?_⟩
    show 1 + (vsz (tv c) + (vsz (tv a) + (vsz (tv b) + 0))) + 1 ≤ 3 * (sz c + sz a + sz b + 1); omega
  | lt x a b ia ib =>
    obtain ⟨p, q⟩ := ia
    obtain ⟨p', q'⟩ := ib
    refine ⟨⟨trivial, trivial, p, p', trivial⟩, ?_⟩
    show 1 + (1 + (vsz (tv a) + (vsz (tv b) + 0))) + 1 ≤ 3 * (sz a + sz b + 1); omega
theorem ok_same {t : Tree} (hs : sz t ≤ 400) : CallOK G (d + 1) 170 [tv t, tv t] (.val (.bool true)) := by
  obtain ⟨p, q⟩ := pl_tv t
  obtain ⟨p', k', hw⟩ := same_loop (d := d) (a := tv t) (b := tv t) 10000 [tv t] none none ⟨p, trivial⟩ (by show vsz (tv t) + 0 ≤ _; omega) (Nat.le_refl _)
  exact call_go (n := 3) (tp := [.l .next (sst (tv t) (tv t) [] p' k')]) (b__law_same d) rfl (b__law_same_x d) rfl (by kernel_rfl) (P := WhilOK G d fi__law_same (c__law_same_172 d).x (l__law_same_172 d).xs (sst (tv t) (tv t) [pr (tv t)] none none) .next (sst (tv t) (tv t) [] p' k') ∧ True) (by kernel_rfl) ⟨hw, trivial⟩
end Mine.L06
end

section
open PySem
set_option autoImplicit false
set_option maxRecDepth 100000
namespace Mine.L06
variable {d : Nat}
noncomputable def txt (t : Tree) : List Nat := Tree.rec (fun i => decS i) (fun x => x) (fun x _ b => (z_u40u ++ z_fun) ++ ((z_u32u ++ x) ++ (z_u32u ++ (b ++ z_u41u)))) (fun _ _ a b => (z_u40u ++ z_call) ++ (z_u32u ++ (a ++ (z_u32u ++ (b ++ z_u41u))))) (fun _ _ a b => (z_u40u ++ z_plus) ++ (z_u32u ++ (a ++ (z_u32u ++ (b ++ z_u41u)))))
  (fun _ _ a b => (z_u40u ++ z_less) ++ (z_u32u ++ (a ++ (z_u32u ++ (b ++ z_u41u))))) (fun _ _ _ c a b => (z_u40u ++ z_if) ++ (z_u32u ++ (c ++ (z_u32u ++ (a ++ (z_u32u ++ (b ++ z_u41u))))))) (fun x _ _ a b => (z_u40u ++ z_let) ++ ((z_u32u ++ x) ++ (z_u32u ++ (a ++ (z_u32u ++ (b ++ z_u41u)))))) t
set_option genSizeOf false in
set_option genInjectivity false in
inductive Im where
  | tr (t : Tree)
  | sg (s : List Nat)
noncomputable def imv (i : Im) : V := Im.casesOn i tv .str
noncomputable def imt (i : Im) : List Nat := Im.casesOn i txt fun s => s
noncomputable def imz (i : Im) : Nat := Im.casesOn i (fun t => 5 * sz t) fun _ => 1
def imf (i : Im) : Prop := Im.casesOn (motive := fun _ => Prop) i ft fun _ => True
noncomputable def hd (t : Tree) : List (List Nat) := Tree.casesOn t (fun i => [decS i]) (fun x => [x]) (fun x _ => [z_u32u ++ x, z_u40u ++ z_fun]) (fun _ _ => [z_u40u ++ z_call]) (fun _ _ => [z_u40u ++ z_plus]) (fun _ _ => [z_u40u ++ z_less]) (fun _ _ _ => [z_u40u ++ z_if]) (fun x _ _ => [z_u32u ++ x, z_u40u ++ z_let])
noncomputable def hdI (i : Im) : List (List Nat) := Im.casesOn i hd fun s => [s]
noncomputable def pt (t : Tree) : List Im := Tree.casesOn t (fun i => []) (fun x => []) (fun x b => [.sg z_u32u, .tr b, .sg z_u41u]) (fun a b => [.sg z_u32u, .tr a, .sg z_u32u, .tr b, .sg z_u41u]) (fun a b => [.sg z_u32u, .tr a, .sg z_u32u, .tr b, .sg z_u41u]) (fun a b => [.sg z_u32u, .tr a, .sg z_u32u, .tr b, .sg z_u41u])
  (fun c a b => [.sg z_u32u, .tr c, .sg z_u32u, .tr a, .sg z_u32u, .tr b, .sg z_u41u]) (fun x a b => [.sg z_u32u, .tr a, .sg z_u32u, .tr b, .sg z_u41u])
noncomputable def ptI (i : Im) : List Im := Im.casesOn i pt fun s => []
noncomputable def imzL (l : List Im) : Nat := @List.rec Im (fun _ => Nat) 0 (fun i _ r => imz i + r) l
def imfL (l : List Im) : Prop := @List.rec Im (fun _ => Prop) True (fun i _ r => imf i ∧ r) l
theorem imz_pos (i : Im) : 1 ≤ imz i := by
  cases i with
  | tr t => have := sz_pos t; show 1 ≤ 5 * sz t; omega
  | sg s => exact Nat.le_refl _
theorem imzL_app : ∀ a b : List Im, imzL (a ++ b) = imzL a + imzL b
  | [], b => (Nat.zero_add _).symm
  | t :: a, b => by show imz t + imzL (a ++ b) = imz t + imzL a + imzL b; rw [imzL_app a b, Nat.add_assoc]
theorem imfL_app : ∀ {a b : List Im}, imfL a → imfL b → imfL (a ++ b)
  | [], _, _, h => h
  | t :: a, b, h, k => ⟨h.1, imfL_app h.2 k⟩
theorem len_imz : ∀ l : List Im, l.length ≤ imzL l
  | [] => Nat.le_refl _
  | i :: l => by have := len_imz l; have := imz_pos i; show l.length + 1 ≤ imz i + imzL l; omega
theorem pt_z (i : Im) : imzL (ptI i) + 1 ≤ imz i := by
  cases i with
  | sg s => exact Nat.le_refl _
  | tr t =>
    cases t <;> simp only [ptI, pt, imzL, imz, sz] <;> omega
theorem pt_f {i : Im} (h : imf i) : imfL (ptI i) := by
  cases i with
  | sg s => trivial
  | tr t =>
    cases t
    · trivial
    · trivial
    · exact ⟨trivial, h.2, trivial, trivial⟩
    · exact ⟨trivial, h.1, trivial, h.2, trivial, trivial⟩
    · exact ⟨trivial, h.1, trivial, h.2, trivial, trivial⟩
    · exact ⟨trivial, h.1, trivial, h.2, trivial, trivial⟩
    · exact ⟨trivial, h.1, trivial, h.2.1, trivial, h.2.2, trivial, trivial⟩
    · exact ⟨trivial, h.2.1, trivial, h.2.2, trivial, trivial⟩
theorem pt_t (i : Im) : (hdI i).reverse.flatten ++ ((ptI i).map imt).flatten = imt i := by
  cases i with
  | sg s => simp [hdI, ptI, imt]
  | tr t =>
    cases t <;> simp [hdI, hd, ptI, pt, imt, txt]
noncomputable abbrev sh (T : V) (F K : List V) (n p : Option O) : Loc := [some (.val T), some (.own F), some (.own K), n, p]
noncomputable def pls (l : List V) (K : List V) : List V := @List.rec V (fun _ => List V → List V) (fun K => K) (fun v _ r K => r (.str z_u32u :: v :: K)) l K
abbrev FP (d : Nat) (l : List V) (ρ ρ' : Loc) : Prop := ForOK G d fi_shown (.Name "part" ⟨67,16,67,20⟩) (l_shown_67 d).xs l ρ .next ρ'
theorem sh_for {T : V} {F : List V} {n : Option O} : ∀ (l K : List V) (p : Option O), K.length + 2 * l.length < room → ∃ p', FP d l (sh T F K n p) (sh T F (pls l K) n p')
  | [], K, p, _ => ⟨p, for_nil⟩
  | v :: l, K, p, h => by
    have h : K.length + 2 * (l.length + 1) < room := h
    obtain ⟨p', h2⟩ := sh_for (T := T) (F := F) (n := n) l (.str z_u32u :: v :: K) (some (.val v)) (by show K.length + 1 + 1 + 2 * l.length < room; omega)
    exact ⟨p', for_go (i := 4) (v := v) (l := l) (ρ' := sh T F (.str z_u32u :: v :: K) n (some (.val v))) (tp := []) (by kernel_rfl) (by kernel_rfl) (P := (K.length + 1 < room) ∧ (K.length < room) ∧ True) (by kernel_rfl) ⟨by omega, by omega, trivial⟩ h2⟩
theorem sh_turn (i : Im) (hf : imf i) {T : V} {F K : List V} {n p : Option O} (hF : F.length + 2 < room) (hK : K.length + 8 < room) :
    ∃ n' p', Trn (c_shown_54 (d + 1)) (l_shown_54 (d + 1)) (sh T F (imv i :: K) n p) (sh T ((hdI i).map .str ++ F) ((ptI i).map imv ++ K) n' p') := by
  cases i with
  | sg s => exact ⟨some (.val (.str s)), p, .of (tp := []) (by kernel_rfl) (P := F.length < room ∧ True) (by kernel_rfl) ⟨by omega, trivial⟩⟩
  | tr t =>
    have h2 := ok_parts d t
    cases t with
    | num i => exact ⟨some (.val (tv (.num i))), p, .of (tp := []) (by kernel_rfl) (P := F.length < room ∧ i.natAbs < 10 ^ 80 ∧ True) (by kernel_rfl) ⟨by omega, hf, trivial⟩⟩
    | name x => exact ⟨some (.val (tv (.name x))), p, .of (tp := []) (by kernel_rfl) (P := F.length < room ∧ True) (by kernel_rfl) ⟨by omega, trivial⟩⟩
    | fn x b =>
      obtain ⟨p', h1⟩ := sh_for (d := d + 1) (T := T) (F := (.str (z_u32u ++ x) :: .str (z_u40u ++ z_fun) :: F)) (n := some (.val (tv (.fn x b)))) [tv b] (.str z_u41u :: K) p (by show K.length + 1 + 2 * 1 < room; omega)
      exact ⟨some (.val (tv (.fn x b))), p', .of (tp := [.r (.own [tv b]), .l .next (sh T (.str (z_u32u ++ x) :: .str (z_u40u ++ z_fun) :: F) (pls [tv b] (.str z_u41u :: K)) (some (.val (tv (.fn x b)))) p')]) (by kernel_rfl)
        (P := FP (d + 1) [tv b] (sh T (.str (z_u32u ++ x) :: .str (z_u40u ++ z_fun) :: F) (.str z_u41u :: K) (some (.val (tv (.fn x b)))) p) (sh T (.str (z_u32u ++ x) :: .str (z_u40u ++ z_fun) :: F) (pls [tv b] (.str z_u41u :: K)) (some (.val (tv (.fn x b)))) p') ∧ CallOK G (d + 1) 81 [tv (.fn x b)] (.own [tv b]) ∧ (K.length < room) ∧ (F.length + 1 < room) ∧ (z_u32u ++ x).length ≤ room ∧ (F.length < room) ∧ (z_u40u ++ z_fun).length ≤ room ∧ True) (by kernel_rfl)
        ⟨h1, h2, by omega, by omega, by have : x.length ≤ 8 := hf.1; show (z_u32u ++ x).length ≤ room; rw [List.length_append]; show 1 + x.length ≤ 1000000; omega, by omega, by decide, trivial⟩⟩
    | call a b =>
      obtain ⟨p', h1⟩ := sh_for (d := d + 1) (T := T) (F := (.str (z_u40u ++ z_call) :: F)) (n := some (.val (tv (.call a b)))) [tv b, tv a] (.str z_u41u :: K) p (by show K.length + 1 + 2 * 2 < room; omega)
      exact ⟨some (.val (tv (.call a b))), p', .of (tp := [.r (.own [tv b, tv a]), .l .next (sh T (.str (z_u40u ++ z_call) :: F) (pls [tv b, tv a] (.str z_u41u :: K)) (some (.val (tv (.call a b)))) p')]) (by kernel_rfl)
        (P := FP (d + 1) [tv b, tv a] (sh T (.str (z_u40u ++ z_call) :: F) (.str z_u41u :: K) (some (.val (tv (.call a b)))) p) (sh T (.str (z_u40u ++ z_call) :: F) (pls [tv b, tv a] (.str z_u41u :: K)) (some (.val (tv (.call a b)))) p') ∧ CallOK G (d + 1) 81 [tv (.call a b)] (.own [tv b, tv a]) ∧ (K.length < room) ∧ (F.length < room) ∧ (z_u40u ++ z_call).length ≤ room ∧ True) (by kernel_rfl)
        ⟨h1, h2, by omega, by omega, by decide, trivial⟩⟩
    | plus a b =>
      obtain ⟨p', h1⟩ := sh_for (d := d + 1) (T := T) (F := (.str (z_u40u ++ z_plus) :: F)) (n := some (.val (tv (.plus a b)))) [tv b, tv a] (.str z_u41u :: K) p (by show K.length + 1 + 2 * 2 < room; omega)
      exact ⟨some (.val (tv (.plus a b))), p', .of (tp := [.r (.own [tv b, tv a]), .l .next (sh T (.str (z_u40u ++ z_plus) :: F) (pls [tv b, tv a] (.str z_u41u :: K)) (some (.val (tv (.plus a b)))) p')]) (by kernel_rfl)
        (P := FP (d + 1) [tv b, tv a] (sh T (.str (z_u40u ++ z_plus) :: F) (.str z_u41u :: K) (some (.val (tv (.plus a b)))) p) (sh T (.str (z_u40u ++ z_plus) :: F) (pls [tv b, tv a] (.str z_u41u :: K)) (some (.val (tv (.plus a b)))) p') ∧ CallOK G (d + 1) 81 [tv (.plus a b)] (.own [tv b, tv a]) ∧ (K.length < room) ∧ (F.length < room) ∧ (z_u40u ++ z_plus).length ≤ room ∧ True) (by kernel_rfl)
        ⟨h1, h2, by omega, by omega, by decide, trivial⟩⟩
    | less a b =>
      obtain ⟨p', h1⟩ := sh_for (d := d + 1) (T := T) (F := (.str (z_u40u ++ z_less) :: F)) (n := some (.val (tv (.less a b)))) [tv b, tv a] (.str z_u41u :: K) p (by show K.length + 1 + 2 * 2 < room; omega)
      exact ⟨some (.val (tv (.less a b))), p', .of (tp := [.r (.own [tv b, tv a]), .l .next (sh T (.str (z_u40u ++ z_less) :: F) (pls [tv b, tv a] (.str z_u41u :: K)) (some (.val (tv (.less a b)))) p')]) (by kernel_rfl)
        (P := FP (d + 1) [tv b, tv a] (sh T (.str (z_u40u ++ z_less) :: F) (.str z_u41u :: K) (some (.val (tv (.less a b)))) p) (sh T (.str (z_u40u ++ z_less) :: F) (pls [tv b, tv a] (.str z_u41u :: K)) (some (.val (tv (.less a b)))) p') ∧ CallOK G (d + 1) 81 [tv (.less a b)] (.own [tv b, tv a]) ∧ (K.length < room) ∧ (F.length < room) ∧ (z_u40u ++ z_less).length ≤ room ∧ True) (by kernel_rfl)
        ⟨h1, h2, by omega, by omega, by decide, trivial⟩⟩
    | ite c a b =>
      obtain ⟨p', h1⟩ := sh_for (d := d + 1) (T := T) (F := (.str (z_u40u ++ z_if) :: F)) (n := some (.val (tv (.ite c a b)))) [tv b, tv a, tv c] (.str z_u41u :: K) p (by show K.length + 1 + 2 * 3 < room; omega)
      exact ⟨some (.val (tv (.ite c a b))), p', .of (tp := [.r (.own [tv b, tv a, tv c]), .l .next (sh T (.str (z_u40u ++ z_if) :: F) (pls [tv b, tv a, tv c] (.str z_u41u :: K)) (some (.val (tv (.ite c a b)))) p')]) (by kernel_rfl)
        (P := FP (d + 1) [tv b, tv a, tv c] (sh T (.str (z_u40u ++ z_if) :: F) (.str z_u41u :: K) (some (.val (tv (.ite c a b)))) p) (sh T (.str (z_u40u ++ z_if) :: F) (pls [tv b, tv a, tv c] (.str z_u41u :: K)) (some (.val (tv (.ite c a b)))) p') ∧ CallOK G (d + 1) 81 [tv (.ite c a b)] (.own [tv b, tv a, tv c]) ∧ (K.length < room) ∧ (F.length < room) ∧ (z_u40u ++ z_if).length ≤ room ∧ True) (by kernel_rfl)
        ⟨h1, h2, by omega, by omega, by decide, trivial⟩⟩
    | lt x a b =>
      obtain ⟨p', h1⟩ := sh_for (d := d + 1) (T := T) (F := (.str (z_u32u ++ x) :: .str (z_u40u ++ z_let) :: F)) (n := some (.val (tv (.lt x a b)))) [tv b, tv a] (.str z_u41u :: K) p (by show K.length + 1 + 2 * 2 < room; omega)
      exact ⟨some (.val (tv (.lt x a b))), p', .of (tp := [.r (.own [tv b, tv a]), .l .next (sh T (.str (z_u32u ++ x) :: .str (z_u40u ++ z_let) :: F) (pls [tv b, tv a] (.str z_u41u :: K)) (some (.val (tv (.lt x a b)))) p')]) (by kernel_rfl)
        (P := FP (d + 1) [tv b, tv a] (sh T (.str (z_u32u ++ x) :: .str (z_u40u ++ z_let) :: F) (.str z_u41u :: K) (some (.val (tv (.lt x a b)))) p) (sh T (.str (z_u32u ++ x) :: .str (z_u40u ++ z_let) :: F) (pls [tv b, tv a] (.str z_u41u :: K)) (some (.val (tv (.lt x a b)))) p') ∧ CallOK G (d + 1) 81 [tv (.lt x a b)] (.own [tv b, tv a]) ∧ (K.length < room) ∧ (F.length + 1 < room) ∧ (z_u32u ++ x).length ≤ room ∧ (F.length < room) ∧ (z_u40u ++ z_let).length ≤ room ∧ True) (by kernel_rfl)
        ⟨h1, h2, by omega, by omega, by have : x.length ≤ 8 := hf.1; show (z_u32u ++ x).length ≤ room; rw [List.length_append]; show 1 + x.length ≤ 1000000; omega, by omega, by decide, trivial⟩⟩
theorem sh_loop {T : V} : ∀ (n : Nat) (is : List Im) (F : List V) (m p : Option O), imfL is → imzL is ≤ n → n ≤ 100000 → F.length + 2 * n < 500000 →
    ∃ (L : List (List Nat)) (m' p' : Option O), WhilOK G (d + 1) fi_shown (c_shown_54 (d + 1)).x (l_shown_54 (d + 1)).xs (sh T F (is.map imv) m p) .next (sh T (L.map .str ++ F) [] m' p') ∧ L.reverse.flatten = (is.map imt).flatten := by
  intro n
  induction n with
  | zero =>
    intro is F m p hf hs hn hF
    cases is with
    | nil => exact ⟨[], m, p, whil_end false (tp := []) (by kernel_rfl) (P := True) (by kernel_rfl) trivial, rfl⟩
    | cons i is => have := imz_pos i; have : imzL (i :: is) = imz i + imzL is := rfl; omega
  | succ n ih =>
    intro is F m p hf hs hn hF
    cases is with
    | nil => exact ⟨[], m, p, whil_end false (tp := []) (by kernel_rfl) (P := True) (by kernel_rfl) trivial, rfl⟩
    | cons i is =>
      have hz : imzL (i :: is) = imz i + imzL is := rfl
      have hl := len_imz is
      have hr : room = 1000000 := rfl
      have hp := pt_z i
      have hd2 : (hdI i).length ≤ 2 := by
        cases i with
        | sg s => show 1 ≤ 2; decide
        | tr t => cases t <;> simp [hdI, hd]
      obtain ⟨n', p', h1⟩ := sh_turn (d := d) i hf.1 (T := T) (F := F) (K := is.map imv) (n := m) (p := p) (by omega) (by rw [List.length_map]; omega)
      obtain ⟨L, m', p'', h2, h3⟩ := ih (ptI i ++ is) ((hdI i).map .str ++ F) n' p' (imfL_app (pt_f hf.1) hf.2) (by rw [imzL_app]; omega) (by omega) (by rw [List.length_append, List.length_map]; omega)
      rw [List.map_append] at h2
      refine ⟨L ++ hdI i, m', p'', ?_, ?_⟩
      · rw [List.map_append, List.append_assoc]; exact h1.wh h2
      · rw [List.reverse_append, List.flatten_append, h3, List.map_append, List.flatten_append, ← List.append_assoc, pt_t, List.map_cons, List.flatten_cons]
theorem txt_len : ∀ t : Tree, ft t → (txt t).length ≤ 100 * sz t := by
  intro t
  induction t with
  | num i => intro h; have := (dec_reads h).2; show (decS i).length ≤ 100 * 1; omega
  | name x => intro h; have h : x.length ≤ 8 := h; show x.length ≤ 100 * 1; omega
  | fn x b ib => intro h; have := ib h.2; have h1 : x.length ≤ 8 := h.1; simp only [txt, sz, List.length_append, z_u40u, z_fun, z_u32u, z_u41u, List.length_cons, List.length_nil] at this ⊢; omega
  | call a b ia ib => intro h; have ha := ia h.1; have hb := ib h.2; simp only [txt, sz, List.length_append, z_u40u, z_call, z_plus, z_less, z_if, z_u32u, z_u41u, List.length_cons, List.length_nil] at *; omega
  | plus a b ia ib => intro h; have ha := ia h.1; have hb := ib h.2; simp only [txt, sz, List.length_append, z_u40u, z_call, z_plus, z_less, z_if, z_u32u, z_u41u, List.length_cons, List.length_nil] at *; omega
  | less a b ia ib => intro h; have ha := ia h.1; have hb := ib h.2; simp only [txt, sz, List.length_append, z_u40u, z_call, z_plus, z_less, z_if, z_u32u, z_u41u, List.length_cons, List.length_nil] at *; omega
  | ite c a b ic ia ib => intro h; have hc := ic h.1; have ha := ia h.2.1; have hb := ib h.2.2; simp only [txt, sz, List.length_append, z_u40u, z_call, z_plus, z_less, z_if, z_u32u, z_u41u, List.length_cons, List.length_nil] at *; omega
  | lt x a b ia ib => intro h; have ha := ia h.2.1; have hb := ib h.2.2; have h1 : x.length ≤ 8 := h.1; simp only [txt, sz, List.length_append, z_u40u, z_let, z_u32u, z_u41u, List.length_cons, List.length_nil] at *; omega
theorem ok_shown {t : Tree} (h : ft t) (hs : sz t ≤ 2000) : CallOK G (d + 2) 95 [tv t] (.val (.str (txt t))) := by
  obtain ⟨L, m', p', h1, h2⟩ := sh_loop (d := d) (T := tv t) 10000 [.tr t] [] none none ⟨h, trivial⟩ (by show 5 * sz t + 0 ≤ 10000; omega) (by decide) (by decide)
  have h2 : L.reverse.flatten = txt t ++ [] := h2
  rw [List.append_nil] at h2
  rw [List.append_nil] at h1
  have hl := txt_len t h
  refine call_go (n := 4) (tp := [.l .next (sh (tv t) (L.map .str) [] m' p'), .r (.val (.str (txt t)))]) (b_shown (d + 1)) rfl (b_shown_x (d + 1)) rfl (by kernel_rfl)
    (P := JoinP z_ (.lst (L.map V.str).reverse) (.val (.str (txt t))) ∧ WhilOK G (d + 1) fi_shown (c_shown_54 (d + 1)).x (l_shown_54 (d + 1)).xs (sh (tv t) [] [tv t] none none) .next (sh (tv t) (L.map .str) [] m' p') ∧ True) (by kernel_rfl) ⟨?_, h1, trivial⟩
  refine ⟨[(L.reverse.map List.length).sum + L.reverse.length * z_.length ≤ room], ?_, ?_, trivial⟩
  · show (textsOf (L.map V.str).reverse).bind _ = _
    rw [← List.map_reverse, texts_of]
    show some _ = some _
    rw [show joinS z_ L.reverse = txt t by rw [show z_ = [] from rfl, join_flat, h2]]
  · rw [← List.length_flatten, h2]
    show (txt t).length + L.reverse.length * 0 ≤ 1000000
    omega
end Mine.L06
end

section
open PySem
set_option autoImplicit false
set_option maxRecDepth 100000
set_option linter.unusedVariables false
namespace Mine.L06
variable {d : Nat}
abbrev FA (d : Nat) (l : List Nat) (ρ ρ' : Loc) : Prop := ForOK G d fi_atom (.Name "sign" ⟨79,8,79,12⟩) (l_atom_79 d).xs (signsL l) ρ .next ρ'
theorem fig_has {c : Nat} (h : 48 ≤ c ∧ c ≤ 57) : figs.contains c = true := by
  obtain ⟨h1, h2⟩ := h
  have : c = 48 ∨ c = 49 ∨ c = 50 ∨ c = 51 ∨ c = 52 ∨ c = 53 ∨ c = 54 ∨ c = 55 ∨ c = 56 ∨ c = 57 := by omega
  rcases this with rfl | rfl | rfl | rfl | rfl | rfl | rfl | rfl | rfl | rfl <;> rfl
theorem atom_loop {w f : V} : ∀ (l : List Nat) (o : Option O), (∀ c ∈ l, 48 ≤ c ∧ c ≤ 57) → ∃ o', FA d l [some (.val w), some (.val f), o] [some (.val w), some (.val f), o']
  | [], o, _ => ⟨o, for_nil⟩
  | c :: l, o, h => by
    obtain ⟨o', h2⟩ := atom_loop (w := w) (f := f) l (some (.val (.str [c]))) fun c hc => h c (List.mem_cons_of_mem _ hc)
    exact ⟨o', for_go (i := 2) (v := .str [c]) (l := signsL l) (ρ' := [some (.val w), some (.val f), some (.val (.str [c]))]) (tp := [.b false]) (by kernel_rfl) (by kernel_rfl) (P := (!figs.contains c) = false ∧ True) (by kernel_rfl) ⟨by rw [fig_has (h c List.mem_cons_self)]; rfl, trivial⟩ h2⟩
theorem atom_name {x : List Nat} (h : isName x = true) : CallOK G (d + 2) 109 [.str x] (.val (tv (.name x))) :=
  call_go (n := 2) (tp := [.r (.val (.bool true))]) (b_atom (d + 1)) rfl (b_atom_x (d + 1)) rfl (by kernel_rfl) (P := CallOK G (d + 1) 60 [.str x] (.val (.bool true)) ∧ True) (by kernel_rfl) ⟨by have := ok_name d (.str x); rwa [show nmV (.str x) = true from h] at this, trivial⟩
theorem no_name {c : Nat} {r : List Nat} (h : c = 45 ∨ (48 ≤ c ∧ c ≤ 57)) : isName (c :: r) = false := by
  have hc : letters.contains c = false := by
    rw [← Bool.not_eq_true]
    intro q
    have q := List.contains_iff_mem.mp q
    simp only [letters, z_abcdefghijklmnopqrstuvwxyz, List.mem_cons, List.not_mem_nil, or_false] at q
    omega
  unfold isName
  rw [List.all_cons, hc]
  simp
theorem num_name {i : Int} : isName (decS i) = false := by
  cases h : decS i with
  | nil => rfl
  | cons c r => exact no_name (decS_sign i c (h ▸ List.mem_cons_self))
theorem ok_num (i : Int) : CallOK G (d + 1) 60 [.str (decS i)] (.val (.bool false)) := by
  have := ok_name d (.str (decS i)); rwa [show nmV (.str (decS i)) = false from num_name] at this
theorem atom_num {i : Int} (h : i.natAbs < 10 ^ 60) : CallOK G (d + 2) 109 [.str (decS i)] (.val (tv (.num i))) := by
  have hn := ok_num (d := d) i
  have hi : IntP (.str (decS i)) (.val (.int i)) := by
    have := dec_reads (i := i) (Nat.lt_trans h (by decide +kernel))
    exact ⟨decS i, i, rfl, rfl, this.1, by omega⟩
  have hl : ∀ m : Nat, m = i.natAbs → decide (Int.ofNat (dg m).length > Int.ofNat 60) = false := fun m e => by
    have := dg_len (k := 60) (m := m) (by decide) (e ▸ h)
    exact decide_eq_false (by show ¬ ((60 : Nat) : Int) < ((dg m).length : Int); omega)
  obtain ⟨m, hm⟩ := Int.eq_nat_or_neg i
  by_cases h0 : m = 0
  · obtain rfl : i = 0 := by rcases hm with hm | hm <;> omega
    have e : decS 0 = [48] := by decide +kernel
    rw [e] at hn hi ⊢
    obtain ⟨o', hf⟩ := atom_loop (d := d + 1) (w := .str [48]) (f := .str [48]) [48] none (by simp)
    exact call_go (n := 2) (tp := [.r (.val (.bool false)), .b false, .l .next [some (.val (.str [48])), some (.val (.str [48])), o'], .b false, .b true, .b false, .r (.val (.int 0))]) (b_atom (d + 1)) rfl (b_atom_x (d + 1)) rfl (by kernel_rfl)
      (P := IntP (.str [48]) (.val (.int 0)) ∧ (false = false) ∧ (([48] == z_0) = true) ∧ (decide (Int.ofNat [48].length > Int.ofNat 60) = false) ∧ FA (d + 1) [48] [some (.val (.str [48])), some (.val (.str [48])), none] [some (.val (.str [48])), some (.val (.str [48])), o'] ∧ (([48] == z_u45u) = false) ∧ ((0 : Int) ≤ 1 ∧ (1 : Int) ≤ 1000000) ∧ CallOK G (d + 1) 60 [.str [48]] (.val (.bool false)) ∧ True) (by kernel_rfl)
      ⟨hi, rfl, rfl, by decide, hf, by decide, by decide, hn, trivial⟩
  · obtain ⟨c, r, e, hc⟩ := dg_head m h0
    have ha := dg_all m
    have hlm := hl m (by omega)
    rw [e] at ha hlm
    have hz : ([c] == z_0) = false := beq_eq_false_iff_ne.mpr fun q => hc (by simpa [z_0] using q)
    rcases hm with hm | hm
    · have e1 : decS i = c :: r := by rw [hm, decS_nat, e]
      have h45 : ([c] == z_u45u) = false := beq_eq_false_iff_ne.mpr fun q => by
        have q : c = 45 := by simpa [z_u45u] using q
        have := ha c List.mem_cons_self; omega
      rw [e1] at hn hi ⊢
      obtain ⟨o', hf⟩ := atom_loop (d := d + 1) (w := .str (c :: r)) (f := .str (c :: r)) (c :: r) none ha
      exact call_go (n := 2) (tp := [.r (.val (.bool false)), .b false, .l .next [some (.val (.str (c :: r))), some (.val (.str (c :: r))), o'], .b false, .b false, .b false, .r (.val (.int i))]) (b_atom (d + 1)) rfl (b_atom_x (d + 1)) rfl (by kernel_rfl)
        (P := IntP (.str (c :: r)) (.val (.int i)) ∧ (false = false) ∧ (([c] == z_0) = false) ∧ (decide (Int.ofNat (c :: r).length > Int.ofNat 60) = false) ∧ FA (d + 1) (c :: r) [some (.val (.str (c :: r))), some (.val (.str (c :: r))), none] [some (.val (.str (c :: r))), some (.val (.str (c :: r))), o'] ∧ (([c] == z_u45u) = false) ∧ ((0 : Int) ≤ 1 ∧ (1 : Int) ≤ 1000000) ∧ CallOK G (d + 1) 60 [.str (c :: r)] (.val (.bool false)) ∧ True) (by kernel_rfl)
        ⟨hi, rfl, hz, hlm, hf, h45, by decide, hn, trivial⟩
    · have e1 : decS i = 45 :: c :: r := by rw [hm, decS_neg m (by omega), e]
      rw [e1] at hn hi ⊢
      obtain ⟨o', hf⟩ := atom_loop (d := d + 1) (w := .str (45 :: c :: r)) (f := .str (c :: r)) (c :: r) none ha
      exact call_go (n := 2) (tp := [.r (.val (.bool false)), .b true, .l .next [some (.val (.str (45 :: c :: r))), some (.val (.str (c :: r))), o'], .b false, .b false, .b false, .r (.val (.int i))]) (b_atom (d + 1)) rfl (b_atom_x (d + 1)) rfl (by kernel_rfl)
        (P := IntP (.str (45 :: c :: r)) (.val (.int i)) ∧ (false = false) ∧ (([c] == z_0) = false) ∧ (decide (Int.ofNat (c :: r).length > Int.ofNat 60) = false) ∧ FA (d + 1) (c :: r) [some (.val (.str (45 :: c :: r))), some (.val (.str (c :: r))), none] [some (.val (.str (45 :: c :: r))), some (.val (.str (c :: r))), o'] ∧ ((0 : Int) ≤ 1 ∧ (1 : Int) ≤ 1000000) ∧ (([45] == z_u45u) = true) ∧ ((0 : Int) ≤ 1 ∧ (1 : Int) ≤ 1000000) ∧ CallOK G (d + 1) 60 [.str (45 :: c :: r)] (.val (.bool false)) ∧ True) (by kernel_rfl)
        ⟨hi, rfl, hz, hlm, hf, by decide, by decide, by decide, hn, trivial⟩
noncomputable def itm (t : Tree) : V := Tree.casesOn t (fun i => .str (decS i)) (fun x => .str x) (fun _ _ => tv t) (fun _ _ => tv t) (fun _ _ => tv t) (fun _ _ => tv t) (fun _ _ _ => tv t) (fun _ _ _ => tv t)
theorem ok_tree (t : Tree) (g : gd t) : CallOK G (d + 3) 116 [itm t] (.val (tv t)) := by
  cases t with
  | num i => exact call_go (n := 0) (tp := [.r (.val (tv (.num i)))]) (b_tree_of (d + 2)) rfl (b_tree_of_x (d + 2)) rfl (by kernel_rfl) (P := CallOK G (d + 2) 109 [.str (decS i)] (.val (tv (.num i))) ∧ True) (by kernel_rfl) ⟨atom_num (num_in g), trivial⟩
  | name x => exact call_go (n := 0) (tp := [.r (.val (tv (.name x)))]) (b_tree_of (d + 2)) rfl (b_tree_of_x (d + 2)) rfl (by kernel_rfl) (P := CallOK G (d + 2) 109 [.str x] (.val (tv (.name x))) ∧ True) (by kernel_rfl) ⟨atom_name g, trivial⟩
  | _ => exact call_go (n := 0) (tp := []) (b_tree_of (d + 2)) rfl (b_tree_of_x (d + 2)) rfl (by kernel_rfl) (P := True) (by kernel_rfl) trivial
noncomputable def row (t : Tree) : List V := Tree.casesOn t (fun _ => []) (fun _ => []) (fun x b => [.str z_fun, .str x, itm b]) (fun a b => [.str z_call, itm a, itm b]) (fun a b => [.str z_plus, itm a, itm b]) (fun a b => [.str z_less, itm a, itm b]) (fun c a b => [.str z_if, itm c, itm a, itm b]) (fun x a b => [.str z_let, .str x, itm a, itm b])
noncomputable def leaf (t : Tree) : Bool := Tree.casesOn t (fun _ => true) (fun _ => true) (fun _ _ => false) (fun _ _ => false) (fun _ _ => false) (fun _ _ => false) (fun _ _ _ => false) (fun _ _ _ => false)
theorem ok_nodeof (t : Tree) (g : gd t) (hl : leaf t = false) : CallOK G (d + 4) 121 [.lst (row t)] (.val (tv t)) := by
  cases t with
  | num i => cases hl
  | name x => cases hl
  | fn x b =>
    have h : CompL G (d + 3) (fi_node_of.inner s_node_of_95_31 "item" 1) (e_node_of_95_31 (d + 3)).x 1 [some (.val (.lst (row (.fn x b)))), none] [itm b] [tv b] := (comp_go (o := .val (tv b)) (tp := [.r (.val (tv b))]) (by kernel_rfl) (P := CallOK G (d + 3) 116 [itm b] (.val (tv b)) ∧ True) (by kernel_rfl) ⟨ok_tree b g.2, trivial⟩ comp_nil)
    exact call_go (n := 1) (tp := [.r (.val (.bool true)), .vs [tv b]]) (b_node_of (d + 3)) rfl (b_node_of_x (d + 3)) rfl (by kernel_rfl)
      (P := (3 ≤ room) ∧ (CompL G (d + 3) (fi_node_of.inner s_node_of_95_31 "item" 1) (e_node_of_95_31 (d + 3)).x 1 [some (.val (.lst (row (.fn x b)))), none] [itm b] [tv b] ∧ 1 ≤ 1000000) ∧ ((0 : Int) ≤ 2 ∧ (2 : Int) ≤ 1000000) ∧ ((0 : Int) ≤ 2 ∧ (2 : Int) ≤ 1000000) ∧ CallOK G (d + 3) 60 [.str x] (.val (.bool true)) ∧ True) (by kernel_rfl)
      ⟨by decide, ⟨h, by decide⟩, by decide, by decide, by have := ok_name (d + 2) (.str x); rwa [show nmV (.str x) = true from g.1] at this, trivial⟩
  | call a b =>
    have h : CompL G (d + 3) (fi_node_of.inner s_node_of_97_31 "item" 1) (e_node_of_97_31 (d + 3)).x 1 [some (.val (.lst (row (.call a b)))), none] [itm a, itm b] [tv a, tv b] := (comp_go (o := .val (tv a)) (tp := [.r (.val (tv a))]) (by kernel_rfl) (P := CallOK G (d + 3) 116 [itm a] (.val (tv a)) ∧ True) (by kernel_rfl) ⟨ok_tree a g.1, trivial⟩ (comp_go (o := .val (tv b)) (tp := [.r (.val (tv b))]) (by kernel_rfl) (P := CallOK G (d + 3) 116 [itm b] (.val (tv b)) ∧ True) (by kernel_rfl) ⟨ok_tree b g.2, trivial⟩ comp_nil))
    exact call_go (n := 1) (tp := [.vs [tv a, tv b]]) (b_node_of (d + 3)) rfl (b_node_of_x (d + 3)) rfl (by kernel_rfl)
      (P := (3 ≤ room) ∧ (CompL G (d + 3) (fi_node_of.inner s_node_of_97_31 "item" 1) (e_node_of_97_31 (d + 3)).x 1 [some (.val (.lst (row (.call a b)))), none] [itm a, itm b] [tv a, tv b] ∧ 2 ≤ 1000000) ∧ ((0 : Int) ≤ 1 ∧ (1 : Int) ≤ 1000000) ∧ ((0 : Int) ≤ 1 ∧ (1 : Int) ≤ 1000000) ∧ True) (by kernel_rfl)
      ⟨by decide, ⟨h, by decide⟩, by decide, by decide, trivial⟩
  | plus a b =>
    have h : CompL G (d + 3) (fi_node_of.inner s_node_of_97_31 "item" 1) (e_node_of_97_31 (d + 3)).x 1 [some (.val (.lst (row (.plus a b)))), none] [itm a, itm b] [tv a, tv b] := (comp_go (o := .val (tv a)) (tp := [.r (.val (tv a))]) (by kernel_rfl) (P := CallOK G (d + 3) 116 [itm a] (.val (tv a)) ∧ True) (by kernel_rfl) ⟨ok_tree a g.1, trivial⟩ (comp_go (o := .val (tv b)) (tp := [.r (.val (tv b))]) (by kernel_rfl) (P := CallOK G (d + 3) 116 [itm b] (.val (tv b)) ∧ True) (by kernel_rfl) ⟨ok_tree b g.2, trivial⟩ comp_nil))
    exact call_go (n := 1) (tp := [.vs [tv a, tv b]]) (b_node_of (d + 3)) rfl (b_node_of_x (d + 3)) rfl (by kernel_rfl)
      (P := (3 ≤ room) ∧ (CompL G (d + 3) (fi_node_of.inner s_node_of_97_31 "item" 1) (e_node_of_97_31 (d + 3)).x 1 [some (.val (.lst (row (.plus a b)))), none] [itm a, itm b] [tv a, tv b] ∧ 2 ≤ 1000000) ∧ ((0 : Int) ≤ 1 ∧ (1 : Int) ≤ 1000000) ∧ ((0 : Int) ≤ 1 ∧ (1 : Int) ≤ 1000000) ∧ True) (by kernel_rfl)
      ⟨by decide, ⟨h, by decide⟩, by decide, by decide, trivial⟩
  | less a b =>
    have h : CompL G (d + 3) (fi_node_of.inner s_node_of_97_31 "item" 1) (e_node_of_97_31 (d + 3)).x 1 [some (.val (.lst (row (.less a b)))), none] [itm a, itm b] [tv a, tv b] := (comp_go (o := .val (tv a)) (tp := [.r (.val (tv a))]) (by kernel_rfl) (P := CallOK G (d + 3) 116 [itm a] (.val (tv a)) ∧ True) (by kernel_rfl) ⟨ok_tree a g.1, trivial⟩ (comp_go (o := .val (tv b)) (tp := [.r (.val (tv b))]) (by kernel_rfl) (P := CallOK G (d + 3) 116 [itm b] (.val (tv b)) ∧ True) (by kernel_rfl) ⟨ok_tree b g.2, trivial⟩ comp_nil))
    exact call_go (n := 1) (tp := [.vs [tv a, tv b]]) (b_node_of (d + 3)) rfl (b_node_of_x (d + 3)) rfl (by kernel_rfl)
      (P := (3 ≤ room) ∧ (CompL G (d + 3) (fi_node_of.inner s_node_of_97_31 "item" 1) (e_node_of_97_31 (d + 3)).x 1 [some (.val (.lst (row (.less a b)))), none] [itm a, itm b] [tv a, tv b] ∧ 2 ≤ 1000000) ∧ ((0 : Int) ≤ 1 ∧ (1 : Int) ≤ 1000000) ∧ ((0 : Int) ≤ 1 ∧ (1 : Int) ≤ 1000000) ∧ True) (by kernel_rfl)
      ⟨by decide, ⟨h, by decide⟩, by decide, by decide, trivial⟩
  | ite c a b =>
    have h : CompL G (d + 3) (fi_node_of.inner s_node_of_97_31 "item" 1) (e_node_of_97_31 (d + 3)).x 1 [some (.val (.lst (row (.ite c a b)))), none] [itm c, itm a, itm b] [tv c, tv a, tv b] := (comp_go (o := .val (tv c)) (tp := [.r (.val (tv c))]) (by kernel_rfl) (P := CallOK G (d + 3) 116 [itm c] (.val (tv c)) ∧ True) (by kernel_rfl) ⟨ok_tree c g.1, trivial⟩ (comp_go (o := .val (tv a)) (tp := [.r (.val (tv a))]) (by kernel_rfl) (P := CallOK G (d + 3) 116 [itm a] (.val (tv a)) ∧ True) (by kernel_rfl) ⟨ok_tree a g.2.1, trivial⟩ (comp_go (o := .val (tv b)) (tp := [.r (.val (tv b))]) (by kernel_rfl) (P := CallOK G (d + 3) 116 [itm b] (.val (tv b)) ∧ True) (by kernel_rfl) ⟨ok_tree b g.2.2, trivial⟩ comp_nil)))
    exact call_go (n := 1) (tp := [.vs [tv c, tv a, tv b]]) (b_node_of (d + 3)) rfl (b_node_of_x (d + 3)) rfl (by kernel_rfl)
      (P := (4 ≤ room) ∧ (CompL G (d + 3) (fi_node_of.inner s_node_of_97_31 "item" 1) (e_node_of_97_31 (d + 3)).x 1 [some (.val (.lst (row (.ite c a b)))), none] [itm c, itm a, itm b] [tv c, tv a, tv b] ∧ 3 ≤ 1000000) ∧ ((0 : Int) ≤ 1 ∧ (1 : Int) ≤ 1000000) ∧ ((0 : Int) ≤ 1 ∧ (1 : Int) ≤ 1000000) ∧ True) (by kernel_rfl)
      ⟨by decide, ⟨h, by decide⟩, by decide, by decide, trivial⟩
  | lt x a b =>
    have h : CompL G (d + 3) (fi_node_of.inner s_node_of_95_31 "item" 1) (e_node_of_95_31 (d + 3)).x 1 [some (.val (.lst (row (.lt x a b)))), none] [itm a, itm b] [tv a, tv b] := (comp_go (o := .val (tv a)) (tp := [.r (.val (tv a))]) (by kernel_rfl) (P := CallOK G (d + 3) 116 [itm a] (.val (tv a)) ∧ True) (by kernel_rfl) ⟨ok_tree a g.2.1, trivial⟩ (comp_go (o := .val (tv b)) (tp := [.r (.val (tv b))]) (by kernel_rfl) (P := CallOK G (d + 3) 116 [itm b] (.val (tv b)) ∧ True) (by kernel_rfl) ⟨ok_tree b g.2.2, trivial⟩ comp_nil))
    exact call_go (n := 1) (tp := [.r (.val (.bool true)), .vs [tv a, tv b]]) (b_node_of (d + 3)) rfl (b_node_of_x (d + 3)) rfl (by kernel_rfl)
      (P := (4 ≤ room) ∧ (CompL G (d + 3) (fi_node_of.inner s_node_of_95_31 "item" 1) (e_node_of_95_31 (d + 3)).x 1 [some (.val (.lst (row (.lt x a b)))), none] [itm a, itm b] [tv a, tv b] ∧ 2 ≤ 1000000) ∧ ((0 : Int) ≤ 2 ∧ (2 : Int) ≤ 1000000) ∧ ((0 : Int) ≤ 2 ∧ (2 : Int) ≤ 1000000) ∧ CallOK G (d + 3) 60 [.str x] (.val (.bool true)) ∧ True) (by kernel_rfl)
      ⟨by decide, ⟨h, by decide⟩, by decide, by decide, by have := ok_name (d + 2) (.str x); rwa [show nmV (.str x) = true from g.1] at this, trivial⟩
end Mine.L06
end

section
open PySem
set_option autoImplicit false
set_option linter.unusedVariables false
namespace Mine.L06
noncomputable def fl (cur : List Nat) : List (List Nat) := List.casesOn cur [] fun _ _ => [cur]
noncomputable def tkr (z : List Nat) : List Nat → List (List Nat) := @List.rec Nat (fun _ => List Nat → List (List Nat)) fl (fun c _ r cur => if c = 32 then fl cur ++ r [] else if c = 40 ∨ c = 41 then fl cur ++ [c] :: r [] else r (cur ++ [c])) z
theorem tkr_cons (c : Nat) (z cur : List Nat) : tkr (c :: z) cur = if c = 32 then fl cur ++ tkr z [] else if c = 40 ∨ c = 41 then fl cur ++ [c] :: tkr z [] else tkr z (cur ++ [c]) := rfl
noncomputable def bkr (z : List Nat) : List Nat → List (List Nat) := @List.rec Nat (fun _ => List Nat → List (List Nat)) fl (fun c _ r cur => if c = 32 then fl cur ++ r [] else r (cur ++ [c])) z
theorem bkr_cons (c : Nat) (z cur : List Nat) : bkr (c :: z) cur = if c = 32 then fl cur ++ bkr z [] else bkr z (cur ++ [c]) := rfl
noncomputable def ne (l : List (List Nat)) : List (List Nat) := @List.rec (List Nat) (fun _ => List (List Nat)) [] (fun x _ r => fl x ++ r) l
noncomputable def ahead (cur : List Nat) (l : List (List Nat)) : List (List Nat) := List.casesOn l [cur] fun p ps => (cur ++ p) :: ps
theorem cut_bkr : ∀ z cur : List Nat, ne (ahead cur (cutAt 32 z)) = bkr z cur
  | [], cur => by show fl (cur ++ []) ++ [] = fl cur; rw [List.append_nil, List.append_nil]
  | c :: z, cur => by
    rw [cutAt_cons, bkr_cons]
    have h1 := cut_bkr z []
    have h2 := cut_bkr z (cur ++ [c])
    split
    · rw [← h1]; show fl (cur ++ []) ++ ne (cutAt 32 z) = _
      rw [List.append_nil]
      cases cutAt 32 z <;> rfl
    · rw [← h2]
      cases cutAt 32 z with
      | nil => rfl
      | cons p ps => show fl (cur ++ c :: p) ++ ne ps = fl (cur ++ [c] ++ p) ++ ne ps; rw [List.append_assoc]; rfl
theorem cut_words (z : List Nat) : ne (cutAt 32 z) = bkr z [] := by
  rw [← cut_bkr]; cases cutAt 32 z <;> rfl
noncomputable def wid (z : List Nat) : List Nat := @List.rec Nat (fun _ => List Nat) [] (fun c _ r => if c = 40 then 32 :: 40 :: 32 :: r else if c = 41 then 32 :: 41 :: 32 :: r else c :: r) z
theorem wid_cons (c : Nat) (z : List Nat) : wid (c :: z) = if c = 40 then 32 :: 40 :: 32 :: wid z else if c = 41 then 32 :: 41 :: 32 :: wid z else c :: wid z := rfl
theorem wid_bkr : ∀ z cur : List Nat, bkr (wid z) cur = tkr z cur
  | [], _ => rfl
  | c :: z, cur => by
    rw [wid_cons, tkr_cons]
    have h1 := wid_bkr z []
    by_cases h : c = 40
    · subst h; rw [if_pos rfl, if_neg (by decide), if_pos (.inl rfl), ← h1]; rfl
    by_cases h' : c = 41
    · subst h'; rw [if_neg (by decide), if_pos rfl, if_neg (by decide), if_pos (.inr rfl), ← h1]; rfl
    rw [if_neg h, if_neg h', bkr_cons, if_neg (show ¬(c = 40 ∨ c = 41) by omega), h1, wid_bkr z]
theorem repl_cons (c : Nat) (w : List Nat) (x : Nat) (z : List Nat) : replS [c] w (x :: z) = (if x = c then w else [x]) ++ replS [c] w z := by
  rw [repl_one, repl_one, cutAt_cons]
  have hn : cutAt c z ≠ [] := by cases z with
    | nil => intro h; cases h
    | cons y z => rw [cutAt_cons]; split; · intro h; cases h
                  cases cutAt c z <;> (intro h; cases h)
  cases h : cutAt c z with
  | nil => exact absurd h hn
  | cons p ps =>
    split
    · cases ps <;> rfl
    · cases ps <;> rfl
theorem wid_repl : ∀ z : List Nat, replS [41] [32, 41, 32] (replS [40] [32, 40, 32] z) = wid z
  | [] => by rw [repl_one, repl_one]; rfl
  | c :: z => by
    rw [repl_cons, wid_cons]
    have ih := wid_repl z
    by_cases h : c = 40
    · subst h; rw [if_pos rfl, if_pos rfl]; show replS [41] _ (32 :: 40 :: 32 :: replS [40] [32, 40, 32] z) = _
      rw [repl_cons, repl_cons, repl_cons, ih]; rfl
    · rw [if_neg h, if_neg h]; show replS [41] _ (c :: replS [40] [32, 40, 32] z) = _
      rw [repl_cons, ih]
      split <;> rfl
theorem words_are (z : List Nat) : ne (cutAt 32 (replS [41] [32, 41, 32] (replS [40] [32, 40, 32] z))) = tkr z [] := by
  rw [cut_words, wid_repl, wid_bkr]
theorem tkr_in {y w : List Nat} (h : ∀ q cur, tkr (y ++ q) cur = tkr (w ++ q) cur) {q q' : List Nat} (hq : ∀ cur, tkr q cur = tkr q' cur) : ∀ p cur : List Nat, tkr (p ++ y ++ q) cur = tkr (p ++ w ++ q') cur
  | [], cur => by
    show tkr (y ++ q) cur = tkr (w ++ q') cur
    rw [h]
    exact tkr_on hq w cur
  | c :: p, cur => by
    show tkr (c :: (p ++ y ++ q)) cur = tkr (c :: (p ++ w ++ q')) cur
    rw [tkr_cons, tkr_cons, tkr_in h hq p, tkr_in h hq p]
where
  tkr_on {q q' : List Nat} (hq : ∀ cur, tkr q cur = tkr q' cur) : ∀ p cur : List Nat, tkr (p ++ q) cur = tkr (p ++ q') cur
  | [], cur => hq cur
  | c :: p, cur => by
    show tkr (c :: (p ++ q)) cur = tkr (c :: (p ++ q')) cur
    rw [tkr_cons, tkr_cons, tkr_on hq p, tkr_on hq p]
theorem tkr_join {y w : List Nat} (h : ∀ q cur, tkr (y ++ q) cur = tkr (w ++ q) cur) : ∀ (ps : List (List Nat)) (cur : List Nat), tkr (joinS y ps) cur = tkr (joinS w ps) cur
  | [], _ => rfl
  | [p], _ => rfl
  | p :: q :: r, cur => tkr_in h (tkr_join h (q :: r)) p cur
theorem tkr_repl {y w : List Nat} (h : ∀ q cur, tkr (y ++ q) cur = tkr (w ++ q) cur) (z cur : List Nat) : tkr (replS y w z) cur = tkr z cur := by
  obtain ⟨ps, _, e1, e2⟩ := repl_parts y w z
  rw [e2, e1, tkr_join h]
theorem wide0 (z : List Nat) : tkr ([32, 32] ++ replS [41] [32, 32, 41] (replS [40] [32, 40, 32] (replS [32] [32, 32, 32] z)) ++ [32]) [] = tkr z [] := by
  have e : ∀ x cur : List Nat, tkr (x ++ [32]) cur = tkr x cur := fun x => by
    induction x with
    | nil => intro cur; show fl cur ++ [] = fl cur; rw [List.append_nil]
    | cons c x ih => intro cur; rw [List.cons_append, tkr_cons, tkr_cons, ih, ih]
  rw [e]
  show tkr (replS _ _ _) [] = _
  rw [tkr_repl fun q cur => by show _ = fl cur ++ ([] ++ ([] ++ _ :: _)); rfl, tkr_repl fun q cur => by show _ = fl cur ++ ([] ++ _ :: ([] ++ _)); rfl, tkr_repl fun q cur => by show _ = fl cur ++ ([] ++ ([] ++ _)); rfl]
theorem wide1 (z : List Nat) : tkr (replS [41, 32] [41] (replS [32, 40] [40] z)) [] = tkr z [] := by
  rw [tkr_repl fun q cur => by show fl cur ++ _ :: ([] ++ _) = _; rfl, tkr_repl fun q cur => by show fl cur ++ ([] ++ _ :: _) = _; rfl]
theorem wide2 (z : List Nat) : tkr (replS [32] [32, 32] (replS [41, 32, 40] [41, 40] z)) [] = tkr z [] := by
  rw [tkr_repl fun q cur => by show _ = fl cur ++ ([] ++ _); rfl, tkr_repl fun q cur => by show fl cur ++ _ :: ([] ++ ([] ++ _ :: _)) = _; rfl]
noncomputable def mz (f : Nat → Nat) (z : List Nat) : Nat := (z.map f).sum
theorem mz_app (f : Nat → Nat) (a b : List Nat) : mz f (a ++ b) = mz f a + mz f b := by simp [mz]
theorem mz_le {f g : Nat → Nat} (h : ∀ x, g x ≤ f x) : ∀ z, mz g z ≤ mz f z
  | [] => Nat.le_refl _
  | x :: z => Nat.add_le_add (h x) (mz_le h z)
theorem mz_join {f g : Nat → Nat} (h : ∀ x, g x ≤ f x) {y w : List Nat} (hw : mz g w ≤ mz f y) : ∀ ps, mz g (joinS w ps) ≤ mz f (joinS y ps)
  | [] => Nat.le_refl _
  | [p] => mz_le h p
  | p :: q :: r => by
    show mz g (p ++ w ++ joinS w (q :: r)) ≤ mz f (p ++ y ++ joinS y (q :: r))
    rw [mz_app, mz_app, mz_app, mz_app]
    exact Nat.add_le_add (Nat.add_le_add (mz_le h p) hw) (mz_join h hw (q :: r))
theorem mz_repl {f g : Nat → Nat} (h : ∀ x, g x ≤ f x) {y w : List Nat} (hw : mz g w ≤ mz f y) (z : List Nat) : mz g (replS y w z) ≤ mz f z := by
  obtain ⟨ps, _, e1, e2⟩ := repl_parts y w z
  rw [e2]; conv => rhs; rw [e1]
  exact mz_join h hw ps
theorem mz_len {f : Nat → Nat} (h : ∀ x, 1 ≤ f x) : ∀ z, z.length ≤ mz f z
  | [] => Nat.le_refl _
  | x :: z => by show z.length + 1 ≤ f x + mz f z; have := mz_len h z; have := h x; omega
theorem mz_max {f : Nat → Nat} {k : Nat} (h : ∀ x, f x ≤ k) : ∀ z, mz f z ≤ k * z.length
  | [] => Nat.le_refl _
  | x :: z => by show f x + mz f z ≤ k * (z.length + 1); have := mz_max h z; have := h x; rw [Nat.mul_succ]; omega
noncomputable def wt (a b c x : Nat) : Nat := if x = 32 then a else if x = 40 then b else if x = 41 then c else 1
theorem wt_le {a b c a' b' c' : Nat} (h1 : a ≤ a') (h2 : b ≤ b') (h3 : c ≤ c') (x : Nat) : wt a b c x ≤ wt a' b' c' x := by
  unfold wt; split; · exact h1
  split; · exact h2
  split; · exact h3
  exact Nat.le_refl _
theorem wt_max {a b c k : Nat} (h1 : a ≤ k) (h2 : b ≤ k) (h3 : c ≤ k) (h : 1 ≤ k) (x : Nat) : wt a b c x ≤ k := by
  unfold wt; split; · exact h1
  split; · exact h2
  split; · exact h3
  exact h
theorem wt_pos {a b c : Nat} (h1 : 1 ≤ a) (h2 : 1 ≤ b) (h3 : 1 ≤ c) (x : Nat) : 1 ≤ wt a b c x := by
  unfold wt; split; · exact h1
  split; · exact h2
  split; · exact h3
  exact Nat.le_refl _
structure Wd (w : List Nat) : Prop where
  ne : w ≠ []
  no : ∀ c ∈ w, c ≠ 32 ∧ ¬(c = 40 ∨ c = 41)
structure Dl (q : List Nat) : Prop where
  is : q = [] ∨ ∃ c r, q = c :: r ∧ (c = 32 ∨ c = 41)
theorem tkr_no : ∀ (w : List Nat), (∀ c ∈ w, c ≠ 32 ∧ ¬(c = 40 ∨ c = 41)) → ∀ q cur : List Nat, tkr (w ++ q) cur = tkr q (cur ++ w)
  | [], _, q, cur => by rw [List.append_nil]; rfl
  | c :: w, h, q, cur => by
    have h1 := h c List.mem_cons_self
    rw [List.cons_append, tkr_cons, if_neg h1.1, if_neg h1.2, tkr_no w (fun c hc => h c (List.mem_cons_of_mem _ hc)), List.append_assoc]; rfl
theorem tkr_wd {w q : List Nat} (hw : Wd w) (hq : Dl q) : tkr (w ++ q) [] = w :: tkr q [] := by
  rw [tkr_no w hw.no, List.nil_append]
  have hf : fl w = [w] := by cases w with
    | nil => exact absurd rfl hw.ne
    | cons c w => rfl
  obtain rfl | ⟨c, r, rfl, rfl | rfl⟩ := hq.is
  · exact hf
  · show fl w ++ _ = _; rw [hf]; rfl
  · show fl w ++ _ = _; rw [hf]; rfl
theorem wd_name {x : List Nat} (h : isName x = true) : Wd x := by
  simp only [isName, Bool.and_eq_true, decide_eq_true_eq] at h
  refine ⟨fun e => by rw [e] at h; exact absurd h.1 (by decide), fun c hc => ?_⟩
  have q := List.contains_iff_mem.mp (List.all_eq_true.mp h.2.2.2 c hc)
  simp only [letters, z_abcdefghijklmnopqrstuvwxyz, List.mem_cons, List.not_mem_nil, or_false] at q
  omega
theorem wd_num (i : Int) : Wd (decS i) := by
  refine ⟨fun e => ?_, fun c hc => by have := decS_sign i c hc; omega⟩
  obtain ⟨m, hm⟩ := Int.eq_nat_or_neg i
  by_cases h0 : m = 0
  · obtain rfl : i = (0 : Nat) := by rcases hm with hm | hm <;> omega
    rw [decS_nat] at e; exact dg_ne 0 e
  rcases hm with rfl | rfl
  · rw [decS_nat] at e; exact dg_ne m e
  · rw [decS_neg m (by omega)] at e; cases e
theorem wd_word {w : List Nat} (h : w = z_fun ∨ w = z_call ∨ w = z_plus ∨ w = z_less ∨ w = z_if ∨ w = z_let) : Wd w := by
  rcases h with rfl | rfl | rfl | rfl | rfl | rfl <;> exact ⟨by decide, by decide⟩
noncomputable def toks (t : Tree) : List (List Nat) := Tree.rec (fun i => [decS i]) (fun x => [x]) (fun x _ b => [40] :: z_fun :: x :: (b ++ [[41]])) (fun _ _ a b => [40] :: z_call :: (a ++ (b ++ [[41]]))) (fun _ _ a b => [40] :: z_plus :: (a ++ (b ++ [[41]]))) (fun _ _ a b => [40] :: z_less :: (a ++ (b ++ [[41]])))
  (fun _ _ _ c a b => [40] :: z_if :: (c ++ (a ++ (b ++ [[41]])))) (fun x _ _ a b => [40] :: z_let :: x :: (a ++ (b ++ [[41]]))) t
theorem dl_sp (q : List Nat) : Dl (32 :: q) := ⟨.inr ⟨_, _, rfl, .inl rfl⟩⟩
theorem dl_cl (q : List Nat) : Dl (41 :: q) := ⟨.inr ⟨_, _, rfl, .inr rfl⟩⟩
abbrev Rt (t : Tree) : Prop := ∀ q, Dl q → tkr (txt t ++ q) [] = toks t ++ tkr q []
theorem tk_op (q : List Nat) : tkr (40 :: q) [] = [40] :: tkr q [] := rfl
theorem tk_sp (q : List Nat) : tkr (32 :: q) [] = tkr q [] := rfl
theorem tk_cl (q : List Nat) : tkr (41 :: q) [] = [41] :: tkr q [] := rfl
theorem tkr_txt : ∀ t : Tree, gd t → Rt t := by
  have two : ∀ {w : List Nat} (hw : Wd w) {a b : Tree} (ha : Rt a) (hb : Rt b) (q : List Nat), tkr (((z_u40u ++ w) ++ (z_u32u ++ (txt a ++ (z_u32u ++ (txt b ++ z_u41u))))) ++ q) [] = ([40] :: w :: (toks a ++ (toks b ++ [[41]]))) ++ tkr q [] := by
    intro w hw a b ha hb q
    simp only [List.append_assoc, z_u40u, z_u32u, z_u41u, List.cons_append, List.nil_append]
    rw [tk_op, tkr_wd hw (dl_sp _), tk_sp, ha _ (dl_sp _), tk_sp, hb _ (dl_cl _), tk_cl]
  intro t
  induction t with
  | num i => intro _ q hq; exact tkr_wd (wd_num i) hq
  | name x => intro h q hq; exact tkr_wd (wd_name h) hq
  | fn x b ib =>
    intro h q _
    show tkr (((z_u40u ++ z_fun) ++ ((z_u32u ++ x) ++ (z_u32u ++ (txt b ++ z_u41u)))) ++ q) [] = ([40] :: z_fun :: x :: (toks b ++ [[41]])) ++ tkr q []
    simp only [List.append_assoc, z_u40u, z_u32u, z_u41u, List.cons_append, List.nil_append]
    rw [tk_op, tkr_wd (wd_word (by simp)) (dl_sp _), tk_sp, tkr_wd (wd_name h.1) (dl_sp _), tk_sp, ib h.2 _ (dl_cl _), tk_cl]
  | call a b ia ib => intro h q _; exact two (wd_word (by simp)) (ia h.1) (ib h.2) q
  | plus a b ia ib => intro h q _; exact two (wd_word (by simp)) (ia h.1) (ib h.2) q
  | less a b ia ib => intro h q _; exact two (wd_word (by simp)) (ia h.1) (ib h.2) q
  | ite c a b ic ia ib =>
    intro h q _
    show tkr (((z_u40u ++ z_if) ++ (z_u32u ++ (txt c ++ (z_u32u ++ (txt a ++ (z_u32u ++ (txt b ++ z_u41u))))))) ++ q) [] = ([40] :: z_if :: (toks c ++ (toks a ++ (toks b ++ [[41]])))) ++ tkr q []
    simp only [List.append_assoc, z_u40u, z_u32u, z_u41u, List.cons_append, List.nil_append]
    rw [tk_op, tkr_wd (wd_word (by simp)) (dl_sp _), tk_sp, ic h.1 _ (dl_sp _), tk_sp, ia h.2.1 _ (dl_sp _), tk_sp, ib h.2.2 _ (dl_cl _), tk_cl]
  | lt x a b ia ib =>
    intro h q _
    show tkr (((z_u40u ++ z_let) ++ ((z_u32u ++ x) ++ (z_u32u ++ (txt a ++ (z_u32u ++ (txt b ++ z_u41u)))))) ++ q) [] = ([40] :: z_let :: x :: (toks a ++ (toks b ++ [[41]]))) ++ tkr q []
    simp only [List.append_assoc, z_u40u, z_u32u, z_u41u, List.cons_append, List.nil_append]
    rw [tk_op, tkr_wd (wd_word (by simp)) (dl_sp _), tk_sp, tkr_wd (wd_name h.1) (dl_sp _), tk_sp, ia h.2.1 _ (dl_sp _), tk_sp, ib h.2.2 _ (dl_cl _), tk_cl]
theorem tok_txt (t : Tree) (h : gd t) : tkr (txt t) [] = toks t := by
  have := tkr_txt t h [] ⟨.inl rfl⟩
  rwa [List.append_nil, show toks t ++ tkr [] [] = toks t from List.append_nil _] at this
end Mine.L06
end

section
open PySem
set_option autoImplicit false
set_option maxRecDepth 100000
set_option linter.unusedVariables false
namespace Mine.L06
variable {d : Nat}
noncomputable abbrev wo1 (z : List Nat) : List Nat := replS z_u40u z_u32uu40uu32u z
noncomputable abbrev wo2 (z : List Nat) : List Nat := replS z_u41u z_u32uu41uu32u (wo1 z)
theorem ok_words {z : List Nat} (h1 : z.length ≤ room) (h2 : (wo1 z).length ≤ room) (h3 : (wo2 z).length ≤ room) : CallOK G (d + 1) 102 [.str z] (.own ((cutAt 32 (wo2 z)).map .str).reverse) :=
  call_go (n := 0) (tp := []) (b_words_of d) rfl (b_words_of_x d) rfl (by kernel_rfl) (P := (wo2 z).length ≤ room ∧ (wo1 z).length ≤ room ∧ z.length ≤ room ∧ True) (by kernel_rfl) ⟨h3, h2, h1, trivial⟩
set_option genSizeOf false in
set_option genInjectivity false in
inductive Rd (d : Nat) : List (List Nat) → List (List V) → List (List V) → Prop
  | nil {R : List (List V)} : Rd d [] R R
  | op {ts : List (List Nat)} {R R' : List (List V)} (h : R.length < room) (k : Rd d ts ([] :: R) R') : Rd d ([40] :: ts) R R'
  | cl {ts : List (List Nat)} {a b : List V} {v : V} {R R' : List (List V)} (h : b.length < room) (c : CallOK G d 121 [.lst a.reverse] (.val v)) (k : Rd d ts ((v :: b) :: R) R') : Rd d ([41] :: ts) (a :: b :: R) R'
  | wd {w : List Nat} {ts : List (List Nat)} {a : List V} {R R' : List (List V)} (n : Wd w) (h : a.length < room) (k : Rd d ts ((.str w :: a) :: R) R') : Rd d (w :: ts) (a :: R) R'
abbrev FR (d : Nat) (l : List V) (ρ ρ' : Loc) : Prop := ForOK G d fi_read (.Name "word" ⟨103,8,103,12⟩) (l_read_103 d).xs l ρ .next ρ'
noncomputable abbrev rst (z : List Nat) (R : List (List V)) (w n : Option O) : Loc := [some (.val (.str z)), some (.own2 R), w, n, none]
theorem Wd.nq {w : List Nat} (h : Wd w) {c : Nat} (hc : c = 40 ∨ c = 41) : (w == [c]) = false := beq_eq_false_iff_ne.mpr fun e => by
  subst e; exact (h.no c List.mem_cons_self).2 hc
theorem rd_loop {z : List Nat} : ∀ (ws : List (List Nat)) (R R' : List (List V)), Rd d (ne ws) R R' → ∀ (w n : Option O), ∃ w' n', FR d (ws.map .str) (rst z R w n) (rst z R' w' n')
  | [], R, R', h, w, n => by cases h; exact ⟨w, n, for_nil⟩
  | [] :: ws, R, R', h, w, n => by
    obtain ⟨w', n', k⟩ := rd_loop (z := z) ws R R' h (some (.val (.str []))) n
    exact ⟨w', n', for_go (i := 2) (v := .str []) (l := ws.map .str) (ρ' := rst z R (some (.val (.str []))) n) (tp := [.b false, .b false, .b false]) (by kernel_rfl) (by kernel_rfl) (P := (false = false) ∧ (([] == z_u41u) = false) ∧ (([] == z_u40u) = false) ∧ True) (by kernel_rfl) ⟨rfl, rfl, rfl, trivial⟩ k⟩
  | (c :: x) :: ws, R, R', h, w, n => by
    have h : Rd d ((c :: x) :: ne ws) R R' := h
    cases h with
    | op h k =>
      obtain ⟨w', n', k⟩ := rd_loop (z := z) ws _ R' k (some (.val (.str [40]))) n
      exact ⟨w', n', for_go (i := 2) (v := .str [40]) (l := ws.map .str) (ρ' := rst z ([] :: R) (some (.val (.str [40]))) n) (tp := [.b true]) (by kernel_rfl) (by kernel_rfl) (P := R.length < room ∧ (([40] == z_u40u) = true) ∧ True) (by kernel_rfl) ⟨h, rfl, trivial⟩ k⟩
    | @cl _ a b v R _ hb q k =>
      obtain ⟨w', n', k⟩ := rd_loop (z := z) ws _ R' k (some (.val (.str [41]))) (some (.val v))
      exact ⟨w', n', for_go (i := 2) (v := .str [41]) (l := ws.map .str) (ρ' := rst z ((v :: b) :: R) (some (.val (.str [41]))) (some (.val v))) (tp := [.b false, .b true, .b false, .r (.val v)]) (by kernel_rfl) (by kernel_rfl)
        (P := b.length < room ∧ CallOK G d 121 [.lst a.reverse] (.val v) ∧ ((Int.ofNat (a :: b :: R).length == Int.ofNat 1) = false) ∧ (([41] == z_u41u) = true) ∧ (([41] == z_u40u) = false) ∧ True) (by kernel_rfl) ⟨hb, q, beq_eq_false_iff_ne.mpr fun e => by have e := Int.ofNat.inj e; simp at e, rfl, rfl, trivial⟩ k⟩
    | @wd _ _ a R _ hw ha k =>
      obtain ⟨w', n', k⟩ := rd_loop (z := z) ws _ R' k (some (.val (.str (c :: x)))) n
      exact ⟨w', n', for_go (i := 2) (v := .str (c :: x)) (l := ws.map .str) (ρ' := rst z ((.str (c :: x) :: a) :: R) (some (.val (.str (c :: x)))) n) (tp := [.b false, .b false, .b true]) (by kernel_rfl) (by kernel_rfl)
        (P := a.length < room ∧ ((!(c :: x) == z_) = true) ∧ (((c :: x) == z_u41u) = false) ∧ (((c :: x) == z_u40u) = false) ∧ True) (by kernel_rfl) ⟨ha, rfl, hw.nq (.inr rfl), hw.nq (.inl rfl), trivial⟩ k⟩
theorem rd_tree (d : Nat) : ∀ (t : Tree), gd t → ∀ (ts : List (List Nat)) (top : List V) (R R' : List (List V)), R.length + sz t < room → top.length < room → Rd (d + 4) ts ((itm t :: top) :: R) R' → Rd (d + 4) (toks t ++ ts) (top :: R) R' := by
  intro t
  have hr : 1000000 = room := rfl
  induction t with
  | num i => intro g ts top R R' _ h k; exact .wd (wd_num i) h k
  | name x => intro g ts top R R' _ h k; exact .wd (wd_name g) h k
  | fn x b ib =>
    intro g ts top R R' h1 h2 k
    have h1 : R.length + (sz b + 1) < room := h1
    have hb := sz_pos b
    show Rd (d + 4) ([40] :: z_fun :: x :: ((toks b ++ [[41]]) ++ ts)) _ _
    refine .op (show R.length + 1 < room by omega) (.wd (wd_word (by simp)) (by show 0 < room; omega) (.wd (wd_name g.1) (by show 1 < room; omega) ?_))
    rw [List.append_assoc]
    exact ib g.2 _ _ _ _ (show R.length + 1 + sz b < room by omega) (by show 2 < room; omega) (.cl h2 (ok_nodeof (.fn x b) g rfl) k)
  | call a b ia ib =>
    intro g ts top R R' h1 h2 k
    have h1 : R.length + (sz a + sz b + 1) < room := h1
    have ha := sz_pos a
    have hb := sz_pos b
    show Rd (d + 4) ([40] :: z_call :: ((toks a ++ (toks b ++ [[41]])) ++ ts)) _ _
    refine .op (show R.length + 1 < room by omega) (.wd (wd_word (by simp)) (by show 0 < room; omega) ?_)
    rw [List.append_assoc, List.append_assoc]
    exact ia g.1 _ _ _ _ (show R.length + 1 + sz a < room by omega) (by show 1 < room; omega) (ib g.2 _ _ _ _ (show R.length + 1 + sz b < room by omega) (by show 2 < room; omega) (.cl h2 (ok_nodeof (.call a b) g rfl) k))
  | plus a b ia ib =>
    intro g ts top R R' h1 h2 k
    have h1 : R.length + (sz a + sz b + 1) < room := h1
    have ha := sz_pos a
    have hb := sz_pos b
    show Rd (d + 4) ([40] :: z_plus :: ((toks a ++ (toks b ++ [[41]])) ++ ts)) _ _
    refine .op (show R.length + 1 < room by omega) (.wd (wd_word (by simp)) (by show 0 < room; omega) ?_)
    rw [List.append_assoc, List.append_assoc]
    exact ia g.1 _ _ _ _ (show R.length + 1 + sz a < room by omega) (by show 1 < room; omega) (ib g.2 _ _ _ _ (show R.length + 1 + sz b < room by omega) (by show 2 < room; omega) (.cl h2 (ok_nodeof (.plus a b) g rfl) k))
  | less a b ia ib =>
    intro g ts top R R' h1 h2 k
    have h1 : R.length + (sz a + sz b + 1) < room := h1
    have ha := sz_pos a
    have hb := sz_pos b
    show Rd (d + 4) ([40] :: z_less :: ((toks a ++ (toks b ++ [[41]])) ++ ts)) _ _
    refine .op (show R.length + 1 < room by omega) (.wd (wd_word (by simp)) (by show 0 < room; omega) ?_)
    rw [List.append_assoc, List.append_assoc]
    exact ia g.1 _ _ _ _ (show R.length + 1 + sz a < room by omega) (by show 1 < room; omega) (ib g.2 _ _ _ _ (show R.length + 1 + sz b < room by omega) (by show 2 < room; omega) (.cl h2 (ok_nodeof (.less a b) g rfl) k))
  | ite c a b ic ia ib =>
    intro g ts top R R' h1 h2 k
    have h1 : R.length + (sz c + sz a + sz b + 1) < room := h1
    have hc := sz_pos c
    have ha := sz_pos a
    have hb := sz_pos b
    show Rd (d + 4) ([40] :: z_if :: ((toks c ++ (toks a ++ (toks b ++ [[41]]))) ++ ts)) _ _
    refine .op (show R.length + 1 < room by omega) (.wd (wd_word (by simp)) (by show 0 < room; omega) ?_)
    rw [List.append_assoc, List.append_assoc, List.append_assoc]
    exact ic g.1 _ _ _ _ (show R.length + 1 + sz c < room by omega) (by show 1 < room; omega) (ia g.2.1 _ _ _ _ (show R.length + 1 + sz a < room by omega) (by show 2 < room; omega) (ib g.2.2 _ _ _ _ (show R.length + 1 + sz b < room by omega) (by show 3 < room; omega) (.cl h2 (ok_nodeof (.ite c a b) g rfl) k)))
  | lt x a b ia ib =>
    intro g ts top R R' h1 h2 k
    have h1 : R.length + (sz a + sz b + 1) < room := h1
    have ha := sz_pos a
    have hb := sz_pos b
    show Rd (d + 4) ([40] :: z_let :: x :: ((toks a ++ (toks b ++ [[41]])) ++ ts)) _ _
    refine .op (show R.length + 1 < room by omega) (.wd (wd_word (by simp)) (by show 0 < room; omega) (.wd (wd_name g.1) (by show 1 < room; omega) ?_))
    rw [List.append_assoc, List.append_assoc]
    exact ia g.2.1 _ _ _ _ (show R.length + 1 + sz a < room by omega) (by show 2 < room; omega) (ib g.2.2 _ _ _ _ (show R.length + 1 + sz b < room by omega) (by show 3 < room; omega) (.cl h2 (ok_nodeof (.lt x a b) g rfl) k))
theorem ok_read {z : List Nat} {t : Tree} (g : gd t) (e : tkr z [] = toks t) (hs : sz t ≤ 400) (h1 : z.length ≤ room) (h2 : (wo1 z).length ≤ room) (h3 : (wo2 z).length ≤ room) : CallOK G (d + 5) 128 [.str z] (.val (tv t)) := by
  have hr : 1000000 = room := rfl
  have hw : Rd (d + 4) (ne (cutAt 32 (wo2 z))) [[]] [[itm t]] := by
    rw [show ne (cutAt 32 (wo2 z)) = toks t from (words_are z).trans e, ← List.append_nil (toks t)]
    exact rd_tree d t g _ _ _ _ (by show 0 + sz t < room; omega) (by show 0 < room; omega) .nil
  obtain ⟨w', n', k⟩ := rd_loop (z := z) _ _ _ hw none none
  exact call_go (n := 4) (tp := [.r (.own ((cutAt 32 (wo2 z)).map .str).reverse), .l .next (rst z [[itm t]] w' n'), .r (.val (tv t)), .r (.val (tv t))]) (b_read (d + 4)) rfl (b_read_x (d + 4)) rfl (by kernel_rfl)
    (P := CallOK G (d + 4) 88 [tv t] (.val (tv t)) ∧ CallOK G (d + 4) 116 [itm t] (.val (tv t)) ∧ FR (d + 4) (((cutAt 32 (wo2 z)).map .str).reverse).reverse (rst z [[]] none none) (rst z [[itm t]] w' n') ∧ CallOK G (d + 4) 102 [.str z] (.own ((cutAt 32 (wo2 z)).map .str).reverse) ∧ True) (by kernel_rfl)
    ⟨ok_need (d := d + 1) g hs, ok_tree (d := d + 1) t g, by rw [List.reverse_reverse]; exact k, ok_words (d := d + 3) h1 h2 h3, trivial⟩
end Mine.L06
end

section
open PySem
set_option autoImplicit false
set_option maxRecDepth 100000
set_option linter.unusedVariables false
namespace Mine.L06
variable {d : Nat}
noncomputable def lt26 (i : Int) : Nat := letters.getD (i % 26).toNat 0
theorem letter (i : Int) : Pick (.val (.str letters)) (i % 26) (.val (.str [lt26 i])) := by
  obtain ⟨k, hk, e1⟩ := mod_cases i 26 (by decide)
  have e1 : i % 26 = Int.ofNat k := e1
  have hl : k < letters.length := hk
  unfold Pick lt26; rw [e1]
  show ((letters[k]?).bind fun c => some (V.str [c])).bind (fun v => some (O.val v)) = some (O.val (V.str [letters.getD k 0]))
  rw [List.getElem?_eq_getElem hl]
  simp [hl]
theorem letter_in (i : Int) : letters.contains (lt26 i) = true := by
  obtain ⟨k, hk, e1⟩ := mod_cases i 26 (by decide)
  have e1 : i % 26 = Int.ofNat k := e1
  unfold lt26; rw [e1]
  have : ∀ k, k < 26 → letters.contains (letters.getD k 0) = true := by decide +kernel
  exact this k hk
theorem ok_cell (ns : List Int) (m : Nat) : ∃ c, CallOK G (d + 1) 135 [.lst (ns.map .int), .int (Int.ofNat m)] (.val (.int c)) := by
  by_cases h : m < ns.length
  · refine ⟨ns[m], call_go (n := 0) (tp := [.b true, .r (.val (.int ns[m]))]) (b__law_cell_at d) rfl (b__law_cell_at_x d) rfl (by kernel_rfl) (P := Pick (.val (.lst (ns.map .int))) (Int.ofNat m) (.val (.int ns[m])) ∧ decide ((Int.ofNat m) < ((ns.map V.int).length : Int)) = true ∧ True) (by kernel_rfl) ⟨?_, ?_, trivial⟩⟩
    · show ((ns.map V.int)[m]?).bind _ = _
      rw [List.getElem?_map, List.getElem?_eq_getElem h]; rfl
    · rw [List.length_map, decide_eq_true_eq]; exact Int.ofNat_lt.mpr h
  · refine ⟨0, call_go (n := 0) (tp := [.b false]) (b__law_cell_at d) rfl (b__law_cell_at_x d) rfl (by kernel_rfl) (P := decide ((Int.ofNat m) < ((ns.map V.int).length : Int)) = false ∧ True) (by kernel_rfl) ⟨?_, trivial⟩⟩
    rw [List.length_map, decide_eq_false_iff_not]; exact fun q => h (Int.ofNat_lt.mp q)
noncomputable abbrev mst (c : Int) (r : List Nat) (x3 : Option O) : Loc := [some (.val (.int c)), some (.val (.str letters)), some (.val (.str (lt26 c :: r))), x3]
theorem nb_for (c : Int) : ∀ (n a : Nat) (r : List Nat) (x3 : Option O), r.length + n ≤ 7 → a + n ≤ 7 → (∀ x ∈ r, letters.contains x = true) → ∃ r' y3, r'.length ≤ 7 ∧ (∀ x ∈ r', letters.contains x = true) ∧ ForOK G d fi__law_name_by (.Name "_law_turn" ⟨128,8,128,17⟩) (l__law_name_by_128 d).xs (rangeL (Int.ofNat a) n) (mst c r x3) .next (mst c r' y3)
  | 0, a, r, x3, h, _, ha => ⟨r, x3, h, ha, for_nil⟩
  | n + 1, m, r, x3, h, hm, ha => by
    obtain ⟨a, ea⟩ : ∃ a : Int, a = Int.ofNat m := ⟨_, rfl⟩
    have hb : a.natAbs < 4611686018427387904 := by rw [ea]; show m < _; omega
    have hl : (r ++ [lt26 (c / 208 + 5 * a * a)]).length = r.length + 1 := by simp
    obtain ⟨r', y3, h1, h2, h3⟩ := nb_for c n (m + 1) (r ++ [lt26 (c / 208 + 5 * a * a)]) (some (.val (.int a))) (by omega) (by omega) (fun x hx => by
      rcases List.mem_append.mp hx with hx | hx
      · exact ha x hx
      · cases List.mem_singleton.mp hx; exact letter_in _)
    refine ⟨r', y3, h1, h2, ?_⟩
    have e2 : rangeL (Int.ofNat m) (n + 1) = .int a :: rangeL (Int.ofNat (m + 1)) n := by rw [ea]; rfl
    rw [e2]
    exact for_go (i := 3) (v := .int a) (l := rangeL (Int.ofNat (m + 1)) n) (ρ := mst c r x3) (ρ' := mst c (r ++ [lt26 (c / 208 + 5 * a * a)]) (some (.val (.int a)))) (tp := [.r (.val (.str [lt26 (c / 208 + 5 * a * a)]))]) (by kernel_rfl) (by kernel_rfl) (P := ((lt26 c :: (r ++ [lt26 (c / 208 + 5 * a * a)])).length ≤ room) ∧ Pick (.val (.str letters)) ((c / 208 + 5 * a * a) % 26) (.val (.str [lt26 (c / 208 + 5 * a * a)])) ∧ ((0 : Int) < 26) ∧ ((5 * a).natAbs < 2 ^ 62 ∨ a.natAbs < 2 ^ 62) ∧ ((5 : Int).natAbs < 2 ^ 62 ∨ a.natAbs < 2 ^ 62) ∧ ((0 : Int) < 208 ∧ (208 : Int) < 2 ^ 29) ∧ True) (by kernel_rfl) ⟨by rw [List.length_cons, hl]; show _ ≤ 1000000; omega, letter _, by decide, .inr hb, .inr hb, by decide, trivial⟩ h3
theorem words_len : ∀ w ∈ words, 2 ≤ w.length := by decide
theorem name_one {L : Nat} (h : letters.contains L = true) : isName [L] = true := by
  have : words.any (· == [L]) = false := List.any_eq_false.mpr fun w hw q => by
    have := words_len w hw
    rw [eq_of_beq q] at this; simp at this
  unfold isName; rw [this, List.all_cons, h]; rfl
theorem name_all {L : Nat} {r : List Nat} (h : letters.contains L = true) (hr : ∀ x ∈ r, letters.contains x = true) (hl : r.length ≤ 7) (hw : words.any (· == L :: r) = false) : isName (L :: r) = true := by
  unfold isName; rw [hw, List.all_cons, h, List.all_eq_true.mpr hr, List.length_cons]
  simp; omega
theorem ok_nb (c : Int) : ∃ x, isName x = true ∧ CallOK G (d + 1) 142 [.int c] (.val (.str x)) := by
  obtain ⟨n, hn, en⟩ := mod_cases (c / 26) 8 (by decide)
  have en : c / 26 % 8 = Int.ofNat n := en
  obtain ⟨r, y3, h1, h2, h3⟩ := nb_for (d := d) c n 0 [] none (by show 0 + n ≤ 7; omega) (by omega) (fun x hx => by cases hx)
  have h3 : ForOK G d fi__law_name_by (.Name "_law_turn" ⟨128,8,128,17⟩) (l__law_name_by_128 d).xs (rangeL 0 (c / 26 % 8 - 0).toNat) [some (.val (.int c)), some (.val (.str letters)), some (.val (.str [lt26 c])), none] .next (mst c r y3) := by
    rw [en]; exact h3
  have h4 : (c / 26 % 8).natAbs ≤ 1000000 := by rw [en]; show n ≤ _; omega
  cases hw : words.any (· == lt26 c :: r) with
  | false =>
    exact ⟨lt26 c :: r, name_all (letter_in c) h2 h1 hw, call_go (n := 3) (tp := [.r (.val (.str [lt26 c])), .l .next (mst c r y3), .b false]) (b__law_name_by d) rfl (b__law_name_by_x d) rfl (by kernel_rfl)
      (P := (words.any (· == lt26 c :: r) = false) ∧ ForOK G d fi__law_name_by (.Name "_law_turn" ⟨128,8,128,17⟩) (l__law_name_by_128 d).xs (rangeL 0 (c / 26 % 8 - 0).toNat) [some (.val (.int c)), some (.val (.str letters)), some (.val (.str [lt26 c])), none] .next (mst c r y3) ∧ (c / 26 % 8).natAbs ≤ 1000000 ∧ ((0 : Int) < 8) ∧ ((0 : Int) < 26 ∧ (26 : Int) < 2 ^ 29) ∧ Pick (.val (.str letters)) (c % 26) (.val (.str [lt26 c])) ∧ ((0 : Int) < 26) ∧ True) (by kernel_rfl)
      ⟨hw, h3, h4, by decide, by decide, letter c, by decide, trivial⟩⟩
  | true =>
    exact ⟨[lt26 c], name_one (letter_in c), call_go (n := 3) (tp := [.r (.val (.str [lt26 c])), .l .next (mst c r y3), .b true]) (b__law_name_by d) rfl (b__law_name_by_x d) rfl (by kernel_rfl)
      (P := (words.any (· == lt26 c :: r) = true) ∧ ForOK G d fi__law_name_by (.Name "_law_turn" ⟨128,8,128,17⟩) (l__law_name_by_128 d).xs (rangeL 0 (c / 26 % 8 - 0).toNat) [some (.val (.int c)), some (.val (.str letters)), some (.val (.str [lt26 c])), none] .next (mst c r y3) ∧ (c / 26 % 8).natAbs ≤ 1000000 ∧ ((0 : Int) < 8) ∧ ((0 : Int) < 26 ∧ (26 : Int) < 2 ^ 29) ∧ Pick (.val (.str letters)) (c % 26) (.val (.str [lt26 c])) ∧ ((0 : Int) < 26) ∧ True) (by kernel_rfl)
      ⟨hw, h3, h4, by decide, by decide, letter c, by decide, trivial⟩⟩
noncomputable abbrev pw (t : Tree) : V := .tup [tv t, .str (txt t)]
theorem pre_le {a b : List Nat} (h : (a ++ b).length ≤ room) : a.length ≤ room := Nat.le_trans (by rw [List.length_append]; exact Nat.le_add_right _ _) h
theorem txt_room {t : Tree} (g : gd t) (hs : sz t ≤ 2000) : (txt t).length ≤ room := by
  have := txt_len t (gd_ft t g); show _ ≤ 1000000; omega
theorem ok_pair (j : Nat) (hj : j < 5) {x : List Nat} (hx : isName x = true) {a b : Tree} (ga : gd a) (gb : gd b) (hs : sz a + sz b ≤ 1900) : ∃ t, gd t ∧ sz t ≤ sz a + sz b + 2 ∧ CallOK G (d + 1) 149 [.int (Int.ofNat j), .str x, pw a, pw b] (.val (pw t)) := by
  have hj : j = 0 ∨ j = 1 ∨ j = 2 ∨ j = 3 ∨ j = 4 := by omega
  rcases hj with rfl | rfl | rfl | rfl | rfl
  · have e : ((((((z_u40u ++ z_call) ++ z_u32u) ++ txt a) ++ z_u32u) ++ txt b) ++ z_u41u) = txt (.call a b) := by show _ = (z_u40u ++ z_call) ++ (z_u32u ++ (txt a ++ (z_u32u ++ (txt b ++ z_u41u)))); simp only [List.append_assoc]
    refine ⟨.call a b, ⟨ga, gb⟩, by show sz a + sz b + 1 ≤ _; omega, ?_⟩
    have h : ((((((z_u40u ++ z_call) ++ z_u32u) ++ txt a) ++ z_u32u) ++ txt b) ++ z_u41u).length ≤ room := by rw [e]; exact txt_room (t := .call a b) ⟨ga, gb⟩ (by show sz a + sz b + 1 ≤ _; omega)
    have c : CallOK G (d + 1) 149 [.int (Int.ofNat 0), .str x, pw a, pw b] (.val (.tup [.tup [.str z_call, tv a, tv b], .str ((((((z_u40u ++ z_call) ++ z_u32u) ++ txt a) ++ z_u32u) ++ txt b) ++ z_u41u)])) := call_go (n := 2) (tp := [.r (.val (.str z_call))]) (b__law_pair d) rfl (b__law_pair_x d) rfl (by kernel_rfl)
      (P := ((((((z_u40u ++ z_call) ++ z_u32u) ++ txt a) ++ z_u32u) ++ txt b) ++ z_u41u).length ≤ room ∧ (((((z_u40u ++ z_call) ++ z_u32u) ++ txt a) ++ z_u32u) ++ txt b).length ≤ room ∧ ((((z_u40u ++ z_call) ++ z_u32u) ++ txt a) ++ z_u32u).length ≤ room ∧ (((z_u40u ++ z_call) ++ z_u32u) ++ txt a).length ≤ room ∧ ((z_u40u ++ z_call) ++ z_u32u).length ≤ room ∧ (z_u40u ++ z_call).length ≤ room ∧ Pick (.val (.lst [.str z_call, .str z_plus, .str z_less])) (Int.ofNat 0) (.val (.str z_call)) ∧ True) (by kernel_rfl) ⟨h, (pre_le h), (pre_le (pre_le h)), (pre_le (pre_le (pre_le h))), (pre_le (pre_le (pre_le (pre_le h)))), (pre_le (pre_le (pre_le (pre_le (pre_le h))))), rfl, trivial⟩
    rw [e] at c; exact c
  · have e : ((((((z_u40u ++ z_plus) ++ z_u32u) ++ txt a) ++ z_u32u) ++ txt b) ++ z_u41u) = txt (.plus a b) := by show _ = (z_u40u ++ z_plus) ++ (z_u32u ++ (txt a ++ (z_u32u ++ (txt b ++ z_u41u)))); simp only [List.append_assoc]
    refine ⟨.plus a b, ⟨ga, gb⟩, by show sz a + sz b + 1 ≤ _; omega, ?_⟩
    have h : ((((((z_u40u ++ z_plus) ++ z_u32u) ++ txt a) ++ z_u32u) ++ txt b) ++ z_u41u).length ≤ room := by rw [e]; exact txt_room (t := .plus a b) ⟨ga, gb⟩ (by show sz a + sz b + 1 ≤ _; omega)
    have c : CallOK G (d + 1) 149 [.int (Int.ofNat 1), .str x, pw a, pw b] (.val (.tup [.tup [.str z_plus, tv a, tv b], .str ((((((z_u40u ++ z_plus) ++ z_u32u) ++ txt a) ++ z_u32u) ++ txt b) ++ z_u41u)])) := call_go (n := 2) (tp := [.r (.val (.str z_plus))]) (b__law_pair d) rfl (b__law_pair_x d) rfl (by kernel_rfl)
      (P := ((((((z_u40u ++ z_plus) ++ z_u32u) ++ txt a) ++ z_u32u) ++ txt b) ++ z_u41u).length ≤ room ∧ (((((z_u40u ++ z_plus) ++ z_u32u) ++ txt a) ++ z_u32u) ++ txt b).length ≤ room ∧ ((((z_u40u ++ z_plus) ++ z_u32u) ++ txt a) ++ z_u32u).length ≤ room ∧ (((z_u40u ++ z_plus) ++ z_u32u) ++ txt a).length ≤ room ∧ ((z_u40u ++ z_plus) ++ z_u32u).length ≤ room ∧ (z_u40u ++ z_plus).length ≤ room ∧ Pick (.val (.lst [.str z_call, .str z_plus, .str z_less])) (Int.ofNat 1) (.val (.str z_plus)) ∧ True) (by kernel_rfl) ⟨h, (pre_le h), (pre_le (pre_le h)), (pre_le (pre_le (pre_le h))), (pre_le (pre_le (pre_le (pre_le h)))), (pre_le (pre_le (pre_le (pre_le (pre_le h))))), rfl, trivial⟩
    rw [e] at c; exact c
  · have e : ((((((z_u40u ++ z_less) ++ z_u32u) ++ txt a) ++ z_u32u) ++ txt b) ++ z_u41u) = txt (.less a b) := by show _ = (z_u40u ++ z_less) ++ (z_u32u ++ (txt a ++ (z_u32u ++ (txt b ++ z_u41u)))); simp only [List.append_assoc]
    refine ⟨.less a b, ⟨ga, gb⟩, by show sz a + sz b + 1 ≤ _; omega, ?_⟩
    have h : ((((((z_u40u ++ z_less) ++ z_u32u) ++ txt a) ++ z_u32u) ++ txt b) ++ z_u41u).length ≤ room := by rw [e]; exact txt_room (t := .less a b) ⟨ga, gb⟩ (by show sz a + sz b + 1 ≤ _; omega)
    have c : CallOK G (d + 1) 149 [.int (Int.ofNat 2), .str x, pw a, pw b] (.val (.tup [.tup [.str z_less, tv a, tv b], .str ((((((z_u40u ++ z_less) ++ z_u32u) ++ txt a) ++ z_u32u) ++ txt b) ++ z_u41u)])) := call_go (n := 2) (tp := [.r (.val (.str z_less))]) (b__law_pair d) rfl (b__law_pair_x d) rfl (by kernel_rfl)
      (P := ((((((z_u40u ++ z_less) ++ z_u32u) ++ txt a) ++ z_u32u) ++ txt b) ++ z_u41u).length ≤ room ∧ (((((z_u40u ++ z_less) ++ z_u32u) ++ txt a) ++ z_u32u) ++ txt b).length ≤ room ∧ ((((z_u40u ++ z_less) ++ z_u32u) ++ txt a) ++ z_u32u).length ≤ room ∧ (((z_u40u ++ z_less) ++ z_u32u) ++ txt a).length ≤ room ∧ ((z_u40u ++ z_less) ++ z_u32u).length ≤ room ∧ (z_u40u ++ z_less).length ≤ room ∧ Pick (.val (.lst [.str z_call, .str z_plus, .str z_less])) (Int.ofNat 2) (.val (.str z_less)) ∧ True) (by kernel_rfl) ⟨h, (pre_le h), (pre_le (pre_le h)), (pre_le (pre_le (pre_le h))), (pre_le (pre_le (pre_le (pre_le h)))), (pre_le (pre_le (pre_le (pre_le (pre_le h))))), rfl, trivial⟩
    rw [e] at c; exact c
  · have e : ((((((z_u40uifu32u ++ txt a) ++ z_u32u) ++ txt b) ++ z_u32u) ++ x) ++ z_u41u) = txt (.ite a b (.name x)) := by show _ = (z_u40u ++ z_if) ++ (z_u32u ++ (txt a ++ (z_u32u ++ (txt b ++ (z_u32u ++ (x ++ z_u41u)))))); rw [show z_u40uifu32u = z_u40u ++ z_if ++ z_u32u from rfl]; simp only [List.append_assoc]
    refine ⟨.ite a b (.name x), ⟨ga, gb, hx⟩, by show sz a + sz b + 1 + 1 ≤ _; omega, ?_⟩
    have h : ((((((z_u40uifu32u ++ txt a) ++ z_u32u) ++ txt b) ++ z_u32u) ++ x) ++ z_u41u).length ≤ room := by rw [e]; exact txt_room (t := .ite a b (.name x)) ⟨ga, gb, hx⟩ (by show sz a + sz b + 1 + 1 ≤ _; omega)
    have c : CallOK G (d + 1) 149 [.int (Int.ofNat 3), .str x, pw a, pw b] (.val (.tup [.tup [.str z_if, tv a, tv b, .tup [.str z_name, .str x]], .str ((((((z_u40uifu32u ++ txt a) ++ z_u32u) ++ txt b) ++ z_u32u) ++ x) ++ z_u41u)])) := call_go (n := 2) (tp := []) (b__law_pair d) rfl (b__law_pair_x d) rfl (by kernel_rfl)
      (P := ((((((z_u40uifu32u ++ txt a) ++ z_u32u) ++ txt b) ++ z_u32u) ++ x) ++ z_u41u).length ≤ room ∧ (((((z_u40uifu32u ++ txt a) ++ z_u32u) ++ txt b) ++ z_u32u) ++ x).length ≤ room ∧ ((((z_u40uifu32u ++ txt a) ++ z_u32u) ++ txt b) ++ z_u32u).length ≤ room ∧ (((z_u40uifu32u ++ txt a) ++ z_u32u) ++ txt b).length ≤ room ∧ ((z_u40uifu32u ++ txt a) ++ z_u32u).length ≤ room ∧ (z_u40uifu32u ++ txt a).length ≤ room ∧ True) (by kernel_rfl) ⟨h, (pre_le h), (pre_le (pre_le h)), (pre_le (pre_le (pre_le h))), (pre_le (pre_le (pre_le (pre_le h)))), (pre_le (pre_le (pre_le (pre_le (pre_le h))))), trivial⟩
    rw [e] at c; exact c
  · have e : ((((((z_u40uletu32u ++ x) ++ z_u32u) ++ txt a) ++ z_u32u) ++ txt b) ++ z_u41u) = txt (.lt x a b) := by show _ = (z_u40u ++ z_let) ++ ((z_u32u ++ x) ++ (z_u32u ++ (txt a ++ (z_u32u ++ (txt b ++ z_u41u))))); rw [show z_u40uletu32u = z_u40u ++ z_let ++ z_u32u from rfl]; simp only [List.append_assoc]
    refine ⟨.lt x a b, ⟨hx, ga, gb⟩, by show sz a + sz b + 1 ≤ _; omega, ?_⟩
    have h : ((((((z_u40uletu32u ++ x) ++ z_u32u) ++ txt a) ++ z_u32u) ++ txt b) ++ z_u41u).length ≤ room := by rw [e]; exact txt_room (t := .lt x a b) ⟨hx, ga, gb⟩ (by show sz a + sz b + 1 ≤ _; omega)
    have c : CallOK G (d + 1) 149 [.int (Int.ofNat 4), .str x, pw a, pw b] (.val (.tup [.tup [.str z_let, .str x, tv a, tv b], .str ((((((z_u40uletu32u ++ x) ++ z_u32u) ++ txt a) ++ z_u32u) ++ txt b) ++ z_u41u)])) := call_go (n := 2) (tp := []) (b__law_pair d) rfl (b__law_pair_x d) rfl (by kernel_rfl)
      (P := ((((((z_u40uletu32u ++ x) ++ z_u32u) ++ txt a) ++ z_u32u) ++ txt b) ++ z_u41u).length ≤ room ∧ (((((z_u40uletu32u ++ x) ++ z_u32u) ++ txt a) ++ z_u32u) ++ txt b).length ≤ room ∧ ((((z_u40uletu32u ++ x) ++ z_u32u) ++ txt a) ++ z_u32u).length ≤ room ∧ (((z_u40uletu32u ++ x) ++ z_u32u) ++ txt a).length ≤ room ∧ ((z_u40uletu32u ++ x) ++ z_u32u).length ≤ room ∧ (z_u40uletu32u ++ x).length ≤ room ∧ True) (by kernel_rfl) ⟨h, (pre_le h), (pre_le (pre_le h)), (pre_le (pre_le (pre_le h))), (pre_le (pre_le (pre_le (pre_le h)))), (pre_le (pre_le (pre_le (pre_le (pre_le h))))), trivial⟩
    rw [e] at c; exact c
end Mine.L06
end

section
open PySem
set_option autoImplicit false
set_option maxRecDepth 100000
set_option linter.unusedVariables false
namespace Mine.L06
variable {d : Nat}
noncomputable abbrev bs (C : V) (S : List Tree) (c k n u o : Option O) : Loc := [some (.val C), some (.own (S.map pw)), c, k, n, u, o]
noncomputable def nbr (c : Int) (f : Bool) : Int := Bool.casesOn f (c / 9 % (2 * great - 1) - great + 1) (c / 27 % 5 - 2)
def tlA (d : Nat) (c : Int) (x : List Nat) : Prop := ((0 : Int) < 3) ∧ ((0 : Int) < 9 ∧ (9 : Int) < 2 ^ 29) ∧ ((10 : Int) = 10 ∧ (0 : Int) < 60 ∧ (60 : Int) ≤ 100) ∧ ((0 : Int) < 2 * great - 1) ∧ ((2 : Int).natAbs < 2 ^ 62 ∨ great.natAbs < 2 ^ 62) ∧ ((10 : Int) = 10 ∧ (0 : Int) < 60 ∧ (60 : Int) ≤ 100) ∧ ((0 : Int) < 9 ∧ (9 : Int) < 2 ^ 29) ∧ CallOK G d 142 [.int (c / 9)] (.val (.str x)) ∧ ((0 : Int) < 9 ∧ (9 : Int) < 2 ^ 29) ∧ ((0 : Int) < 9) ∧ True
def tl (d : Nat) (c : Int) (x : List Nat) (f : Bool) : Prop := Bool.casesOn (motive := fun _ => Prop) f (((c / 9 % 3 == 1) = false) ∧ tlA d c x) (((0 : Int) < 5) ∧ ((0 : Int) < 27 ∧ (27 : Int) < 2 ^ 29) ∧ ((c / 9 % 3 == 1) = true) ∧ tlA d c x)
theorem tl_ok {c : Int} {x : List Nat} (h : CallOK G d 142 [.int (c / 9)] (.val (.str x))) (f : Bool) (hf : (c / 9 % 3 == 1) = f) : tl d c x f := by
  have A : tlA d c x := ⟨by decide, by decide, by decide, by decide +kernel, .inl (by decide), by decide, by decide, h, by decide, by decide, trivial⟩
  cases f
  · exact ⟨hf, A⟩
  · exact ⟨by decide, by decide, hf, A⟩
theorem nbr_in (c : Int) (f : Bool) : numV (.int (nbr c f)) = true := by
  have hg : great = 1000000000000000000000000000000000000000000000000000000000000 := rfl
  show (decide (-great < nbr c f) && decide (nbr c f < great)) = true
  rw [Bool.and_eq_true, decide_eq_true_eq, decide_eq_true_eq]
  cases f
  · show -great < c / 9 % (2 * great - 1) - great + 1 ∧ c / 9 % (2 * great - 1) - great + 1 < great
    have h1 := Int.emod_nonneg (c / 9) (b := 2 * great - 1) (by rw [hg]; decide)
    have h2 := Int.emod_lt_of_pos (c / 9) (b := 2 * great - 1) (by rw [hg]; decide)
    rw [hg] at h1 h2 ⊢; omega
  · show -great < c / 27 % 5 - 2 ∧ c / 27 % 5 - 2 < great
    rw [hg]; omega
theorem nbr_80 (c : Int) (f : Bool) : (nbr c f).natAbs < 10 ^ 80 := Nat.lt_trans (num_in (nbr_in c f)) (by decide +kernel)
abbrev FB (d : Nat) (l : List V) (ρ : Loc) (fl : Fl) (ρ' : Loc) : Prop := ForOK G d fi__law_built (.Name "_law_cell" ⟨143,8,143,17⟩) (l__law_built_143 d).xs l ρ fl ρ'
noncomputable abbrev bz (C : V) (S : List Tree) (c : Int) (x : List Nat) (f : Bool) (o : Option O) : Loc := bs C S (some (.val (.int c))) (some (.val (.int (c % 9)))) (some (.val (.str x))) (some (.val (.int (nbr c f)))) o
section
variable {C : V} {S : List Tree} {c : Int} {x : List Nat} {f : Bool} {c0 k n u o : Option O} {a b t : Tree} {l : List V} {fl : Fl} {ρ'' : Loc}
theorem st_name (ht : tl d c x f) (h1 : decide (c % 9 < 2) = true) (hr : (S.map pw).length < room) (h : FB d l (bz C (.name x :: S) c x f o) fl ρ'') : FB d (.int c :: l) (bs C (S) c0 k n u o) fl ρ'' := by
  cases f
  · exact for_go (i := 2) (v := .int c) (l := l) (ρ' := bz C (.name x :: S) c x false o) (tp := [.r (.val (.str x)), .b false, .b true]) (by kernel_rfl) (by kernel_rfl) (P := (S.map pw).length < room ∧ decide (c % 9 < 2) = true ∧ tl d c x false) (by kernel_rfl) ⟨hr, h1, ht⟩ h
  · exact for_go (i := 2) (v := .int c) (l := l) (ρ' := bz C (.name x :: S) c x true o) (tp := [.r (.val (.str x)), .b true, .b true]) (by kernel_rfl) (by kernel_rfl) (P := (S.map pw).length < room ∧ decide (c % 9 < 2) = true ∧ tl d c x true) (by kernel_rfl) ⟨hr, h1, ht⟩ h
theorem st_nil (ht : tl d c x f) (h1 : decide (c % 9 < 2) = false) (h : FB d l (bz C ([.name x]) c x f o) fl ρ'') : FB d (.int c :: l) (bs C ([]) c0 k n u o) fl ρ'' := by
  cases f
  · exact for_go (i := 2) (v := .int c) (l := l) (ρ' := bz C ([.name x]) c x false o) (tp := [.r (.val (.str x)), .b false, .b false]) (by kernel_rfl) (by kernel_rfl) (P := 0 < room ∧ decide (c % 9 < 2) = false ∧ tl d c x false) (by kernel_rfl) ⟨by decide, h1, ht⟩ h
  · exact for_go (i := 2) (v := .int c) (l := l) (ρ' := bz C ([.name x]) c x true o) (tp := [.r (.val (.str x)), .b true, .b false]) (by kernel_rfl) (by kernel_rfl) (P := 0 < room ∧ decide (c % 9 < 2) = false ∧ tl d c x true) (by kernel_rfl) ⟨by decide, h1, ht⟩ h
theorem st_num (ht : tl d c x f) (h1 : decide (c % 9 < 2) = false) (h2 : (c % 9 == 2) = true) (hr : ((a :: S).map pw).length < room) (h : FB d l (bz C (.num (nbr c f) :: a :: S) c x f o) fl ρ'') : FB d (.int c :: l) (bs C (a :: S) c0 k n u o) fl ρ'' := by
  cases f
  · exact for_go (i := 2) (v := .int c) (l := l) (ρ' := bz C (.num (nbr c false) :: a :: S) c x false o) (tp := [.r (.val (.str x)), .b false, .b false, .b true, .b true]) (by kernel_rfl) (by kernel_rfl) (P := ((a :: S).map pw).length < room ∧ (nbr c false).natAbs < 10 ^ 80 ∧ (true = true) ∧ (c % 9 == 2) = true ∧ decide (c % 9 < 2) = false ∧ tl d c x false) (by kernel_rfl) ⟨hr, nbr_80 c _, rfl, h2, h1, ht⟩ h
  · exact for_go (i := 2) (v := .int c) (l := l) (ρ' := bz C (.num (nbr c true) :: a :: S) c x true o) (tp := [.r (.val (.str x)), .b true, .b false, .b true, .b true]) (by kernel_rfl) (by kernel_rfl) (P := ((a :: S).map pw).length < room ∧ (nbr c true).natAbs < 10 ^ 80 ∧ (true = true) ∧ (c % 9 == 2) = true ∧ decide (c % 9 < 2) = false ∧ tl d c x true) (by kernel_rfl) ⟨hr, nbr_80 c _, rfl, h2, h1, ht⟩ h
theorem st_one (ht : tl d c x f) (h1 : decide (c % 9 < 2) = false) (h2 : (c % 9 == 2) = false) (h3 : decide (c % 9 > 3) = true) (h : FB d l (bz C ([.num (nbr c f), a]) c x f o) fl ρ'') : FB d (.int c :: l) (bs C ([a]) c0 k n u o) fl ρ'' := by
  cases f
  · exact for_go (i := 2) (v := .int c) (l := l) (ρ' := bz C ([.num (nbr c false), a]) c x false o) (tp := [.r (.val (.str x)), .b false, .b false, .b false, .b true, .b true]) (by kernel_rfl) (by kernel_rfl) (P := 1 < room ∧ (nbr c false).natAbs < 10 ^ 80 ∧ ((Int.ofNat 1 == Int.ofNat 1) = true) ∧ decide (c % 9 > 3) = true ∧ (c % 9 == 2) = false ∧ decide (c % 9 < 2) = false ∧ tl d c x false) (by kernel_rfl) ⟨by decide, nbr_80 c _, rfl, h3, h2, h1, ht⟩ h
  · exact for_go (i := 2) (v := .int c) (l := l) (ρ' := bz C ([.num (nbr c true), a]) c x true o) (tp := [.r (.val (.str x)), .b true, .b false, .b false, .b true, .b true]) (by kernel_rfl) (by kernel_rfl) (P := 1 < room ∧ (nbr c true).natAbs < 10 ^ 80 ∧ ((Int.ofNat 1 == Int.ofNat 1) = true) ∧ decide (c % 9 > 3) = true ∧ (c % 9 == 2) = false ∧ decide (c % 9 < 2) = false ∧ tl d c x true) (by kernel_rfl) ⟨by decide, nbr_80 c _, rfl, h3, h2, h1, ht⟩ h
theorem fn_txt : (((z_u40ufunu32u ++ x) ++ z_u32u) ++ txt a) ++ z_u41u = txt (.fn x a) := by show _ = (z_u40u ++ z_fun) ++ ((z_u32u ++ x) ++ (z_u32u ++ (txt a ++ z_u41u))); rw [show z_u40ufunu32u = z_u40u ++ z_fun ++ z_u32u from rfl]; simp only [List.append_assoc]
theorem st_fun (ht : tl d c x f) (h1 : decide (c % 9 < 2) = false) (h2 : (c % 9 == 2) = false) (h3 : decide (c % 9 > 3) = false) (h4 : (c % 9 == 3) = true) (hr : (txt (.fn x a)).length ≤ room) (h : FB d l (bz C (.fn x a :: S) c x f o) fl ρ'') : FB d (.int c :: l) (bs C (a :: S) c0 k n u o) fl ρ'' := by
  rw [← fn_txt] at hr
  have e : bz C (.fn x a :: S) c x f o = [some (.val C), some (.own (.tup [.tup [.str z_fun, .str x, tv a], .str ((((z_u40ufunu32u ++ x) ++ z_u32u) ++ txt a) ++ z_u41u)] :: S.map pw)), some (.val (.int c)), some (.val (.int (c % 9))), some (.val (.str x)), some (.val (.int (nbr c f))), o] := by rw [fn_txt]; rfl
  rw [e] at h
  cases f
  · exact for_go (i := 2) (v := .int c) (l := l) (ρ' := [some (.val C), some (.own (.tup [.tup [.str z_fun, .str x, tv a], .str ((((z_u40ufunu32u ++ x) ++ z_u32u) ++ txt a) ++ z_u41u)] :: S.map pw)), some (.val (.int c)), some (.val (.int (c % 9))), some (.val (.str x)), some (.val (.int (nbr c false))), o]) (tp := [.r (.val (.str x)), .b false, .b false, .b false, .b false, .b false, .b true]) (by kernel_rfl) (by kernel_rfl) (P := ((((z_u40ufunu32u ++ x) ++ z_u32u) ++ txt a) ++ z_u41u).length ≤ room ∧ (((z_u40ufunu32u ++ x) ++ z_u32u) ++ txt a).length ≤ room ∧ ((z_u40ufunu32u ++ x) ++ z_u32u).length ≤ room ∧ (z_u40ufunu32u ++ x).length ≤ room ∧ (c % 9 == 3) = true ∧ (false = false) ∧ decide (c % 9 > 3) = false ∧ (c % 9 == 2) = false ∧ decide (c % 9 < 2) = false ∧ tl d c x false) (by kernel_rfl) ⟨hr, pre_le hr, pre_le (pre_le hr), pre_le (pre_le (pre_le hr)), h4, rfl, h3, h2, h1, ht⟩ h
  · exact for_go (i := 2) (v := .int c) (l := l) (ρ' := [some (.val C), some (.own (.tup [.tup [.str z_fun, .str x, tv a], .str ((((z_u40ufunu32u ++ x) ++ z_u32u) ++ txt a) ++ z_u41u)] :: S.map pw)), some (.val (.int c)), some (.val (.int (c % 9))), some (.val (.str x)), some (.val (.int (nbr c true))), o]) (tp := [.r (.val (.str x)), .b true, .b false, .b false, .b false, .b false, .b true]) (by kernel_rfl) (by kernel_rfl) (P := ((((z_u40ufunu32u ++ x) ++ z_u32u) ++ txt a) ++ z_u41u).length ≤ room ∧ (((z_u40ufunu32u ++ x) ++ z_u32u) ++ txt a).length ≤ room ∧ ((z_u40ufunu32u ++ x) ++ z_u32u).length ≤ room ∧ (z_u40ufunu32u ++ x).length ≤ room ∧ (c % 9 == 3) = true ∧ (false = false) ∧ decide (c % 9 > 3) = false ∧ (c % 9 == 2) = false ∧ decide (c % 9 < 2) = false ∧ tl d c x true) (by kernel_rfl) ⟨hr, pre_le hr, pre_le (pre_le hr), pre_le (pre_le (pre_le hr)), h4, rfl, h3, h2, h1, ht⟩ h
theorem st_pair (ht : tl d c x f) (h1 : decide (c % 9 < 2) = false) (h2 : (c % 9 == 2) = false) (h3 : decide (c % 9 > 3) = true) (h4 : (c % 9 == 3) = false) (hc : CallOK G d 149 [.int (c % 9 - 4), .str x, pw b, pw a] (.val (pw t))) (h5 : (Int.ofNat ((a :: b :: S).map pw).length == Int.ofNat 1) = false) (h : FB d l (bz C (t :: S) c x f (some (.val (pw a)))) fl ρ'') : FB d (.int c :: l) (bs C (a :: b :: S) c0 k n u o) fl ρ'' := by
  cases f
  · exact for_go (i := 2) (v := .int c) (l := l) (ρ' := bz C (t :: S) c x false (some (.val (pw a)))) (tp := [.r (.val (.str x)), .b false, .b false, .b false, .b true, .b false, .b false, .r (.val (pw t))]) (by kernel_rfl) (by kernel_rfl) (P := CallOK G d 149 [.int (c % 9 - 4), .str x, pw b, pw a] (.val (pw t)) ∧ (c % 9 == 3) = false ∧ ((Int.ofNat ((a :: b :: S).map pw).length == Int.ofNat 1) = false) ∧ decide (c % 9 > 3) = true ∧ (c % 9 == 2) = false ∧ decide (c % 9 < 2) = false ∧ tl d c x false) (by kernel_rfl) ⟨hc, h4, h5, h3, h2, h1, ht⟩ h
  · exact for_go (i := 2) (v := .int c) (l := l) (ρ' := bz C (t :: S) c x true (some (.val (pw a)))) (tp := [.r (.val (.str x)), .b true, .b false, .b false, .b true, .b false, .b false, .r (.val (pw t))]) (by kernel_rfl) (by kernel_rfl) (P := CallOK G d 149 [.int (c % 9 - 4), .str x, pw b, pw a] (.val (pw t)) ∧ (c % 9 == 3) = false ∧ ((Int.ofNat ((a :: b :: S).map pw).length == Int.ofNat 1) = false) ∧ decide (c % 9 > 3) = true ∧ (c % 9 == 2) = false ∧ decide (c % 9 < 2) = false ∧ tl d c x true) (by kernel_rfl) ⟨hc, h4, h5, h3, h2, h1, ht⟩ h
end
theorem bt_step {C : V} (c : Int) (S : List Tree) (g : gdL S) (hs : szL S + 2 * S.length ≤ 1890) (c0 k n u o : Option O) : ∃ S' c1 k1 n1 u1 o1, gdL S' ∧ szL S' + 2 * S'.length ≤ szL S + 2 * S.length + 3 ∧ ∀ l fl ρ'', FB (d + 1) l (bs C S' c1 k1 n1 u1 o1) fl ρ'' → FB (d + 1) (.int c :: l) (bs C S c0 k n u o) fl ρ'' := by
  obtain ⟨x, hx, hc⟩ := ok_nb (d := d) (c / 9)
  obtain ⟨f, hf⟩ : ∃ f, (c / 9 % 3 == 1) = f := ⟨_, rfl⟩
  have ht := tl_ok hc f hf
  have hr : ∀ S : List Tree, S.length ≤ 1890 → (S.map pw).length < room := fun S h => by rw [List.length_map]; show _ < 1000000; omega
  obtain ⟨j, hj, ej⟩ := mod_cases c 9 (by decide)
  have ej : c % 9 = Int.ofNat j := ej
  by_cases h1 : j < 2
  · exact ⟨.name x :: S, _, _, _, _, _, ⟨hx, g⟩, by show 1 + szL S + 2 * (S.length + 1) ≤ _; omega, fun l fl ρ'' h => st_name ht (by rw [ej]; exact decide_eq_true (Int.ofNat_lt.mpr h1)) (hr S (by omega)) h⟩
  have h1' : decide (c % 9 < 2) = false := by rw [ej]; exact decide_eq_false fun q => h1 (Int.ofNat_lt.mp q)
  cases S with
  | nil => exact ⟨[.name x], _, _, _, _, _, ⟨hx, trivial⟩, by show 1 + 0 + 2 * 1 ≤ 0 + 2 * 0 + 3; omega, fun l fl ρ'' h => st_nil ht h1' h⟩
  | cons a S =>
    have hs' : sz a + szL S + 2 * (S.length + 1) ≤ 1890 := hs
    by_cases h2 : j = 2
    · exact ⟨.num (nbr c f) :: a :: S, _, _, _, _, _, ⟨nbr_in c f, g⟩, by show 1 + szL (a :: S) + 2 * (S.length + 1 + 1) ≤ szL (a :: S) + 2 * (S.length + 1) + 3; omega, fun l fl ρ'' h => st_num ht h1' (by rw [ej, h2]; rfl) (hr _ (by show S.length + 1 ≤ _; omega)) h⟩
    have h2' : (c % 9 == 2) = false := by rw [ej]; exact beq_eq_false_iff_ne.mpr fun q => h2 (Int.ofNat.inj q)
    by_cases h3 : j = 3
    · have hz : sz (.fn x a) ≤ 2000 := by show sz a + 1 ≤ _; omega
      exact ⟨.fn x a :: S, _, _, _, _, _, ⟨⟨hx, g.1⟩, g.2⟩, by show sz a + 1 + szL S + 2 * (S.length + 1) ≤ sz a + szL S + 2 * (S.length + 1) + 3; omega, fun l fl ρ'' h => st_fun ht h1' h2' (by rw [ej, h3]; rfl) (by rw [ej, h3]; rfl) (txt_room (t := .fn x a) ⟨hx, g.1⟩ hz) h⟩
    have h3' : (c % 9 == 3) = false := by rw [ej]; exact beq_eq_false_iff_ne.mpr fun q => h3 (Int.ofNat.inj q)
    have h4 : decide (c % 9 > 3) = true := by rw [ej]; exact decide_eq_true (Int.ofNat_lt.mpr (show 3 < j by omega))
    cases S with
    | nil => exact ⟨[.num (nbr c f), a], _, _, _, _, _, ⟨nbr_in c f, g⟩, by show 1 + (sz a + 0) + 2 * 2 ≤ sz a + 0 + 2 * 1 + 3; omega, fun l fl ρ'' h => st_one ht h1' h2' h4 h⟩
    | cons b S =>
      have hs'' : sz a + (sz b + szL S) + 2 * (S.length + 1 + 1) ≤ 1890 := hs
      obtain ⟨t, gt, st, hp⟩ := ok_pair (d := d) (j - 4) (by omega) hx g.2.1 g.1 (by omega)
      have e4 : c % 9 - 4 = Int.ofNat (j - 4) := by rw [ej]; show (j : Int) - 4 = ((j - 4 : Nat) : Int); omega
      rw [← e4] at hp
      exact ⟨t :: S, _, _, _, _, _, ⟨gt, g.2.2⟩, by show sz t + szL S + 2 * (S.length + 1) ≤ sz a + (sz b + szL S) + 2 * (S.length + 1 + 1) + 3; omega, fun l fl ρ'' h => st_pair ht h1' h2' h4 h3' hp (beq_eq_false_iff_ne.mpr fun q => by have q := Int.ofNat.inj q; simp at q) h⟩
theorem bt_loop {C : V} : ∀ (cs : List Int) (S : List Tree) (c0 k n u o : Option O), gdL S → szL S + 2 * S.length + 3 * cs.length ≤ 1890 → ∃ S' c1 k1 n1 u1 o1, gdL S' ∧ szL S' + 2 * S'.length ≤ szL S + 2 * S.length + 3 * cs.length ∧ FB (d + 1) (cs.map .int) (bs C S c0 k n u o) .next (bs C S' c1 k1 n1 u1 o1)
  | [], S, c0, k, n, u, o, g, hs => ⟨S, c0, k, n, u, o, g, Nat.le_refl _, for_nil⟩
  | c :: cs, S, c0, k, n, u, o, g, hs => by
    have hs : szL S + 2 * S.length + 3 * (cs.length + 1) ≤ 1890 := hs
    obtain ⟨S1, c1, k1, n1, u1, o1, g1, s1, h1⟩ := bt_step (d := d) (C := C) c S g (by omega) c0 k n u o
    obtain ⟨S2, c2, k2, n2, u2, o2, g2, s2, h2⟩ := bt_loop (C := C) cs S1 c1 k1 n1 u1 o1 g1 (by omega)
    exact ⟨S2, c2, k2, n2, u2, o2, g2, by show _ ≤ szL S + 2 * S.length + 3 * (cs.length + 1); omega, h1 _ _ _ h2⟩
abbrev WB (d : Nat) (ρ ρ' : Loc) : Prop := WhilOK G d fi__law_built (c__law_built_158 d).x (l__law_built_158 d).xs ρ .next ρ'
theorem bt_while {C : V} : ∀ (S : List Tree) (a : Tree) (c0 k n u o : Option O), gdL (a :: S) → szL (a :: S) + 2 * (S.length + 1) ≤ 1890 → ∃ t o1, gd t ∧ sz t ≤ szL (a :: S) + 2 * (S.length + 1) ∧ WB (d + 1) (bs C (a :: S) c0 k n u o) (bs C [t] c0 k n u o1)
  | [], t, c0, k, n, u, o, g, hs => ⟨t, o, g.1, by show sz t ≤ sz t + 0 + _; omega, whil_end (c := c__law_built_158 (d + 1)) (b := l__law_built_158 (d + 1)) (tp := []) false (by kernel_rfl) (P := True) (by kernel_rfl) trivial⟩
  | b :: S, a, c0, k, n, u, o, g, hs => by
    have hs'' : sz a + (sz b + szL S) + 2 * (S.length + 1 + 1) ≤ 1890 := hs
    obtain ⟨j, hj, ej⟩ := mod_cases (Int.ofNat ((b :: S).map pw).length) 4 (by decide)
    have ej : Int.ofNat ((b :: S).map pw).length % 4 = Int.ofNat j := ej
    obtain ⟨t, gt, st, hp⟩ := ok_pair (d := d) j (by omega) (x := z_rest) (by decide +kernel) g.2.1 g.1 (by omega)
    rw [← ej] at hp
    obtain ⟨t', o', g', s', h'⟩ := bt_while (C := C) S t c0 k n u (some (.val (pw a))) ⟨gt, g.2.2⟩ (by show sz t + szL S + 2 * (S.length + 1) ≤ _; omega)
    have s' : sz t' ≤ sz t + szL S + 2 * (S.length + 1) := s'
    refine ⟨t', o', g', by show _ ≤ sz a + (sz b + szL S) + 2 * (S.length + 1 + 1); omega, ?_⟩
    have hgt : decide (Int.ofNat ((a :: b :: S).map pw).length > 1) = true := decide_eq_true (by show ((1 : Nat) : Int) < (((S.map pw).length + 1 + 1 : Nat) : Int); omega)
    exact whil_go (c := c__law_built_158 (d + 1)) (b := l__law_built_158 (d + 1)) (ρ' := bs C (t :: S) c0 k n u (some (.val (pw a)))) (tp := [.b true, .r (.val (pw t))]) true (by kernel_rfl) (P := CallOK G (d + 1) 149 [.int (Int.ofNat ((b :: S).map pw).length % 4), .str z_rest, pw b, pw a] (.val (pw t)) ∧ ((0 : Int) < 4) ∧ (decide (Int.ofNat ((a :: b :: S).map pw).length > 1) = true) ∧ True) (by kernel_rfl) ⟨hp, by decide, hgt, trivial⟩ h'
theorem ok_built (cs : List Int) (hc : cs.length ≤ 60) : ∃ t, gd t ∧ sz t ≤ 3 * cs.length + 1 ∧ CallOK G (d + 2) 156 [.lst (cs.map .int)] (.val (pw t)) := by
  obtain ⟨S, c1, k1, n1, u1, o1, g1, s1, h1⟩ := bt_loop (d := d) (C := .lst (cs.map .int)) cs [] none none none none none trivial (by show 0 + 2 * 0 + 3 * cs.length ≤ _; omega)
  have s1 : szL S + 2 * S.length ≤ 0 + 2 * 0 + 3 * cs.length := s1
  cases S with
  | nil =>
    have h2 : WB (d + 1) (bs (.lst (cs.map .int)) [] c1 k1 n1 u1 o1) (bs (.lst (cs.map .int)) [] c1 k1 n1 u1 o1) := whil_end (c := c__law_built_158 (d + 1)) (b := l__law_built_158 (d + 1)) (tp := []) false (by kernel_rfl) (P := True) (by kernel_rfl) trivial
    refine ⟨.num 0, (show numV (.int 0) = true by decide +kernel), by show 1 ≤ _; omega, ?_⟩
    have e : pw (.num 0) = .tup [.tup [.str z_num, .int 0], .str z_0] := by show V.tup [_, .str (decS 0)] = _; rw [show decS 0 = z_0 by decide +kernel]; rfl
    rw [e]
    exact call_go (n := 6) (tp := [.l .next (bs (.lst (cs.map .int)) [] c1 k1 n1 u1 o1), .l .next (bs (.lst (cs.map .int)) [] c1 k1 n1 u1 o1)]) (b__law_built (d + 1)) rfl (b__law_built_x (d + 1)) rfl (by kernel_rfl) (P := WB (d + 1) (bs (.lst (cs.map .int)) [] c1 k1 n1 u1 o1) (bs (.lst (cs.map .int)) [] c1 k1 n1 u1 o1) ∧ FB (d + 1) (cs.map .int) (bs (.lst (cs.map .int)) [] none none none none none) .next (bs (.lst (cs.map .int)) [] c1 k1 n1 u1 o1) ∧ True) (by kernel_rfl) ⟨h2, h1, trivial⟩
  | cons a S =>
    obtain ⟨t, o2, gt, st, h2⟩ := bt_while (d := d) (C := .lst (cs.map .int)) S a c1 k1 n1 u1 o1 g1 (by have := s1; show szL (a :: S) + 2 * (a :: S).length ≤ _; omega)
    have s1 : szL (a :: S) + 2 * (S.length + 1) ≤ 0 + 2 * 0 + 3 * cs.length := s1
    refine ⟨t, gt, by omega, ?_⟩
    exact call_go (n := 6) (tp := [.l .next (bs (.lst (cs.map .int)) (a :: S) c1 k1 n1 u1 o1), .l .next (bs (.lst (cs.map .int)) [t] c1 k1 n1 u1 o2)]) (b__law_built (d + 1)) rfl (b__law_built_x (d + 1)) rfl (by kernel_rfl) (P := WB (d + 1) (bs (.lst (cs.map .int)) (a :: S) c1 k1 n1 u1 o1) (bs (.lst (cs.map .int)) [t] c1 k1 n1 u1 o2) ∧ FB (d + 1) (cs.map .int) (bs (.lst (cs.map .int)) [] none none none none none) .next (bs (.lst (cs.map .int)) (a :: S) c1 k1 n1 u1 o1) ∧ True) (by kernel_rfl) ⟨h2, h1, trivial⟩
end Mine.L06
end

section
open PySem
set_option autoImplicit false
set_option maxRecDepth 100000
set_option linter.unusedVariables false
namespace Mine.L06
variable {d : Nat}
theorem rd_room {z : List Nat} (h : mz (wt 1 3 3) z ≤ 1000000) : z.length ≤ room ∧ (wo1 z).length ≤ room ∧ (wo2 z).length ≤ room := by
  have h1 : mz (wt 1 1 3) (wo1 z) ≤ mz (wt 1 3 3) z := mz_repl (wt_le (by decide) (by decide) (by decide)) (by decide +kernel) z
  have h2 : mz (wt 1 1 1) (wo2 z) ≤ mz (wt 1 1 3) (wo1 z) := mz_repl (wt_le (by decide) (by decide) (by decide)) (by decide +kernel) (wo1 z)
  exact ⟨Nat.le_trans (mz_len (wt_pos (by decide) (by decide) (by decide)) z) h, Nat.le_trans (mz_len (wt_pos (by decide) (by decide) (by decide)) _) (Nat.le_trans h1 h), Nat.le_trans (mz_len (wt_pos (by decide) (by decide) (by decide)) _) (Nat.le_trans h2 (Nat.le_trans h1 h))⟩
theorem ok_read' {z : List Nat} {t : Tree} (g : gd t) (e : tkr z [] = toks t) (hs : sz t ≤ 400) (h : mz (wt 1 3 3) z ≤ 1000000) : CallOK G (d + 5) 128 [.str z] (.val (tv t)) :=
  let ⟨h1, h2, h3⟩ := rd_room h
  ok_read g e hs h1 h2 h3
theorem ok_wide (c : Int) {z : List Nat} (hz : z.length ≤ 40000) : ∃ y, tkr y [] = tkr z [] ∧ mz (wt 1 3 3) y ≤ 1000000 ∧ CallOK G (d + 1) 163 [.str z, .int c] (.val (.str y)) := by
  have hr : 1000000 = room := rfl
  have lz : z.length ≤ room := by omega
  have mx : ∀ a b c, a ≤ 5 → b ≤ 5 → c ≤ 5 → mz (wt a b c) z ≤ 200000 := fun a b c h1 h2 h3 => by
    have := mz_max (f := wt a b c) (k := 5) (wt_max h1 h2 h3 (by decide)) z; omega
  obtain ⟨j, hj, ej⟩ := mod_cases c 3 (by decide)
  have ej : c % 3 = Int.ofNat j := ej
  have hj : j = 0 ∨ j = 1 ∨ j = 2 := by omega
  rcases hj with rfl | rfl | rfl
  · have m0 := mx 3 5 5 (by decide) (by decide) (by decide)
    have m1 : mz (wt 1 5 5) (replS z_u32u z_u32uu32uu32u z) ≤ mz (wt 3 5 5) z := mz_repl (wt_le (by decide) (by decide) (by decide)) (by decide +kernel) z
    have m2 : mz (wt 1 3 5) (replS z_u40u z_u32uu40uu32u (replS z_u32u z_u32uu32uu32u z)) ≤ mz (wt 1 5 5) (replS z_u32u z_u32uu32uu32u z) := mz_repl (wt_le (by decide) (by decide) (by decide)) (by decide +kernel) _
    have m3 : mz (wt 1 3 3) (replS z_u41u z_u32uu32uu41u (replS z_u40u z_u32uu40uu32u (replS z_u32u z_u32uu32uu32u z))) ≤ mz (wt 1 3 5) (replS z_u40u z_u32uu40uu32u (replS z_u32u z_u32uu32uu32u z)) := mz_repl (wt_le (by decide) (by decide) (by decide)) (by decide +kernel) _
    have m4 : mz (wt 1 3 3) (z_u32uu32u ++ replS z_u41u z_u32uu32uu41u (replS z_u40u z_u32uu40uu32u (replS z_u32u z_u32uu32uu32u z)) ++ z_u32u) ≤ 200003 := by
      rw [mz_app, mz_app, show mz (wt 1 3 3) z_u32uu32u = 2 by decide +kernel, show mz (wt 1 3 3) z_u32u = 1 by decide +kernel]; omega
    have l1 := mz_len (wt_pos (a := 1) (b := 5) (c := 5) (by decide) (by decide) (by decide)) (replS z_u32u z_u32uu32uu32u z)
    have l2 := mz_len (wt_pos (a := 1) (b := 3) (c := 5) (by decide) (by decide) (by decide)) (replS z_u40u z_u32uu40uu32u (replS z_u32u z_u32uu32uu32u z))
    have l4 := mz_len (wt_pos (a := 1) (b := 3) (c := 3) (by decide) (by decide) (by decide)) (z_u32uu32u ++ replS z_u41u z_u32uu32uu41u (replS z_u40u z_u32uu40uu32u (replS z_u32u z_u32uu32uu32u z)) ++ z_u32u)
    have r4 : (z_u32uu32u ++ replS z_u41u z_u32uu32uu41u (replS z_u40u z_u32uu40uu32u (replS z_u32u z_u32uu32uu32u z)) ++ z_u32u).length ≤ room := by omega
    exact ⟨_, wide0 z, Nat.le_trans m4 (by decide), call_go (n := 0) (tp := [.b true]) (b__law_wide d) rfl (b__law_wide_x d) rfl (by kernel_rfl)
      (P := (z_u32uu32u ++ replS z_u41u z_u32uu32uu41u (replS z_u40u z_u32uu40uu32u (replS z_u32u z_u32uu32uu32u z)) ++ z_u32u).length ≤ room ∧ (z_u32uu32u ++ replS z_u41u z_u32uu32uu41u (replS z_u40u z_u32uu40uu32u (replS z_u32u z_u32uu32uu32u z))).length ≤ room ∧ (replS z_u40u z_u32uu40uu32u (replS z_u32u z_u32uu32uu32u z)).length ≤ room ∧ (replS z_u32u z_u32uu32uu32u z).length ≤ room ∧ z.length ≤ room ∧ ((c % 3 == 0) = true) ∧ ((0 : Int) < 3) ∧ True) (by kernel_rfl)
      ⟨r4, pre_le r4, by omega, by omega, lz, by rw [ej]; rfl, by decide, trivial⟩⟩
  · have m0 := mx 1 3 3 (by decide) (by decide) (by decide)
    have m1 : mz (wt 1 3 3) (replS z_u32uu40u z_u40u z) ≤ mz (wt 1 3 3) z := mz_repl (wt_le (by decide) (by decide) (by decide)) (by decide +kernel) z
    have m2 : mz (wt 1 3 3) (replS z_u41uu32u z_u41u (replS z_u32uu40u z_u40u z)) ≤ mz (wt 1 3 3) (replS z_u32uu40u z_u40u z) := mz_repl (wt_le (by decide) (by decide) (by decide)) (by decide +kernel) _
    have l1 := mz_len (wt_pos (a := 1) (b := 3) (c := 3) (by decide) (by decide) (by decide)) (replS z_u32uu40u z_u40u z)
    exact ⟨_, wide1 z, by have := Nat.le_trans m2 (Nat.le_trans m1 m0); exact Nat.le_trans this (by decide), call_go (n := 0) (tp := [.b false, .b true]) (b__law_wide d) rfl (b__law_wide_x d) rfl (by kernel_rfl)
      (P := (replS z_u32uu40u z_u40u z).length ≤ room ∧ z.length ≤ room ∧ ((c % 3 == 1) = true) ∧ ((0 : Int) < 3) ∧ ((c % 3 == 0) = false) ∧ ((0 : Int) < 3) ∧ True) (by kernel_rfl)
      ⟨by omega, lz, by rw [ej]; rfl, by decide, by rw [ej]; rfl, by decide, trivial⟩⟩
  · have m0 := mx 2 3 3 (by decide) (by decide) (by decide)
    have m1 : mz (wt 2 3 3) (replS z_u41uu32uu40u z_u41uu40u z) ≤ mz (wt 2 3 3) z := mz_repl (wt_le (by decide) (by decide) (by decide)) (by decide +kernel) z
    have m2 : mz (wt 1 3 3) (replS z_u32u z_u32uu32u (replS z_u41uu32uu40u z_u41uu40u z)) ≤ mz (wt 2 3 3) (replS z_u41uu32uu40u z_u41uu40u z) := mz_repl (wt_le (by decide) (by decide) (by decide)) (by decide +kernel) _
    have l1 := mz_len (wt_pos (a := 2) (b := 3) (c := 3) (by decide) (by decide) (by decide)) (replS z_u41uu32uu40u z_u41uu40u z)
    exact ⟨_, wide2 z, by have := Nat.le_trans m2 (Nat.le_trans m1 m0); exact Nat.le_trans this (by decide), call_go (n := 0) (tp := [.b false, .b false]) (b__law_wide d) rfl (b__law_wide_x d) rfl (by kernel_rfl)
      (P := (replS z_u41uu32uu40u z_u41uu40u z).length ≤ room ∧ z.length ≤ room ∧ ((c % 3 == 1) = false) ∧ ((0 : Int) < 3) ∧ ((c % 3 == 0) = false) ∧ ((0 : Int) < 3) ∧ True) (by kernel_rfl)
      ⟨by omega, lz, by rw [ej]; rfl, by decide, by rw [ej]; rfl, by decide, trivial⟩⟩
noncomputable abbrev ls (s : V) (t : Tree) (k l g w : Option O) : Loc := [some (.val s), some (.val (pw t)), k, l, g, w]
theorem dp_txt {t : Tree} : (z_u40ufunu32udeepu32u ++ txt t) ++ z_u41u = txt (.fn z_deep t) := by
  show _ = (z_u40u ++ z_fun) ++ ((z_u32u ++ z_deep) ++ (z_u32u ++ (txt t ++ z_u41u))); rw [show z_u40ufunu32udeepu32u = z_u40u ++ z_fun ++ (z_u32u ++ z_deep) ++ z_u32u from rfl]; simp only [List.append_assoc]
abbrev FD186 (d : Nat) (l : List V) (ρ ρ' : Loc) : Prop := ForOK G d fi_law.on (.Name "_law_k" ⟨186,12,186,18⟩) (l_law_186 d).xs l ρ .next ρ'
theorem deep186 {s : V} {l g w : Option O} : ∀ (n : Nat) (a : Int) (t : Tree) (k : Option O), gd t → sz t + n ≤ 1900 → ∃ t' k', gd t' ∧ sz t' = sz t + n ∧ FD186 d (rangeL a n) (ls s t k l g w) (ls s t' k' l g w)
  | 0, a, t, k, gt, h => ⟨t, k, gt, rfl, for_nil⟩
  | n + 1, a, t, k, gt, h => by
    have gf : gd (.fn z_deep t) := ⟨by decide +kernel, gt⟩
    have sf : sz (.fn z_deep t) = sz t + 1 := rfl
    obtain ⟨t', k', g', s', h'⟩ := deep186 (s := s) (l := l) (g := g) (w := w) n (a + 1) (.fn z_deep t) (some (.val (.int a))) gf (by omega)
    refine ⟨t', k', g', by omega, ?_⟩
    have hr := txt_room gf (by omega)
    rw [← dp_txt] at hr
    have e : ls s (.fn z_deep t) (some (.val (.int a))) l g w = [some (.val s), some (.val (.tup [.tup [.str z_fun, .str z_deep, tv t], .str ((z_u40ufunu32udeepu32u ++ txt t) ++ z_u41u)])), some (.val (.int a)), l, g, w] := by rw [dp_txt]; rfl
    rw [e] at h'
    exact for_go (i := 2) (v := .int a) (l := rangeL (a + 1) n) (ρ := ls s t k l g w) (ρ' := [some (.val s), some (.val (.tup [.tup [.str z_fun, .str z_deep, tv t], .str ((z_u40ufunu32udeepu32u ++ txt t) ++ z_u41u)])), some (.val (.int a)), l, g, w]) (tp := []) (by kernel_rfl) (by kernel_rfl) (P := ((z_u40ufunu32udeepu32u ++ txt t) ++ z_u41u).length ≤ room ∧ (z_u40ufunu32udeepu32u ++ txt t).length ≤ room ∧ True) (by kernel_rfl) ⟨hr, pre_le hr, trivial⟩ h'
abbrev FD195 (d : Nat) (l : List V) (ρ ρ' : Loc) : Prop := ForOK G d fi_law.on (.Name "_law_k" ⟨195,12,195,18⟩) (l_law_195 d).xs l ρ .next ρ'
theorem deep195 {s : V} {l g w : Option O} : ∀ (n : Nat) (a : Int) (t : Tree) (k : Option O), gd t → sz t + n ≤ 1900 → ∃ t' k', gd t' ∧ sz t' = sz t + n ∧ FD195 d (rangeL a n) (ls s t k l g w) (ls s t' k' l g w)
  | 0, a, t, k, gt, h => ⟨t, k, gt, rfl, for_nil⟩
  | n + 1, a, t, k, gt, h => by
    have gf : gd (.fn z_deep t) := ⟨by decide +kernel, gt⟩
    have sf : sz (.fn z_deep t) = sz t + 1 := rfl
    obtain ⟨t', k', g', s', h'⟩ := deep195 (s := s) (l := l) (g := g) (w := w) n (a + 1) (.fn z_deep t) (some (.val (.int a))) gf (by omega)
    refine ⟨t', k', g', by omega, ?_⟩
    have hr := txt_room gf (by omega)
    rw [← dp_txt] at hr
    have e : ls s (.fn z_deep t) (some (.val (.int a))) l g w = [some (.val s), some (.val (.tup [.tup [.str z_fun, .str z_deep, tv t], .str ((z_u40ufunu32udeepu32u ++ txt t) ++ z_u41u)])), some (.val (.int a)), l, g, w] := by rw [dp_txt]; rfl
    rw [e] at h'
    exact for_go (i := 2) (v := .int a) (l := rangeL (a + 1) n) (ρ := ls s t k l g w) (ρ' := [some (.val s), some (.val (.tup [.tup [.str z_fun, .str z_deep, tv t], .str ((z_u40ufunu32udeepu32u ++ txt t) ++ z_u41u)])), some (.val (.int a)), l, g, w]) (tp := []) (by kernel_rfl) (by kernel_rfl) (P := ((z_u40ufunu32udeepu32u ++ txt t) ++ z_u41u).length ≤ room ∧ (z_u40ufunu32udeepu32u ++ txt t).length ≤ room ∧ True) (by kernel_rfl) ⟨hr, pre_le hr, trivial⟩ h'
noncomputable def gn (c1 : Int) : Int := c1 % 1000000000 * 10000000000000000000000000000000000000000000000000000000000000000 + 7
theorem gn_nat (c1 : Int) : ∃ m : Nat, gn c1 = (m : Int) ∧ 0 < m ∧ m < 10 ^ 80 := by
  have h1 := Int.emod_nonneg c1 (b := 1000000000) (by decide)
  have h2 := Int.emod_lt_of_pos c1 (b := 1000000000) (by decide)
  refine ⟨(gn c1).toNat, ?_, ?_, ?_⟩ <;> unfold gn <;> omega
theorem gn_a (c1 : Int) : CallOK G (d + 2) 95 [.tup [.str z_num, .int (gn c1)]] (.val (.str (decS (gn c1)))) := by
  obtain ⟨m, e, _, h⟩ := gn_nat c1
  exact ok_shown (t := .num (gn c1)) (show (gn c1).natAbs < 10 ^ 80 by rw [e]; exact h) (show 1 ≤ 2000 by decide)
theorem gn_b (c1 : Int) : CallOK G (d + 2) 95 [.tup [.str z_num, .int (0 - gn c1)]] (.val (.str (z_u45u ++ decS (gn c1)))) := by
  obtain ⟨m, e, h0, h⟩ := gn_nat c1
  have e2 : z_u45u ++ decS (gn c1) = decS (0 - gn c1) := by
    rw [e, decS_nat, show (0 - (m : Int)) = -(m : Int) by omega, decS_neg m h0]; rfl
  rw [e2]
  exact ok_shown (t := .num (0 - gn c1)) (show (0 - gn c1).natAbs < 10 ^ 80 by rw [e]; omega) (show 1 ≤ 2000 by decide)
theorem gn_80 (c1 : Int) : (gn c1).natAbs < 10 ^ 80 := by obtain ⟨m, e, _, h⟩ := gn_nat c1; rw [e]; exact h
theorem gn_l (c1 : Int) : (z_u45u ++ decS (gn c1)).length ≤ room := by
  have := (dec_reads (gn_80 c1)).2
  rw [List.length_append]; show 1 + _ ≤ 1000000; omega
abbrev CA (d : Nat) (ns : List Int) (k : Int) (c : Int) : Prop := CallOK G d 135 [.lst (ns.map .int), .int k] (.val (.int c))
def grt (d : Nat) (ns : List Int) (c1 : Int) (Q : Prop) : Prop := (V.str (z_u45u ++ decS (gn c1)) = V.str (z_u45u ++ decS (gn c1)) ∧ 0 ≤ 1900) ∧ (z_u45u ++ decS (gn c1)).length ≤ room ∧ (gn c1).natAbs < 10 ^ 80 ∧ CallOK G d 95 [.tup [.str z_num, .int (0 - gn c1)]] (.val (.str (z_u45u ++ decS (gn c1)))) ∧ (V.str (decS (gn c1)) = V.str (decS (gn c1)) ∧ 0 ≤ 1900) ∧ (gn c1).natAbs < 10 ^ 80 ∧ CallOK G d 95 [.tup [.str z_num, .int (gn c1)]] (.val (.str (decS (gn c1)))) ∧
  ((c1 % 1000000000).natAbs < 2 ^ 62 ∨ (10000000000000000000000000000000000000000000000000000000000000000 : Int).natAbs < 2 ^ 62) ∧ ((10 : Int) = 10 ∧ (0 : Int) < 64 ∧ (64 : Int) ≤ 100) ∧ ((0 : Int) < 1000000000) ∧ ((10 : Int) = 10 ∧ (0 : Int) < 9 ∧ (9 : Int) ≤ 100) ∧ CA d ns 1 c1 ∧ Q
theorem grt_ok {ns : List Int} {c1 : Int} {Q : Prop} (h : CA (d + 2) ns 1 c1) (q : Q) : grt (d + 2) ns c1 Q :=
  ⟨⟨rfl, by decide⟩, gn_l c1, gn_80 c1, gn_b c1, ⟨rfl, by decide⟩, gn_80 c1, gn_a c1, .inl (by have h1 := Int.emod_nonneg c1 (b := 1000000000) (by decide); have h2 := Int.emod_lt_of_pos c1 (b := 1000000000) (by decide); omega), by decide, by decide, by decide, h, q⟩
theorem cut_is (ns : List Int) (m : Nat) (hm : m ≤ 62) : (cut (ns.map V.int) (some 2) (some m)).reverse.reverse = ((ns.take m).drop 2).map V.int ∧ ((ns.take m).drop 2).length ≤ m - 2 := by
  refine ⟨?_, by rw [List.length_drop, List.length_take]; omega⟩
  rw [List.reverse_reverse]; unfold cut
  show ((ns.map V.int).take m).drop 2 = _
  rw [← List.map_take, ← List.map_drop]
abbrev CB (d : Nat) (ns : List Int) (m : Nat) (t : Tree) : Prop := CallOK G d 156 [.lst (cut (ns.map V.int) (some 2) (some m)).reverse.reverse] (.val (pw t))
theorem cb_ok (ns : List Int) (m : Nat) (hm : m ≤ 62) : ∃ t, gd t ∧ sz t ≤ 3 * (m - 2) + 1 ∧ CB (d + 2) ns m t := by
  obtain ⟨e, hl⟩ := cut_is ns m hm
  obtain ⟨t, gt, st, h⟩ := ok_built (d := d) ((ns.take m).drop 2) (by omega)
  exact ⟨t, gt, by omega, by unfold CB; rw [e]; exact h⟩
theorem lw_ff {ns : List Int} {c0 c1 : Int} {y : List Nat} {t : Tree} (hsm : CallOK G 5 170 [tv t, tv t] (.val (.bool true))) (hry : CallOK G 5 128 [.str y] (.val (tv t))) (hrt : CallOK G 5 128 [.str (txt t)] (.val (tv t))) (hw : CallOK G 5 163 [.str (txt t), .int c0] (.val (.str y))) (h0 : CA 5 ns 0 c0) (hsh : CallOK G 5 95 [tv t] (.val (.str (txt t)))) (h1 : CA 5 ns 1 c1) (hB : (c1 % 16 == 3) = false) (hA : (c1 % 8 == 0) = false) (hb : CB 5 ns 62 t) : CallOK G 6 177 [.lst (ns.map .int)] (.val (.bool true)) :=
  call_go (n := 5) (tp := [.r (.val (pw t)), .r (.val (.int c1)), .b false, .r (.val (.str (txt t))), .r (.val (.int c1)), .r (.val (.str (decS (gn c1)))), .r (.val (.str (z_u45u ++ decS (gn c1)))), .r (.val (.int c1)), .b false, .r (.val (.int c0)), .r (.val (.str y)), .r (.val (tv t)), .r (.val (.bool true)), .r (.val (tv t)), .r (.val (.bool true))]) (b_law 5) rfl (b_law_x 5) rfl (by kernel_rfl)
    (P := CallOK G 5 170 [tv t, tv t] (.val (.bool true)) ∧ CallOK G 5 128 [.str y] (.val (tv t)) ∧ CallOK G 5 170 [tv t, tv t] (.val (.bool true)) ∧ CallOK G 5 128 [.str (txt t)] (.val (tv t)) ∧ CallOK G 5 163 [.str (txt t), .int c0] (.val (.str y)) ∧ CA 5 ns 0 c0 ∧ ((c1 % 16 == 3) = false) ∧ ((0 : Int) < 16) ∧ CA 5 ns 1 c1 ∧ grt 5 ns c1 ((V.str (txt t) = V.str (txt t) ∧ 0 ≤ 1900) ∧ CallOK G 5 95 [tv t] (.val (.str (txt t))) ∧ ((c1 % 8 == 0) = false) ∧ ((0 : Int) < 8) ∧ CA 5 ns 1 c1 ∧ CB 5 ns 62 t ∧ ((0 : Int) ≤ 2 ∧ (2 : Int) ≤ 1000000) ∧ ((0 : Int) ≤ 62 ∧ (62 : Int) ≤ 1000000) ∧ True)) (by kernel_rfl)
    ⟨hsm, hry, hsm, hrt, hw, h0, hB, by decide, h1, grt_ok (d := 3) h1 ⟨⟨rfl, by decide⟩, hsh, hA, by decide, h1, hb, by decide, by decide, trivial⟩⟩
theorem lw_ft {ns : List Int} {c1 : Int} {t t2 : Tree} {k2 : Option O} (hs2 : CallOK G 5 95 [tv t2] (.val (.str (txt t2)))) (hf2 : FD195 5 (rangeL 0 450) (ls (.lst (ns.map .int)) t none (some (.val (.str (txt t)))) (some (.val (.int (gn c1)))) none) (ls (.lst (ns.map .int)) t2 k2 (some (.val (.str (txt t)))) (some (.val (.int (gn c1)))) none)) (hsh : CallOK G 5 95 [tv t] (.val (.str (txt t)))) (h1 : CA 5 ns 1 c1) (hB : (c1 % 16 == 3) = true) (hA : (c1 % 8 == 0) = false) (hb : CB 5 ns 62 t) : CallOK G 6 177 [.lst (ns.map .int)] (.val (.bool true)) :=
  call_go (n := 5) (tp := [.r (.val (pw t)), .r (.val (.int c1)), .b false, .r (.val (.str (txt t))), .r (.val (.int c1)), .r (.val (.str (decS (gn c1)))), .r (.val (.str (z_u45u ++ decS (gn c1)))), .r (.val (.int c1)), .b true, .l .next (ls (.lst (ns.map .int)) t2 k2 (some (.val (.str (txt t)))) (some (.val (.int (gn c1)))) none), .r (.val (.str (txt t2)))]) (b_law 5) rfl (b_law_x 5) rfl (by kernel_rfl)
    (P := (V.str (txt t2) = V.str (txt t2) ∧ 0 ≤ 1900) ∧ CallOK G 5 95 [tv t2] (.val (.str (txt t2))) ∧ FD195 5 (rangeL 0 450) (ls (.lst (ns.map .int)) t none (some (.val (.str (txt t)))) (some (.val (.int (gn c1)))) none) (ls (.lst (ns.map .int)) t2 k2 (some (.val (.str (txt t)))) (some (.val (.int (gn c1)))) none) ∧ (450 : Int).natAbs ≤ 1000000 ∧ ((c1 % 16 == 3) = true) ∧ ((0 : Int) < 16) ∧ CA 5 ns 1 c1 ∧ grt 5 ns c1 ((V.str (txt t) = V.str (txt t) ∧ 0 ≤ 1900) ∧ CallOK G 5 95 [tv t] (.val (.str (txt t))) ∧ ((c1 % 8 == 0) = false) ∧ ((0 : Int) < 8) ∧ CA 5 ns 1 c1 ∧ CB 5 ns 62 t ∧ ((0 : Int) ≤ 2 ∧ (2 : Int) ≤ 1000000) ∧ ((0 : Int) ≤ 62 ∧ (62 : Int) ≤ 1000000) ∧ True)) (by kernel_rfl)
    ⟨⟨rfl, by decide⟩, hs2, hf2, by decide, hB, by decide, h1, grt_ok (d := 3) h1 ⟨⟨rfl, by decide⟩, hsh, hA, by decide, h1, hb, by decide, by decide, trivial⟩⟩
theorem lw_tf {ns : List Int} {c0 c1 : Int} {y : List Nat} {t t0 t' : Tree} {k1 : Option O} (hsm : CallOK G 5 170 [tv t', tv t'] (.val (.bool true))) (hry : CallOK G 5 128 [.str y] (.val (tv t'))) (hrt : CallOK G 5 128 [.str (txt t')] (.val (tv t'))) (hw : CallOK G 5 163 [.str (txt t'), .int c0] (.val (.str y))) (h0 : CA 5 ns 0 c0) (hsh : CallOK G 5 95 [tv t'] (.val (.str (txt t')))) (h1 : CA 5 ns 1 c1) (hB : (c1 % 16 == 3) = false) (hA : (c1 % 8 == 0) = true) (hf1 : FD186 5 (rangeL 0 250) (ls (.lst (ns.map .int)) t none none none none) (ls (.lst (ns.map .int)) t' k1 none none none)) (hb2 : CB 5 ns 22 t) (hb : CB 5 ns 62 t0) : CallOK G 6 177 [.lst (ns.map .int)] (.val (.bool true)) :=
  call_go (n := 5) (tp := [.r (.val (pw t0)), .r (.val (.int c1)), .b true, .r (.val (pw t)), .l .next (ls (.lst (ns.map .int)) t' k1 none none none), .r (.val (.str (txt t'))), .r (.val (.int c1)), .r (.val (.str (decS (gn c1)))), .r (.val (.str (z_u45u ++ decS (gn c1)))), .r (.val (.int c1)), .b false, .r (.val (.int c0)), .r (.val (.str y)), .r (.val (tv t')), .r (.val (.bool true)), .r (.val (tv t')), .r (.val (.bool true))]) (b_law 5) rfl (b_law_x 5) rfl (by kernel_rfl)
    (P := CallOK G 5 170 [tv t', tv t'] (.val (.bool true)) ∧ CallOK G 5 128 [.str y] (.val (tv t')) ∧ CallOK G 5 170 [tv t', tv t'] (.val (.bool true)) ∧ CallOK G 5 128 [.str (txt t')] (.val (tv t')) ∧ CallOK G 5 163 [.str (txt t'), .int c0] (.val (.str y)) ∧ CA 5 ns 0 c0 ∧ ((c1 % 16 == 3) = false) ∧ ((0 : Int) < 16) ∧ CA 5 ns 1 c1 ∧ grt 5 ns c1 ((V.str (txt t') = V.str (txt t') ∧ 0 ≤ 1900) ∧ CallOK G 5 95 [tv t'] (.val (.str (txt t'))) ∧ FD186 5 (rangeL 0 250) (ls (.lst (ns.map .int)) t none none none none) (ls (.lst (ns.map .int)) t' k1 none none none) ∧ (250 : Int).natAbs ≤ 1000000 ∧ CB 5 ns 22 t ∧ ((0 : Int) ≤ 2 ∧ (2 : Int) ≤ 1000000) ∧ ((0 : Int) ≤ 22 ∧ (22 : Int) ≤ 1000000) ∧ ((c1 % 8 == 0) = true) ∧ ((0 : Int) < 8) ∧ CA 5 ns 1 c1 ∧ CB 5 ns 62 t0 ∧ ((0 : Int) ≤ 2 ∧ (2 : Int) ≤ 1000000) ∧ ((0 : Int) ≤ 62 ∧ (62 : Int) ≤ 1000000) ∧ True)) (by kernel_rfl)
    ⟨hsm, hry, hsm, hrt, hw, h0, hB, by decide, h1, grt_ok (d := 3) h1 ⟨⟨rfl, by decide⟩, hsh, hf1, by decide, hb2, by decide, by decide, hA, by decide, h1, hb, by decide, by decide, trivial⟩⟩
theorem law_ok (ns : List Int) (hlen : ns.length ≤ 63) : CallOK G 6 177 [.lst (ns.map .int)] (.val (.bool true)) := by
  obtain ⟨c0, h0⟩ := ok_cell (d := 4) ns 0
  obtain ⟨c1, h1⟩ := ok_cell (d := 4) ns 1
  obtain ⟨t, gt, st, hb⟩ := cb_ok (d := 3) ns 62 (Nat.le_refl _)
  have tail : ∀ t : Tree, gd t → sz t ≤ 400 → CallOK G 5 95 [tv t] (.val (.str (txt t))) ∧ CallOK G 5 170 [tv t, tv t] (.val (.bool true)) ∧ CallOK G 5 128 [.str (txt t)] (.val (tv t)) ∧ ∃ y, CallOK G 5 163 [.str (txt t), .int c0] (.val (.str y)) ∧ CallOK G 5 128 [.str y] (.val (tv t)) := fun t gt st => by
    have hl := txt_len t (gd_ft t gt)
    have hm := mz_max (f := wt 1 3 3) (k := 3) (wt_max (by decide) (by decide) (by decide) (by decide)) (txt t)
    obtain ⟨y, e, my, hw⟩ := ok_wide (d := 4) c0 (z := txt t) (by omega)
    exact ⟨ok_shown (d := 3) (gd_ft t gt) (by omega), ok_same (d := 4) st, ok_read' (d := 0) gt (tok_txt t gt) st (by omega), y, hw, ok_read' (d := 0) gt (e.trans (tok_txt t gt)) st my⟩
  cases hA : (c1 % 8 == 0) with
  | false =>
    obtain ⟨hsh, hsm, hrt, y, hw, hry⟩ := tail t gt (by omega)
    cases hB : (c1 % 16 == 3) with
    | false => exact lw_ff hsm hry hrt hw h0 hsh h1 hB hA hb
    | true =>
      obtain ⟨t2, k2, g2, s2, hf2⟩ := deep195 (d := 5) (s := .lst (ns.map .int)) (l := some (.val (.str (txt t)))) (g := some (.val (.int (gn c1)))) (w := none) 450 0 t none gt (by omega)
      exact lw_ft (ok_shown (d := 3) (gd_ft t2 g2) (by omega)) hf2 hsh h1 hB hA hb
  | true =>
    obtain ⟨t1, gt1, st1, hb2⟩ := cb_ok (d := 3) ns 22 (by decide)
    obtain ⟨t2, k2, g2, s2, hf1⟩ := deep186 (d := 5) (s := .lst (ns.map .int)) (l := none) (g := none) (w := none) 250 0 t1 none gt1 (by omega)
    obtain ⟨hsh, hsm, hrt, y, hw, hry⟩ := tail t2 g2 (by omega)
    have hB : (c1 % 16 == 3) = false := beq_eq_false_iff_ne.mpr fun q => by have := eq_of_beq hA; omega
    exact lw_tf hsm hry hrt hw h0 hsh h1 hB hA hf1 hb2 hb
end Mine.L06
end

section
open PySem PySem.W PyProof.Rows
set_option autoImplicit false
set_option maxRecDepth 100000
namespace Mine.L06
theorem fd_all {K : Frag} (h : (FnAt K 60 fd_is_name) ∧ (FnAt K 67 fd_is_whole) ∧ (FnAt K 74 fd_is_node) ∧ (FnAt K 81 fd_parts) ∧ (FnAt K 88 fd_need_tree) ∧ (FnAt K 95 fd_shown) ∧ (FnAt K 102 fd_words_of) ∧ (FnAt K 109 fd_atom) ∧ (FnAt K 116 fd_tree_of) ∧ (FnAt K 121 fd_node_of) ∧ (FnAt K 128 fd_read) ∧ (FnAt K 135 fd__law_cell_at) ∧ (FnAt K 142 fd__law_name_by) ∧ (FnAt K 149 fd__law_pair) ∧ (FnAt K 156 fd__law_built) ∧ (FnAt K 163 fd__law_wide) ∧ (FnAt K 170 fd__law_same) ∧ (FnAt K 177 fd_law)) (a : Addr) (f : FD) (q : (a, f) ∈ G.fd) : FnAt K a f := by
  have q : (a, f) ∈ [(60, fd_is_name), (67, fd_is_whole), (74, fd_is_node), (81, fd_parts), (88, fd_need_tree), (95, fd_shown), (102, fd_words_of), (109, fd_atom), (116, fd_tree_of), (121, fd_node_of), (128, fd_read), (135, fd__law_cell_at), (142, fd__law_name_by), (149, fd__law_pair), (156, fd__law_built), (163, fd__law_wide), (170, fd__law_same), (177, fd_law)] := q
  simp only [List.mem_cons, Prod.mk.injEq, List.not_mem_nil, or_false] at q
  obtain ⟨h0, h1, h2, h3, h4, h5, h6, h7, h8, h9, h10, h11, h12, h13, h14, h15, h16, h17⟩ := h
  rcases q with ⟨rfl, rfl⟩ | ⟨rfl, rfl⟩ | ⟨rfl, rfl⟩ | ⟨rfl, rfl⟩ | ⟨rfl, rfl⟩ | ⟨rfl, rfl⟩ | ⟨rfl, rfl⟩ | ⟨rfl, rfl⟩ | ⟨rfl, rfl⟩ | ⟨rfl, rfl⟩ | ⟨rfl, rfl⟩ | ⟨rfl, rfl⟩ | ⟨rfl, rfl⟩ | ⟨rfl, rfl⟩ | ⟨rfl, rfl⟩ | ⟨rfl, rfl⟩ | ⟨rfl, rfl⟩ | ⟨rfl, rfl⟩
  · exact h0
  · exact h1
  · exact h2
  · exact h3
  · exact h4
  · exact h5
  · exact h6
  · exact h7
  · exact h8
  · exact h9
  · exact h10
  · exact h11
  · exact h12
  · exact h13
  · exact h14
  · exact h15
  · exact h16
  · exact h17
theorem mo_of {K : Params → Frag} (P : Params) (C : Cx) (hK : C.K = K P) (hP : C.w.params = P) (X : C.K.In C.h) (hm : ∀ x, C.mg x = nsFind (topOf (K P)) x)
    (c_n1 : nsFind (topOf (K P)) "WORDS" = some (.ref 52)) (c_words : tupAt (K P) 52 words = true) (c_letters : strAt (K P) "LETTERS" letters = true) (c_figs : strAt (K P) "FIGURES" figs = true) (c_n2 : nsFind (topOf (K P)) "LENGTHS" = some (.ref 53))
    (c_lens : dicAt (K P) 53 lens = true) (c_hash : hashesAt (K P) 53 = lens.map (fun kv => PyData.keyHash P ⟨kv.1.toArray⟩)) (c_most : intAt (K P) "MOST_NODES" 400 = true) (c_great : intAt (K P) "GREAT" great = true) : G.mo C := by
  rw [hK] at X
  subst hP
  exact More.mk (gval_tup X hm c_n1 c_words) (gval_str hm c_letters z_abcdefghijklmnopqrstuvwxyz_k) (gval_str hm c_figs (by kernel_rfl)) (gdic_ok X hm c_n2 c_lens c_hash (by decide +kernel)) (gval_int hm c_most) (gval_int hm c_great)
end Mine.L06
namespace Mine
open Mine.L06
def fin.tw2415902012162501839 : Unit := ()
def fin.tw17717364068325071970 : Unit := ()
def fin.tw4312942655851389009 : Unit := ()
def fin.tw11199116303434207883 : Unit := ()
def fin.tw13337293482115323266 : Unit := ()
def fin.tw16175276709679454751 : Unit := ()
def fin.tw7976502392129159676 : Unit := ()
def fin.tw13131269920281278465 : Unit := ()
def fin.tw16906536467411238026 : Unit := ()
def fin.tw16839496088972852078 : Unit := ()
def fin.tw6671992857765853949 : Unit := ()
def fin.tw3199103547748192838 : Unit := ()
def fin.tw1625080806587739848 : Unit := ()
def fin.tw544173102793226557 : Unit := ()
def fin.tw4928979718650693569 : Unit := ()
def fin.tw17416127249078093707 : Unit := ()
def fin.tw13199158710529813207 : Unit := ()
def fin.tw9001875181463519149 : Unit := ()
def fin.tw4588413851689716618 : Unit := ()
def fin.tw10852849658779182186 : Unit := ()
def fin.tw18295790063311454060 : Unit := ()
def fin.tw2462912638960843985 : Unit := ()
def fin.tw4878226113927451544 : Unit := ()
def fin.tw7995362448368537469 : Unit := ()
def fin.tw3105451386036433885 : Unit := ()
def fin.tw662289804386252013 : Unit := ()
def fin.tw10936777179133785780 : Unit := ()
def fin.tw3598329298470268980 : Unit := ()
def fin.tw4171678462856256454 : Unit := ()
def fin.tw7547296005191728479 : Unit := ()
def fin.tw1921391257341544841 : Unit := ()
def fin.tw15583698165555649274 : Unit := ()
def fin.tw2264883102434479264 : Unit := ()
def fin.tw15564276425815640635 : Unit := ()
def fin.tw9218923581257491847 : Unit := ()
def fin.tw12711679700452659978 : Unit := ()
def fin.tw8416529770105884409 : Unit := ()
def fin.tw8643116662766533202 : Unit := ()
def fin.tw4218790737952374519 : Unit := ()
def fin.tw4924110625330727750 : Unit := ()
def fin.tw17570709534508481193 : Unit := ()
def fin.tw8119881530291889089 : Unit := ()
def fin.tw2656788454239962097 : Unit := ()
def fin.tw15533503492667675913 : Unit := ()
def fin.tw8272817396058243321 : Unit := ()
def fin.tw12751662967071866640 : Unit := ()
def fin.tw5486226609284752418 : Unit := ()
def fin.tw15675102808854859970 : Unit := ()
def fin.tw2305881189932309285 : Unit := ()
def fin.tw12284014389350100970 : Unit := ()
def fin.tw3404873503106905745 : Unit := ()
def fin.tw9913140749668108558 : Unit := ()
def fin.tw6707113841082798463 : Unit := ()
def fin.tw17861066769153400444 : Unit := ()
def fin.tw8025084765662995669 : Unit := ()
def fin.tw4768634762848416435 : Unit := ()
def fin.tw17656766251404061198 : Unit := ()
def fin.tw17067295170570645592 : Unit := ()
def fin.tw12740692763255036000 : Unit := ()
def fin.tw7000300075881102575 : Unit := ()
def fin.tw16502652511500755 : Unit := ()
def fin.tw4722470732077146444 : Unit := ()
def fin.tw16115155874713506467 : Unit := ()
def fin.tw5098551885099359569 : Unit := ()
def fin.tw12180539936304867106 : Unit := ()
def fin.tw2824846461999071874 : Unit := ()
def fin.tw3314143786362844604 : Unit := ()
def fin.tw17821466097196317003 : Unit := ()
def fin.tw8408514402456403777 : Unit := ()
def fin.tw8352470293576582857 : Unit := ()
def fin.tw3683778510129048087 : Unit := ()
def fin.tw10567028658651823492 : Unit := ()
def fin.tw13177410634674063896 : Unit := ()
def fin.tw16540275574145912595 : Unit := ()
def fin.tw10807920368746810246 : Unit := ()
def fin.tw6381419901266130222 : Unit := ()
def fin.tw12567809125941998234 : Unit := ()
def fin.tw14210890002308233579 : Unit := ()
def fin.tw6081921254191324426 : Unit := ()
def fin.tw744865244796547220 : Unit := ()
def fin.tw12629903358213643309 : Unit := ()
def fin.tw7055459427971326715 : Unit := ()
def fin.tw16958243865122950064 : Unit := ()
def fin.tw10329872625359487480 : Unit := ()
def fin.tw4759752924163587094 : Unit := ()
def fin.tw17204297501091165112 : Unit := ()
def fin.tw799341379326975648 : Unit := ()
def fin.tw17743408960866722510 : Unit := ()
def fin.tw15344004072050561172 : Unit := ()
def fin.tw8656503046869711584 : Unit := ()
def fin.tw12212933522069011988 : Unit := ()
def fin.tw13516622038369049944 : Unit := ()
def fin.tw13870153662132920491 : Unit := ()
def fin.tw12237877928780879103 : Unit := ()
def fin.tw807531904560671035 : Unit := ()
def fin.tw12464766053444552404 : Unit := ()
def fin.tw12649782002744950493 : Unit := ()
def fin.tw17449020081951674710 : Unit := ()
def fin.tw15205425988870721313 : Unit := ()
def fin.tw4950403968356008110 : Unit := ()
def fin.tw891787732878383699 : Unit := ()
def fin.tw9357874355931990178 : Unit := ()
def fin.tw4879674094562380441 : Unit := ()
def fin.tw999798209818781672 : Unit := ()
def fin.tw6127190174262240918 : Unit := ()
def fin.tw3975253019698251321 : Unit := ()
def fin.tw13383306551100868464 : Unit := ()
def fin.tw5734618986648460908 : Unit := ()
def fin.tw13162651487661262736 : Unit := ()
def fin.tw13294311002278339166 : Unit := ()
def fin.tw7850562315557810565 : Unit := ()
def fin.tw16196181902256332553 : Unit := ()
def fin.tw3459265974087741279 : Unit := ()
def fin.tw9113340658982188547 : Unit := ()
def fin.tw16275787546110486726 : Unit := ()
def fin.tw13790858721211988464 : Unit := ()
def fin.tw1982079694162106894 : Unit := ()
def fin.tw7072226402447830129 : Unit := ()
def fin.tw12696600883282566439 : Unit := ()
def fin.tw8590288500278120515 : Unit := ()
def fin.tw11336253725339858928 : Unit := ()
def fin.tw13929302177132474383 : Unit := ()
def fin.tw16656299143469825513 : Unit := ()
def fin.tw757079261281740938 : Unit := ()
def fin.tw14431720936831517352 : Unit := ()
def fin.tw16496857829328116044 : Unit := ()
def fin.tw3263211703599914710 : Unit := ()
def fin.tw6650461044873433052 : Unit := ()
def fin.tw17801579834951734752 : Unit := ()
def fin.tw15989303212955285315 : Unit := ()
def fin.tw11615019562542576733 : Unit := ()
def fin.tw895571856199123645 : Unit := ()
def fin.tw251868834278440796 : Unit := ()
def fin.tw6956187926921108005 : Unit := ()
def fin.tw1963134401048803436 : Unit := ()
def fin.tw8383268338085895543 : Unit := ()
def fin.tw5901363791540438844 : Unit := ()
def fin.tw8577089030196625639 : Unit := ()
def fin.tw12118000046449163591 : Unit := ()
def fin.tw6068950659093879613 : Unit := ()
def fin.tw10895054467252067526 : Unit := ()
def fin.tw18105285910621931680 : Unit := ()
def fin.tw7284238750084343041 : Unit := ()
def fin.tw12448240930570709186 : Unit := ()
def fin.tw670465573061467203 : Unit := ()
def fin.tw4868334931027891882 : Unit := ()
def fin.tw3810338749695602999 : Unit := ()
def fin.tw11466478281803324712 : Unit := ()
def fin.tw15815952407149668801 : Unit := ()
def fin.tw13724452099449386491 : Unit := ()
def fin.tw16401934584784274106 : Unit := ()
def fin.tw8269367382603917829 : Unit := ()
def fin.tw14497727239971306367 : Unit := ()
def fin.tw7675655780812522254 : Unit := ()
def fin.tw480829909506669009 : Unit := ()
def fin.tw1666694428299288667 : Unit := ()
def fin.tw12996517811204074000 : Unit := ()
def fin.tw10874316729293906858 : Unit := ()
def fin.tw14517287926952318261 : Unit := ()
def fin.tw11414674201277728305 : Unit := ()
def fin.tw1014637456484912126 : Unit := ()
def fin.tw10748390131119596614 : Unit := ()
def fin.tw2866121171748074186 : Unit := ()
def fin.tw14142754788403991900 : Unit := ()
def fin.tw5897612983314593646 : Unit := ()
def fin.tw4788878847521262168 : Unit := ()
def fin.tw10875463905939285979 : Unit := ()
def fin.tw10242451874928486539 : Unit := ()
def fin.tw1887099378405440850 : Unit := ()
def fin.tw17197158672614542318 : Unit := ()
set_option maxHeartbeats 8000000 in
set_option Elab.async true in
theorem fin : PySem.Challenge.rw_uf010023_06.Holds := by
  w_on; o_law; k_head
  case hw => w_witness2
  refine join G 177 6 rfl rfl (by kernel_rfl) (by decide) (hpos := by kernel_rfl) (fun P => ⟨?top, ?fn, ?bn, ?isi, fd_all ⟨⟨?a0, ?b0⟩, ⟨?a1, ?b1⟩, ⟨?a2, ?b2⟩, ⟨?a3, ?b3⟩, ⟨?a4, ?b4⟩, ⟨?a5, ?b5⟩, ⟨?a6, ?b6⟩, ⟨?a7, ?b7⟩, ⟨?a8, ?b8⟩, ⟨?a9, ?b9⟩, ⟨?a10, ?b10⟩, ⟨?a11, ?b11⟩, ⟨?a12, ?b12⟩, ⟨?a13, ?b13⟩, ⟨?a14, ?b14⟩, ⟨?a15, ?b15⟩, ⟨?a16, ?b16⟩, ⟨?a17, ?b17⟩⟩⟩) (fun P C hK hP X hm => mo_of P C hK hP X hm ?n1 ?words ?letters ?figs ?n2 ?lens ?hash ?most ?great) law_ok
  all_goals kernel_rfl
theorem L06.fin : PySem.Challenge.rw_uf010023_06.Holds := Mine.fin
end Mine
end
theorem PySem.Challenge.cw_uf010023_06_holds : PySem.Challenge.rw_uf010023_06.Holds :=
  Mine.L06.fin
